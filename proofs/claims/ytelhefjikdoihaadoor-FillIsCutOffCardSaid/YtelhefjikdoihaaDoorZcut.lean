/- YtelhefjikdoihaaDoorRel · YtelhefjikdoihaaDoorGh · YtelhefjikdoihaaDoorGj · YtelhefjikdoihaaDoorGm · YtelhefjikdoihaaDoorGo · YtelhefjikdoihaaDoorGp · YtelhefjikdoihaaDoorChg · YtelhefjikdoihaaDoorGq · YtelhefjikdoihaaDoorGs · YtelhefjikdoihaaDoorGu · YtelhefjikdoihaaDoorGt · YtelhefjikdoihaaDoorGtP -/
import Derived.Test.YtelhefjikdoihaaDoorTie
import Derived.Test.YtelhefjikdoihaaDoorCards
import Derived.LaidLaws
import Derived.SevenTiedAt
import Derived.Test.YtelhefjikdoihaaDoorZa5
/- A region that draws its order: what each operation yields is known by a property that stays true while memory grows. Calls that make memory are let in. -/
namespace Go.Proofs.YtelhefjikdoihaaDoor
open Go Go.RowKit

section
variable {P : Program}
/-- The law by a table, guards let in. -/
theorem wp_region_tabg {G : Type} {Q : Exit → Act → World → Prop} {id : Nat} {a : Act} {w : World} {l : List Oper} (V : G → Nat → Value) (R : World → Array Bool → G → World → Prop) (g0 : G) (hm : P.follows .mixedOrders = true) (hs : Slots l.toArray) (hb : Back l.toArray)
    (h0 : R w (Array.replicate l.length false) g0 w.drew)
    (hstep : ∀ listed g w1 i o, l[i]? = some o → listed.getD i true = false → (∀ e, e ∈ o.after → Region.binds .any e = true → listed.getD e.on false = true) → R w listed g w1 →
      ∀ K : Act → World → Prop, (∀ g' w', R w (listed.setIfInBounds i true) g' w' → (∀ j, j < l.length → listed.getD j true = true → V g' j = V g j) → K ((fill l.toArray (V g) listed a).put o.dst (V g' i)) w') →
        if Region.wanted o (yielded l.toArray (fill l.toArray (V g) listed a).tmps) = true then o.wp P (fill l.toArray (V g) listed a) w1 K Q else K ((fill l.toArray (V g) listed a).put o.dst undef) w1)
    (hend : ∀ listed g w1, (∀ i, i < l.length → listed.getD i true = true) → R w listed g w1 → Q .normal (fill l.toArray (V g) listed a) w1) : (Code.region id l.toArray true).wp P Q a w := by
  refine wp_region_inv (fun listed b w1 => ∃ g, b = fill l.toArray (V g) listed a ∧ R w listed g w1) hm ⟨g0, ?_, h0⟩ ?_ ?_
  · have : ∀ n, fillN l.toArray (V g0) (Array.replicate l.length false) a n = a ∨ l.length < n := by
      intro n
      induction n with
      | zero => exact .inl rfl
      | succ n ih =>
        by_cases hn : l.length < n + 1
        · exact .inr hn
        · rcases ih with ih | ih
          · refine .inl ?_
            unfold fillN
            rw [if_neg (by simp [Array.getD]; omega), ih]
          · omega
    rcases this l.toArray.size with h | h
    · exact h.symm
    · simp at h
  · rintro listed b w1 i ⟨g, rfl, hR⟩ hi
    obtain ⟨hun, o, ho, hdeps⟩ := mem_ready.1 hi
    have ho' : l[i]? = some o := by simpa using ho
    have hi2 : i < l.toArray.size := (Array.getElem?_eq_some_iff.1 ho).1
    refine wpOp_step ho fun K hK => ?_
    refine hstep listed g w1 i o ho' hun hdeps hR K fun g' w' hR' hV => ?_
    refine hK _ _ ⟨g', ?_, hR'⟩
    have hd : dstOf l.toArray i = o.dst := by simp [dstOf, ho']
    rw [← hd, fill_congr (V' := V g') (fun j hl hj => (hV j (by simpa using hj) hl).symm), fill_put hs hi2 hun]
  · rintro listed b w1 ⟨g, rfl, hR⟩ hr
    exact hend listed g w1 (fun i hi => all_done hb hr i (by simpa using hi)) hR

/-- Operation o waits for operation j. -/
def waits (o : Oper) (j : Nat) : Bool := o.after.toList.any fun e => e.on == j && Region.binds .any e
theorem waits_spec {o : Oper} {j : Nat} (h : waits o j = true) : ∃ e, e ∈ o.after ∧ e.on = j ∧ Region.binds .any e = true := by
  unfold waits at h
  rw [List.any_eq_true] at h
  obtain ⟨e, he, h⟩ := h
  simp only [Bool.and_eq_true, beq_iff_eq] at h
  exact ⟨e, by simpa using he, h.1, h.2⟩
/-- The law: Good i says what operation i yields; it stays true while memory grows. -/
theorem wp_region_rel {Q : Exit → Act → World → Prop} {id : Nat} {a : Act} {w : World} {l : List Oper} (Good : Nat → Value → World → Prop) (hm : P.follows .mixedOrders = true) (hs : slotsB l.toArray = true) (hb : backB l.toArray = true) (hfit : ((List.range l.length).all fun j => match dstOf l.toArray j with | some d => decide (d < a.tmps.size) | none => true) = true)
    (hst : ∀ i v w1 w2, Ext w1 w2 → Good i v w1 → Good i v w2)
    (hstep : ∀ (i : Nat) (o : Oper), l[i]? = some o → ∀ (b : Act) (w1 : World), Ext w w1 → (∀ d : Nat, missB l.toArray d = true → b.tmps[d]? = a.tmps[d]?) →
      (∀ j, waits o j = true → ∃ v, Good j v w1 ∧ ∀ d, dstOf l.toArray j = some d → b.tmps[d]? = some v) →
      ∀ K : Act → World → Prop, (∀ v w', Ext w1 w' → Good i v w' → K (b.put o.dst v) w') → if Region.wanted o (yielded l.toArray b.tmps) = true then o.wp P b w1 K Q else K (b.put o.dst undef) w1)
    (hend : ∀ (V : Nat → Value) (w1 : World), Ext w w1 → (∀ i, i < l.length → Good i (V i) w1) → Q .normal (fillAllN l.toArray V a l.length) w1) : (Code.region id l.toArray true).wp P Q a w := by
  have hS := slotsB_spec hs
  have hB := backB_spec hb
  refine wp_region_tabg (G := Nat → Value) (fun g => g) (fun w listed g w1 => Ext w w1 ∧ ∀ i, i < l.length → listed.getD i true = true → Good i (g i) w1) (fun _ => undef) hm hS hB ?_ ?_ ?_
  · refine ⟨(Ext.refl _).drew, fun i hi h => ?_⟩
    have : (Array.replicate l.length false).getD i true = false := by simp [Array.getD, hi]
    rw [this] at h
    cases h
  · intro listed g w1 i o ho hun hdep hR K hK
    have hil : i < l.length := (List.getElem?_eq_some_iff.1 ho).1
    refine hstep i o ho (fill l.toArray g listed a) w1 hR.1 (fun d hd => fill_miss (fun i hi _ => missB_spec hd i hi)) (fun j hj => ?_) K (fun v w' hx hg => ?_)
    · obtain ⟨e, he, rfl, hbd⟩ := waits_spec hj
      have h1 := getD_up (hdep e he hbd)
      have h2 : e.on < l.length := by have := hB i o (by simpa using ho) e he; omega
      refine ⟨g e.on, hR.2 _ h2 h1, fun d hd => fill_hit hS (by simpa using h2) h1 hd ?_⟩
      rw [List.all_eq_true] at hfit
      have h3 := hfit e.on (List.mem_range.2 h2)
      rw [hd] at h3
      simpa using h3
    · have h := hK (fun k => if k = i then v else g k) w' ⟨hR.1.trans hx, fun j hj hl => ?_⟩ (fun j hj hl => ?_)
      · simpa using h
      · by_cases hji : j = i
        · subst hji; simpa using hg
        · simp only [if_neg hji]
          rw [getD_set_ne true (Ne.symm hji)] at hl
          exact hst _ _ _ _ hx (hR.2 j hj hl)
      · have hne : j ≠ i := fun e => by subst e; rw [hl] at hun; cases hun
        simp only [if_neg hne]
  · intro listed g w1 hall hR
    rw [fill_done hall]
    exact hend g w1 hR.1 (fun i hi => hR.2 i hi (hall i hi))

/- Operations, one kind each. -/
variable {o : Oper} {b : Act} {w1 : World} {K : Act → World → Prop} {Q : Exit → Act → World → Prop}
theorem eval_of {d : Nat} {v : Value} (h : b.tmps[d]? = some v) : b.eval (.tmp d) = v := by simp [Act.eval, Array.getD_eq_getD_getElem?, h]
theorem want_none {ops : Array Oper} {t : Array Value} {X Y : Prop} (hg : o.guard = none) (h : X) : if Region.wanted o (yielded ops t) = true then X else Y := by
  rw [if_pos (by simp [Region.wanted, hg])]; exact h
theorem want_yes {ops : Array Oper} {t : Array Value} {X Y : Prop} {j d : Nat} {c : Bool} (hg : o.guard = some (j, c)) (hd : dstOf ops j = some d) (ht : t[d]? = some (.bool c)) (h : X) : if Region.wanted o (yielded ops t) = true then X else Y := by
  have hd2 : (ops[j]?).bind (·.dst) = some d := hd
  rw [if_pos (by simp [Region.wanted, hg, yielded, hd2, ht])]; exact h
theorem want_no {ops : Array Oper} {t : Array Value} {X Y : Prop} {j d : Nat} {c : Bool} (hg : o.guard = some (j, c)) (hd : dstOf ops j = some d) (ht : t[d]? = some (.bool (!c)) ∨ t[d]? = some undef) (h : Y) : if Region.wanted o (yielded ops t) = true then X else Y := by
  have hd2 : (ops[j]?).bind (·.dst) = some d := hd
  rw [if_neg]
  · exact h
  · rcases ht with ht | ht
    · cases c <;> simp [Region.wanted, hg, yielded, hd2, ht]
    · simp [Region.wanted, hg, yielded, hd2, ht, undef]
theorem op_run {v : Value} {w2 : World} (hr : (execOp b.eval o).run P w1 = .ok (.value v) w2) (h : K (b.put o.dst v) w2) : o.wp P b w1 K Q := by
  unfold Oper.wp
  rw [hr]
  exact h
theorem op_move {x : Operand} {v : Value} (ho : o.op = .move x) (hx : b.eval x = v) (h : K (b.put o.dst v) w1) : o.wp P b w1 K Q :=
  op_run (by unfold execOp; simp [ho, hx]) h
theorem op_assign {x : Operand} {v : Value} (ho : o.op = .assign x) (hx : b.eval x = v) (h : K (b.put o.dst v) w1) : o.wp P b w1 K Q :=
  op_run (by unfold execOp; simp [ho, hx]) h
theorem op_loadrow {t : TypeId} {x : Operand} {bk : Nat} {tb : TypeId} {vs : List Value} (ho : o.op = .load t x) (hx : b.eval x = .pointer (some ⟨bk, 0, none⟩)) (hB : Arr w1 bk tb vs) (d : TypeDesc) (hu : P.underlying t = some d)
    (hd : (match d with | .struct _ | .array _ _ => true | _ => false) = true) (hi : (P.info? t).map (·.size) = some vs.length) (h : K (b.put o.dst (.agg vs.toArray)) w1) : o.wp P b w1 K Q :=
  wp_load_row t x ho bk hx tb vs.toArray (0, 0) d hB hu hd (by simpa using hi) h
theorem op_call {f : FuncId} {args : Array Operand} {ts : Array TypeId} {vs : Array Value} {G : Value → World → Prop} (ho : o.op = .call { callee := .value (.func f), args := args, argTypes := ts }) (ha : args.map b.eval = vs) (he : ∀ args w, (callFunc f args).run P w = .ok (.enter f args) w)
    (hc : Calls P f vs w1 fun e w' => ∃ v, e = .returned v ∧ Ext w1 w' ∧ G v w') (h : ∀ v w', Ext w1 w' → G v w' → K (b.put o.dst v) w') : o.wp P b w1 K Q := by
  have hr : (execOp b.eval o).run P w1 = .ok (.enter f vs) w1 := by
    unfold execOp
    simp [ho, resolve, invoke, Deferred.ofValue, Act.eval, ha, he]
  unfold Oper.wp
  rw [hr, Oper.upon_enter]
  refine hc.mono ?_
  rintro e w' ⟨v, rfl, hx, hg⟩
  exact h v w' hx hg
end
end Go.Proofs.YtelhefjikdoihaaDoor

/- A region that draws its order and in which one call (number J) changes what others made before it. -/
namespace Go.Proofs.YtelhefjikdoihaaDoor
open Go Go.RowKit

section
variable {P : Program}
/-- Every edge that binds goes back. -/
def Back2 (ops : Array Oper) : Prop := ∀ (i : Nat) (o : Oper), ops[i]? = some o → ∀ e, e ∈ o.after → Region.binds .any e = true → e.on < i
def backB2 (ops : Array Oper) : Bool := (List.range ops.size).all fun i => match ops[i]? with | some o => o.after.all fun e => !(Region.binds .any e) || decide (e.on < i) | none => true
theorem backB2_spec {ops : Array Oper} (h : backB2 ops = true) : Back2 ops := fun i o ho e he hbd => by
  unfold backB2 at h
  simp only [List.all_eq_true, List.mem_range] at h
  have h1 := h i (Array.getElem?_eq_some_iff.1 ho).1
  rw [ho] at h1
  simp only [Array.all_eq_true] at h1
  obtain ⟨k, hk, rfl⟩ := Array.mem_iff_getElem.1 he
  have h2 := h1 k hk
  rw [hbd] at h2
  simpa using h2
theorem all_done2 {ops : Array Oper} (hb : Back2 ops) {listed : Array Bool} (hr : Region.ready .any ops listed = []) : ∀ i, i < ops.size → listed.getD i true = true := by
  intro i
  induction i using Nat.strongRecOn with
  | ind i ih =>
    intro hi
    by_cases h : listed.getD i true = true
    · exact h
    · exfalso
      have h1 : i ∈ Region.ready .any ops listed := mem_ready.2 ⟨by simpa using h, ops[i], Array.getElem?_eq_getElem hi, fun e he hbd => by
        have h2 := hb i _ (Array.getElem?_eq_getElem hi) e he hbd
        have h3 := ih e.on h2 (by omega)
        have hsz : ∀ k, listed.getD k true = true → listed.getD i true = false → k < i → listed.getD k false = true := fun k h4 h5 h6 => by
          have hil : i < listed.size := by
            by_cases h7 : i < listed.size
            · exact h7
            · simp [Array.getD, h7] at h5
          have hkl : k < listed.size := by omega
          simpa [Array.getD, hkl] using h4
        exact hsz e.on h3 (by simpa using h) h2⟩
      rw [hr] at h1
      cases h1
/-- The law by a table, guards let in. -/
theorem wp_region_tabg2 {G : Type} {Q : Exit → Act → World → Prop} {id : Nat} {a : Act} {w : World} {l : List Oper} (V : G → Nat → Value) (R : World → Array Bool → G → World → Prop) (g0 : G) (hm : P.follows .mixedOrders = true) (hs : Slots l.toArray) (hb : Back2 l.toArray)
    (h0 : R w (Array.replicate l.length false) g0 w.drew)
    (hstep : ∀ listed g w1 i o, l[i]? = some o → listed.getD i true = false → (∀ e, e ∈ o.after → Region.binds .any e = true → listed.getD e.on false = true) → R w listed g w1 →
      ∀ K : Act → World → Prop, (∀ g' w', R w (listed.setIfInBounds i true) g' w' → (∀ j, j < l.length → listed.getD j true = true → V g' j = V g j) → K ((fill l.toArray (V g) listed a).put o.dst (V g' i)) w') →
        if Region.wanted o (yielded l.toArray (fill l.toArray (V g) listed a).tmps) = true then o.wp P (fill l.toArray (V g) listed a) w1 K Q else K ((fill l.toArray (V g) listed a).put o.dst undef) w1)
    (hend : ∀ listed g w1, (∀ i, i < l.length → listed.getD i true = true) → R w listed g w1 → Q .normal (fill l.toArray (V g) listed a) w1) : (Code.region id l.toArray true).wp P Q a w := by
  refine wp_region_inv (fun listed b w1 => ∃ g, b = fill l.toArray (V g) listed a ∧ R w listed g w1) hm ⟨g0, ?_, h0⟩ ?_ ?_
  · have : ∀ n, fillN l.toArray (V g0) (Array.replicate l.length false) a n = a ∨ l.length < n := by
      intro n
      induction n with
      | zero => exact .inl rfl
      | succ n ih =>
        by_cases hn : l.length < n + 1
        · exact .inr hn
        · rcases ih with ih | ih
          · refine .inl ?_
            unfold fillN
            rw [if_neg (by simp [Array.getD]; omega), ih]
          · omega
    rcases this l.toArray.size with h | h
    · exact h.symm
    · simp at h
  · rintro listed b w1 i ⟨g, rfl, hR⟩ hi
    obtain ⟨hun, o, ho, hdeps⟩ := mem_ready.1 hi
    have ho' : l[i]? = some o := by simpa using ho
    have hi2 : i < l.toArray.size := (Array.getElem?_eq_some_iff.1 ho).1
    refine wpOp_step ho fun K hK => ?_
    refine hstep listed g w1 i o ho' hun hdeps hR K fun g' w' hR' hV => ?_
    refine hK _ _ ⟨g', ?_, hR'⟩
    have hd : dstOf l.toArray i = o.dst := by simp [dstOf, ho']
    rw [← hd, fill_congr (V' := V g') (fun j hl hj => (hV j (by simpa using hj) hl).symm), fill_put hs hi2 hun]
  · rintro listed b w1 ⟨g, rfl, hR⟩ hr
    exact hend listed g w1 (fun i hi => all_done2 hb hr i (by simpa using hi)) hR

theorem wp_region_flow {Q : Exit → Act → World → Prop} {id : Nat} {a : Act} {w : World} {l : List Oper} (J : Nat) (Good : Bool → Nat → Value → World → Prop) (hm : P.follows .mixedOrders = true) (hs : slotsB l.toArray = true) (hb : backB2 l.toArray = true) (hfit : ((List.range l.length).all fun j => match dstOf l.toArray j with | some d => decide (d < a.tmps.size) | none => true) = true)
    (hst : ∀ d i v w1 w2, Ext w1 w2 → Good d i v w1 → Good d i v w2) (hup : ∀ i v w1 w2, Good false i v w1 → Good true i v w2)
    (hstep : ∀ (i : Nat) (o : Oper), l[i]? = some o → ∀ (d : Bool) (b : Act) (w1 : World), (i = J → d = false) → Ext w w1 → (∀ d : Nat, missB l.toArray d = true → b.tmps[d]? = a.tmps[d]?) →
      (∀ j, waits o j = true → ∃ v, Good d j v w1 ∧ ∀ d, dstOf l.toArray j = some d → b.tmps[d]? = some v) →
      ∀ K : Act → World → Prop, (∀ v w', Ext w w' → (i ≠ J → Ext w1 w') → Good (decide (i = J) || d) i v w' → K (b.put o.dst v) w') → if Region.wanted o (yielded l.toArray b.tmps) = true then o.wp P b w1 K Q else K (b.put o.dst undef) w1)
    (hend : ∀ (V : Nat → Value) (w1 : World), Ext w w1 → (∀ i, i < l.length → Good true i (V i) w1) → Q .normal (fillAllN l.toArray V a l.length) w1) : (Code.region id l.toArray true).wp P Q a w := by
  have hS := slotsB_spec hs
  have hB := backB2_spec hb
  refine wp_region_tabg2 (G := Nat → Value) (fun g => g) (fun w listed g w1 => Ext w w1 ∧ ∀ i, i < l.length → listed.getD i true = true → Good (listed.getD J true) i (g i) w1) (fun _ => undef) hm hS hB ?_ ?_ ?_
  · refine ⟨(Ext.refl _).drew, fun i hi h => ?_⟩
    have : (Array.replicate l.length false).getD i true = false := by simp [Array.getD, hi]
    rw [this] at h
    cases h
  · intro listed g w1 i o ho hun hdep hR K hK
    have hil : i < l.length := (List.getElem?_eq_some_iff.1 ho).1
    refine hstep i o ho (listed.getD J true) (fill l.toArray g listed a) w1 (fun e => by subst e; exact hun) hR.1 (fun d hd => fill_miss (fun i hi _ => missB_spec hd i hi)) (fun j hj => ?_) K (fun v w' hx hx1 hg => ?_)
    · obtain ⟨e, he, rfl, hbd⟩ := waits_spec hj
      have h1 := getD_up (hdep e he hbd)
      have h2 : e.on < l.length := by have := hB i o (by simpa using ho) e he hbd; omega
      refine ⟨g e.on, hR.2 _ h2 h1, fun d hd => fill_hit hS (by simpa using h2) h1 hd ?_⟩
      rw [List.all_eq_true] at hfit
      have h3 := hfit e.on (List.mem_range.2 h2)
      rw [hd] at h3
      simpa using h3
    · have h := hK (fun k => if k = i then v else g k) w' ⟨hx, fun j hj hl => ?_⟩ (fun j hj hl => ?_)
      · simpa using h
      · by_cases hiJ : i = J
        · subst hiJ
          have e1 : (listed.setIfInBounds i true).getD i true = true := by
            simp only [Array.getD]
            split <;> simp
          rw [e1]
          rw [hun] at hR hg
          by_cases hji : j = i
          · subst hji; simpa using hg
          · simp only [if_neg hji]
            rw [getD_set_ne true (Ne.symm hji)] at hl
            exact hup _ _ _ _ (hR.2 j hj hl)
        · rw [getD_set_ne true hiJ]
          by_cases hji : j = i
          · subst hji; simpa [hiJ] using hg
          · simp only [if_neg hji]
            rw [getD_set_ne true (Ne.symm hji)] at hl
            exact hst _ _ _ _ _ (hx1 hiJ) (hR.2 j hj hl)
      · have hne : j ≠ i := fun e => by subst e; rw [hl] at hun; cases hun
        simp only [if_neg hne]
  · intro listed g w1 hall hR
    rw [fill_done hall]
    refine hend g w1 hR.1 (fun i hi => ?_)
    have h := hR.2 i hi (hall i hi)
    cases hd : listed.getD J true
    · rw [hd] at h; exact hup _ _ _ _ h
    · rw [hd] at h; exact h
variable {o : Oper} {b : Act} {w1 : World} {K : Act → World → Prop} {Q : Exit → Act → World → Prop}
theorem op_callG {f : FuncId} {args : Array Operand} {ts : Array TypeId} {vs : Array Value} {G : Value → World → Prop} (ho : o.op = .call { callee := .value (.func f), args := args, argTypes := ts }) (ha : args.map b.eval = vs) (he : ∀ args w, (callFunc f args).run P w = .ok (.enter f args) w)
    (hc : Calls P f vs w1 fun e w' => ∃ v, e = .returned v ∧ G v w') (h : ∀ v w', G v w' → K (b.put o.dst v) w') : o.wp P b w1 K Q := by
  have hr : (execOp b.eval o).run P w1 = .ok (.enter f vs) w1 := by
    unfold execOp
    simp [ho, resolve, invoke, Deferred.ofValue, Act.eval, ha, he]
  unfold Oper.wp
  rw [hr, Oper.upon_enter]
  refine hc.mono ?_
  rintro e w' ⟨v, rfl, hg⟩
  exact h v w' hg
end
/-- The pair that a flood hands back, its first part, its second. -/
def GT (P : List Pt → Int → Prop) (v : Value) (w : World) : Prop := ∃ (l : List Pt) (er : Int) (A' : Option Addr) (c' : Nat), P l er ∧ v = .tuple #[.slice A' l.length c', .int .i64 er] ∧ Sv w w.heap.size 3 A' c' (rowsP l)
def G0 (P : List Pt → Int → Prop) (v : Value) (w : World) : Prop := ∃ (l : List Pt) (er : Int) (A' : Option Addr) (c' : Nat), P l er ∧ v = .slice A' l.length c' ∧ Sv w w.heap.size 3 A' c' (rowsP l)
def G1 (P : List Pt → Int → Prop) (v : Value) : Prop := ∃ (l : List Pt) (er : Int), P l er ∧ v = .int .i64 er
theorem GT.ext {P : List Pt → Int → Prop} {v : Value} {w w' : World} (h : GT P v w) (hx : Ext w w') : GT P v w' := by obtain ⟨l, er, A', c', h1, h2, h3⟩ := h; exact ⟨l, er, A', c', h1, h2, h3.ext hx⟩
theorem G0.ext {P : List Pt → Int → Prop} {v : Value} {w w' : World} (h : G0 P v w) (hx : Ext w w') : G0 P v w' := by obtain ⟨l, er, A', c', h1, h2, h3⟩ := h; exact ⟨l, er, A', c', h1, h2, h3.ext hx⟩
def JT (P : List Pt → Int → Prop) (b : Pt) (v : Value) : Prop := ∃ (l : List Pt) (er : Int), P l er ∧ v = .tuple #[.bool (decide (b ∈ l)), .int .i64 er]
def J0 (P : List Pt → Int → Prop) (b : Pt) (v : Value) : Prop := ∃ (l : List Pt) (er : Int), P l er ∧ v = .bool (decide (b ∈ l))
theorem CntF.keepX {g : Gr} {A : Option Addr} {c fb n : Nat} {w w' : World} (h : CntF g A c fb n w) (hx : Ext w w') : CntF g A c fb n w' :=
  ⟨h.blk.ext hx, h.cells.keep (fun _p hp => hx.cell (Nat.lt_trans hp h.blk.lt))⟩
/-- A field made in the region. -/
def OfG (g : Gr) (A : Option Addr) (c : Nat) (w0 : World) (mk : Value → Value) (d : Bool) (v : Value) (w : World) : Prop := ∃ fb, v = mk (.pointer (some ⟨fb, 0, none⟩)) ∧ w0.heap.size ≤ fb ∧ (d = false → CntF g A c fb 0 w)
theorem OfG.ext {g : Gr} {A : Option Addr} {c : Nat} {w0 w w' : World} {mk : Value → Value} {d : Bool} {v : Value} (h : OfG g A c w0 mk d v w) (hx : Ext w w') : OfG g A c w0 mk d v w' := by obtain ⟨fb, h1, h2, h3⟩ := h; exact ⟨fb, h1, h2, fun e => (h3 e).keepX hx⟩
theorem OfG.up {g : Gr} {A : Option Addr} {c : Nat} {w0 w w' : World} {mk : Value → Value} {d : Bool} {v : Value} (h : OfG g A c w0 mk d v w) : OfG g A c w0 mk true v w' := by obtain ⟨fb, h1, h2, _⟩ := h; exact ⟨fb, h1, h2, fun e => by cases e⟩
end Go.Proofs.YtelhefjikdoihaaDoor

/- Plain laws of regions: each cell's region is the same; a region is one part. -/
namespace Go.Proofs.YtelhefjikdoihaaDoor
open Go Go.RowKit

theorem IsReg.other {F : Pt → Option Int} {v : Int} {a q : Pt} {l : List Pt} (h : IsReg F v a l) (ha : F a = some v) (hq : q ∈ l) : IsReg F v q l :=
  ⟨h.sort, fun x => by
    have h1 := (h.mem q).1 hq
    exact (h.mem x).trans ⟨fun hx => (h1.symm ha).trans hx, fun hx => h1.trans hx⟩⟩
/-- With as many steps as there are cells at most, a flood is not cut short. -/
theorem floodOut_all {g : Gr} {a : Pt} {most er : Int} {l : List Pt} (hv : validG g = true) (hm : (g.cells.length : Int) ≤ most) (h : FloodOut (fld g) a most l er) : (fld g a = none ∧ inP a g.box = false ∧ l = [] ∧ er = 9) ∨ ∃ v, fld g a = some v ∧ inP a g.box = true ∧ IsReg (fld g) v a l ∧ er = 0 := by
  rcases h with ⟨h1, h2, h3⟩ | ⟨v, h1, ⟨⟨r, h2, h3, h4⟩, _⟩ | ⟨h2, _, h3⟩⟩
  · refine .inl ⟨h1, ?_, h2, h3⟩
    cases hh : inP a g.box
    · rfl
    · unfold fld at h1; rw [if_pos hh] at h1; cases h1
  · have := fld_fin g hv r h2 (fun q hq => by rw [(h3 q hq).val h1]; simp)
    omega
  · exact .inr ⟨v, h1, fld_some h1, h2, h3⟩
theorem borderOut_all {g : Gr} {a : Pt} {most er : Int} {l : List Pt} {v : Int} (hv : validG g = true) (hm : (g.cells.length : Int) ≤ most) (ha : fld g a = some v) (h : BorderOut (fld g) a most l er) : IsBrd (fld g) v a l ∧ er = 0 := by
  rcases h with ⟨h1, h2, h3⟩ | ⟨u, h1, ⟨⟨r, h2, h3, h4⟩, _⟩ | ⟨_, h2, h3⟩⟩
  · rw [ha] at h1; cases h1
  · have := fld_fin g hv r h2 (fun q hq => by rw [(h3 q hq).val h1]; simp)
    omega
  · rw [ha] at h1; injection h1 with h1; subst h1; exact ⟨h2, h3⟩
/-- Within a region each cell leads to each. -/
theorem reg_self {F : Pt → Option Int} {v : Int} {a q : Pt} {l : List Pt} (h : IsReg F v a l) (ha : F a = some v) (hq : q ∈ l) : IsReg (setF l) 1 q l := by
  have h2 := h.other ha hq
  refine ⟨h.sort, fun x => ⟨fun hx => ?_, fun hx => hx.in_ hq⟩⟩
  have key : ∀ y, Reach F v q y → Reach (setF l) 1 q y := by
    intro y hy
    induction hy with
    | base => exact .base
    | step k1 k2 k3 ih => exact ih.step k2 (setF_iff.2 ((h2.mem _).2 (k1.step k2 k3)))
  exact key x ((h2.mem x).1 hx)
theorem SortP.isSorted {l m : List Pt} (h : SortP l) (k : IsSorted l m) : m = l := k.sort.eq h k.mem
/-- A region is one part. -/
theorem reg_parts {F : Pt → Option Int} {v : Int} {a : Pt} {l : List Pt} {ps : List (List Pt)} (h : IsReg F v a l) (ha : F a = some v) (hp : IsParts l ps) : ps = [l] := by
  obtain ⟨m, hm, hpt⟩ := hp.ex
  obtain rfl := SortP.isSorted h.sort hm
  have hal : a ∈ m := (h.mem a).2 .base
  have key : ∀ k, 0 < k → k ≤ m.length → PT m m k [m] := by
    intro k
    induction k with
    | zero => intro hk; omega
    | succ k ih =>
      intro _ hk
      obtain ⟨p, hpk⟩ : ∃ p, m[k]? = some p := ⟨_, List.getElem?_eq_getElem (by omega)⟩
      have hpm := List.mem_of_getElem? hpk
      rcases Nat.eq_zero_or_pos k with rfl | h0
      · exact .add (ps := []) .zero hpk (by simp) (reg_self h ha hpm)
      · exact (ih h0 (by omega)).skip hpk (by simpa using hpm)
  exact hpt.uniq (key _ (List.length_pos_of_mem hal) (Nat.le_refl _))
theorem IsBrd.out {F : Pt → Option Int} {v : Int} {a q : Pt} {l : List Pt} (h : IsBrd F v a l) (hq : q ∈ l) : ∃ u, F q = some u ∧ u ≠ v := ((h.mem q).1 hq).1
end Go.Proofs.YtelhefjikdoihaaDoor

/- Plain laws for a grid one of whose cells gets another material. -/
namespace Go.Proofs.YtelhefjikdoihaaDoor
open Go Go.RowKit

/-- F with v at p, where p is in the field. -/
def updF (F : Pt → Option Int) (p : Pt) (v : Int) (q : Pt) : Option Int := if q = p then (if (F q).isSome then some v else none) else F q
theorem updF_ne {F : Pt → Option Int} {p q : Pt} {v : Int} (h : q ≠ p) : updF F p v q = F q := by unfold updF; rw [if_neg h]
theorem updF_at {F : Pt → Option Int} {p : Pt} {v u : Int} (h : F p = some u) : updF F p v p = some v := by unfold updF; rw [if_pos rfl, h]; rfl
/-- Another material outside of a region, not the region's: the region stays. -/
theorem reg_outside {F : Pt → Option Int} {c v : Int} {a p : Pt} {l : List Pt} (h : IsReg F c a l) (ha : F a = some c) (hp : p ∉ l) (hv : v ≠ c) : IsReg (updF F p v) c a l ∧ updF F p v a = some c := by
  have hne : ∀ q, q ∈ l → q ≠ p := fun q hq e => hp (e ▸ hq)
  have haa : updF F p v a = some c := by rw [updF_ne (hne a ((h.mem a).2 .base))]; exact ha
  refine ⟨⟨h.sort, fun q => ⟨fun hq => ?_, fun hq => ?_⟩⟩, haa⟩
  · have key : ∀ y, Reach F c a y → Reach (updF F p v) c a y := by
      intro y hy
      induction hy with
      | base => exact .base
      | @step x z k1 k2 k3 ih => exact ih.step k2 (by rw [updF_ne (hne z ((h.mem z).2 (k1.step k2 k3)))]; exact k3)
    exact key q ((h.mem q).1 hq)
  · rw [h.mem]
    induction hq with
    | base => exact .base
    | @step x z k1 k2 k3 ih =>
      refine ih.step k2 ?_
      by_cases hz : z = p
      · subst hz
        unfold updF at k3
        rw [if_pos rfl] at k3
        split at k3
        · injection k3 with k3; exact absurd k3 hv
        · cases k3
      · rw [updF_ne hz] at k3; exact k3
/-- What is left of a region without p: the regions of the changed field are the parts of the rest. -/
theorem reg_cut {F : Pt → Option Int} {c v : Int} {a p b : Pt} {l rest r : List Pt} (h : IsReg F c a l) (ha : F a = some c) (hv : v ≠ c) (hr : ∀ q, q ∈ rest ↔ q ∈ l ∧ q ≠ p) (hb : b ∈ rest) (hg : IsReg (setF rest) 1 b r) : IsReg (updF F p v) c b r ∧ updF F p v b = some c := by
  have hF : ∀ q, q ∈ rest → updF F p v q = some c := fun q hq => by
    have := (hr q).1 hq
    rw [updF_ne this.2]; exact ((h.mem q).1 this.1).val ha
  refine ⟨⟨hg.sort, fun q => (hg.mem q).trans ⟨fun hq => ?_, fun hq => ?_⟩⟩, hF b hb⟩
  · have key : ∀ y, Reach (setF rest) 1 b y → Reach (updF F p v) c b y := by
      intro y hy
      induction hy with
      | base => exact .base
      | step k1 k2 k3 ih => exact ih.step k2 (hF _ (setF_iff.1 k3))
    exact key q hq
  · have key : ∀ y, Reach (updF F p v) c b y → Reach (setF rest) 1 b y ∧ y ∈ rest := by
      intro y hy
      induction hy with
      | base => exact ⟨.base, hb⟩
      | @step x z k1 k2 k3 ih =>
        have hz : z ∈ rest := by
          by_cases hzp : z = p
          · subst hzp
            unfold updF at k3
            rw [if_pos rfl] at k3
            split at k3
            · injection k3 with k3; exact absurd k3 hv
            · cases k3
          · rw [updF_ne hzp] at k3
            exact (hr z).2 ⟨(h.mem z).2 (((h.mem x).1 ((hr x).1 ih.2).1).step k2 k3), hzp⟩
        exact ⟨ih.1.step k2 (setF_iff.2 hz), hz⟩
    exact (key q hq).1
end Go.Proofs.YtelhefjikdoihaaDoor

/- A region that draws its order, with one operation that changes what was there: an invariant in place of 'what was there stays'. -/
namespace Go.Proofs.YtelhefjikdoihaaDoor
open Go Go.RowKit

section
variable {P : Program}
theorem wp_region_flow2 {Q : Exit → Act → World → Prop} {id : Nat} {a : Act} {w : World} {l : List Oper} (J : Nat) (Inv : Bool → World → Prop) (h0 : Inv false w.drew) (hinv : ∀ d w1 w2, Ext w1 w2 → Inv d w1 → Inv d w2) (Good : Bool → Nat → Value → World → Prop) (hm : P.follows .mixedOrders = true) (hs : slotsB l.toArray = true) (hb : backB2 l.toArray = true) (hfit : ((List.range l.length).all fun j => match dstOf l.toArray j with | some d => decide (d < a.tmps.size) | none => true) = true)
    (hJl : J < l.length) (hst : ∀ d i v w1 w2, Ext w1 w2 → Good d i v w1 → Good d i v w2) (hup : ∀ i v w1 w2, Good false i v w1 → Good true i v w2)
    (hstep : ∀ (i : Nat) (o : Oper), l[i]? = some o → ∀ (d : Bool) (b : Act) (w1 : World), (i = J → d = false) → Inv d w1 → (∀ d : Nat, missB l.toArray d = true → b.tmps[d]? = a.tmps[d]?) →
      (∀ j, waits o j = true → ∃ v, Good d j v w1 ∧ ∀ d, dstOf l.toArray j = some d → b.tmps[d]? = some v) →
      ∀ K : Act → World → Prop, (∀ v w', (i = J → Inv true w') → (i ≠ J → Ext w1 w') → Good (decide (i = J) || d) i v w' → K (b.put o.dst v) w') → if Region.wanted o (yielded l.toArray b.tmps) = true then o.wp P b w1 K Q else K (b.put o.dst undef) w1)
    (hend : ∀ (V : Nat → Value) (w1 : World), Inv true w1 → (∀ i, i < l.length → Good true i (V i) w1) → Q .normal (fillAllN l.toArray V a l.length) w1) : (Code.region id l.toArray true).wp P Q a w := by
  have hS := slotsB_spec hs
  have hB := backB2_spec hb
  refine wp_region_tabg2 (G := Nat → Value) (fun g => g) (fun w listed g w1 => Inv (listed.getD J true) w1 ∧ ∀ i, i < l.length → listed.getD i true = true → Good (listed.getD J true) i (g i) w1) (fun _ => undef) hm hS hB ?_ ?_ ?_
  · refine ⟨by rw [show (Array.replicate l.length false).getD J true = false by simp [Array.getD, hJl]]; exact h0, fun i hi h => ?_⟩
    have : (Array.replicate l.length false).getD i true = false := by simp [Array.getD, hi]
    rw [this] at h
    cases h
  · intro listed g w1 i o ho hun hdep hR K hK
    have hil : i < l.length := (List.getElem?_eq_some_iff.1 ho).1
    refine hstep i o ho (listed.getD J true) (fill l.toArray g listed a) w1 (fun e => by subst e; exact hun) hR.1 (fun d hd => fill_miss (fun i hi _ => missB_spec hd i hi)) (fun j hj => ?_) K (fun v w' hx hx1 hg => ?_)
    · obtain ⟨e, he, rfl, hbd⟩ := waits_spec hj
      have h1 := getD_up (hdep e he hbd)
      have h2 : e.on < l.length := by have := hB i o (by simpa using ho) e he hbd; omega
      refine ⟨g e.on, hR.2 _ h2 h1, fun d hd => fill_hit hS (by simpa using h2) h1 hd ?_⟩
      rw [List.all_eq_true] at hfit
      have h3 := hfit e.on (List.mem_range.2 h2)
      rw [hd] at h3
      simpa using h3
    · have h := hK (fun k => if k = i then v else g k) w' ⟨?_, fun j hj hl => ?_⟩ (fun j hj hl => ?_)
      · simpa using h
      · by_cases hiJ : i = J
        · have e1 : (listed.setIfInBounds i true).getD J true = true := by
            rw [hiJ]
            simp only [Array.getD]
            split <;> simp
          rw [e1]; exact hx hiJ
        · rw [getD_set_ne true hiJ]; exact hinv _ _ _ (hx1 hiJ) hR.1
      · by_cases hiJ : i = J
        · subst hiJ
          have e1 : (listed.setIfInBounds i true).getD i true = true := by
            simp only [Array.getD]
            split <;> simp
          rw [e1]
          rw [hun] at hR hg
          by_cases hji : j = i
          · subst hji; simpa using hg
          · simp only [if_neg hji]
            rw [getD_set_ne true (Ne.symm hji)] at hl
            exact hup _ _ _ _ (hR.2 j hj hl)
        · rw [getD_set_ne true hiJ]
          by_cases hji : j = i
          · subst hji; simpa [hiJ] using hg
          · simp only [if_neg hji]
            rw [getD_set_ne true (Ne.symm hji)] at hl
            exact hst _ _ _ _ _ (hx1 hiJ) (hR.2 j hj hl)
      · have hne : j ≠ i := fun e => by subst e; rw [hl] at hun; cases hun
        simp only [if_neg hne]
  · intro listed g w1 hall hR
    rw [fill_done hall]
    have hd := hall J hJl
    rw [hd] at hR
    exact hend g w1 hR.1 (fun i hi => hR.2 i hi (hall i hi))
end
end Go.Proofs.YtelhefjikdoihaaDoor

/- Contract of the reference's copied. -/
namespace Go.Proofs.YtelhefjikdoihaaDoor
open Go Go.RowKit

theorem infoInt : (Tryd.prog.info? 3).map (fun i => (i.zero, i.size, i.bytes)) = some (some (.int .i64 0), 1, 8) := by kernel_rfl
section
variable {P : Program} {o : Oper} {b : Act} {w1 : World} {K : Act → World → Prop} {Q : Exit → Act → World → Prop}
theorem op_append_sv (s x : Operand) (t : TypeId) (ho : o.op = .call { callee := .builtin .append, args := #[s, x], argTypes := #[t, t] })
    (base : Nat) (e : TypeId) (i : TypeInfo) (z : Value) (size bytes : Nat) (ht : P.underlying t = some (.slice e)) (hi : P.info? e = some i) (hz : i.zero = some z)
    (hsize : i.size = size) (hby : i.bytes = bytes) (hzs : z.cells.size = size) (hsz : 0 < size)
    (v : Value) (n : Nat) (xs : List Value) (hs : b.eval s = v) (hown : w1.ownsRow base e size v n xs)
    (B : Nat) (A : Option Addr) (m c : Nat) (news : List (List Value)) (hx : b.eval x = .slice A m c) (hr : Sv w1 B size A c news) (hm : news.length = m)
    (h63 : n + m ≤ maxLen) (hbytes : (n + m) * bytes ≤ 140737488355328) (hbase : base ≤ w1.heap.size)
    (h : ∀ v' w', w'.ownsRow base e size v' (n + m) (xs ++ news.flatten) → w1.grownBy w' v.ownBlock → K (b.put o.dst v') w') : o.wp P b w1 K Q := by
  obtain ⟨v', w', hrun, r1, r2, _⟩ := run_append_sv (P := P) w1 base t o.type e i z size bytes ht hi hz hsize hby hzs hsz v n xs hown B A m c news hr hm h63 hbytes hbase
  unfold Oper.wp
  simp [execOp, ho, resolve, invoke, builtin, hs, hx, hrun, Result.andThen]
  exact h v' w' r1 r2
end
/-- A grid of its own: block 'rb' holds it, its cells lie in a row of their own. -/
structure OwnG (g : Gr) (base rb : Nat) (u : Value) (w : World) : Prop where
  blk : Arr w rb 28 [.int .i64 g.box.lo.x, .int .i64 g.box.lo.y, .int .i64 g.box.lo.z, .int .i64 g.box.hi.x, .int .i64 g.box.hi.y, .int .i64 g.box.hi.z, u]
  row : w.ownsRow base 3 1 u g.cells.length (rowsI g.cells).flatten
/-- What stays true within copied's region. -/
structure CopyI (g : Gr) (A : Option Addr) (c : Nat) (w : World) (d : Bool) (w1 : World) : Prop where
  src : Arr w1 w.heap.size 28 [.int .i64 g.box.lo.x, .int .i64 g.box.lo.y, .int .i64 g.box.lo.z, .int .i64 g.box.hi.x, .int .i64 g.box.hi.y, .int .i64 g.box.hi.z, .slice A g.cells.length c]
  cells : Sv w1 w.heap.size 1 A c (rowsI g.cells)
  ext : Ext w w1
  dst : ∃ vs, Arr w1 (w.heap.size + 1) 28 vs ∧ vs.length = 7
  done : d = true → ∃ u, OwnG g (w.heap.size + 2) (w.heap.size + 1) u w1
theorem CopyI.step {g : Gr} {A : Option Addr} {c : Nat} {w w1 w2 : World} {d : Bool} (h : CopyI g A c w d w1) (hx : Ext w1 w2) : CopyI g A c w d w2 :=
  ⟨h.src.ext hx, h.cells.keep (fun p hp => hx.cell (Nat.lt_of_lt_of_le hp h.ext.size)), h.ext.trans hx, by obtain ⟨vs, h1, h2⟩ := h.dst; exact ⟨vs, h1.ext hx, h2⟩, fun e => by obtain ⟨u, h1⟩ := h.done e; exact ⟨u, h1.blk.ext hx, own_ext h1.row hx⟩⟩
set_option maxRecDepth 100000 in
set_option maxHeartbeats 4000000 in
theorem copied_any (g : Gr) (A : Option Addr) (c : Nat) (w : World) (hs : Sv w w.heap.size 1 A c (rowsI g.cells)) (h200 : g.cells.length ≤ 100000) :
    Calls Tryd.prog 66 #[.agg #[.int .i64 g.box.lo.x, .int .i64 g.box.lo.y, .int .i64 g.box.lo.z, .int .i64 g.box.hi.x, .int .i64 g.box.hi.y, .int .i64 g.box.hi.z, .slice A g.cells.length c]] w fun e w' => ∃ u, e = .returned (.agg #[.int .i64 g.box.lo.x, .int .i64 g.box.lo.y, .int .i64 g.box.lo.z, .int .i64 g.box.hi.x, .int .i64 g.box.hi.y, .int .i64 g.box.hi.z, u]) ∧ w'.ownsRow w.heap.size 3 1 u g.cells.length (rowsI g.cells).flatten ∧ Ext w w' := by
  have hm := mixed
  have hG := near_old
  have hx0 : Ext w ((w.alloc (.cells #[.int .i64 g.box.lo.x, .int .i64 g.box.lo.y, .int .i64 g.box.lo.z, .int .i64 g.box.hi.x, .int .i64 g.box.hi.y, .int .i64 g.box.hi.z, .slice A g.cells.length c] 28)).alloc (.cells #[.int .i64 zeroBx.lo.x, .int .i64 zeroBx.lo.y, .int .i64 zeroBx.lo.z, .int .i64 zeroBx.hi.x, .int .i64 zeroBx.hi.y, .int .i64 zeroBx.hi.z, .slice none 0 0] 28)) := ((Ext.refl w).alloc _).alloc _
  have B0 := (Arr.new w 28 [.int .i64 g.box.lo.x, .int .i64 g.box.lo.y, .int .i64 g.box.lo.z, .int .i64 g.box.hi.x, .int .i64 g.box.hi.y, .int .i64 g.box.hi.z, .slice A g.cells.length c]).alloc (.cells #[.int .i64 zeroBx.lo.x, .int .i64 zeroBx.lo.y, .int .i64 zeroBx.lo.z, .int .i64 zeroBx.hi.x, .int .i64 zeroBx.hi.y, .int .i64 zeroBx.hi.z, .slice none 0 0] 28)
  have B1 := Arr.new (w.alloc (.cells #[.int .i64 g.box.lo.x, .int .i64 g.box.lo.y, .int .i64 g.box.lo.z, .int .i64 g.box.hi.x, .int .i64 g.box.hi.y, .int .i64 g.box.hi.z, .slice A g.cells.length c] 28)) 28 [.int .i64 zeroBx.lo.x, .int .i64 zeroBx.lo.y, .int .i64 zeroBx.lo.z, .int .i64 zeroBx.hi.x, .int .i64 zeroBx.hi.y, .int .i64 zeroBx.hi.z, .slice none 0 0]
  rw [World.size_alloc_] at B1
  have HB0 := Lib.hid B0; have HB1 := Lib.hid B1; have HX0 := Lib.hid hx0; have HS := Lib.hid (hs.keep (w' := (w.alloc (.cells #[.int .i64 g.box.lo.x, .int .i64 g.box.lo.y, .int .i64 g.box.lo.z, .int .i64 g.box.hi.x, .int .i64 g.box.hi.y, .int .i64 g.box.hi.z, .slice A g.cells.length c] 28)).alloc (.cells #[.int .i64 zeroBx.lo.x, .int .i64 zeroBx.lo.y, .int .i64 zeroBx.lo.z, .int .i64 zeroBx.hi.x, .int .i64 zeroBx.hi.y, .int .i64 zeroBx.hi.z, .slice none 0 0] 28)) (fun p hp => hx0.cell hp))
  clear B0 B1 hx0 hs
  obtain ⟨i0, hi, hz0, hz1, hz2⟩ := info_parts infoInt
  go_enter Tryd.func66, Tryd.ntmps66
  go_upto_region 2 with fail
  obtain ⟨W0, hW⟩ : ∃ W, W = (w.alloc (.cells #[.int .i64 g.box.lo.x, .int .i64 g.box.lo.y, .int .i64 g.box.lo.z, .int .i64 g.box.hi.x, .int .i64 g.box.hi.y, .int .i64 g.box.hi.z, .slice A g.cells.length c] 28)).alloc (.cells #[.int .i64 zeroBx.lo.x, .int .i64 zeroBx.lo.y, .int .i64 zeroBx.lo.z, .int .i64 zeroBx.hi.x, .int .i64 zeroBx.hi.y, .int .i64 zeroBx.hi.z, .slice none 0 0] 28) := ⟨_, rfl⟩
  have hW' : W0 = (w.alloc (.cells #[.int .i64 g.box.lo.x, .int .i64 g.box.lo.y, .int .i64 g.box.lo.z, .int .i64 g.box.hi.x, .int .i64 g.box.hi.y, .int .i64 g.box.hi.z, .slice A g.cells.length c] 28)).alloc (.cells #[.int .i64 0, .int .i64 0, .int .i64 0, .int .i64 0, .int .i64 0, .int .i64 0, .slice none 0 0] 28) := hW
  rw [← hW] at HB0 HB1 HX0 HS
  rw [← hW']
  clear hW hW'
  refine wp_region_flow2 (w := W0) 7 (CopyI g A c w) ?_ (fun d w1 w2 hx h => h.step hx) (fun d i v w' => match i with
    | 0 => v = .pointer (some ⟨w.heap.size, 0, none⟩)
    | 1 => v = .agg #[.int .i64 g.box.lo.x, .int .i64 g.box.lo.y, .int .i64 g.box.lo.z, .int .i64 g.box.hi.x, .int .i64 g.box.hi.y, .int .i64 g.box.hi.z]
    | 2 => v = .slice none 0 0
    | 3 => v = .pointer (some ⟨w.heap.size, 6, none⟩)
    | 4 => v = .slice A g.cells.length c
    | 5 => ∃ A' c', v = .slice A' g.cells.length c' ∧ (d = false → w'.ownsRow (w.heap.size + 2) 3 1 v g.cells.length (rowsI g.cells).flatten)
    | 6 => ∃ A' c', v = .agg #[.int .i64 g.box.lo.x, .int .i64 g.box.lo.y, .int .i64 g.box.lo.z, .int .i64 g.box.hi.x, .int .i64 g.box.hi.y, .int .i64 g.box.hi.z, .slice A' g.cells.length c'] ∧ (d = false → w'.ownsRow (w.heap.size + 2) 3 1 (.slice A' g.cells.length c') g.cells.length (rowsI g.cells).flatten)
    | _ => True) hm (by kernel_rfl) (by kernel_rfl) rfl (by decide) ?_ ?_ ?_ ?_
  · have hd := (Ext.refl W0).drew
    exact ⟨HB0.out.ext hd, HS.out.keep (fun p hp => hd.cell (Nat.lt_of_lt_of_le hp HX0.out.size)), HX0.out.trans hd, ⟨_, HB1.out.ext hd, rfl⟩, fun e => by cases e⟩
  · intro d i v w1 w2 hx h
    match i, h with
    | 0, h => exact h
    | 1, h => exact h
    | 2, h => exact h
    | 3, h => exact h
    | 4, h => exact h
    | 5, h => obtain ⟨u, c', h1, h2⟩ := h; exact ⟨u, c', h1, fun e => own_ext (h2 e) hx⟩
    | 6, h => obtain ⟨u, c', h1, h2⟩ := h; exact ⟨u, c', h1, fun e => own_ext (h2 e) hx⟩
    | i + 7, h => exact trivial
  · intro i v w1 w2 h
    match i, h with
    | 0, h => exact h
    | 1, h => exact h
    | 2, h => exact h
    | 3, h => exact h
    | 4, h => exact h
    | 5, h => obtain ⟨u, c', h1, h2⟩ := h; exact ⟨u, c', h1, fun e => by cases e⟩
    | 6, h => obtain ⟨u, c', h1, h2⟩ := h; exact ⟨u, c', h1, fun e => by cases e⟩
    | i + 7, h => exact trivial
  · intro i o ho d b w1 hJd hI hmiss hdep K hK
    match i, ho with
    | 0, ho =>
      obtain rfl := Option.some.inj ho
      refine want_none rfl ?_
      have e1 : b.tmps[1]? = some (.pointer (some ⟨w.heap.size, 0, none⟩)) := hmiss 1 rfl
      exact op_run (by unfold execOp; simp [e1, Act.eval, go_sem]) (hK _ w1 (fun e => by cases e) (fun _ => Ext.refl _) rfl)
    | 1, ho =>
      obtain rfl := Option.some.inj ho
      refine want_none rfl ?_
      obtain ⟨v1, g1, e1⟩ := hdep 0 rfl
      have g1 : v1 = .pointer (some ⟨w.heap.size, 0, none⟩) := g1
      subst g1
      have e1 := e1 4 rfl
      refine wp_load_mid 25 (.tmp 4) rfl w.heap.size 0 (eval_of e1) [.int .i64 g.box.lo.x, .int .i64 g.box.lo.y, .int .i64 g.box.lo.z, .int .i64 g.box.hi.x, .int .i64 g.box.hi.y, .int .i64 g.box.hi.z] _ (fun j v hv => ?_) Tryd.underlying25 rfl (by kernel_rfl) (hK _ w1 (fun e => by cases e) (fun _ => Ext.refl _) rfl)
      rw [Nat.zero_add, hI.src.cell]
      show ([.int .i64 g.box.lo.x, .int .i64 g.box.lo.y, .int .i64 g.box.lo.z, .int .i64 g.box.hi.x, .int .i64 g.box.hi.y, .int .i64 g.box.hi.z] ++ [.slice A g.cells.length c])[j]? = some v
      rw [List.getElem?_append_left (List.getElem?_eq_some_iff.1 hv).1]
      exact hv
    | 2, ho =>
      obtain rfl := Option.some.inj ho
      refine want_none rfl ?_
      have e1 : b.tmps[3]? = some (.slice none 0 0) := hmiss 3 rfl
      exact op_move rfl (eval_of e1) (hK _ w1 (fun e => by cases e) (fun _ => Ext.refl _) rfl)
    | 3, ho =>
      obtain rfl := Option.some.inj ho
      refine want_none rfl ?_
      have e1 : b.tmps[1]? = some (.pointer (some ⟨w.heap.size, 0, none⟩)) := hmiss 1 rfl
      exact op_run (by unfold execOp; simp [e1, Act.eval, go_sem]) (hK _ w1 (fun e => by cases e) (fun _ => Ext.refl _) rfl)
    | 4, ho =>
      obtain rfl := Option.some.inj ho
      refine want_none rfl ?_
      obtain ⟨v1, g1, e1⟩ := hdep 3 rfl
      have g1 : v1 = .pointer (some ⟨w.heap.size, 6, none⟩) := g1
      subst g1
      have e1 := e1 7 rfl
      have d6 := hI.src.cell 6
      have dl := hI.src.lt
      simp only [List.getElem?_cons_zero, List.getElem?_cons_succ] at d6
      exact op_run (by unfold execOp; simp [e1, Act.eval, go_sem, d6]) (hK _ w1 (fun e => by cases e) (fun _ => Ext.refl _) rfl)
    | 5, ho =>
      obtain rfl := Option.some.inj ho
      refine want_none rfl ?_
      obtain ⟨v6, g6, e6⟩ := hdep 2 rfl
      have g6 : v6 = .slice none 0 0 := g6
      subst g6
      have e6 := e6 6 rfl
      obtain ⟨v8, g8, e8⟩ := hdep 4 rfl
      have g8 : v8 = .slice A g.cells.length c := g8
      subst g8
      have e8 := e8 8 rfl
      refine op_append_sv (.tmp 6) (.tmp 8) 26 rfl (w.heap.size + 2) 3 i0 (.int .i64 0) 1 8 Tryd.underlying26 hi hz0 hz1 hz2 rfl (by decide) (.slice none 0 0) 0 [] (eval_of e6) (World.ownsRow_nil _ _ _ _) _ A g.cells.length c (rowsI g.cells) (eval_of e8) hI.cells (rowsI_length _) (by unfold maxLen; omega) (by omega) (by obtain ⟨_, hB, _⟩ := hI.dst; have := hB.lt; omega) (fun v' w' ho hg => ?_)
      have ho' : w'.ownsRow (w.heap.size + 2) 3 1 v' g.cells.length (rowsI g.cells).flatten := by simpa using ho
      obtain ⟨A', c', e, _⟩ := own_form ho'
      exact hK v' w' (fun e => by cases e) (fun _ => (Ext.refl _).grown hg (fun k hk => by simp [Value.ownBlock] at hk)) ⟨A', c', e, fun _ => ho'⟩
    | 6, ho =>
      obtain rfl := Option.some.inj ho
      refine want_none rfl ?_
      obtain ⟨v5, g5, e5⟩ := hdep 1 rfl
      have g5 : v5 = .agg #[.int .i64 g.box.lo.x, .int .i64 g.box.lo.y, .int .i64 g.box.lo.z, .int .i64 g.box.hi.x, .int .i64 g.box.hi.y, .int .i64 g.box.hi.z] := g5
      subst g5
      have e5 := e5 5 rfl
      obtain ⟨v9, ⟨A', c', g9, ho9⟩, e9⟩ := hdep 5 rfl
      subst g9
      have e9 := e9 9 rfl
      exact op_run (by unfold execOp; simp [e5, e9, Act.eval, go_sem]) (hK _ w1 (fun e => by cases e) (fun _ => Ext.refl _) ⟨A', c', rfl, ho9⟩)
    | 7, ho =>
      obtain rfl := Option.some.inj ho
      refine want_none rfl ?_
      obtain rfl : d = false := hJd rfl
      have e2 : b.tmps[2]? = some (.pointer (some ⟨w.heap.size + 1, 0, none⟩)) := hmiss 2 rfl
      obtain ⟨v10, ⟨A', c', g10, ho10⟩, e10⟩ := hdep 6 rfl
      subst g10
      have e10 := e10 10 rfl
      obtain ⟨vs, hB, hvl⟩ := hI.dst
      refine wp_store_row 28 (.tmp 2) (.tmp 10) rfl (w.heap.size + 1) #[.int .i64 g.box.lo.x, .int .i64 g.box.lo.y, .int .i64 g.box.lo.z, .int .i64 g.box.hi.x, .int .i64 g.box.hi.y, .int .i64 g.box.hi.z, .slice A' g.cells.length c'] (eval_of e2) (eval_of e10) _ vs.toArray hB (by kernel_rfl) (by simp [hvl]) (by simp [Value.oneCell']) (hK undef _ (fun _ => ?_) (fun e => absurd rfl e) trivial)
      have hB2 : Arr w1 (w.heap.size + 1) 28 vs := hB
      have hlt := hB2.lt
      have hr := hB2.setRow [.int .i64 g.box.lo.x, .int .i64 g.box.lo.y, .int .i64 g.box.lo.z, .int .i64 g.box.hi.x, .int .i64 g.box.hi.y, .int .i64 g.box.hi.z, .slice A' g.cells.length c']
      have hgr : w1.grownBy (w1.setRow (w.heap.size + 1) #[.int .i64 g.box.lo.x, .int .i64 g.box.lo.y, .int .i64 g.box.lo.z, .int .i64 g.box.hi.x, .int .i64 g.box.hi.y, .int .i64 g.box.hi.z, .slice A' g.cells.length c']) (some (w.heap.size + 1)) := grown_row (grown_refl w1 _) _
      refine ⟨hI.src.setRow_other (g := w.heap.size + 1) (by omega) _, hI.cells.keep (fun p hp => ?_), hI.ext.setRow (g := w.heap.size + 1) (by omega) _, ⟨_, hr, rfl⟩, fun _ => ⟨_, hr, ?_⟩⟩
      · exact World.cell?_of_block (hgr.block p.block (by omega) (fun e => by injection e with e; omega))
      · refine own_keep (ho10 rfl) hgr (fun b hb hbb => ?_)
        injection hb with hb
        have := own_low (ho10 rfl) b hbb
        omega
    | i + 8, ho => cases ho
  · intro V w1 hI hg
    obtain ⟨u, hO⟩ := hI.done rfl
    simp only [List.length_cons, List.length_nil, fillAllN, dstOf, Act.put, List.getElem?_toArray, List.getElem?_cons_zero, List.getElem?_cons_succ, Option.bind_some, List.setIfInBounds_toArray, List.set_cons_zero, List.set_cons_succ]
    go_wp2
    refine bodyPost_ret (v := .agg #[.int .i64 g.box.lo.x, .int .i64 g.box.lo.y, .int .i64 g.box.lo.z, .int .i64 g.box.hi.x, .int .i64 g.box.hi.y, .int .i64 g.box.hi.z, u]) ?_ rfl ⟨u, rfl, own_low_mono (by omega) hO.row, hI.ext⟩
    exact results_cell_row Tryd.results66 _ _ _ _ _ _ _ rfl hO.blk Tryd.underlying28 rfl (by kernel_rfl)
end Go.Proofs.YtelhefjikdoihaaDoor

/- Changes: a change's row; grids written. -/
namespace Go.Proofs.YtelhefjikdoihaaDoor
open Go Go.RowKit

structure Chg where
  at_ : Pt
  old : Int
  new : Int
  deriving DecidableEq
def Chg.cells (x : Chg) : List Value := [.int .i64 x.at_.x, .int .i64 x.at_.y, .int .i64 x.at_.z, .int .i64 x.old, .int .i64 x.new]
def rowsC (cs : List Chg) : List (List Value) := cs.map Chg.cells
theorem rowsC_length (cs : List Chg) : (rowsC cs).length = cs.length := by simp [rowsC]
theorem rowsC_rwk (cs : List Chg) : Rwk 5 (rowsC cs) := fun x hx => by
  obtain ⟨y, _, rfl⟩ := List.mem_map.1 hx
  refine ⟨rfl, fun u hu => ?_⟩
  simp only [Chg.cells, List.mem_cons, List.not_mem_nil, or_false] at hu
  rcases hu with rfl | rfl | rfl | rfl | rfl <;> rfl
theorem chg_row {w : World} {B c j : Nat} {A : Option Addr} {l : List Chg} {x : Chg} (h : Sv w B 5 A c (rowsC l)) (hp : l[j]? = some x) :
    ∃ b off, A = some ⟨b, off, none⟩ ∧ b < B ∧ w.cell? ⟨b, off + j * 5, none⟩ = some (.int .i64 x.at_.x) ∧ w.cell? ⟨b, off + j * 5 + 1, none⟩ = some (.int .i64 x.at_.y) ∧ w.cell? ⟨b, off + j * 5 + 2, none⟩ = some (.int .i64 x.at_.z) ∧ w.cell? ⟨b, off + j * 5 + 3, none⟩ = some (.int .i64 x.old) ∧ w.cell? ⟨b, off + j * 5 + 4, none⟩ = some (.int .i64 x.new) := by
  obtain ⟨b, off, e, hb, hr⟩ := h.row (i := j) (x := x.cells) (by simp [rowsC, hp])
  exact ⟨b, off, e, hb, hr 0 _ rfl, hr 1 _ rfl, hr 2 _ rfl, hr 3 _ rfl, hr 4 _ rfl⟩
/-- One change written into the cells. -/
def setC (b : Bx) (cs : List Int) (x : Chg) : List Int := if inP x.at_ b then cs.set (idxW b x.at_).toNat x.new else cs
theorem setC_length (b : Bx) (cs : List Int) (x : Chg) : (setC b cs x).length = cs.length := by unfold setC; split <;> simp
def writeC (b : Bx) (cs : List Int) (l : List Chg) : List Int := l.foldl (setC b) cs
theorem writeC_length (b : Bx) (l : List Chg) : ∀ cs : List Int, (writeC b cs l).length = cs.length := by
  unfold writeC
  induction l with
  | nil => intro cs; rfl
  | cons x l ih => intro cs; rw [List.foldl_cons, ih, setC_length]
theorem writeC_take {b : Bx} {cs : List Int} {l : List Chg} {k : Nat} {x : Chg} (h : l[k]? = some x) : writeC b cs (l.take (k + 1)) = setC b (writeC b cs (l.take k)) x := by
  unfold writeC
  obtain ⟨hk, rfl⟩ := List.getElem?_eq_some_iff.1 h
  rw [List.take_add_one, List.getElem?_eq_getElem hk, List.foldl_append]
  rfl
def writeG (g : Gr) (l : List Chg) : Gr := { g with cells := writeC g.box g.cells l }
end Go.Proofs.YtelhefjikdoihaaDoor

/- Contracts of the reference's Write and Set. -/
namespace Go.Proofs.YtelhefjikdoihaaDoor
open Go Go.RowKit

theorem own_blt {w : World} {base n k : Nat} {e : TypeId} {v : Value} {zs : List Value} (h : w.ownsRow base e k v n zs) (b : Nat) (hb : v.ownBlock = some b) : b < w.heap.size := by
  rcases h.2 with ⟨rfl, _⟩ | ⟨g, cap, cur, rfl, _, hg, _⟩
  · simp [Value.ownBlock] at hb
  · simp only [Value.ownBlock, Option.some.injEq] at hb
    subst hb
    exact (Array.getElem?_eq_some_iff.1 hg).1
theorem own_at0 {w : World} {base n k : Nat} {e : TypeId} {v : Value} {zs : List Value} (h : w.ownsRow base e k v n zs) (hn : 0 < n) : ∃ g c, v = .slice (some ⟨g, 0, none⟩) n c ∧ n ≤ c ∧ c ≤ maxLen ∧ g < w.heap.size ∧ base ≤ g := by
  rcases h.2 with ⟨_, h0⟩ | ⟨g, cap, cur, rfl, hg, hgg, hle, hmax, _⟩
  · omega
  · exact ⟨g, cap, rfl, hle, hmax, (Array.getElem?_eq_some_iff.1 hgg).1, hg⟩
/-- The state of Write's loop. -/
structure WrS (g : Gr) (A : Option Addr) (c : Nat) (Al : Option Addr) (cl : Nat) (l : List Chg) (w : World) (b5 : Nat) (u : Value) (cs : List Int) (wr : World) : Prop where
  a0 : Arr wr w.heap.size 28 [.int .i64 g.box.lo.x, .int .i64 g.box.lo.y, .int .i64 g.box.lo.z, .int .i64 g.box.hi.x, .int .i64 g.box.hi.y, .int .i64 g.box.hi.z, .slice A g.cells.length c]
  a4 : Arr wr (w.heap.size + 1) 28 [.int .i64 zeroBx.lo.x, .int .i64 zeroBx.lo.y, .int .i64 zeroBx.lo.z, .int .i64 zeroBx.hi.x, .int .i64 zeroBx.hi.y, .int .i64 zeroBx.hi.z, .slice none 0 0]
  a5 : Arr wr b5 28 [.int .i64 g.box.lo.x, .int .i64 g.box.lo.y, .int .i64 g.box.lo.z, .int .i64 g.box.hi.x, .int .i64 g.box.hi.y, .int .i64 g.box.hi.z, u]
  lo : w.heap.size + 2 ≤ b5
  row : wr.ownsRow (w.heap.size + 2) 3 1 u g.cells.length (rowsI cs).flatten
  off : ∀ b, u.ownBlock = some b → b < b5
  len : cs.length = g.cells.length
  ls : Sv wr w.heap.size 5 Al cl (rowsC l)
  ext : Ext w wr
theorem WrS.more {g : Gr} {A : Option Addr} {c : Nat} {Al : Option Addr} {cl : Nat} {l : List Chg} {w : World} {b5 : Nat} {u : Value} {cs : List Int} {wr w2 : World} (h : WrS g A c Al cl l w b5 u cs wr) (hx : Ext wr w2) : WrS g A c Al cl l w b5 u cs w2 :=
  ⟨h.a0.ext hx, h.a4.ext hx, h.a5.ext hx, h.lo, own_ext h.row hx, h.off, h.len, h.ls.keep (fun _p hp => hx.cell (Nat.lt_of_lt_of_le hp h.ext.size)), h.ext.trans hx⟩
theorem rowsI_flat_set (cs : List Int) (j : Nat) (v : Int) : (rowsI cs).flatten.set j (.int .i64 v) = (rowsI (cs.set j v)).flatten := by
  have e : ∀ l : List Int, (rowsI l).flatten = l.map (Value.int .i64) := fun l => by
    induction l with
    | nil => rfl
    | cons x l ih => simp only [rowsI, List.map_cons, List.flatten_cons] at ih ⊢; rw [ih]; rfl
  rw [e, e, List.map_set]
theorem WrS.put {g : Gr} {A : Option Addr} {c : Nat} {Al : Option Addr} {cl : Nat} {l : List Chg} {w : World} {b5 gb c' : Nat} {cs : List Int} {wr : World} (h : WrS g A c Al cl l w b5 (.slice (some ⟨gb, 0, none⟩) g.cells.length c') cs wr) (j : Nat) (v : Int) :
    WrS g A c Al cl l w b5 (.slice (some ⟨gb, 0, none⟩) g.cells.length c') (cs.set j v) (wr.setCell ⟨gb, j, none⟩ (.int .i64 v)) := by
  have h1 := h.off gb rfl
  have h2 := own_low h.row gb rfl
  have hs := h.row.stored j (.int .i64 v)
  refine ⟨h.a0.other (by simp; omega) _, h.a4.other (by simp; omega) _, h.a5.other (by simp; omega) _, h.lo, ?_, h.off, by rw [List.length_set]; exact h.len, h.ls.keep (fun p hp => ?_), h.ext.setCell (by simp; omega) _⟩
  · rw [← rowsI_flat_set]; exact hs.1
  · exact World.cell?_of_block (hs.2.block p.block (by have := h.ext.size; omega) (fun e => by injection e with e; omega))
set_option maxRecDepth 100000 in
set_option maxHeartbeats 4000000 in
theorem Write_any (g : Gr) (A : Option Addr) (c : Nat) (Al : Option Addr) (cl : Nat) (l : List Chg) (w : World) (hs : Sv w w.heap.size 1 A c (rowsI g.cells)) (hl : Sv w w.heap.size 5 Al cl (rowsC l)) (hv : validG g = true) (h5 : g.cells.length ≤ 100000) :
    Calls Tryd.prog 45 #[.agg #[.int .i64 g.box.lo.x, .int .i64 g.box.lo.y, .int .i64 g.box.lo.z, .int .i64 g.box.hi.x, .int .i64 g.box.hi.y, .int .i64 g.box.hi.z, .slice A g.cells.length c], .slice Al l.length cl] w fun e w' => ∃ u, e = .returned (.agg #[.int .i64 g.box.lo.x, .int .i64 g.box.lo.y, .int .i64 g.box.lo.z, .int .i64 g.box.hi.x, .int .i64 g.box.hi.y, .int .i64 g.box.hi.z, u]) ∧ w'.ownsRow w.heap.size 3 1 u g.cells.length (rowsI (writeG g l).cells).flatten ∧ Ext w w' := by
  have hm := mixed
  have hG := near_old
  obtain ⟨sx, sy, sz, G⟩ := good_of hv
  have hll : l.length ≤ 9223372036854775807 := by have h := hl.len; rw [rowsC_length] at h; exact h
  have hx0 : Ext w ((w.alloc (.cells #[.int .i64 g.box.lo.x, .int .i64 g.box.lo.y, .int .i64 g.box.lo.z, .int .i64 g.box.hi.x, .int .i64 g.box.hi.y, .int .i64 g.box.hi.z, .slice A g.cells.length c] 28)).alloc (.cells #[.int .i64 zeroBx.lo.x, .int .i64 zeroBx.lo.y, .int .i64 zeroBx.lo.z, .int .i64 zeroBx.hi.x, .int .i64 zeroBx.hi.y, .int .i64 zeroBx.hi.z, .slice none 0 0] 28)) := ((Ext.refl w).alloc _).alloc _
  have B0 := (Arr.new w 28 [.int .i64 g.box.lo.x, .int .i64 g.box.lo.y, .int .i64 g.box.lo.z, .int .i64 g.box.hi.x, .int .i64 g.box.hi.y, .int .i64 g.box.hi.z, .slice A g.cells.length c]).alloc (.cells #[.int .i64 zeroBx.lo.x, .int .i64 zeroBx.lo.y, .int .i64 zeroBx.lo.z, .int .i64 zeroBx.hi.x, .int .i64 zeroBx.hi.y, .int .i64 zeroBx.hi.z, .slice none 0 0] 28)
  have B1 := Arr.new (w.alloc (.cells #[.int .i64 g.box.lo.x, .int .i64 g.box.lo.y, .int .i64 g.box.lo.z, .int .i64 g.box.hi.x, .int .i64 g.box.hi.y, .int .i64 g.box.hi.z, .slice A g.cells.length c] 28)) 28 [.int .i64 zeroBx.lo.x, .int .i64 zeroBx.lo.y, .int .i64 zeroBx.lo.z, .int .i64 zeroBx.hi.x, .int .i64 zeroBx.hi.y, .int .i64 zeroBx.hi.z, .slice none 0 0]
  rw [World.size_alloc_] at B1
  have hz0 : ((w.alloc (.cells #[.int .i64 g.box.lo.x, .int .i64 g.box.lo.y, .int .i64 g.box.lo.z, .int .i64 g.box.hi.x, .int .i64 g.box.hi.y, .int .i64 g.box.hi.z, .slice A g.cells.length c] 28)).alloc (.cells #[.int .i64 zeroBx.lo.x, .int .i64 zeroBx.lo.y, .int .i64 zeroBx.lo.z, .int .i64 zeroBx.hi.x, .int .i64 zeroBx.hi.y, .int .i64 zeroBx.hi.z, .slice none 0 0] 28)).heap.size = w.heap.size + 2 := by simp only [World.size_alloc_]
  have HB0 := Lib.hid B0; have HB1 := Lib.hid B1; have HX0 := Lib.hid hx0; have HGD := Lib.hid G
  have HZ0 := Lib.hid hz0
  have HCP := Lib.hid (copied_any g A c _ (hs.ext hx0) h5)
  have HLS := Lib.hid (hl.keep (w' := (w.alloc (.cells #[.int .i64 g.box.lo.x, .int .i64 g.box.lo.y, .int .i64 g.box.lo.z, .int .i64 g.box.hi.x, .int .i64 g.box.hi.y, .int .i64 g.box.hi.z, .slice A g.cells.length c] 28)).alloc (.cells #[.int .i64 zeroBx.lo.x, .int .i64 zeroBx.lo.y, .int .i64 zeroBx.lo.z, .int .i64 zeroBx.hi.x, .int .i64 zeroBx.hi.y, .int .i64 zeroBx.hi.z, .slice none 0 0] 28)) (fun p hp => hx0.cell hp))
  clear B0 B1 hx0 hs hv G hl hz0
  go_enter Tryd.func45, Tryd.ntmps45
  go_upto_region 1 with fail
  obtain ⟨W0, hW⟩ : ∃ W, W = (w.alloc (.cells #[.int .i64 g.box.lo.x, .int .i64 g.box.lo.y, .int .i64 g.box.lo.z, .int .i64 g.box.hi.x, .int .i64 g.box.hi.y, .int .i64 g.box.hi.z, .slice A g.cells.length c] 28)).alloc (.cells #[.int .i64 zeroBx.lo.x, .int .i64 zeroBx.lo.y, .int .i64 zeroBx.lo.z, .int .i64 zeroBx.hi.x, .int .i64 zeroBx.hi.y, .int .i64 zeroBx.hi.z, .slice none 0 0] 28) := ⟨_, rfl⟩
  have hW' : W0 = (w.alloc (.cells #[.int .i64 g.box.lo.x, .int .i64 g.box.lo.y, .int .i64 g.box.lo.z, .int .i64 g.box.hi.x, .int .i64 g.box.hi.y, .int .i64 g.box.hi.z, .slice A g.cells.length c] 28)).alloc (.cells #[.int .i64 0, .int .i64 0, .int .i64 0, .int .i64 0, .int .i64 0, .int .i64 0, .slice none 0 0] 28) := hW
  rw [← hW] at HB0 HB1 HX0 HCP HLS HZ0
  rw [← hW']
  clear hW hW'
  go_upto_region 2 with (first
    | (refine wpList_load_blk 28 (.tmp 2) rfl rfl HB0.out rfl _ Tryd.underlying28 rfl (by kernel_rfl) ?_)
    | (go_at_call 66; refine HCP.out.mono ?_; rintro e W1 ⟨u, rfl, o1, x1⟩; obtain ⟨A', c', rfl, _⟩ := own_form o1)
    | (refine wpList_store_blk 28 (.tmp 5) (.tmp 9) rfl rfl (Arr.new W1 28 [.int .i64 0, .int .i64 0, .int .i64 0, .int .i64 0, .int .i64 0, .int .i64 0, .slice none 0 0]) [.int .i64 g.box.lo.x, .int .i64 g.box.lo.y, .int .i64 g.box.lo.z, .int .i64 g.box.hi.x, .int .i64 g.box.hi.y, .int .i64 g.box.hi.z, .slice A' g.cells.length c'] rfl rfl (by kernel_rfl) rfl rfl ?_))
  have hS2 : WrS g A c Al cl l w W1.heap.size (.slice A' g.cells.length c') g.cells ((W1.alloc (.cells #[.int .i64 zeroBx.lo.x, .int .i64 zeroBx.lo.y, .int .i64 zeroBx.lo.z, .int .i64 zeroBx.hi.x, .int .i64 zeroBx.hi.y, .int .i64 zeroBx.hi.z, .slice none 0 0] 28)).setRow W1.heap.size #[.int .i64 g.box.lo.x, .int .i64 g.box.lo.y, .int .i64 g.box.lo.z, .int .i64 g.box.hi.x, .int .i64 g.box.hi.y, .int .i64 g.box.hi.z, .slice A' g.cells.length c']) := by
    have hz := HZ0.out
    have hsz := x1.size
    have hxa : Ext W1 ((W1.alloc (.cells #[.int .i64 zeroBx.lo.x, .int .i64 zeroBx.lo.y, .int .i64 zeroBx.lo.z, .int .i64 zeroBx.hi.x, .int .i64 zeroBx.hi.y, .int .i64 zeroBx.hi.z, .slice none 0 0] 28)).setRow W1.heap.size #[.int .i64 g.box.lo.x, .int .i64 g.box.lo.y, .int .i64 g.box.lo.z, .int .i64 g.box.hi.x, .int .i64 g.box.hi.y, .int .i64 g.box.hi.z, .slice A' g.cells.length c']) := ((Ext.refl W1).alloc _).setRow (Nat.le_refl _) _
    exact ⟨HB0.out.ext (x1.trans hxa), HB1.out.ext (x1.trans hxa), (Arr.new W1 _ [.int .i64 zeroBx.lo.x, .int .i64 zeroBx.lo.y, .int .i64 zeroBx.lo.z, .int .i64 zeroBx.hi.x, .int .i64 zeroBx.hi.y, .int .i64 zeroBx.hi.z, .slice none 0 0]).setRow [.int .i64 g.box.lo.x, .int .i64 g.box.lo.y, .int .i64 g.box.lo.z, .int .i64 g.box.hi.x, .int .i64 g.box.hi.y, .int .i64 g.box.hi.z, .slice A' g.cells.length c'], by omega, by have h := own_ext o1 hxa; rwa [hz] at h, fun b hb => own_blt o1 b hb, rfl, HLS.out.keep (fun p hp => (x1.trans hxa).cell (by omega)), HX0.out.trans (x1.trans hxa)⟩
  obtain ⟨b5, hb5⟩ : ∃ b, b = W1.heap.size := ⟨_, rfl⟩
  obtain ⟨W2, hW⟩ : ∃ W, W = (W1.alloc (.cells #[.int .i64 zeroBx.lo.x, .int .i64 zeroBx.lo.y, .int .i64 zeroBx.lo.z, .int .i64 zeroBx.hi.x, .int .i64 zeroBx.hi.y, .int .i64 zeroBx.hi.z, .slice none 0 0] 28)).setRow W1.heap.size #[.int .i64 g.box.lo.x, .int .i64 g.box.lo.y, .int .i64 g.box.lo.z, .int .i64 g.box.hi.x, .int .i64 g.box.hi.y, .int .i64 g.box.hi.z, .slice A' g.cells.length c'] := ⟨_, rfl⟩
  have hW' : W2 = (W1.alloc (.cells #[.int .i64 0, .int .i64 0, .int .i64 0, .int .i64 0, .int .i64 0, .int .i64 0, .slice none 0 0] 28)).setRow W1.heap.size #[.int .i64 g.box.lo.x, .int .i64 g.box.lo.y, .int .i64 g.box.lo.z, .int .i64 g.box.hi.x, .int .i64 g.box.hi.y, .int .i64 g.box.hi.z, .slice A' g.cells.length c'] := hW
  rw [← hW, ← hb5] at hS2
  rw [← hW', ← hb5]
  have HS2 := Lib.hid hS2
  clear hW hW' hb5 hS2 o1 x1 HB0 HB1 HX0 HCP HLS HZ0
  clear W1
  go_wp2_with fail
  go_loopw [6] (fun i wr => ∃ k : Nat, i = .int .i64 k ∧ k ≤ l.length ∧ WrS g A c Al cl l w b5 (.slice A' g.cells.length c') (writeC g.box g.cells (l.take k)) wr) (fun i _ => l.length - (intOf i).toNat)
  case atStart => exact ⟨0, rfl, Nat.zero_le _, HS2.out⟩
  case round =>
    obtain ⟨k, rfl, hk, hS⟩ := hrel
    have hwz := hS.ext.size
    by_cases hlt : k < l.length
    · obtain ⟨x, hx⟩ : ∃ x, l[k]? = some x := ⟨_, List.getElem?_eq_getElem hlt⟩
      have HN := Lib.hid (writeC_take (b := g.box) (cs := g.cells) hx)
      obtain ⟨b, off, rfl, hbl, r0, r1, r2, r3, r4⟩ := chg_row hS.ls hx
      have hbl : b < wr.heap.size := by omega
      have HI := Lib.hid (fun w' => refIndex_any g.box x.at_ w')
      have HS := Lib.hid hS
      have d0 := hS.a0.cell 0
      have d1 := hS.a0.cell 1
      have d2 := hS.a0.cell 2
      have d3 := hS.a0.cell 3
      have d4 := hS.a0.cell 4
      have d5 := hS.a0.cell 5
      have lb := hS.a0.lt
      simp only [List.getElem?_cons_zero, List.getElem?_cons_succ] at d0 d1 d2 d3 d4 d5
      clear hx hS
      cases hin : inP x.at_ g.box
      · rw [hin] at HI
        have HN := Lib.hid (HN.out.trans (show _ = writeC g.box g.cells (l.take k) by unfold setC; rw [hin]; rfl))
        clear hin
        go_upto_region 5 with fail
        refine wp_region_near (by assumption) (by kernel_rfl) ?_
        repeat (go_big_quiet_step ((go_at_call 44; exact near_call (HI.out _))))
        refine wpQuiet_nil ?_
        intro w1 hw1
        have hy := Ext.of_near hw1
        clear hw1
        have HS5 := Lib.hid (HS.out.more hy)
        clear hy d0 d1 d2 d3 d4 d5 lb r0 r1 r2 r3 r4
        go_wp2
        go_roundw
        case rel => exact ⟨k + 1, by go_num, by omega, by rw [HN.out]; exact HS5.out⟩
        case measure => simp [intOf]; omega
      · have hid := (HGD.out.idx hin).1
        have hw := HGD.out.idxW hin
        obtain ⟨j, hj⟩ : ∃ j, j = idxG g sx sy x.at_ := ⟨_, rfl⟩
        rw [← hj] at hid hw
        rw [hin, hw] at HI
        simp only [if_true] at HI
        have HN := Lib.hid (HN.out.trans (show _ = (writeC g.box g.cells (l.take k)).set j x.new by unfold setC; rw [hin, hw]; rfl))
        obtain ⟨gb, c2, h2, hnc, hcm, hgl, hgb⟩ := own_at0 HS.out.row (by omega)
        injection h2 with h2 _ h3
        subst h2 h3
        have hgo := HS.out.off gb rfl
        clear hin hw hj
        go_upto_region 5 with fail
        refine wp_region_near (by assumption) (by kernel_rfl) ?_
        repeat (go_big_quiet_step ((go_at_call 44; exact near_call (HI.out _))))
        refine wpQuiet_nil ?_
        intro w1 hw1
        have hy := Ext.of_near hw1
        clear hw1
        have HS5 := Lib.hid (HS.out.more hy)
        have r4 := (hy.cell (p := ⟨b, off + k * 5 + 4, none⟩) hbl).trans r4
        have hbl := Nat.lt_of_lt_of_le hbl hy.size
        have hwz := HS5.out.ext.size
        have g6 := HS5.out.a5.cell 6
        have lg := HS5.out.a5.lt
        simp only [List.getElem?_cons_zero, List.getElem?_cons_succ] at g6
        clear hy d0 d1 d2 d3 d4 d5 lb r0 r1 r2 r3 HS
        obtain ⟨W5, hW⟩ : ∃ W, W = w1 := ⟨_, rfl⟩
        rw [← hW] at HS5 r4 hbl hwz g6 lg
        rw [← hW]
        clear hW
        go_upto_region 7 with fail
        refine wp_region_near_tail 9 (by assumption) (by kernel_rfl) ?_
        simp only [List.take_succ_cons, List.take_zero, List.drop_succ_cons, List.drop_zero]
        repeat (go_big_quiet_step (fail))
        refine wpQuiet_nil ?_
        intro w1 hw1
        have hy := Ext.of_near hw1
        clear hw1
        have HS7 := Lib.hid (HS5.out.more hy)
        clear hy r4 hbl hwz g6 lg HS5
        obtain ⟨v0, q0⟩ := own_slot HS7.out.row j (by omega)
        have q1 := HS7.out.row.frozenAt j
        go_wp2
        go_roundw
        case rel => exact ⟨k + 1, by go_num, by omega, by rw [HN.out]; exact HS7.out.put j x.new⟩
        case measure => simp [intOf]; omega
    · obtain rfl : k = l.length := by omega
      rw [List.take_length] at hS
      have HS := Lib.hid hS
      clear hS
      go_wp2_with (first
        | (refine wpList_load_blk 28 (.tmp 5) rfl rfl HS.out.a5 rfl _ Tryd.underlying28 rfl (by kernel_rfl) ?_)
        | (refine wpList_store_blk 28 (.tmp 4) (.tmp 35) rfl rfl HS.out.a4 [.int .i64 g.box.lo.x, .int .i64 g.box.lo.y, .int .i64 g.box.lo.z, .int .i64 g.box.hi.x, .int .i64 g.box.hi.y, .int .i64 g.box.hi.z, .slice A' g.cells.length c'] rfl rfl (by kernel_rfl) rfl rfl ?_))
      have hgr : wr.grownBy (wr.setRow (w.heap.size + 1) #[.int .i64 g.box.lo.x, .int .i64 g.box.lo.y, .int .i64 g.box.lo.z, .int .i64 g.box.hi.x, .int .i64 g.box.hi.y, .int .i64 g.box.hi.z, .slice A' g.cells.length c']) (some (w.heap.size + 1)) := grown_row (grown_refl wr _) _
      have ho : (wr.setRow (w.heap.size + 1) #[.int .i64 g.box.lo.x, .int .i64 g.box.lo.y, .int .i64 g.box.lo.z, .int .i64 g.box.hi.x, .int .i64 g.box.hi.y, .int .i64 g.box.hi.z, .slice A' g.cells.length c']).ownsRow w.heap.size 3 1 (.slice A' g.cells.length c') g.cells.length (rowsI (writeG g l).cells).flatten := own_low_mono (by omega) (own_keep HS.out.row hgr (fun b hb hbb => by injection hb with hb; have := own_low HS.out.row b hbb; omega))
      refine bodyPost_ret (v := .agg #[.int .i64 g.box.lo.x, .int .i64 g.box.lo.y, .int .i64 g.box.lo.z, .int .i64 g.box.hi.x, .int .i64 g.box.hi.y, .int .i64 g.box.hi.z, .slice A' g.cells.length c']) ?_ rfl ⟨_, rfl, ho, HS.out.ext.setRow (g := w.heap.size + 1) (by omega) _⟩
      exact results_cell_row Tryd.results45 _ _ _ _ _ _ _ rfl (HS.out.a4.setRow [.int .i64 g.box.lo.x, .int .i64 g.box.lo.y, .int .i64 g.box.lo.z, .int .i64 g.box.hi.x, .int .i64 g.box.hi.y, .int .i64 g.box.hi.z, .slice A' g.cells.length c']) Tryd.underlying28 rfl (by kernel_rfl)
set_option maxRecDepth 100000 in
set_option maxHeartbeats 4000000 in
theorem Set_any (g : Gr) (A : Option Addr) (c : Nat) (p : Pt) (v : Int) (w : World) (hs : Sv w w.heap.size 1 A c (rowsI g.cells)) (hv : validG g = true) (h5 : g.cells.length ≤ 100000) :
    Calls Tryd.prog 29 #[.agg #[.int .i64 g.box.lo.x, .int .i64 g.box.lo.y, .int .i64 g.box.lo.z, .int .i64 g.box.hi.x, .int .i64 g.box.hi.y, .int .i64 g.box.hi.z, .slice A g.cells.length c], .agg #[.int .i64 p.x, .int .i64 p.y, .int .i64 p.z], .int .i64 v] w fun e w' => ∃ u, e = .returned (.agg #[.int .i64 g.box.lo.x, .int .i64 g.box.lo.y, .int .i64 g.box.lo.z, .int .i64 g.box.hi.x, .int .i64 g.box.hi.y, .int .i64 g.box.hi.z, u]) ∧ w'.ownsRow w.heap.size 3 1 u g.cells.length (rowsI (writeG g [⟨p, 0, v⟩]).cells).flatten ∧ Ext w w' := by
  have hx0 : Ext w (((w.alloc (.cells #[.int .i64 g.box.lo.x, .int .i64 g.box.lo.y, .int .i64 g.box.lo.z, .int .i64 g.box.hi.x, .int .i64 g.box.hi.y, .int .i64 g.box.hi.z, .slice A g.cells.length c] 28)).alloc (.cells #[.int .i64 p.x, .int .i64 p.y, .int .i64 p.z] 23)).alloc (.cells #[.int .i64 zeroBx.lo.x, .int .i64 zeroBx.lo.y, .int .i64 zeroBx.lo.z, .int .i64 zeroBx.hi.x, .int .i64 zeroBx.hi.y, .int .i64 zeroBx.hi.z, .slice none 0 0] 28)) := (((Ext.refl w).alloc _).alloc _).alloc _
  have B0 := ((Arr.new w 28 [.int .i64 g.box.lo.x, .int .i64 g.box.lo.y, .int .i64 g.box.lo.z, .int .i64 g.box.hi.x, .int .i64 g.box.hi.y, .int .i64 g.box.hi.z, .slice A g.cells.length c]).alloc (.cells #[.int .i64 p.x, .int .i64 p.y, .int .i64 p.z] 23)).alloc (.cells #[.int .i64 zeroBx.lo.x, .int .i64 zeroBx.lo.y, .int .i64 zeroBx.lo.z, .int .i64 zeroBx.hi.x, .int .i64 zeroBx.hi.y, .int .i64 zeroBx.hi.z, .slice none 0 0] 28)
  have B1 := (Arr.new (w.alloc (.cells #[.int .i64 g.box.lo.x, .int .i64 g.box.lo.y, .int .i64 g.box.lo.z, .int .i64 g.box.hi.x, .int .i64 g.box.hi.y, .int .i64 g.box.hi.z, .slice A g.cells.length c] 28)) 23 [.int .i64 p.x, .int .i64 p.y, .int .i64 p.z]).alloc (.cells #[.int .i64 zeroBx.lo.x, .int .i64 zeroBx.lo.y, .int .i64 zeroBx.lo.z, .int .i64 zeroBx.hi.x, .int .i64 zeroBx.hi.y, .int .i64 zeroBx.hi.z, .slice none 0 0] 28)
  have B2 := Arr.new ((w.alloc (.cells #[.int .i64 g.box.lo.x, .int .i64 g.box.lo.y, .int .i64 g.box.lo.z, .int .i64 g.box.hi.x, .int .i64 g.box.hi.y, .int .i64 g.box.hi.z, .slice A g.cells.length c] 28)).alloc (.cells #[.int .i64 p.x, .int .i64 p.y, .int .i64 p.z] 23)) 28 [.int .i64 zeroBx.lo.x, .int .i64 zeroBx.lo.y, .int .i64 zeroBx.lo.z, .int .i64 zeroBx.hi.x, .int .i64 zeroBx.hi.y, .int .i64 zeroBx.hi.z, .slice none 0 0]
  simp only [World.size_alloc_] at B1 B2
  have HB0 := Lib.hid B0; have HB1 := Lib.hid B1; have HB2 := Lib.hid B2; have HX0 := Lib.hid hx0
  have HS := Lib.hid (hs.ext hx0)
  have HV := Lib.hid hv
  clear B0 B1 B2 hx0 hs hv
  go_enter Tryd.func29, Tryd.ntmps29
  go_upto_region 1 with fail
  obtain ⟨W0, hW⟩ : ∃ W, W = ((w.alloc (.cells #[.int .i64 g.box.lo.x, .int .i64 g.box.lo.y, .int .i64 g.box.lo.z, .int .i64 g.box.hi.x, .int .i64 g.box.hi.y, .int .i64 g.box.hi.z, .slice A g.cells.length c] 28)).alloc (.cells #[.int .i64 p.x, .int .i64 p.y, .int .i64 p.z] 23)).alloc (.cells #[.int .i64 zeroBx.lo.x, .int .i64 zeroBx.lo.y, .int .i64 zeroBx.lo.z, .int .i64 zeroBx.hi.x, .int .i64 zeroBx.hi.y, .int .i64 zeroBx.hi.z, .slice none 0 0] 28) := ⟨_, rfl⟩
  have hW' : W0 = ((w.alloc (.cells #[.int .i64 g.box.lo.x, .int .i64 g.box.lo.y, .int .i64 g.box.lo.z, .int .i64 g.box.hi.x, .int .i64 g.box.hi.y, .int .i64 g.box.hi.z, .slice A g.cells.length c] 28)).alloc (.cells #[.int .i64 p.x, .int .i64 p.y, .int .i64 p.z] 23)).alloc (.cells #[.int .i64 0, .int .i64 0, .int .i64 0, .int .i64 0, .int .i64 0, .int .i64 0, .slice none 0 0] 28) := hW
  rw [← hW] at HB0 HB1 HB2 HX0 HS
  rw [← hW']
  clear hW hW'
  have hxl : Ext W0 (W0.alloc (.cells ([.int .i64 p.x, .int .i64 p.y, .int .i64 p.z, .int .i64 0, .int .i64 v] : List Value).toArray 77)) := (Ext.refl W0).alloc _
  have hsl : Sv (W0.alloc (.cells ([.int .i64 p.x, .int .i64 p.y, .int .i64 p.z, .int .i64 0, .int .i64 v] : List Value).toArray 77)) (W0.alloc (.cells ([.int .i64 p.x, .int .i64 p.y, .int .i64 p.z, .int .i64 0, .int .i64 v] : List Value).toArray 77)).heap.size 5 (some ⟨W0.heap.size, 0, none⟩) 1 (rowsC [⟨p, 0, v⟩]) :=
    ⟨by simp [rowsC], by decide, rowsC_rwk _, fun _ => ⟨W0.heap.size, 0, rfl, by simp, fun j u hu => by
      rw [Nat.zero_add, cell_of_row _ _ _ _ _ _ (heap_alloc_new W0 _)]
      simpa [rowsC, Chg.cells] using hu⟩⟩
  have HWR := Lib.hid (Write_any g A c _ 1 [⟨p, 0, v⟩] _ (HS.out.ext hxl) hsl HV.out h5)
  have HXL := Lib.hid hxl
  clear hsl hxl
  go_upto_region 2 with (first
    | (refine wpList_load_blk 28 (.tmp 3) rfl rfl HB0.out rfl _ Tryd.underlying28 rfl (by kernel_rfl) ?_)
    | (refine wpList_load_blk 23 (.tmp 4) rfl rfl HB1.out rfl _ Tryd.underlying23 rfl (by kernel_rfl) ?_)
    | (refine wpList_buildRow rfl 78 77 11 rfl 5 (by decide) (by decide) ([.int .i64 p.x, .int .i64 p.y, .int .i64 p.z, .int .i64 0, .int .i64 v]) rfl rfl Tryd.underlying78 (by kernel_rfl) (by kernel_rfl) ?_)
    | (go_at_call 45; refine HWR.out.mono ?_; rintro e W1 ⟨u, rfl, o1, x1⟩; obtain ⟨A', c', rfl, _⟩ := own_form o1)
    | (refine wpList_store_blk 28 (.tmp 6) (.tmp 12) rfl rfl (HB2.out.ext (HXL.out.trans x1)) [.int .i64 g.box.lo.x, .int .i64 g.box.lo.y, .int .i64 g.box.lo.z, .int .i64 g.box.hi.x, .int .i64 g.box.hi.y, .int .i64 g.box.hi.z, .slice A' g.cells.length c'] rfl rfl (by kernel_rfl) rfl rfl ?_))
  have hz := HB2.out.lt
  have hsz := (HXL.out.trans x1).size
  have hgr : W1.grownBy (W1.setRow (w.heap.size + 1 + 1) #[.int .i64 g.box.lo.x, .int .i64 g.box.lo.y, .int .i64 g.box.lo.z, .int .i64 g.box.hi.x, .int .i64 g.box.hi.y, .int .i64 g.box.hi.z, .slice A' g.cells.length c']) (some (w.heap.size + 1 + 1)) := grown_row (grown_refl W1 _) _
  have ho : (W1.setRow (w.heap.size + 1 + 1) #[.int .i64 g.box.lo.x, .int .i64 g.box.lo.y, .int .i64 g.box.lo.z, .int .i64 g.box.hi.x, .int .i64 g.box.hi.y, .int .i64 g.box.hi.z, .slice A' g.cells.length c']).ownsRow w.heap.size 3 1 (.slice A' g.cells.length c') g.cells.length (rowsI (writeG g [⟨p, 0, v⟩]).cells).flatten := own_low_mono (by have := HXL.out.size; omega) (own_keep o1 hgr (fun b hb hbb => by injection hb with hb; have := own_low o1 b hbb; have := HXL.out.size; omega))
  go_wp2
  refine bodyPost_ret (v := .agg #[.int .i64 g.box.lo.x, .int .i64 g.box.lo.y, .int .i64 g.box.lo.z, .int .i64 g.box.hi.x, .int .i64 g.box.hi.y, .int .i64 g.box.hi.z, .slice A' g.cells.length c']) ?_ rfl ⟨_, rfl, ho, (HX0.out.trans (HXL.out.trans x1)).setRow (g := w.heap.size + 1 + 1) (by omega) _⟩
  exact results_cell_row Tryd.results29 _ _ _ _ _ _ _ rfl ((HB2.out.ext (HXL.out.trans x1)).setRow [.int .i64 g.box.lo.x, .int .i64 g.box.lo.y, .int .i64 g.box.lo.z, .int .i64 g.box.hi.x, .int .i64 g.box.hi.y, .int .i64 g.box.hi.z, .slice A' g.cells.length c']) Tryd.underlying28 rfl (by kernel_rfl)
end Go.Proofs.YtelhefjikdoihaaDoor

/- Plain: the field of a grid one of whose cells is set; the rest of a row without one place. -/
namespace Go.Proofs.YtelhefjikdoihaaDoor
open Go Go.RowKit

def setG (g : Gr) (p : Pt) (v : Int) : Gr := writeG g [⟨p, 0, v⟩]
theorem setG_box (g : Gr) (p : Pt) (v : Int) : (setG g p v).box = g.box := rfl
theorem setG_len (g : Gr) (p : Pt) (v : Int) : (setG g p v).cells.length = g.cells.length := by unfold setG writeG; rw [writeC_length]
theorem setG_cells (g : Gr) (p : Pt) (v : Int) : (setG g p v).cells = setC g.box g.cells ⟨p, 0, v⟩ := rfl
theorem fld_setG {g : Gr} (hv : validG g = true) (p : Pt) (v : Int) : fld (setG g p v) = updF (fld g) p v := by
  obtain ⟨sx, sy, sz, G⟩ := good_of hv
  funext q
  cases hq : inP q g.box
  · have h1 : fld g q = none := fld_out hq
    have h2 : fld (setG g p v) q = none := fld_out (g := setG g p v) hq
    rw [h2]
    unfold updF
    rw [h1]
    split <;> rfl
  · have hk := (G.idx hq).1
    have hw := G.idxW hq
    by_cases hqp : q = p
    · subst hqp
      have hF : ∃ u, fld g q = some u := by obtain ⟨u, h, _⟩ := G.fld_in hq; exact ⟨u, h⟩
      obtain ⟨u, hF⟩ := hF
      rw [updF_at hF]
      unfold fld
      rw [setG_box, if_pos hq, hw, setG_cells]
      unfold setC
      simp only [hq, if_true, hw]
      show some ((g.cells.set (idxG g sx sy q) v).getD (idxG g sx sy q) 0) = some v
      rw [List.getD_eq_getElem?_getD, List.getElem?_set_self hk]
      rfl
    · rw [updF_ne hqp]
      unfold fld
      rw [setG_box, if_pos hq, if_pos hq, hw, setG_cells]
      unfold setC
      cases hp : inP p g.box
      · rfl
      · have hne : idxG g sx sy p ≠ idxG g sx sy q := fun e => hqp (G.inj hp hq e).symm
        simp only [if_true, G.idxW hp]
        show some ((g.cells.set (idxG g sx sy p) v).getD (idxG g sx sy q) 0) = some (g.cells.getD (idxG g sx sy q) 0)
        rw [List.getD_eq_getElem?_getD, List.getElem?_set_ne hne, List.getD_eq_getElem?_getD]
theorem valid_setG {g : Gr} (hv : validG g = true) (p : Pt) {v : Int} (h : 0 ≤ v ∧ v < 256) : validG (setG g p v) = true := by
  unfold validG at hv ⊢
  simp only [Bool.and_eq_true] at hv ⊢
  refine ⟨hv.1, hv.2.1, ?_, ?_⟩
  · have h1 := hv.2.2.1
    unfold shapeG at h1 ⊢
    rw [setG_len, setG_box]
    exact h1
  · have h1 := hv.2.2.2
    rw [List.all_eq_true] at h1 ⊢
    intro x hx
    rw [setG_cells] at hx
    unfold setC at hx
    split at hx
    · rcases List.mem_or_eq_of_mem_set hx with h2 | rfl
      · exact h1 x h2
      · simp [matN]; omega
    · exact h1 x hx
/-- A row without its place k. -/
def dropAt (l : List Pt) (k : Nat) : List Pt := l.take k ++ l.drop (k + 1)
theorem dropAt_length {l : List Pt} {k : Nat} (h : k < l.length) : (dropAt l k).length = l.length - 1 := by unfold dropAt; simp; omega
theorem dropAt_mem {l : List Pt} {k : Nat} {p : Pt} (hk : l[k]? = some p) (hd : l.Nodup) (q : Pt) : q ∈ dropAt l k ↔ q ∈ l ∧ q ≠ p := by
  have e : l = l.take k ++ (p :: l.drop (k + 1)) := by
    obtain ⟨hkl, rfl⟩ := List.getElem?_eq_some_iff.1 hk
    rw [← List.drop_eq_getElem_cons hkl, List.take_append_drop]
  unfold dropAt
  rw [e, List.nodup_append] at hd
  obtain ⟨h1, h2, h3⟩ := hd
  rw [List.nodup_cons] at h2
  have hq : q ∈ l ↔ q ∈ l.take k ++ (p :: l.drop (k + 1)) := by rw [← e]
  rw [hq]
  clear hq e
  simp only [List.mem_append, List.mem_cons]
  constructor
  · rintro (hq | hq)
    · exact ⟨.inl hq, h3 q hq _ (List.mem_cons_self ..)⟩
    · exact ⟨.inr (.inr hq), fun he => h2.1 (he ▸ hq)⟩
  · rintro ⟨hq | rfl | hq, hne⟩
    · exact .inl hq
    · exact absurd rfl hne
    · exact .inr hq
theorem dropAt_sort {l : List Pt} {k : Nat} (hs : SortP l) : SortP (dropAt l k) := by
  refine List.Pairwise.sublist ?_ hs
  unfold dropAt
  conv => rhs; rw [← List.take_append_drop k l]
  exact List.Sublist.append (List.Sublist.refl _) (by rw [← List.drop_drop]; exact List.drop_sublist _ _)
theorem parts_each {l : List Pt} {ps : List (List Pt)} (h : IsParts l ps) {r : List Pt} (hr : r ∈ ps) : ∃ b, r[0]? = some b ∧ b ∈ l ∧ IsReg (setF l) 1 b r := by
  obtain ⟨m, hm, hp⟩ := h.ex
  obtain ⟨p, hp1, hp2⟩ := hp.reg (fun q hq => (hm.mem q).1 hq) r hr
  have hpr : p ∈ r := (hp2.mem p).2 .base
  have hF : setF l p = some 1 := setF_iff.2 hp1
  obtain ⟨b, hb⟩ : ∃ b, r[0]? = some b := ⟨_, List.getElem?_eq_getElem (List.length_pos_of_mem hpr)⟩
  have hbr := List.mem_of_getElem? hb
  exact ⟨b, hb, setF_iff.1 (((hp2.mem b).1 hbr).val hF), hp2.other hF hbr⟩
theorem parts_sum {l : List Pt} {ps : List (List Pt)} (h : IsParts l ps) (hd : l.Nodup) : ps.flatten.length = l.length := by
  obtain ⟨m, hm, hp⟩ := h.ex
  have hsub : ∀ q, q ∈ m → q ∈ l := fun q hq => (hm.mem q).1 hq
  refine Nat.le_antisymm (hp.len hsub) (nodup_sub hd (fun x hx => ?_))
  obtain ⟨j, hj⟩ := List.getElem?_of_mem ((hm.mem x).2 hx)
  exact hp.all j x (List.getElem?_eq_some_iff.1 hj).1 hj
theorem flatten_take_sum (ps : List (List Pt)) {i : Nat} {r : List Pt} (h : ps[i]? = some r) : (ps.take (i + 1)).flatten.length = (ps.take i).flatten.length + r.length := by
  obtain ⟨hi, rfl⟩ := List.getElem?_eq_some_iff.1 h
  rw [List.take_add_one, List.getElem?_eq_getElem hi, List.flatten_append, List.length_append]
  simp
def lenTo (ps : List (List Pt)) (k : Nat) : Nat := (ps.take k).flatten.length
theorem lenTo_succ (ps : List (List Pt)) {i : Nat} {r : List Pt} (h : ps[i]? = some r) : lenTo ps (i + 1) = lenTo ps i + r.length := flatten_take_sum ps h
theorem lenTo_all (ps : List (List Pt)) : lenTo ps ps.length = ps.flatten.length := by unfold lenTo; rw [List.take_length]
theorem lenTo_le (ps : List (List Pt)) (k : Nat) : lenTo ps k ≤ ps.flatten.length := by
  unfold lenTo
  conv => rhs; rw [← List.take_append_drop k ps, List.flatten_append, List.length_append]
  omega
end Go.Proofs.YtelhefjikdoihaaDoor

/- A region that draws its order with one changing operation J, after which a fact holds of the value of an operation k0 that J waits for. An append onto a fresh empty row. -/
namespace Go.Proofs.YtelhefjikdoihaaDoor
open Go Go.RowKit

section
variable {P : Program}
/-- Operation j waits for i, through others too. -/
def needB (ops : Array Oper) : Nat → Nat → Nat → Bool
  | 0, _, _ => false
  | f + 1, j, i => match ops[j]? with
    | some o => o.after.any fun e => Region.binds .any e && (e.on == i || needB ops f e.on i)
    | none => false
def ClosedL (ops : Array Oper) (listed : Array Bool) : Prop := ∀ (j : Nat) (o : Oper), ops[j]? = some o → listed.getD j true = true → ∀ e, e ∈ o.after → Region.binds .any e = true → listed.getD e.on true = true
theorem need_done {ops : Array Oper} {listed : Array Bool} (hc : ClosedL ops listed) : ∀ (f j i : Nat), needB ops f j i = true → listed.getD j true = true → listed.getD i true = true
  | 0, _, _, h, _ => by cases h
  | f + 1, j, i, h, hj => by
    unfold needB at h
    split at h
    next o ho =>
      simp only [Array.any_eq_true, Bool.and_eq_true, Bool.or_eq_true, beq_iff_eq] at h
      obtain ⟨k, hk, hb, h1⟩ := h
      have h2 := hc j o ho hj _ (Array.getElem_mem hk) hb
      rcases h1 with h1 | h1
      · rw [← h1]; exact h2
      · exact need_done hc f _ i h1 h2
    next => cases h
theorem wp_region_fin {Q : Exit → Act → World → Prop} {id : Nat} {a : Act} {w : World} {l : List Oper} (J : Nat) (Good : Bool → Nat → Value → World → Prop) (k0 dk : Nat) (Fin : Value → World → Prop) (hm : P.follows .mixedOrders = true) (hs : slotsB l.toArray = true) (hb : backB2 l.toArray = true) (hfit : ((List.range l.length).all fun j => match dstOf l.toArray j with | some d => decide (d < a.tmps.size) | none => true) = true)
    (hJl : J < l.length) (hdk : dstOf l.toArray k0 = some dk) (hJk : ∃ o, l[J]? = some o ∧ waits o k0 = true)
    (hst : ∀ d i v w1 w2, Ext w1 w2 → Good d i v w1 → Good d i v w2) (hup : ∀ i v w1 w2, Good false i v w1 → Good true i v w2) (hF : ∀ v w1 w2, Ext w1 w2 → Fin v w1 → Fin v w2)
    (hstep : ∀ (i : Nat) (o : Oper), l[i]? = some o → ∀ (d : Bool) (b : Act) (w1 : World), (i = J → d = false) → (needB l.toArray l.length J i = true → d = false) → Ext w w1 → (∀ d : Nat, missB l.toArray d = true → b.tmps[d]? = a.tmps[d]?) →
      (∀ j, waits o j = true → ∃ v, Good d j v w1 ∧ ∀ d, dstOf l.toArray j = some d → b.tmps[d]? = some v) →
      ∀ K : Act → World → Prop, (∀ v w', Ext w w' → (i ≠ J → Ext w1 w') → (i = J → ∀ v0, b.tmps[dk]? = some v0 → Fin v0 w') → Good (decide (i = J) || d) i v w' → K (b.put o.dst v) w') → if Region.wanted o (yielded l.toArray b.tmps) = true then o.wp P b w1 K Q else K (b.put o.dst undef) w1)
    (hend : ∀ (V : Nat → Value) (w1 : World), Ext w w1 → (∀ i, i < l.length → Good true i (V i) w1) → Fin (V k0) w1 → Q .normal (fillAllN l.toArray V a l.length) w1) : (Code.region id l.toArray true).wp P Q a w := by
  have hS := slotsB_spec hs
  have hB := backB2_spec hb
  obtain ⟨oJ, hoJ, hwJ⟩ := hJk
  obtain ⟨eJ, heJ, hek, hbJ⟩ := waits_spec hwJ
  have hk0 : k0 < J := by rw [← hek]; exact hB J oJ (by simpa using hoJ) eJ heJ hbJ
  refine wp_region_tabg2 (G := Nat → Value) (fun g => g) (fun w listed g w1 => Ext w w1 ∧ (∀ i, i < l.length → listed.getD i true = true → Good (listed.getD J true) i (g i) w1) ∧ (listed.getD J true = true → listed.getD k0 true = true ∧ Fin (g k0) w1) ∧ ClosedL l.toArray listed) (fun _ => undef) hm hS hB ?_ ?_ ?_
  · refine ⟨(Ext.refl _).drew, fun i hi h => ?_, fun h => ?_, fun j o ho h => ?_⟩
    · have : (Array.replicate l.length false).getD i true = false := by simp [Array.getD, hi]
      rw [this] at h
      cases h
    · have : (Array.replicate l.length false).getD J true = false := by simp [Array.getD, hJl]
      rw [this] at h
      cases h
    · have hj := (Array.getElem?_eq_some_iff.1 ho).1
      have : (Array.replicate l.length false).getD j true = false := by simp only [List.size_toArray] at hj; simp [Array.getD, hj]
      rw [this] at h
      cases h
  · intro listed g w1 i o ho hun hdep hR K hK
    have hil : i < l.length := (List.getElem?_eq_some_iff.1 ho).1
    refine hstep i o ho (listed.getD J true) (fill l.toArray g listed a) w1 (fun e => by subst e; exact hun) (fun hn => by
      cases hJ : listed.getD J true
      · rfl
      · have h1 := need_done hR.2.2.2 _ _ _ hn hJ
        rw [hun] at h1
        cases h1) hR.1 (fun d hd => fill_miss (fun i hi _ => missB_spec hd i hi)) (fun j hj => ?_) K (fun v w' hx hx1 hfin hg => ?_)
    · obtain ⟨e, he, rfl, hbd⟩ := waits_spec hj
      have h1 := getD_up (hdep e he hbd)
      have h2 : e.on < l.length := by have := hB i o (by simpa using ho) e he hbd; omega
      refine ⟨g e.on, hR.2.1 _ h2 h1, fun d hd => fill_hit hS (by simpa using h2) h1 hd ?_⟩
      rw [List.all_eq_true] at hfit
      have h3 := hfit e.on (List.mem_range.2 h2)
      rw [hd] at h3
      simpa using h3
    · have h := hK (fun k => if k = i then v else g k) w' ⟨hx, fun j hj hl => ?_, fun hl => ?_, fun j o' ho' hl e he hbd => ?_⟩ (fun j hj hl => ?_)
      · simpa using h
      · by_cases hiJ : i = J
        · subst hiJ
          have e1 : (listed.setIfInBounds i true).getD i true = true := by
            simp only [Array.getD]
            split <;> simp
          rw [e1]
          rw [hun] at hR hg
          by_cases hji : j = i
          · subst hji; simpa using hg
          · simp only [if_neg hji]
            rw [getD_set_ne true (Ne.symm hji)] at hl
            exact hup _ _ _ _ (hR.2.1 j hj hl)
        · rw [getD_set_ne true hiJ]
          by_cases hji : j = i
          · subst hji; simpa [hiJ] using hg
          · simp only [if_neg hji]
            rw [getD_set_ne true (Ne.symm hji)] at hl
            exact hst _ _ _ _ _ (hx1 hiJ) (hR.2.1 j hj hl)
      · by_cases hiJ : i = J
        · subst hiJ
          obtain rfl : oJ = o := by rw [hoJ] at ho; injection ho
          have h1 := getD_up (hdep eJ heJ hbJ)
          rw [hek] at h1
          have hne : k0 ≠ i := by omega
          refine ⟨by rw [getD_set_ne true (Ne.symm hne)]; exact h1, ?_⟩
          simp only [if_neg hne]
          refine hfin rfl _ (fill_hit hS (by simp; omega) h1 hdk ?_)
          rw [List.all_eq_true] at hfit
          have h3 := hfit k0 (List.mem_range.2 (by omega))
          rw [hdk] at h3
          simpa using h3
        · rw [getD_set_ne true hiJ] at hl
          have h2 := hR.2.2.1 hl
          have hne : i ≠ k0 := fun e => by subst e; rw [hun] at h2; cases h2.1
          refine ⟨by rw [getD_set_ne true hne]; exact h2.1, ?_⟩
          simp only [if_neg (Ne.symm hne)]
          exact hF _ _ _ (hx1 hiJ) h2.2
      · have hs1 : ∀ k, listed.getD k true = true → (listed.setIfInBounds i true).getD k true = true := fun k hk => by
          by_cases hki : i = k
          · subst hki; rw [hun] at hk; cases hk
          · rw [getD_set_ne true hki]; exact hk
        by_cases hji : i = j
        · subst hji
          obtain rfl : o' = o := by rw [show l.toArray[i]? = l[i]? by simp, ho] at ho'; injection ho' with h; exact h.symm
          exact hs1 _ (getD_up (hdep e he hbd))
        · rw [getD_set_ne true hji] at hl
          exact hs1 _ (hR.2.2.2 j o' ho' hl e he hbd)
      · have hne : j ≠ i := fun e => by subst e; rw [hl] at hun; cases hun
        simp only [if_neg hne]
  · intro listed g w1 hall hR
    rw [fill_done hall]
    have hd := hall J hJl
    have h2 := hR.2
    rw [hd] at h2
    exact hend g w1 hR.1 (fun i hi => h2.1 i hi (hall i hi)) (h2.2.1 rfl).2
end
section
variable {P : Program} (w : World)
theorem run_append_of0 (base : Nat) (t ty e : TypeId) (i : TypeInfo) (size : Nat) (ht : P.underlying t = some (.slice e)) (hi : P.info? e = some i)
    (v : Value) (n : Nat) (xs : List Value) (hown : w.ownsRow base e size v n xs) (a : Addr) (c : Nat) : (Builtin.append_ #[t, t] ty #[v, .slice (some a) 0 c]).run P w = .ok v w := by
  rcases hown.2 with ⟨rfl, rfl⟩ | ⟨g, cap, cur, rfl, _, _, hnc, _⟩
  · simp [Builtin.append_, run_underlying ht, sizeOf, typeInfo, hi, Builtin.lenOf, Builtin.firstCells, loadCells, loadCellsFrom]
  · simp [Builtin.append_, run_underlying ht, sizeOf, typeInfo, hi, Builtin.lenOf, Builtin.firstCells, hnc, storeCells, loadCells, loadCellsFrom]
/-- Onto a fresh empty row: nothing that was there turns. -/
theorem run_append_zero (base : Nat) (t ty e : TypeId) (i : TypeInfo) (z : Value) (size bytes : Nat) (ht : P.underlying t = some (.slice e)) (hi : P.info? e = some i) (hz : i.zero = some z)
    (hsize : i.size = size) (hby : i.bytes = bytes) (hzs : z.cells.size = size) (hsz : 0 < size)
    (b : Nat) (hown : w.ownsRow base e size (.slice (some ⟨b, 0, none⟩) 0 0) 0 [])
    (B : Nat) (A : Option Addr) (m c : Nat) (news : List (List Value)) (hr : Sv w B size A c news) (hm : news.length = m)
    (h63 : m ≤ maxLen) (hbytes : m * bytes ≤ 140737488355328) (hbase : base ≤ w.heap.size) :
    ∃ v' w', (Builtin.append_ #[t, t] ty #[.slice (some ⟨b, 0, none⟩) 0 0, .slice A m c]).run P w = .ok v' w' ∧ w'.ownsRow base e size v' m news.flatten ∧ Ext w w' := by
  rcases A with _ | ad
  · have hn : news = [] := by
      rcases Nat.eq_zero_or_pos news.length with h0 | h0
      · exact List.eq_nil_of_length_eq_zero h0
      · obtain ⟨b, off, h, _⟩ := hr.mem h0
        cases h
    subst hn
    subst hm
    exact ⟨_, w, run_append_ofnil w base t ty e i size ht hi _ 0 [] hown c, by simpa using hown, Ext.refl _⟩
  · rcases Nat.eq_zero_or_pos m with rfl | hpos
    · have hn : news = [] := List.eq_nil_of_length_eq_zero hm
      subst hn
      exact ⟨_, w, run_append_of0 w base t ty e i size ht hi _ 0 [] hown ad c, by simpa using hown, Ext.refl _⟩
    · obtain ⟨v', w', h1, h2, _, _⟩ := run_append_sv (P := P) w base t ty e i z size bytes ht hi hz hsize hby hzs hsz _ 0 [] hown B (some ad) m c news hr hm (by omega) (by rw [Nat.zero_add]; exact hbytes) hbase
      refine ⟨v', w', h1, by simpa using h2, ?_⟩
      have hr2 := run_append_grow (P := P) (w := w) t ty e i z ht hi hz ⟨b, 0, none⟩ 0 0 [] (by simp) (fun j u hu => by simp at hu) ad m c news.flatten (by rw [hsize, flatten_length _ hr.rows.len, hm]) hr.news (by omega) (by unfold maxLen at h63; omega) (growslice_fits (by omega) (by rw [hby]; simpa using hbytes))
      rw [h1] at hr2
      injection hr2 with e1 e2
      subst e2
      exact ((Ext.refl w).drew).alloc _
end
section
variable {P : Program} {o : Oper} {b : Act} {w1 : World} {K : Act → World → Prop} {Q : Exit → Act → World → Prop}
theorem op_append_zero (s x : Operand) (t : TypeId) (ho : o.op = .call { callee := .builtin .append, args := #[s, x], argTypes := #[t, t] })
    (base : Nat) (e : TypeId) (i : TypeInfo) (z : Value) (size bytes : Nat) (ht : P.underlying t = some (.slice e)) (hi : P.info? e = some i) (hz : i.zero = some z)
    (hsize : i.size = size) (hby : i.bytes = bytes) (hzs : z.cells.size = size) (hsz : 0 < size)
    (bk : Nat) (hs : b.eval s = .slice (some ⟨bk, 0, none⟩) 0 0) (hown : w1.ownsRow base e size (.slice (some ⟨bk, 0, none⟩) 0 0) 0 [])
    (B : Nat) (A : Option Addr) (m c : Nat) (news : List (List Value)) (hx : b.eval x = .slice A m c) (hr : Sv w1 B size A c news) (hm : news.length = m)
    (h63 : m ≤ maxLen) (hbytes : m * bytes ≤ 140737488355328) (hbase : base ≤ w1.heap.size)
    (h : ∀ v' w', w'.ownsRow base e size v' m news.flatten → Ext w1 w' → K (b.put o.dst v') w') : o.wp P b w1 K Q := by
  obtain ⟨v', w', hrun, r1, r2⟩ := run_append_zero (P := P) w1 base t o.type e i z size bytes ht hi hz hsize hby hzs hsz bk hown B A m c news hr hm h63 hbytes hbase
  unfold Oper.wp
  simp [execOp, ho, resolve, invoke, builtin, hs, hx, hrun, Result.andThen]
  exact h v' w' r1 r2
end
theorem own_ne_arr {w : World} {base n k fb : Nat} {e t : TypeId} {v : Value} {zs vs : List Value} (O : w.ownsRow base e k v n zs) (B : Arr w fb t vs) (hne : e ≠ t) : v.ownBlock ≠ some fb := fun h => by
  rcases O.2 with ⟨rfl, _⟩ | ⟨g, cap, cur, rfl, _, hg, _⟩
  · simp [Value.ownBlock] at h
  · simp only [Value.ownBlock, Option.some.injEq] at h
    subst h
    unfold Arr at B
    rw [hg] at B
    injection B with B
    injection B with _ B _
    exact hne B
/-- 'of' without a word about the cells. -/
theorem of_blk (g : Gr) (A : Option Addr) (c : Nat) (w : World) :
    Calls Tryd.prog 11 #[.agg #[.int .i64 g.box.lo.x, .int .i64 g.box.lo.y, .int .i64 g.box.lo.z, .int .i64 g.box.hi.x, .int .i64 g.box.hi.y, .int .i64 g.box.hi.z, .slice A g.cells.length c]] w fun e w' => ∃ fb, w.heap.size ≤ fb ∧ fb < w'.heap.size ∧ e = .returned (.pointer (some ⟨fb, 0, none⟩)) ∧ Ext w w' := by
  go_enter Tryd.func11, Tryd.ntmps11
  go_upto_region 1 with fail
  obtain ⟨W0, hW⟩ : ∃ W, W = w.alloc (.cells #[.int .i64 g.box.lo.x, .int .i64 g.box.lo.y, .int .i64 g.box.lo.z, .int .i64 g.box.hi.x, .int .i64 g.box.hi.y, .int .i64 g.box.hi.z, .slice A g.cells.length c] 28) := ⟨_, rfl⟩
  have hx0 : Ext w W0 := by rw [hW]; exact (Ext.refl w).alloc _
  have B0 : Arr W0 w.heap.size 28 [.int .i64 g.box.lo.x, .int .i64 g.box.lo.y, .int .i64 g.box.lo.z, .int .i64 g.box.hi.x, .int .i64 g.box.hi.y, .int .i64 g.box.hi.z, .slice A g.cells.length c] := by rw [hW]; exact Arr.new w _ _
  rw [← hW]
  clear hW
  have cB0 := B0.cell
  have fB0 := B0.frozen
  have lB0 := B0.lt
  have HB := Lib.hid B0
  clear cB0 fB0 lB0 B0
  have hsz := hx0.size
  go_wp2_with (first | (refine wpList_load_blk 28 (.tmp 1) rfl rfl HB.out rfl _ Tryd.underlying28 rfl (by kernel_rfl) ?_))
  go_ret
  exact ⟨W0.heap.size, hsz, by simp, rfl, hx0.alloc _⟩
theorem SetG_any (g : Gr) (A : Option Addr) (c : Nat) (p : Pt) (v : Int) (w : World) (hs : Sv w w.heap.size 1 A c (rowsI g.cells)) (hv : validG g = true) (h5 : g.cells.length ≤ 100000) :
    Calls Tryd.prog 29 #[.agg #[.int .i64 g.box.lo.x, .int .i64 g.box.lo.y, .int .i64 g.box.lo.z, .int .i64 g.box.hi.x, .int .i64 g.box.hi.y, .int .i64 g.box.hi.z, .slice A g.cells.length c], .agg #[.int .i64 p.x, .int .i64 p.y, .int .i64 p.z], .int .i64 v] w fun e w' => ∃ A' c', e = .returned (.agg #[.int .i64 ((setG g p v).box).lo.x, .int .i64 ((setG g p v).box).lo.y, .int .i64 ((setG g p v).box).lo.z, .int .i64 ((setG g p v).box).hi.x, .int .i64 ((setG g p v).box).hi.y, .int .i64 ((setG g p v).box).hi.z, .slice A' (setG g p v).cells.length c']) ∧ w'.ownsRow w.heap.size 3 1 (.slice A' (setG g p v).cells.length c') (setG g p v).cells.length (rowsI (setG g p v).cells).flatten ∧ Sv w' w'.heap.size 1 A' c' (rowsI (setG g p v).cells) ∧ Ext w w' :=
  (Set_any g A c p v w hs hv h5).mono fun e w' ⟨u, h1, h2, h3⟩ => by
    obtain ⟨A', c', rfl, _⟩ := own_form h2
    have h2 : w'.ownsRow w.heap.size 3 1 (.slice A' (setG g p v).cells.length c') (setG g p v).cells.length (rowsI (setG g p v).cells).flatten := by rw [setG_len]; exact h2
    refine ⟨A', c', ?_, h2, Sv.of_own h2 (rowsI_rwk _) (rowsI_length _), h3⟩
    rw [h1, setG_len]
    rfl
end Go.Proofs.YtelhefjikdoihaaDoor

/- FillIsCutOff. -/
namespace Go.Proofs.YtelhefjikdoihaaDoor
open Go Go.RowKit

set_option maxRecDepth 100000 in
set_option maxHeartbeats 16000000 in
theorem FillIsCutOff_any (g : Gr) (A : Option Addr) (c : Nat) (a : Pt) (n : Int) (p : Pt) (cv : Int) (w : World) (hs : Sv w w.heap.size 1 A c (rowsI g.cells)) (hn : 0 ≤ n ∧ n ≤ 255) (hv8 : 0 ≤ cv ∧ cv ≤ 255) (hst : StepsIn w) :
    Calls Tryd.prog 7 #[.agg #[.int .i64 g.box.lo.x, .int .i64 g.box.lo.y, .int .i64 g.box.lo.z, .int .i64 g.box.hi.x, .int .i64 g.box.hi.y, .int .i64 g.box.hi.z, .slice A g.cells.length c], .agg #[.int .i64 a.x, .int .i64 a.y, .int .i64 a.z], .int .u8 n, .agg #[.int .i64 p.x, .int .i64 p.y, .int .i64 p.z], .int .u8 cv] w fun e w' => e = .returned (.bool true) ∧ Ext w w' := by
  have hm := mixed
  have hG := near_old
  obtain ⟨i0, hi0, hz0, hz1, hz2⟩ := info_parts infoPt
  have HI0 := Lib.hid hi0; have HZ0 := Lib.hid hz0; have HZ1 := Lib.hid hz1; have HZ2 := Lib.hid hz2
  clear hi0 hz0 hz1 hz2
  have hx0 : Ext w (((w.alloc (.cells #[.int .i64 g.box.lo.x, .int .i64 g.box.lo.y, .int .i64 g.box.lo.z, .int .i64 g.box.hi.x, .int .i64 g.box.hi.y, .int .i64 g.box.hi.z, .slice A g.cells.length c] 28)).alloc (.cells #[.int .i64 a.x, .int .i64 a.y, .int .i64 a.z] 23)).alloc (.cells #[.int .i64 p.x, .int .i64 p.y, .int .i64 p.z] 23)) := (((Ext.refl w).alloc _).alloc _).alloc _
  have B0 := ((Arr.new w 28 [.int .i64 g.box.lo.x, .int .i64 g.box.lo.y, .int .i64 g.box.lo.z, .int .i64 g.box.hi.x, .int .i64 g.box.hi.y, .int .i64 g.box.hi.z, .slice A g.cells.length c]).alloc (.cells #[.int .i64 a.x, .int .i64 a.y, .int .i64 a.z] 23)).alloc (.cells #[.int .i64 p.x, .int .i64 p.y, .int .i64 p.z] 23)
  have B1 := (Arr.new (w.alloc (.cells #[.int .i64 g.box.lo.x, .int .i64 g.box.lo.y, .int .i64 g.box.lo.z, .int .i64 g.box.hi.x, .int .i64 g.box.hi.y, .int .i64 g.box.hi.z, .slice A g.cells.length c] 28)) 23 [.int .i64 a.x, .int .i64 a.y, .int .i64 a.z]).alloc (.cells #[.int .i64 p.x, .int .i64 p.y, .int .i64 p.z] 23)
  have B2 := Arr.new ((w.alloc (.cells #[.int .i64 g.box.lo.x, .int .i64 g.box.lo.y, .int .i64 g.box.lo.z, .int .i64 g.box.hi.x, .int .i64 g.box.hi.y, .int .i64 g.box.hi.z, .slice A g.cells.length c] 28)).alloc (.cells #[.int .i64 a.x, .int .i64 a.y, .int .i64 a.z] 23)) 23 [.int .i64 p.x, .int .i64 p.y, .int .i64 p.z]
  simp only [World.size_alloc_] at B1 B2
  have HB0 := Lib.hid B0; have HB1 := Lib.hid B1; have HB2 := Lib.hid B2; have HX0 := Lib.hid hx0; have HS := Lib.hid hs; have HST := Lib.hid hst
  clear B0 B1 B2 hx0
  have HFE := Lib.hid (fun (w' : World) (hx : Ext w w') => Few_any g A c w' (hs.ext hx))
  clear hs hst
  generalize hf : (decide (g.cells.length ≤ 200) && validG g) = bf at HFE
  have HF := Lib.hid hf
  clear hf
  have hwn : IntKind.i64.wrap n = n := by have h1 : IntKind.i64.bits = 64 := rfl; have h2 : IntKind.i64.signed = true := rfl; simp [IntKind.wrap, h1, h2]; omega
  have hwv : IntKind.i64.wrap cv = cv := by have h1 : IntKind.i64.bits = 64 := rfl; have h2 : IntKind.i64.signed = true := rfl; simp [IntKind.wrap, h1, h2]; omega
  go_enter Tryd.func7, Tryd.ntmps7
  go_upto_region 1 with fail
  obtain ⟨W0, hW⟩ : ∃ W, W = (((w.alloc (.cells #[.int .i64 g.box.lo.x, .int .i64 g.box.lo.y, .int .i64 g.box.lo.z, .int .i64 g.box.hi.x, .int .i64 g.box.hi.y, .int .i64 g.box.hi.z, .slice A g.cells.length c] 28)).alloc (.cells #[.int .i64 a.x, .int .i64 a.y, .int .i64 a.z] 23)).alloc (.cells #[.int .i64 p.x, .int .i64 p.y, .int .i64 p.z] 23)) := ⟨_, rfl⟩
  rw [← hW] at HB0 HB1 HB2 HX0
  rw [← hW]
  clear hW
  go_upto_region 2 with (go_at_call 8; refine (sanity_any _ (HST.out.ext HX0.out)).mono ?_; rintro e W1 ⟨rfl, x1⟩)
  have HB0 := Lib.hid (HB0.out.ext x1); have HB1 := Lib.hid (HB1.out.ext x1); have HB2 := Lib.hid (HB2.out.ext x1); have HX0 := Lib.hid (HX0.out.trans x1)
  clear x1
  cases bf
  · go_wp2_with (first
      | (refine wpList_load_blk 28 (.tmp 5) rfl rfl HB0.out rfl _ Tryd.underlying28 rfl (by kernel_rfl) ?_)
      | (go_at_call 9; refine (HFE.out _ HX0.out).mono ?_; rintro e W2 ⟨rfl, x2⟩))
    go_ret
    exact ⟨rfl, HX0.out.trans x2⟩
  · have hf := HF.out
    rw [Bool.and_eq_true, decide_eq_true_eq] at hf
    obtain ⟨h200, hv⟩ := hf
    have HV := Lib.hid hv; have H200 := Lib.hid h200
    obtain ⟨sx, sy, sz, G⟩ := good_of hv
    have HGD := Lib.hid G
    clear hv h200 G
    go_upto_region 4 with (first
      | (refine wpList_load_blk 28 (.tmp 5) rfl rfl HB0.out rfl _ Tryd.underlying28 rfl (by kernel_rfl) ?_)
      | (go_at_call 9; refine (HFE.out _ HX0.out).mono ?_; rintro e W2 ⟨rfl, x2⟩))
    have HB0 := Lib.hid (HB0.out.ext x2); have HB1 := Lib.hid (HB1.out.ext x2); have HB2 := Lib.hid (HB2.out.ext x2); have HX := Lib.hid (HX0.out.trans x2)
    have HSW := Lib.hid (HS.out.ext HX.out); have HSTW := Lib.hid (HST.out.ext HX.out)
    clear x2
    refine wp_region_flow (w := W2) 4 (fun d i v w' => match i with
        | 0 => v = .agg #[.int .i64 g.box.lo.x, .int .i64 g.box.lo.y, .int .i64 g.box.lo.z, .int .i64 g.box.hi.x, .int .i64 g.box.hi.y, .int .i64 g.box.hi.z, .slice A g.cells.length c]
        | 1 => OfG g (A) c W2 (fun v => v) d v w'
        | 2 => OfG g (A) c W2 (fun v => .iface 35 v) d v w'
        | 3 => v = .agg #[.int .i64 a.x, .int .i64 a.y, .int .i64 a.z]
        | 4 => d = true ∧ GT (FloodOut (fld g) a 200) v w'
        | 5 => d = true ∧ GT (FloodOut (fld g) a 200) v w'
        | 6 => d = true ∧ G0 (FloodOut (fld g) a 200) v w'
        | 7 => d = true ∧ G1 (FloodOut (fld g) a 200) v
        | 8 => d = true ∧ G0 (FloodOut (fld g) a 200) v w'
        | 9 => d = true ∧ G1 (FloodOut (fld g) a 200) v
        | _ => True) hm (by kernel_rfl) (by kernel_rfl) rfl ?_ ?_ ?_ ?_
    · intro d i v w1 w2 hx h
      match i, h with
      | 0, h => exact h
      | 1, h => exact OfG.ext h hx
      | 2, h => exact OfG.ext h hx
      | 3, h => exact h
      | 4, h => exact ⟨h.1, h.2.ext hx⟩
      | 5, h => exact ⟨h.1, h.2.ext hx⟩
      | 6, h => exact ⟨h.1, h.2.ext hx⟩
      | 7, h => exact h
      | 8, h => exact ⟨h.1, h.2.ext hx⟩
      | 9, h => exact h
      | i + 10, h => exact trivial
    · intro i v w1 w2 h
      match i, h with
      | 0, h => exact h
      | 1, h => exact OfG.up h
      | 2, h => exact OfG.up h
      | 3, h => exact h
      | 4, h => exact absurd h.1 (by simp)
      | 5, h => exact absurd h.1 (by simp)
      | 6, h => exact absurd h.1 (by simp)
      | 7, h => exact absurd h.1 (by simp)
      | 8, h => exact absurd h.1 (by simp)
      | 9, h => exact absurd h.1 (by simp)
      | i + 10, h => exact trivial
    · intro i o ho d b w1 hJd hx hmiss hdep K hK
      match i, ho with
      | 0, ho =>
        obtain rfl := Option.some.inj ho
        refine want_none rfl ?_
        have e5 : b.tmps[5]? = some (.pointer (some ⟨w.heap.size, 0, none⟩)) := hmiss 5 rfl
        exact op_loadrow rfl (eval_of e5) (HB0.out.ext hx) _ Tryd.underlying28 rfl (by kernel_rfl) (hK _ w1 hx (fun _ => Ext.refl _) rfl)
      | 1, ho =>
        obtain rfl := Option.some.inj ho
        refine want_none rfl ?_
        obtain ⟨v33, g33, e33⟩ := hdep 0 rfl
        have g33 : v33 = .agg #[.int .i64 g.box.lo.x, .int .i64 g.box.lo.y, .int .i64 g.box.lo.z, .int .i64 g.box.hi.x, .int .i64 g.box.hi.y, .int .i64 g.box.hi.z, .slice A g.cells.length c] := g33
        subst g33
        have e33 := e33 33 rfl
        have hc := (of_any g (A) c w1 (HSW.out.ext hx)).mono (R' := fun e w' => ∃ v, e = .returned v ∧ (Ext w1 w' ∧ OfG g (A) c W2 (fun v => v) d v w')) fun e w' ⟨fb, h1, h2, h3, h4, h5⟩ => ⟨_, h3, h5, fb, rfl, Nat.le_trans hx.size h1, fun _ => h4⟩
        exact op_callG rfl (by simp [eval_of e33]) (fun _ _ => by kernel_rfl) hc (fun v w' h => hK v w' (hx.trans h.1) (fun _ => h.1) h.2)
      | 2, ho =>
        obtain rfl := Option.some.inj ho
        refine want_none rfl ?_
        obtain ⟨v1, g1, e1⟩ := hdep 1 rfl
        obtain ⟨fb, g1, g2, g3⟩ := g1
        subst g1
        have e1 := e1 34 rfl
        exact op_run (by unfold execOp; simp [e1, Act.eval, go_sem]) (hK _ w1 hx (fun _ => Ext.refl _) ⟨fb, rfl, g2, g3⟩)
      | 3, ho =>
        obtain rfl := Option.some.inj ho
        refine want_none rfl ?_
        have e6 : b.tmps[6]? = some (.pointer (some ⟨w.heap.size + 1, 0, none⟩)) := hmiss 6 rfl
        exact op_loadrow rfl (eval_of e6) (HB1.out.ext hx) _ Tryd.underlying23 rfl (by kernel_rfl) (hK _ w1 hx (fun _ => Ext.refl _) rfl)
      | 4, ho =>
        obtain rfl := Option.some.inj ho
        refine want_none rfl ?_
        obtain rfl : d = false := hJd rfl
        obtain ⟨v1, ⟨fb, g1, f1, fc⟩, e1⟩ := hdep 2 rfl
        subst g1
        have e1 := e1 35 rfl
        obtain ⟨v36, g36, e36⟩ := hdep 3 rfl
        have g36 : v36 = .agg #[.int .i64 a.x, .int .i64 a.y, .int .i64 a.z] := g36
        subst g36
        have e36 := e36 36 rfl
        have hc := (floodG_any HV.out H200.out (fc rfl) hx f1 HSTW.out a 200).mono (R' := fun e w' => ∃ v, e = .returned v ∧ (Ext W2 w' ∧ GT (FloodOut (fld g) a 200) v w')) fun e w' ⟨l, er, A', c', k, h1, h2, h3, h4, h5, h6⟩ => ⟨_, h3, h6, l, er, A', c', h1, rfl, h4⟩
        exact op_callG rfl (by first | (simp [eval_of e1, eval_of e36]; done) | (simp [eval_of e1, eval_of e36]; rfl)) (fun _ _ => by kernel_rfl) hc (fun v w' h => hK v w' h.1 (fun e => absurd rfl e) ⟨rfl, h.2⟩)
      | 5, ho =>
        obtain rfl := Option.some.inj ho
        refine want_none rfl ?_
        obtain ⟨v1, g1, e1⟩ := hdep 4 rfl
        have e1 := e1 37 rfl
        exact op_move rfl (eval_of e1) (hK _ w1 hx (fun _ => Ext.refl _) g1)
      | 6, ho =>
        obtain rfl := Option.some.inj ho
        refine want_none rfl ?_
        obtain ⟨v1, g1, e1⟩ := hdep 5 rfl
        have e1 := e1 32 rfl
        obtain ⟨gd, l, er, A', c', h1, h2, h3⟩ := g1
        subst h2
        exact op_run (by unfold execOp; simp [e1, Act.eval, go_sem]) (hK _ w1 hx (fun _ => Ext.refl _) ⟨gd, l, er, A', c', h1, rfl, h3⟩)
      | 7, ho =>
        obtain rfl := Option.some.inj ho
        refine want_none rfl ?_
        obtain ⟨v1, g1, e1⟩ := hdep 5 rfl
        have e1 := e1 32 rfl
        obtain ⟨gd, l, er, A', c', h1, h2, h3⟩ := g1
        subst h2
        exact op_run (by unfold execOp; simp [e1, Act.eval, go_sem]) (hK _ w1 hx (fun _ => Ext.refl _) ⟨gd, l, er, h1, rfl⟩)
      | 8, ho =>
        obtain rfl := Option.some.inj ho
        refine want_none rfl ?_
        obtain ⟨v1, g1, e1⟩ := hdep 6 rfl
        have e1 := e1 38 rfl
        exact op_assign rfl (eval_of e1) (hK _ w1 hx (fun _ => Ext.refl _) g1)
      | 9, ho =>
        obtain rfl := Option.some.inj ho
        refine want_none rfl ?_
        obtain ⟨v1, g1, e1⟩ := hdep 7 rfl
        have e1 := e1 39 rfl
        exact op_assign rfl (eval_of e1) (hK _ w1 hx (fun _ => Ext.refl _) g1)
      | i + 10, ho => cases ho
    · intro V4 W4 hx hg
      obtain ⟨_, l, er1, A4, c4, hP, q0, s4⟩ := hg 8 (by decide)
      obtain ⟨_, l2, er, hP2, q1⟩ := hg 9 (by decide)
      obtain ⟨e1, e2⟩ := hP.uniq hP2
      subst e1 e2
      simp only [List.length_cons, List.length_nil, fillAllN, dstOf, Act.put, List.getElem?_toArray, List.getElem?_cons_zero, List.getElem?_cons_succ, Option.bind_some, List.setIfInBounds_toArray, List.set_cons_zero, List.set_cons_succ, q0, q1]
      clear hg q0 q1 hP2
      have hcl : (g.cells.length : Int) ≤ 200 := by have := H200.out; omega
      rcases floodOut_all HV.out hcl hP with ⟨_, _, rfl, rfl⟩ | ⟨vv, hF, hin, hreg, rfl⟩
      · go_wp2
        go_ret
        exact ⟨rfl, HX.out.trans hx⟩
      · have HF2 := Lib.hid hF; have HIN := Lib.hid hin; have HRG := Lib.hid hreg; have HL := Lib.hid s4
        have hll : l.length ≤ 200 := Nat.le_trans (fld_fin g HV.out l hreg.sort.nodup (fun q hq => by rw [((hreg.mem q).1 hq).val hF]; simp)) H200.out
        have hpos : 0 < l.length := List.length_pos_of_mem ((hreg.mem a).2 .base)
        have hln : l.length ≤ 9223372036854775807 := by omega
        have hnz : ((l.length : Int) == 0) = false := by rw [beq_eq_false_iff_ne]; omega
        have HLI := Lib.hid (show ∀ q, q ∈ l → fld g q = some vv from fun q hq => ((hreg.mem q).1 hq).val hF)
        clear hP s4 hF hin hreg
        have HB0 := Lib.hid (HB0.out.ext hx)
        have HB1 := Lib.hid (HB1.out.ext hx)
        have HB2 := Lib.hid (HB2.out.ext hx)
        have HX := Lib.hid (HX.out.trans hx)
        have HSW := Lib.hid (HS.out.ext HX.out); have HSTW := Lib.hid (HST.out.ext HX.out)
        clear hx
        have HGT := Lib.hid (get_any HGD.out A c a W4 HSW.out HF2.out)
        go_upto_region 8 with (first
          | (refine wpList_load_blk 28 (.tmp 5) rfl rfl HB0.out rfl _ Tryd.underlying28 rfl (by kernel_rfl) ?_)
          | (refine wpList_load_blk 23 (.tmp 6) rfl rfl HB1.out rfl _ Tryd.underlying23 rfl (by kernel_rfl) ?_)
          | (go_at_call 27; refine HGT.out.mono ?_; rintro e W5 ⟨rfl, x5⟩))
        clear HGT
        have HB0 := Lib.hid (HB0.out.ext x5)
        have HB1 := Lib.hid (HB1.out.ext x5)
        have HB2 := Lib.hid (HB2.out.ext x5)
        have HL := Lib.hid (HL.out.ext x5)
        have HX := Lib.hid (HX.out.trans x5)
        have HSW := Lib.hid (HS.out.ext HX.out); have HSTW := Lib.hid (HST.out.ext HX.out)
        clear x5
        by_cases hcv : cv = vv
        · subst hcv
          go_wp2
          go_ret
          exact ⟨rfl, HX.out⟩
        · have HCV := Lib.hid hcv
          have hcv2 : (cv == vv) = false := by simpa using hcv
          clear hcv
          have HHA := Lib.hid (Has_any A4 c4 l p W5 HL.out)
          obtain ⟨j, hj, hrem⟩ : ∃ j : Nat, j < l.length ∧ Int.tmod n (l.length : Int) = (j : Int) := ⟨n.toNat % l.length, Nat.mod_lt _ hpos, by obtain ⟨m0, hm0⟩ := Int.eq_ofNat_of_zero_le hn.1; rw [hm0]; rfl⟩
          obtain ⟨q, hq⟩ : ∃ q, l[j]? = some q := ⟨_, List.getElem?_eq_getElem hj⟩
          have HQ := Lib.hid hq
          clear hq
          generalize hhb : decide (p ∈ l) = hb at HHA
          have HHB := Lib.hid hhb
          clear hhb
          cases hb
          · go_upto_region 11 with (first
              | (refine wpList_load_blk 23 (.tmp 8) rfl rfl HB2.out rfl _ Tryd.underlying23 rfl (by kernel_rfl) ?_)
              | (go_at_call 28; refine HHA.out.mono ?_; rintro e W8 ⟨rfl, x8⟩))
            have HB0 := Lib.hid (HB0.out.ext x8)
            have HB1 := Lib.hid (HB1.out.ext x8)
            have HB2 := Lib.hid (HB2.out.ext x8)
            have HL := Lib.hid (HL.out.ext x8)
            have HX := Lib.hid (HX.out.trans x8)
            have HSW := Lib.hid (HS.out.ext HX.out); have HSTW := Lib.hid (HST.out.ext HX.out)
            clear x8
            have HSET := Lib.hid (fun (w1 : World) (hx : Ext W8 w1) => SetG_any g A c p cv w1 (HSW.out.ext hx) HV.out (by have := H200.out; omega))
            have HV2 := Lib.hid (valid_setG HV.out p (v := cv) (by omega))
            have HFL2 := Lib.hid (fld_setG HV.out p cv)
            have H2002 := Lib.hid (show (setG g p cv).cells.length ≤ 200 by rw [setG_len]; exact H200.out)
            generalize setG g p cv = g2 at HSET HV2 HFL2 H2002
            refine wp_region_fin (w := W8) 8 (fun d i v w' => match i with
                | 0 => v = .agg #[.int .i64 g.box.lo.x, .int .i64 g.box.lo.y, .int .i64 g.box.lo.z, .int .i64 g.box.hi.x, .int .i64 g.box.hi.y, .int .i64 g.box.hi.z, .slice A g.cells.length c]
                | 1 => v = .agg #[.int .i64 p.x, .int .i64 p.y, .int .i64 p.z]
                | 2 => v = .int .u8 cv
                | 3 => v = .int .i64 cv
                | 4 => ∃ A' c', v = .agg #[.int .i64 g2.box.lo.x, .int .i64 g2.box.lo.y, .int .i64 g2.box.lo.z, .int .i64 g2.box.hi.x, .int .i64 g2.box.hi.y, .int .i64 g2.box.hi.z, .slice A' g2.cells.length c'] ∧ (d = false → w'.ownsRow W8.heap.size 3 1 (.slice A' g2.cells.length c') g2.cells.length (rowsI g2.cells).flatten)
                | 5 => ∃ A' c', OfG g2 A' c' W8 (fun v => v) d v w'
                | 6 => ∃ A' c', OfG g2 A' c' W8 (fun v => .iface 35 v) d v w'
                | 7 => v = .agg #[.int .i64 a.x, .int .i64 a.y, .int .i64 a.z]
                | 8 => d = true ∧ GT (FloodOut (fld g2) a 200) v w'
                | 9 => d = true ∧ GT (FloodOut (fld g2) a 200) v w'
                | 10 => d = true ∧ G0 (FloodOut (fld g2) a 200) v w'
                | 11 => d = true ∧ G1 (FloodOut (fld g2) a 200) v
                | 12 => d = true ∧ G0 (FloodOut (fld g2) a 200) v w'
                | 13 => d = true ∧ G1 (FloodOut (fld g2) a 200) v
                | _ => True) 6 71 (fun _ _ => True) hm (by kernel_rfl) (by kernel_rfl) rfl (by decide) rfl ⟨_, rfl, by kernel_rfl⟩ ?_ ?_ ?_ ?_ ?_
            · intro d i v w1 w2 hx h
              match i, h with
              | 0, h => exact h
              | 1, h => exact h
              | 2, h => exact h
              | 3, h => exact h
              | 4, h => exact (by obtain ⟨A', c', k1, k2⟩ := h; exact ⟨A', c', k1, fun e => own_ext (k2 e) hx⟩)
              | 5, h => exact (by obtain ⟨A', c', k⟩ := h; exact ⟨A', c', OfG.ext k hx⟩)
              | 6, h => exact (by obtain ⟨A', c', k⟩ := h; exact ⟨A', c', OfG.ext k hx⟩)
              | 7, h => exact h
              | 8, h => exact ⟨h.1, h.2.ext hx⟩
              | 9, h => exact ⟨h.1, h.2.ext hx⟩
              | 10, h => exact ⟨h.1, h.2.ext hx⟩
              | 11, h => exact h
              | 12, h => exact ⟨h.1, h.2.ext hx⟩
              | 13, h => exact h
              | i + 14, h => exact trivial
            · intro i v w1 w2 h
              match i, h with
              | 0, h => exact h
              | 1, h => exact h
              | 2, h => exact h
              | 3, h => exact h
              | 4, h => exact (by obtain ⟨A', c', k1, k2⟩ := h; exact ⟨A', c', k1, fun e => by cases e⟩)
              | 5, h => exact (by obtain ⟨A', c', k⟩ := h; exact ⟨A', c', OfG.up k⟩)
              | 6, h => exact (by obtain ⟨A', c', k⟩ := h; exact ⟨A', c', OfG.up k⟩)
              | 7, h => exact h
              | 8, h => exact absurd h.1 (by simp)
              | 9, h => exact absurd h.1 (by simp)
              | 10, h => exact absurd h.1 (by simp)
              | 11, h => exact absurd h.1 (by simp)
              | 12, h => exact absurd h.1 (by simp)
              | 13, h => exact absurd h.1 (by simp)
              | i + 14, h => exact trivial
            · intro v w1 w2 hx h; exact trivial
            · intro i o ho d b w1 hJd hN hx hmiss hdep K hK
              match i, ho with
              | 0, ho =>
                obtain rfl := Option.some.inj ho
                refine want_none rfl ?_
                have e5 : b.tmps[5]? = some (.pointer (some ⟨w.heap.size, 0, none⟩)) := hmiss 5 rfl
                exact op_loadrow rfl (eval_of e5) (HB0.out.ext hx) _ Tryd.underlying28 rfl (by kernel_rfl) (hK _ w1 hx (fun _ => Ext.refl _) (fun e => absurd e (by decide)) rfl)
              | 1, ho =>
                obtain rfl := Option.some.inj ho
                refine want_none rfl ?_
                have e8 : b.tmps[8]? = some (.pointer (some ⟨w.heap.size + 2, 0, none⟩)) := hmiss 8 rfl
                exact op_loadrow rfl (eval_of e8) (HB2.out.ext hx) _ Tryd.underlying23 rfl (by kernel_rfl) (hK _ w1 hx (fun _ => Ext.refl _) (fun e => absurd e (by decide)) rfl)
              | 2, ho =>
                obtain rfl := Option.some.inj ho
                refine want_none rfl ?_
                have e4 : b.tmps[4]? = some (.int .u8 cv) := hmiss 4 rfl
                exact op_move rfl (eval_of e4) (hK _ w1 hx (fun _ => Ext.refl _) (fun e => absurd e (by decide)) rfl)
              | 3, ho =>
                obtain rfl := Option.some.inj ho
                refine want_none rfl ?_
                obtain ⟨v67, g67, e67⟩ := hdep 2 rfl
                have g67 : v67 = .int .u8 cv := g67
                subst g67
                have e67 := e67 67 rfl
                exact op_run (by unfold execOp; simp [e67, Act.eval, go_sem, hwv]) (hK _ w1 hx (fun _ => Ext.refl _) (fun e => absurd e (by decide)) rfl)
              | 4, ho =>
                obtain rfl := Option.some.inj ho
                refine want_none rfl ?_
                obtain ⟨v65, g65, e65⟩ := hdep 0 rfl
                have g65 : v65 = .agg #[.int .i64 g.box.lo.x, .int .i64 g.box.lo.y, .int .i64 g.box.lo.z, .int .i64 g.box.hi.x, .int .i64 g.box.hi.y, .int .i64 g.box.hi.z, .slice A g.cells.length c] := g65
                subst g65
                have e65 := e65 65 rfl
                obtain ⟨v66, g66, e66⟩ := hdep 1 rfl
                have g66 : v66 = .agg #[.int .i64 p.x, .int .i64 p.y, .int .i64 p.z] := g66
                subst g66
                have e66 := e66 66 rfl
                obtain ⟨v68, g68, e68⟩ := hdep 3 rfl
                have g68 : v68 = .int .i64 cv := g68
                subst g68
                have e68 := e68 68 rfl
                have hc := (HSET.out w1 hx).mono (R' := fun e w' => ∃ v, e = .returned v ∧ (Ext w1 w' ∧ ∃ A' c', v = .agg #[.int .i64 g2.box.lo.x, .int .i64 g2.box.lo.y, .int .i64 g2.box.lo.z, .int .i64 g2.box.hi.x, .int .i64 g2.box.hi.y, .int .i64 g2.box.hi.z, .slice A' g2.cells.length c'] ∧ (d = false → w'.ownsRow W8.heap.size 3 1 (.slice A' g2.cells.length c') g2.cells.length (rowsI g2.cells).flatten))) fun e w' ⟨A', c', h1, h2, _, h4⟩ => ⟨_, h1, h4, A', c', rfl, fun _ => own_low_mono hx.size h2⟩
                exact op_callG rfl (by simp [eval_of e65, eval_of e66, eval_of e68]) (fun _ _ => by kernel_rfl) hc (fun v w' h => hK v w' (hx.trans h.1) (fun _ => h.1) (fun e => absurd e (by decide)) h.2)
              | 5, ho =>
                obtain rfl := Option.some.inj ho
                refine want_none rfl ?_
                obtain rfl : d = false := hN (by kernel_rfl)
                obtain ⟨v1, ⟨A', c', k1, k2⟩, e1⟩ := hdep 4 rfl
                subst k1
                have e1 := e1 69 rfl
                have hsv := Sv.of_own (k2 rfl) (rowsI_rwk _) (rowsI_length _)
                have hc := (of_any g2 A' c' w1 hsv).mono (R' := fun e w' => ∃ v, e = .returned v ∧ (Ext w1 w' ∧ ∃ A' c', OfG g2 A' c' W8 (fun v => v) false v w')) fun e w' ⟨fb, h1, h2, h3, h4, h5⟩ => ⟨_, h3, h5, A', c', fb, rfl, Nat.le_trans hx.size h1, fun _ => h4⟩
                exact op_callG rfl (by simp [eval_of e1]) (fun _ _ => by kernel_rfl) hc (fun v w' h => hK v w' (hx.trans h.1) (fun _ => h.1) (fun e => absurd e (by decide)) h.2)
              | 6, ho =>
                obtain rfl := Option.some.inj ho
                refine want_none rfl ?_
                obtain ⟨v1, ⟨A', c', fb, g1, g2, g3⟩, e1⟩ := hdep 5 rfl
                subst g1
                have e1 := e1 70 rfl
                exact op_run (by unfold execOp; simp [e1, Act.eval, go_sem]) (hK _ w1 hx (fun _ => Ext.refl _) (fun e => absurd e (by decide)) ⟨A', c', fb, rfl, g2, g3⟩)
              | 7, ho =>
                obtain rfl := Option.some.inj ho
                refine want_none rfl ?_
                have e6 : b.tmps[6]? = some (.pointer (some ⟨w.heap.size + 1, 0, none⟩)) := hmiss 6 rfl
                exact op_loadrow rfl (eval_of e6) (HB1.out.ext hx) _ Tryd.underlying23 rfl (by kernel_rfl) (hK _ w1 hx (fun _ => Ext.refl _) (fun e => absurd e (by decide)) rfl)
              | 8, ho =>
                obtain rfl := Option.some.inj ho
                refine want_none rfl ?_
                obtain rfl : d = false := hJd rfl
                obtain ⟨v1, ⟨A2, c2, fb, g1, f1, fc⟩, e1⟩ := hdep 6 rfl
                subst g1
                have e1 := e1 71 rfl
                obtain ⟨v72, g72, e72⟩ := hdep 7 rfl
                have g72 : v72 = .agg #[.int .i64 a.x, .int .i64 a.y, .int .i64 a.z] := g72
                subst g72
                have e72 := e72 72 rfl
                have hc := (floodG_any HV2.out H2002.out (fc rfl) hx f1 HSTW.out a 200).mono (R' := fun e w' => ∃ v, e = .returned v ∧ (Ext W8 w' ∧ GT (FloodOut (fld g2) a 200) v w')) fun e w' ⟨l, er, A', c', k, h1, h2, h3, h4, h5, h6⟩ => ⟨_, h3, h6, l, er, A', c', h1, rfl, h4⟩
                exact op_callG rfl (by first | (simp [eval_of e1, eval_of e72]; done) | (simp [eval_of e1, eval_of e72]; rfl)) (fun _ _ => by kernel_rfl) hc (fun v w' h => hK v w' h.1 (fun e => absurd rfl e) (fun _ _ _ => trivial) ⟨rfl, h.2⟩)
              | 9, ho =>
                obtain rfl := Option.some.inj ho
                refine want_none rfl ?_
                obtain ⟨v1, g1, e1⟩ := hdep 8 rfl
                have e1 := e1 73 rfl
                exact op_move rfl (eval_of e1) (hK _ w1 hx (fun _ => Ext.refl _) (fun e => absurd e (by decide)) g1)
              | 10, ho =>
                obtain rfl := Option.some.inj ho
                refine want_none rfl ?_
                obtain ⟨v1, g1, e1⟩ := hdep 9 rfl
                have e1 := e1 64 rfl
                obtain ⟨gd, l, er, A', c', h1, h2, h3⟩ := g1
                subst h2
                exact op_run (by unfold execOp; simp [e1, Act.eval, go_sem]) (hK _ w1 hx (fun _ => Ext.refl _) (fun e => absurd e (by decide)) ⟨gd, l, er, A', c', h1, rfl, h3⟩)
              | 11, ho =>
                obtain rfl := Option.some.inj ho
                refine want_none rfl ?_
                obtain ⟨v1, g1, e1⟩ := hdep 9 rfl
                have e1 := e1 64 rfl
                obtain ⟨gd, l, er, A', c', h1, h2, h3⟩ := g1
                subst h2
                exact op_run (by unfold execOp; simp [e1, Act.eval, go_sem]) (hK _ w1 hx (fun _ => Ext.refl _) (fun e => absurd e (by decide)) ⟨gd, l, er, h1, rfl⟩)
              | 12, ho =>
                obtain rfl := Option.some.inj ho
                refine want_none rfl ?_
                obtain ⟨v1, g1, e1⟩ := hdep 10 rfl
                have e1 := e1 74 rfl
                exact op_assign rfl (eval_of e1) (hK _ w1 hx (fun _ => Ext.refl _) (fun e => absurd e (by decide)) g1)
              | 13, ho =>
                obtain rfl := Option.some.inj ho
                refine want_none rfl ?_
                obtain ⟨v1, g1, e1⟩ := hdep 11 rfl
                have e1 := e1 75 rfl
                exact op_assign rfl (eval_of e1) (hK _ w1 hx (fun _ => Ext.refl _) (fun e => absurd e (by decide)) g1)
              | i + 14, ho => cases ho
            · intro V11 W11 hx hg _
              obtain ⟨_, m, er1, A11, c11, hP11, q0, s11⟩ := hg 12 (by decide)
              obtain ⟨_, l2, er, hP2, q1⟩ := hg 13 (by decide)
              obtain ⟨e1, e2⟩ := hP11.uniq hP2
              subst e1 e2
              simp only [List.length_cons, List.length_nil, fillAllN, dstOf, Act.put, List.getElem?_toArray, List.getElem?_cons_zero, List.getElem?_cons_succ, Option.bind_some, List.setIfInBounds_toArray, List.set_cons_zero, List.set_cons_succ, q0, q1]
              clear hg q0 q1 hP2
              have hml : l = m ∧ er1 = 0 := by
                obtain ⟨hr2, ha2⟩ := reg_outside HRG.out HF2.out (by simpa using HHB.out) HCV.out
                have hcl2 : (g2.cells.length : Int) ≤ 200 := by have := H2002.out; omega
                rcases floodOut_all HV2.out hcl2 hP11 with ⟨h1, _⟩ | ⟨v', h1, _, h3, h4⟩
                · rw [HFL2.out, ha2] at h1; cases h1
                · rw [HFL2.out] at h1 h3
                  rw [ha2] at h1
                  injection h1 with h1
                  subst h1
                  exact ⟨hr2.uniq h3, h4⟩
              obtain ⟨rfl, rfl⟩ := hml
              have HM := Lib.hid s11
              clear hP11 s11 HSET HV2 HFL2 H2002
              have HB0 := Lib.hid (HB0.out.ext hx)
              have HL := Lib.hid (HL.out.ext hx)
              have HX := Lib.hid (HX.out.trans hx)
              have HSW := Lib.hid (HS.out.ext HX.out); have HSTW := Lib.hid (HST.out.ext HX.out)
              clear hx
              go_upto_region 13 with (go_at_call 17; refine (same_known _ _ _ _ l _ HL.out HM.out).mono ?_; rintro e W12 ⟨rfl, x12⟩)
              clear HM
              have HB0 := Lib.hid (HB0.out.ext x12)
              have HL := Lib.hid (HL.out.ext x12)
              have HX := Lib.hid (HX.out.trans x12)
              have HSW := Lib.hid (HS.out.ext HX.out); have HSTW := Lib.hid (HST.out.ext HX.out)
              clear x12
              go_upto_region 16 with fail
              have hle := HL.out.le
              rw [rowsP_length] at hle
              obtain ⟨b9, off9, rfl, hbl, r0, r1, r2⟩ := pt_row HL.out HQ.out
              have HLS := Lib.hid (HL.out)
              have HQL := Lib.hid (List.mem_of_getElem? HQ.out)
              have HSET := Lib.hid (fun (w1 : World) (hx : Ext W12 w1) => SetG_any g A c q cv w1 (HSW.out.ext hx) HV.out (by have := H200.out; omega))
              have HV3 := Lib.hid (valid_setG HV.out q (v := cv) (by omega))
              have HFL3 := Lib.hid (fld_setG HV.out q cv)
              have H2003 := Lib.hid (show (setG g q cv).cells.length ≤ 200 by rw [setG_len]; exact H200.out)
              generalize setG g q cv = g3 at HSET HV3 HFL3 H2003
              refine wp_region_fin (w := W12) 9 (fun d i v w' => match i with
                  | 0 => v = .agg #[.int .i64 g.box.lo.x, .int .i64 g.box.lo.y, .int .i64 g.box.lo.z, .int .i64 g.box.hi.x, .int .i64 g.box.hi.y, .int .i64 g.box.hi.z, .slice A g.cells.length c]
                  | 1 => v = .slice (some ⟨b9, off9, none⟩) l.length c4
                  | 2 => v = .int .i64 (j : Nat)
                  | 3 => v = .pointer (some ⟨b9, off9 + j * 3, none⟩)
                  | 4 => v = .agg #[.int .i64 q.x, .int .i64 q.y, .int .i64 q.z]
                  | 5 => v = .int .u8 cv
                  | 6 => v = .int .i64 cv
                  | 7 => ∃ A' c', v = .agg #[.int .i64 g3.box.lo.x, .int .i64 g3.box.lo.y, .int .i64 g3.box.lo.z, .int .i64 g3.box.hi.x, .int .i64 g3.box.hi.y, .int .i64 g3.box.hi.z, .slice A' g3.cells.length c'] ∧ (d = false → w'.ownsRow W12.heap.size 3 1 (.slice A' g3.cells.length c') g3.cells.length (rowsI g3.cells).flatten)
                  | 8 => ∃ fb, v = .pointer (some ⟨fb, 0, none⟩) ∧ W12.heap.size ≤ fb ∧ (d = false → Arr w' fb 28 [.int .i64 0, .int .i64 0, .int .i64 0, .int .i64 0, .int .i64 0, .int .i64 0, .slice none 0 0])
                  | 9 => True
                  | _ => True) 8 19 (fun v w' => ∃ fb A' c', v = .pointer (some ⟨fb, 0, none⟩) ∧ Arr w' fb 28 [.int .i64 g3.box.lo.x, .int .i64 g3.box.lo.y, .int .i64 g3.box.lo.z, .int .i64 g3.box.hi.x, .int .i64 g3.box.hi.y, .int .i64 g3.box.hi.z, .slice A' g3.cells.length c'] ∧ Sv w' w'.heap.size 1 A' c' (rowsI g3.cells)) hm (by kernel_rfl) (by kernel_rfl) rfl (by decide) rfl ⟨_, rfl, by kernel_rfl⟩ ?_ ?_ ?_ ?_ ?_
              · intro d i v w1 w2 hx h
                match i, h with
                | 0, h => exact h
                | 1, h => exact h
                | 2, h => exact h
                | 3, h => exact h
                | 4, h => exact h
                | 5, h => exact h
                | 6, h => exact h
                | 7, h => exact (by obtain ⟨A', c', k1, k2⟩ := h; exact ⟨A', c', k1, fun e => own_ext (k2 e) hx⟩)
                | 8, h => exact (by obtain ⟨fb, k1, k2, k3⟩ := h; exact ⟨fb, k1, k2, fun e => (k3 e).ext hx⟩)
                | 9, h => exact trivial
                | i + 10, h => exact trivial
              · intro i v w1 w2 h
                match i, h with
                | 0, h => exact h
                | 1, h => exact h
                | 2, h => exact h
                | 3, h => exact h
                | 4, h => exact h
                | 5, h => exact h
                | 6, h => exact h
                | 7, h => exact (by obtain ⟨A', c', k1, k2⟩ := h; exact ⟨A', c', k1, fun e => by cases e⟩)
                | 8, h => exact (by obtain ⟨fb, k1, k2, k3⟩ := h; exact ⟨fb, k1, k2, fun e => by cases e⟩)
                | 9, h => exact trivial
                | i + 10, h => exact trivial
              · intro v w1 w2 hx h; obtain ⟨fb, A', c', k1, k2, k3⟩ := h; exact ⟨fb, A', c', k1, k2.ext hx, k3.ext hx⟩
              · intro i o ho d b w1 hJd hN hx hmiss hdep K hK
                match i, ho with
                | 0, ho =>
                  obtain rfl := Option.some.inj ho
                  refine want_none rfl ?_
                  have e5 : b.tmps[5]? = some (.pointer (some ⟨w.heap.size, 0, none⟩)) := hmiss 5 rfl
                  exact op_loadrow rfl (eval_of e5) (HB0.out.ext hx) _ Tryd.underlying28 rfl (by kernel_rfl) (hK _ w1 hx (fun _ => Ext.refl _) (fun e => absurd e (by decide)) rfl)
                | 1, ho =>
                  obtain rfl := Option.some.inj ho
                  refine want_none rfl ?_
                  have e12 : b.tmps[12]? = some (.slice (some ⟨b9, off9, none⟩) l.length c4) := hmiss 12 rfl
                  exact op_move rfl (eval_of e12) (hK _ w1 hx (fun _ => Ext.refl _) (fun e => absurd e (by decide)) rfl)
                | 2, ho =>
                  obtain rfl := Option.some.inj ho
                  refine want_none rfl ?_
                  have e18 : b.tmps[18]? = some (.int .i64 (j : Nat)) := hmiss 18 rfl
                  exact op_move rfl (eval_of e18) (hK _ w1 hx (fun _ => Ext.refl _) (fun e => absurd e (by decide)) rfl)
                | 3, ho =>
                  obtain rfl := Option.some.inj ho
                  refine want_none rfl ?_
                  obtain ⟨v91, g91, e91⟩ := hdep 1 rfl
                  have g91 : v91 = .slice (some ⟨b9, off9, none⟩) l.length c4 := g91
                  subst g91
                  have e91 := e91 91 rfl
                  obtain ⟨v92, g92, e92⟩ := hdep 2 rfl
                  have g92 : v92 = .int .i64 (j : Nat) := g92
                  subst g92
                  have e92 := e92 92 rfl
                  exact op_run (by unfold execOp; simp [e91, e92, Act.eval, go_sem, hj]) (hK _ w1 hx (fun _ => Ext.refl _) (fun e => absurd e (by decide)) rfl)
                | 4, ho =>
                  obtain rfl := Option.some.inj ho
                  refine want_none rfl ?_
                  obtain ⟨v93, g93, e93⟩ := hdep 3 rfl
                  have g93 : v93 = .pointer (some ⟨b9, off9 + j * 3, none⟩) := g93
                  subst g93
                  have e93 := e93 93 rfl
                  have s0 := (hx.cell (p := ⟨b9, off9 + j * 3, none⟩) hbl).trans r0
                  have s1 := (hx.cell (p := ⟨b9, off9 + j * 3 + 1, none⟩) hbl).trans r1
                  have s2 := (hx.cell (p := ⟨b9, off9 + j * 3 + 2, none⟩) hbl).trans r2
                  exact op_run (by unfold execOp; simp [e93, Act.eval, go_sem, s0, s1, s2]) (hK _ w1 hx (fun _ => Ext.refl _) (fun e => absurd e (by decide)) rfl)
                | 5, ho =>
                  obtain rfl := Option.some.inj ho
                  refine want_none rfl ?_
                  have e4 : b.tmps[4]? = some (.int .u8 cv) := hmiss 4 rfl
                  exact op_move rfl (eval_of e4) (hK _ w1 hx (fun _ => Ext.refl _) (fun e => absurd e (by decide)) rfl)
                | 6, ho =>
                  obtain rfl := Option.some.inj ho
                  refine want_none rfl ?_
                  obtain ⟨v95, g95, e95⟩ := hdep 5 rfl
                  have g95 : v95 = .int .u8 cv := g95
                  subst g95
                  have e95 := e95 95 rfl
                  exact op_run (by unfold execOp; simp [e95, Act.eval, go_sem, hwv]) (hK _ w1 hx (fun _ => Ext.refl _) (fun e => absurd e (by decide)) rfl)
                | 7, ho =>
                  obtain rfl := Option.some.inj ho
                  refine want_none rfl ?_
                  obtain ⟨v90, g90, e90⟩ := hdep 0 rfl
                  have g90 : v90 = .agg #[.int .i64 g.box.lo.x, .int .i64 g.box.lo.y, .int .i64 g.box.lo.z, .int .i64 g.box.hi.x, .int .i64 g.box.hi.y, .int .i64 g.box.hi.z, .slice A g.cells.length c] := g90
                  subst g90
                  have e90 := e90 90 rfl
                  obtain ⟨v94, g94, e94⟩ := hdep 4 rfl
                  have g94 : v94 = .agg #[.int .i64 q.x, .int .i64 q.y, .int .i64 q.z] := g94
                  subst g94
                  have e94 := e94 94 rfl
                  obtain ⟨v96, g96, e96⟩ := hdep 6 rfl
                  have g96 : v96 = .int .i64 cv := g96
                  subst g96
                  have e96 := e96 96 rfl
                  have hc := (HSET.out w1 hx).mono (R' := fun e w' => ∃ v, e = .returned v ∧ (Ext w1 w' ∧ ∃ A' c', v = .agg #[.int .i64 g3.box.lo.x, .int .i64 g3.box.lo.y, .int .i64 g3.box.lo.z, .int .i64 g3.box.hi.x, .int .i64 g3.box.hi.y, .int .i64 g3.box.hi.z, .slice A' g3.cells.length c'] ∧ (d = false → w'.ownsRow W12.heap.size 3 1 (.slice A' g3.cells.length c') g3.cells.length (rowsI g3.cells).flatten))) fun e w' ⟨A', c', h1, h2, _, h4⟩ => ⟨_, h1, h4, A', c', rfl, fun _ => own_low_mono hx.size h2⟩
                  exact op_callG rfl (by simp [eval_of e90, eval_of e94, eval_of e96]) (fun _ _ => by kernel_rfl) hc (fun v w' h => hK v w' (hx.trans h.1) (fun _ => h.1) (fun e => absurd e (by decide)) h.2)
                | 8, ho =>
                  obtain rfl := Option.some.inj ho
                  refine want_none rfl ?_
                  exact op_run (v := .pointer (some ⟨w1.heap.size, 0, none⟩)) (w2 := w1.alloc (.cells ([.int .i64 0, .int .i64 0, .int .i64 0, .int .i64 0, .int .i64 0, .int .i64 0, .slice none 0 0] : List Value).toArray 28)) (by unfold execOp; simp [go_sem]) (hK _ _ (hx.alloc _) (fun _ => (Ext.refl _).alloc _) (fun e => absurd e (by decide)) ⟨_, rfl, hx.size, fun _ => Arr.new w1 _ _⟩)
                | 9, ho =>
                  obtain rfl := Option.some.inj ho
                  refine want_none rfl ?_
                  obtain rfl : d = false := hJd rfl
                  obtain ⟨v19, ⟨fb, g19, f1, f2⟩, e19⟩ := hdep 8 rfl
                  obtain ⟨v97, ⟨A', c', g97, o97⟩, e97⟩ := hdep 7 rfl
                  subst g19 g97
                  have e19 := e19 19 rfl
                  have e97 := e97 97 rfl
                  have B := f2 rfl
                  have O := o97 rfl
                  refine wp_store_row 28 (.tmp 19) (.tmp 97) rfl fb #[.int .i64 g3.box.lo.x, .int .i64 g3.box.lo.y, .int .i64 g3.box.lo.z, .int .i64 g3.box.hi.x, .int .i64 g3.box.hi.y, .int .i64 g3.box.hi.z, .slice A' g3.cells.length c'] (eval_of e19) (eval_of e97) _ ([.int .i64 0, .int .i64 0, .int .i64 0, .int .i64 0, .int .i64 0, .int .i64 0, .slice none 0 0] : List Value).toArray B (by kernel_rfl) rfl (by simp [Value.oneCell']) (hK undef _ (hx.setRow f1 _) (fun e => absurd rfl e) (fun _ v0 h0 => ?_) trivial)
                  rw [e19] at h0
                  injection h0 with h0
                  subst h0
                  exact ⟨fb, A', c', rfl, B.setRow [.int .i64 g3.box.lo.x, .int .i64 g3.box.lo.y, .int .i64 g3.box.lo.z, .int .i64 g3.box.hi.x, .int .i64 g3.box.hi.y, .int .i64 g3.box.hi.z, .slice A' g3.cells.length c'], Sv.of_own (own_keep O (grown_row (grown_refl w1 _) _) (fun b hb hbb => own_ne_arr O B (by decide) (by rw [hbb, hb]))) (rowsI_rwk _) (rowsI_length _)⟩
                | i + 10, ho => cases ho
              · intro V16 W16 hx hg hfin
                obtain ⟨fb, A3, c3, q0, hBF, hS3⟩ := hfin
                simp only [List.length_cons, List.length_nil, fillAllN, dstOf, Act.put, List.getElem?_toArray, List.getElem?_cons_zero, List.getElem?_cons_succ, Option.bind_some, List.setIfInBounds_toArray, List.set_cons_zero, List.set_cons_succ, q0]
                have HBF := Lib.hid hBF; have HS3 := Lib.hid hS3
                clear hg q0 hBF hS3 r0 r1 r2 hbl HSET
                have HL := Lib.hid (HL.out.ext hx)
                have HX := Lib.hid (HX.out.trans hx)
                have HSW := Lib.hid (HS.out.ext HX.out); have HSTW := Lib.hid (HST.out.ext HX.out)
                clear hx
                have hjc : j ≤ c4 := by omega
                have hjc2 : j + 1 ≤ c4 := by omega
                have hjl : j + 1 ≤ l.length := by omega
                have hwj : IntKind.i64.wrap ((j : Int) + 1) = ((j + 1 : Nat) : Int) := by have h1 : IntKind.i64.bits = 64 := rfl; have h2 : IntKind.i64.signed = true := rfl; simp [IntKind.wrap, h1, h2]; omega
                have HD := Lib.hid (HL.out.drop (i := j + 1) (by rw [rowsP_length]; omega))
                have hji : ¬ ((l.length : Int) < (j : Int) + 1) := by omega
                have hj0 : 0 ≤ (j : Int) + 1 := by omega
                obtain ⟨A7, hA7⟩ : ∃ A7 : Option Addr, A7 = (if c4 = j + 1 then some ⟨b9, off9, none⟩ else some ⟨b9, off9 + (j + 1) * 3, none⟩) := ⟨_, rfl⟩
                have HD := Lib.hid (show Sv W16 W16.heap.size 3 A7 (c4 - (j + 1)) (rowsP (l.drop (j + 1))) from by
                  have h := HD.out
                  rw [← rowsP_drop] at h
                  rw [hA7]
                  simpa [Addr.add] using h)
                have HT := Lib.hid (show Sv W16 W16.heap.size 3 (some ⟨b9, off9, none⟩) c4 (rowsP (l.take j)) from by rw [rowsP_take]; exact HL.out.take _)
                go_upto_region 17 with fail
                refine wp_region_fin (w := W16) 9 (fun d i v w' => match i with
                    | 0 => ∃ b, v = .slice (some ⟨b, 0, none⟩) 0 0 ∧ (d = false → w'.ownsRow W16.heap.size 23 3 (.slice (some ⟨b, 0, none⟩) 0 0) 0 [])
                    | 1 => v = .slice (some ⟨b9, off9, none⟩) l.length c4
                    | 2 => v = .int .i64 (j : Nat)
                    | 3 => v = .slice (some ⟨b9, off9, none⟩) j c4
                    | 4 => ∃ A' c', v = .slice A' j c' ∧ (d = false → w'.ownsRow W16.heap.size 23 3 (.slice A' j c') j (rowsP (l.take j)).flatten)
                    | 5 => v = .slice (some ⟨b9, off9, none⟩) l.length c4
                    | 6 => v = .int .i64 (j : Nat)
                    | 7 => v = .int .i64 ((j + 1 : Nat) : Int)
                    | 8 => v = .slice A7 (l.length - (j + 1)) (c4 - (j + 1))
                    | 9 => d = true ∧ ∃ A' c', v = .slice A' (dropAt l j).length c' ∧ Sv w' w'.heap.size 3 A' c' (rowsP (dropAt l j))
                    | 10 => d = true ∧ ∃ A' c', v = .slice A' (dropAt l j).length c' ∧ Sv w' w'.heap.size 3 A' c' (rowsP (dropAt l j))
                    | _ => True) 4 102 (fun _ _ => True) hm (by kernel_rfl) (by kernel_rfl) rfl (by decide) rfl ⟨_, rfl, by kernel_rfl⟩ ?_ ?_ ?_ ?_ ?_
                · intro d i v w1 w2 hx h
                  match i, h with
                  | 0, h => exact (by obtain ⟨b, k1, k2⟩ := h; exact ⟨b, k1, fun e => own_ext (k2 e) hx⟩)
                  | 1, h => exact h
                  | 2, h => exact h
                  | 3, h => exact h
                  | 4, h => exact (by obtain ⟨A', c', k1, k2⟩ := h; exact ⟨A', c', k1, fun e => own_ext (k2 e) hx⟩)
                  | 5, h => exact h
                  | 6, h => exact h
                  | 7, h => exact h
                  | 8, h => exact h
                  | 9, h => exact (by obtain ⟨k0, A', c', k1, k2⟩ := h; exact ⟨k0, A', c', k1, k2.ext hx⟩)
                  | 10, h => exact (by obtain ⟨k0, A', c', k1, k2⟩ := h; exact ⟨k0, A', c', k1, k2.ext hx⟩)
                  | i + 11, h => exact trivial
                · intro i v w1 w2 h
                  match i, h with
                  | 0, h => exact (by obtain ⟨b, k1, k2⟩ := h; exact ⟨b, k1, fun e => by cases e⟩)
                  | 1, h => exact h
                  | 2, h => exact h
                  | 3, h => exact h
                  | 4, h => exact (by obtain ⟨A', c', k1, k2⟩ := h; exact ⟨A', c', k1, fun e => by cases e⟩)
                  | 5, h => exact h
                  | 6, h => exact h
                  | 7, h => exact h
                  | 8, h => exact h
                  | 9, h => exact absurd h.1 (by simp)
                  | 10, h => exact absurd h.1 (by simp)
                  | i + 11, h => exact trivial
                · intro v w1 w2 hx h; exact trivial
                · intro i o ho d b w1 hJd hN hx hmiss hdep K hK
                  match i, ho with
                  | 0, ho =>
                    obtain rfl := Option.some.inj ho
                    refine want_none rfl ?_
                    exact op_run (v := .slice (some ⟨w1.heap.size, 0, none⟩) 0 0) (w2 := w1.alloc (.cells #[] 23)) (by unfold execOp; simp [go_sem]) (hK _ _ (hx.alloc _) (fun _ => (Ext.refl _).alloc _) (fun e => absurd e (by decide)) ⟨_, rfl, fun _ => own_low_mono hx.size (own_zero w1 _ 3)⟩)
                  | 1, ho =>
                    obtain rfl := Option.some.inj ho
                    refine want_none rfl ?_
                    have e12 : b.tmps[12]? = some (.slice (some ⟨b9, off9, none⟩) l.length c4) := hmiss 12 rfl
                    exact op_move rfl (eval_of e12) (hK _ w1 hx (fun _ => Ext.refl _) (fun e => absurd e (by decide)) rfl)
                  | 2, ho =>
                    obtain rfl := Option.some.inj ho
                    refine want_none rfl ?_
                    have e18 : b.tmps[18]? = some (.int .i64 (j : Nat)) := hmiss 18 rfl
                    exact op_move rfl (eval_of e18) (hK _ w1 hx (fun _ => Ext.refl _) (fun e => absurd e (by decide)) rfl)
                  | 3, ho =>
                    obtain rfl := Option.some.inj ho
                    refine want_none rfl ?_
                    obtain ⟨v99, g99, e99⟩ := hdep 1 rfl
                    have g99 : v99 = .slice (some ⟨b9, off9, none⟩) l.length c4 := g99
                    subst g99
                    have e99 := e99 99 rfl
                    obtain ⟨v100, g100, e100⟩ := hdep 2 rfl
                    have g100 : v100 = .int .i64 (j : Nat) := g100
                    subst g100
                    have e100 := e100 100 rfl
                    exact op_run (by unfold execOp; simp [e99, e100, Act.eval, go_sem, hjc]) (hK _ w1 hx (fun _ => Ext.refl _) (fun e => absurd e (by decide)) rfl)
                  | 4, ho =>
                    obtain rfl := Option.some.inj ho
                    refine want_none rfl ?_
                    obtain rfl : d = false := hN (by kernel_rfl)
                    obtain ⟨v98, ⟨b, k1, k2⟩, e98⟩ := hdep 0 rfl
                    subst k1
                    have e98 := e98 98 rfl
                    obtain ⟨v101, g101, e101⟩ := hdep 3 rfl
                    have g101 : v101 = .slice (some ⟨b9, off9, none⟩) j c4 := g101
                    subst g101
                    have e101 := e101 101 rfl
                    refine op_append_zero (.tmp 98) (.tmp 101) 31 rfl W16.heap.size 23 i0 (.agg #[.int .i64 0, .int .i64 0, .int .i64 0]) 3 24 Tryd.underlying31 HI0.out HZ0.out HZ1.out HZ2.out rfl (by decide) b (eval_of e98) (k2 rfl) _ _ j c4 (rowsP (l.take j)) (eval_of e101) (HT.out.ext hx) (by rw [rowsP_length, List.length_take]; omega) (by unfold maxLen; omega) (by omega) hx.size (fun v' w' ho he => ?_)
                    have ho' := ho
                    obtain ⟨A', c', e, _⟩ := own_form ho'
                    subst e
                    exact hK _ w' (hx.trans he) (fun _ => he) (fun e => absurd e (by decide)) ⟨A', c', rfl, fun _ => ho⟩
                  | 5, ho =>
                    obtain rfl := Option.some.inj ho
                    refine want_none rfl ?_
                    have e12 : b.tmps[12]? = some (.slice (some ⟨b9, off9, none⟩) l.length c4) := hmiss 12 rfl
                    exact op_move rfl (eval_of e12) (hK _ w1 hx (fun _ => Ext.refl _) (fun e => absurd e (by decide)) rfl)
                  | 6, ho =>
                    obtain rfl := Option.some.inj ho
                    refine want_none rfl ?_
                    have e18 : b.tmps[18]? = some (.int .i64 (j : Nat)) := hmiss 18 rfl
                    exact op_move rfl (eval_of e18) (hK _ w1 hx (fun _ => Ext.refl _) (fun e => absurd e (by decide)) rfl)
                  | 7, ho =>
                    obtain rfl := Option.some.inj ho
                    refine want_none rfl ?_
                    obtain ⟨v104, g104, e104⟩ := hdep 6 rfl
                    have g104 : v104 = .int .i64 (j : Nat) := g104
                    subst g104
                    have e104 := e104 104 rfl
                    exact op_run (by unfold execOp; simp [e104, Act.eval, go_sem, hwj]) (hK _ w1 hx (fun _ => Ext.refl _) (fun e => absurd e (by decide)) rfl)
                  | 8, ho =>
                    obtain rfl := Option.some.inj ho
                    refine want_none rfl ?_
                    obtain ⟨v103, g103, e103⟩ := hdep 5 rfl
                    have g103 : v103 = .slice (some ⟨b9, off9, none⟩) l.length c4 := g103
                    subst g103
                    have e103 := e103 103 rfl
                    obtain ⟨v105, g105, e105⟩ := hdep 7 rfl
                    have g105 : v105 = .int .i64 ((j + 1 : Nat) : Int) := g105
                    subst g105
                    have e105 := e105 105 rfl
                    exact op_run (by unfold execOp; simp [e103, e105, Act.eval, go_sem, hA7, hji, hj0]) (hK _ w1 hx (fun _ => Ext.refl _) (fun e => absurd e (by decide)) rfl)
                  | 9, ho =>
                    obtain rfl := Option.some.inj ho
                    refine want_none rfl ?_
                    obtain rfl : d = false := hJd rfl
                    obtain ⟨v102, ⟨A', c', k1, k2⟩, e102⟩ := hdep 4 rfl
                    subst k1
                    have e102 := e102 102 rfl
                    have k2 := k2 rfl
                    obtain ⟨v106, g106, e106⟩ := hdep 8 rfl
                    have g106 : v106 = .slice A7 (l.length - (j + 1)) (c4 - (j + 1)) := g106
                    subst g106
                    have e106 := e106 106 rfl
                    refine op_append_sv (.tmp 102) (.tmp 106) 31 rfl W16.heap.size 23 i0 (.agg #[.int .i64 0, .int .i64 0, .int .i64 0]) 3 24 Tryd.underlying31 HI0.out HZ0.out HZ1.out HZ2.out rfl (by decide) _ j _ (eval_of e102) k2 _ _ (l.length - (j + 1)) (c4 - (j + 1)) (rowsP (l.drop (j + 1))) (eval_of e106) (HD.out.ext hx) (by rw [rowsP_length, List.length_drop]) (by unfold maxLen; omega) (by omega) hx.size (fun v' w' ho hg => ?_)
                    have hl' : j + (l.length - (j + 1)) = (dropAt l j).length := by rw [dropAt_length hj]; omega
                    have ho : w'.ownsRow W16.heap.size 23 3 v' (dropAt l j).length (rowsP (dropAt l j)).flatten := by rw [← hl']; simpa [rowsP, dropAt] using ho
                    obtain ⟨A', c', e, _⟩ := own_form ho
                    subst e
                    exact hK _ w' (hx.own k2 hg (Nat.le_refl _)) (fun e => absurd rfl e) (fun _ _ _ => trivial) ⟨rfl, A', c', rfl, Sv.of_own ho (rowsP_rwk _) (rowsP_length _)⟩
                  | 10, ho =>
                    obtain rfl := Option.some.inj ho
                    refine want_none rfl ?_
                    obtain ⟨v1, g1, e1⟩ := hdep 9 rfl
                    have e1 := e1 107 rfl
                    exact op_assign rfl (eval_of e1) (hK _ w1 hx (fun _ => Ext.refl _) (fun e => absurd e (by decide)) g1)
                  | i + 11, ho => cases ho
                · intro V17 W17 hx hg _
                  obtain ⟨_, AR, cR, q0, sR⟩ := hg 10 (by decide)
                  simp only [List.length_cons, List.length_nil, fillAllN, dstOf, Act.put, List.getElem?_toArray, List.getElem?_cons_zero, List.getElem?_cons_succ, Option.bind_some, List.setIfInBounds_toArray, List.set_cons_zero, List.set_cons_succ, q0]
                  have HR := Lib.hid sR
                  clear hg q0 sR hA7 HD HT
                  have HBF := Lib.hid (HBF.out.ext hx); have HS3 := Lib.hid (HS3.out.ext hx)

                  have HX := Lib.hid (HX.out.trans hx)
                  have HSW := Lib.hid (HS.out.ext HX.out); have HSTW := Lib.hid (HST.out.ext HX.out)
                  clear hx
                  have hrl : (dropAt l j).length ≤ 199 := by rw [dropAt_length hj]; omega
                  have hrln : (dropAt l j).length ≤ 9223372036854775807 := by omega
                  have HRM := Lib.hid (fun x => dropAt_mem HQ.out HRG.out.sort.nodup x)
                  have HRN := Lib.hid (dropAt_sort (k := j) HRG.out.sort).nodup
                  have HPA := Lib.hid (fillParts_any AR cR (dropAt l j) W17 HSTW.out HR.out (by omega) (fun p hp => fld_small g HV.out p (by rw [HLI.out p ((HRM.out p).1 hp).1]; simp)))
                  generalize dropAt l j = rest at hrl hrln HRM HRN HPA
                  go_wp2_with (go_at_call 22; refine HPA.out.mono ?_; rintro e WP ⟨ps, vs, AP, cP, hps, rfl, sP, xP⟩)
                  have HPS := Lib.hid hps; have HP := Lib.hid sP
                  have HBF := Lib.hid (HBF.out.ext xP); have HS3 := Lib.hid (HS3.out.ext xP)

                  have HX := Lib.hid (HX.out.trans xP)
                  have HSW := Lib.hid (HS.out.ext HX.out); have HSTW := Lib.hid (HST.out.ext HX.out)
                  clear xP
                  have hsum := parts_sum hps HRN.out
                  have hpl : ps.length ≤ 9223372036854775807 := by have h := sP.out.len; rw [List.length_map, sP.len] at h; exact h
                  clear HPA hps sP
                  go_loopw [22, 23] (fun nv i wr => ∃ k : Nat, nv = .int .i64 (lenTo ps k : Nat) ∧ i = .int .i64 k ∧ k ≤ ps.length ∧ Ext WP wr) (fun _ i _ => ps.length - (intOf i).toNat)
                  case atStart => exact ⟨0, rfl, rfl, Nat.zero_le _, Ext.refl _⟩
                  case round =>
                    obtain ⟨k, rfl, rfl, hk, hxr⟩ := hrel
                    by_cases hlt : k < ps.length
                    · obtain ⟨r, hr⟩ : ∃ r, ps[k]? = some r := ⟨_, List.getElem?_eq_getElem hlt⟩
                      have hfs := lenTo_succ ps hr
                      have hsl := lenTo_le ps (k + 1)
                      obtain ⟨b0, hb0, hbr, hgr⟩ := parts_each HPS.out (List.mem_of_getElem? hr)
                      have hrpos : 0 < r.length := (List.getElem?_eq_some_iff.1 hb0).1
                      have hr0 : ((r.length : Int) == 0) = false := by rw [beq_eq_false_iff_ne]; omega
                      have hrl2 : r.length ≤ 9223372036854775807 := by omega
                      have hwr : IntKind.i64.wrap ((lenTo ps k : Int) + (r.length : Int)) = ((lenTo ps (k + 1) : Nat) : Int) := by have h1 : IntKind.i64.bits = 64 := rfl; have h2 : IntKind.i64.signed = true := rfl; rw [hfs]; simp [IntKind.wrap, h1, h2]; omega
                      obtain ⟨bp, offp, AQ, cQ, rfl, hbp, p0, sQ⟩ := (HP.out.ext hxr).row hr
                      obtain ⟨bq, offq, rfl, hbq, s0, s1, s2⟩ := pt_row sQ hb0
                      rw [Nat.zero_mul, Nat.add_zero] at s0 s1 s2
                      have HQ2 := Lib.hid sQ
                      have HRC := Lib.hid (reg_cut HRG.out HF2.out HCV.out HRM.out hbr hgr)
                      have HBF := Lib.hid (HBF.out.ext hxr); have HS3 := Lib.hid (HS3.out.ext hxr); have HSTW := Lib.hid (HSTW.out.ext hxr)
                      have HXR := Lib.hid hxr
                      clear hr hb0 hbr hgr sQ hxr
                      go_upto_region 26 with fail
                      refine wp_region_flow (w := wr) 9 (fun d i v w' => match i with
                          | 0 => v = .agg #[.int .i64 g3.box.lo.x, .int .i64 g3.box.lo.y, .int .i64 g3.box.lo.z, .int .i64 g3.box.hi.x, .int .i64 g3.box.hi.y, .int .i64 g3.box.hi.z, .slice A3 g3.cells.length c3]
                          | 1 => OfG g3 (A3) c3 wr (fun v => v) d v w'
                          | 2 => OfG g3 (A3) c3 wr (fun v => .iface 35 v) d v w'
                          | 3 => v = .slice (some ⟨bp, offp, none⟩) ps.length cP
                          | 4 => v = .int .i64 (k : Nat)
                          | 5 => v = .pointer (some ⟨bp, offp + k, none⟩)
                          | 6 => v = .slice (some ⟨bq, offq, none⟩) r.length cQ
                          | 7 => v = .pointer (some ⟨bq, offq, none⟩)
                          | 8 => v = .agg #[.int .i64 b0.x, .int .i64 b0.y, .int .i64 b0.z]
                          | 9 => d = true ∧ GT (FloodOut (fld g3) b0 200) v w'
                          | 10 => d = true ∧ GT (FloodOut (fld g3) b0 200) v w'
                          | 11 => d = true ∧ G0 (FloodOut (fld g3) b0 200) v w'
                          | 12 => d = true ∧ G1 (FloodOut (fld g3) b0 200) v
                          | 13 => d = true ∧ G0 (FloodOut (fld g3) b0 200) v w'
                          | 14 => d = true ∧ G1 (FloodOut (fld g3) b0 200) v
                          | _ => True) hm (by kernel_rfl) (by kernel_rfl) rfl ?_ ?_ ?_ ?_
                      · intro d i v w1 w2 hx h
                        match i, h with
                        | 0, h => exact h
                        | 1, h => exact OfG.ext h hx
                        | 2, h => exact OfG.ext h hx
                        | 3, h => exact h
                        | 4, h => exact h
                        | 5, h => exact h
                        | 6, h => exact h
                        | 7, h => exact h
                        | 8, h => exact h
                        | 9, h => exact ⟨h.1, h.2.ext hx⟩
                        | 10, h => exact ⟨h.1, h.2.ext hx⟩
                        | 11, h => exact ⟨h.1, h.2.ext hx⟩
                        | 12, h => exact h
                        | 13, h => exact ⟨h.1, h.2.ext hx⟩
                        | 14, h => exact h
                        | i + 15, h => exact trivial
                      · intro i v w1 w2 h
                        match i, h with
                        | 0, h => exact h
                        | 1, h => exact OfG.up h
                        | 2, h => exact OfG.up h
                        | 3, h => exact h
                        | 4, h => exact h
                        | 5, h => exact h
                        | 6, h => exact h
                        | 7, h => exact h
                        | 8, h => exact h
                        | 9, h => exact absurd h.1 (by simp)
                        | 10, h => exact absurd h.1 (by simp)
                        | 11, h => exact absurd h.1 (by simp)
                        | 12, h => exact absurd h.1 (by simp)
                        | 13, h => exact absurd h.1 (by simp)
                        | 14, h => exact absurd h.1 (by simp)
                        | i + 15, h => exact trivial
                      · intro i o ho d b w1 hJd hx hmiss hdep K hK
                        match i, ho with
                        | 0, ho =>
                          obtain rfl := Option.some.inj ho
                          refine want_none rfl ?_
                          have e19 : b.tmps[19]? = some (.pointer (some ⟨fb, 0, none⟩)) := hmiss 19 rfl
                          exact op_loadrow rfl (eval_of e19) (HBF.out.ext hx) _ Tryd.underlying28 rfl (by kernel_rfl) (hK _ w1 hx (fun _ => Ext.refl _) rfl)
                        | 1, ho =>
                          obtain rfl := Option.some.inj ho
                          refine want_none rfl ?_
                          obtain ⟨v130, g130, e130⟩ := hdep 0 rfl
                          have g130 : v130 = .agg #[.int .i64 g3.box.lo.x, .int .i64 g3.box.lo.y, .int .i64 g3.box.lo.z, .int .i64 g3.box.hi.x, .int .i64 g3.box.hi.y, .int .i64 g3.box.hi.z, .slice A3 g3.cells.length c3] := g130
                          subst g130
                          have e130 := e130 130 rfl
                          have hc := (of_any g3 (A3) c3 w1 (HS3.out.ext hx)).mono (R' := fun e w' => ∃ v, e = .returned v ∧ (Ext w1 w' ∧ OfG g3 (A3) c3 wr (fun v => v) d v w')) fun e w' ⟨fb, h1, h2, h3, h4, h5⟩ => ⟨_, h3, h5, fb, rfl, Nat.le_trans hx.size h1, fun _ => h4⟩
                          exact op_callG rfl (by simp [eval_of e130]) (fun _ _ => by kernel_rfl) hc (fun v w' h => hK v w' (hx.trans h.1) (fun _ => h.1) h.2)
                        | 2, ho =>
                          obtain rfl := Option.some.inj ho
                          refine want_none rfl ?_
                          obtain ⟨v1, g1, e1⟩ := hdep 1 rfl
                          obtain ⟨fb, g1, g2, g3⟩ := g1
                          subst g1
                          have e1 := e1 131 rfl
                          exact op_run (by unfold execOp; simp [e1, Act.eval, go_sem]) (hK _ w1 hx (fun _ => Ext.refl _) ⟨fb, rfl, g2, g3⟩)
                        | 3, ho =>
                          obtain rfl := Option.some.inj ho
                          refine want_none rfl ?_
                          have e21 : b.tmps[21]? = some (.slice (some ⟨bp, offp, none⟩) ps.length cP) := hmiss 21 rfl
                          exact op_move rfl (eval_of e21) (hK _ w1 hx (fun _ => Ext.refl _) rfl)
                        | 4, ho =>
                          obtain rfl := Option.some.inj ho
                          refine want_none rfl ?_
                          have e23 : b.tmps[23]? = some (.int .i64 (k : Nat)) := hmiss 23 rfl
                          exact op_move rfl (eval_of e23) (hK _ w1 hx (fun _ => Ext.refl _) rfl)
                        | 5, ho =>
                          obtain rfl := Option.some.inj ho
                          refine want_none rfl ?_
                          obtain ⟨v133, g133, e133⟩ := hdep 3 rfl
                          have g133 : v133 = .slice (some ⟨bp, offp, none⟩) ps.length cP := g133
                          subst g133
                          have e133 := e133 133 rfl
                          obtain ⟨v134, g134, e134⟩ := hdep 4 rfl
                          have g134 : v134 = .int .i64 (k : Nat) := g134
                          subst g134
                          have e134 := e134 134 rfl
                          exact op_run (by unfold execOp; simp [e133, e134, Act.eval, go_sem, hlt]) (hK _ w1 hx (fun _ => Ext.refl _) rfl)
                        | 6, ho =>
                          obtain rfl := Option.some.inj ho
                          refine want_none rfl ?_
                          obtain ⟨v135, g135, e135⟩ := hdep 5 rfl
                          have g135 : v135 = .pointer (some ⟨bp, offp + k, none⟩) := g135
                          subst g135
                          have e135 := e135 135 rfl
                          have s0 := (hx.cell (p := ⟨bp, offp + k, none⟩) hbp).trans p0
                          exact op_run (by unfold execOp; simp [e135, Act.eval, go_sem, s0]) (hK _ w1 hx (fun _ => Ext.refl _) rfl)
                        | 7, ho =>
                          obtain rfl := Option.some.inj ho
                          refine want_none rfl ?_
                          obtain ⟨v136, g136, e136⟩ := hdep 6 rfl
                          have g136 : v136 = .slice (some ⟨bq, offq, none⟩) r.length cQ := g136
                          subst g136
                          have e136 := e136 136 rfl
                          exact op_run (by unfold execOp; simp [e136, Act.eval, go_sem, hrpos]) (hK _ w1 hx (fun _ => Ext.refl _) rfl)
                        | 8, ho =>
                          obtain rfl := Option.some.inj ho
                          refine want_none rfl ?_
                          obtain ⟨v137, g137, e137⟩ := hdep 7 rfl
                          have g137 : v137 = .pointer (some ⟨bq, offq, none⟩) := g137
                          subst g137
                          have e137 := e137 137 rfl
                          have t0 := (hx.cell (p := ⟨bq, offq, none⟩) hbq).trans s0
                          have t1 := (hx.cell (p := ⟨bq, offq + 1, none⟩) hbq).trans s1
                          have t2 := (hx.cell (p := ⟨bq, offq + 2, none⟩) hbq).trans s2
                          exact op_run (by unfold execOp; simp [e137, Act.eval, go_sem, t0, t1, t2]) (hK _ w1 hx (fun _ => Ext.refl _) rfl)
                        | 9, ho =>
                          obtain rfl := Option.some.inj ho
                          refine want_none rfl ?_
                          obtain rfl : d = false := hJd rfl
                          obtain ⟨v1, ⟨fb, g1, f1, fc⟩, e1⟩ := hdep 2 rfl
                          subst g1
                          have e1 := e1 132 rfl
                          obtain ⟨v138, g138, e138⟩ := hdep 8 rfl
                          have g138 : v138 = .agg #[.int .i64 b0.x, .int .i64 b0.y, .int .i64 b0.z] := g138
                          subst g138
                          have e138 := e138 138 rfl
                          have hc := (floodG_any HV3.out H2003.out (fc rfl) hx f1 HSTW.out b0 200).mono (R' := fun e w' => ∃ v, e = .returned v ∧ (Ext wr w' ∧ GT (FloodOut (fld g3) b0 200) v w')) fun e w' ⟨l, er, A', c', k, h1, h2, h3, h4, h5, h6⟩ => ⟨_, h3, h6, l, er, A', c', h1, rfl, h4⟩
                          exact op_callG rfl (by first | (simp [eval_of e1, eval_of e138]; done) | (simp [eval_of e1, eval_of e138]; rfl)) (fun _ _ => by kernel_rfl) hc (fun v w' h => hK v w' h.1 (fun e => absurd rfl e) ⟨rfl, h.2⟩)
                        | 10, ho =>
                          obtain rfl := Option.some.inj ho
                          refine want_none rfl ?_
                          obtain ⟨v1, g1, e1⟩ := hdep 9 rfl
                          have e1 := e1 139 rfl
                          exact op_move rfl (eval_of e1) (hK _ w1 hx (fun _ => Ext.refl _) g1)
                        | 11, ho =>
                          obtain rfl := Option.some.inj ho
                          refine want_none rfl ?_
                          obtain ⟨v1, g1, e1⟩ := hdep 10 rfl
                          have e1 := e1 129 rfl
                          obtain ⟨gd, l, er, A', c', h1, h2, h3⟩ := g1
                          subst h2
                          exact op_run (by unfold execOp; simp [e1, Act.eval, go_sem]) (hK _ w1 hx (fun _ => Ext.refl _) ⟨gd, l, er, A', c', h1, rfl, h3⟩)
                        | 12, ho =>
                          obtain rfl := Option.some.inj ho
                          refine want_none rfl ?_
                          obtain ⟨v1, g1, e1⟩ := hdep 10 rfl
                          have e1 := e1 129 rfl
                          obtain ⟨gd, l, er, A', c', h1, h2, h3⟩ := g1
                          subst h2
                          exact op_run (by unfold execOp; simp [e1, Act.eval, go_sem]) (hK _ w1 hx (fun _ => Ext.refl _) ⟨gd, l, er, h1, rfl⟩)
                        | 13, ho =>
                          obtain rfl := Option.some.inj ho
                          refine want_none rfl ?_
                          obtain ⟨v1, g1, e1⟩ := hdep 11 rfl
                          have e1 := e1 140 rfl
                          exact op_assign rfl (eval_of e1) (hK _ w1 hx (fun _ => Ext.refl _) g1)
                        | 14, ho =>
                          obtain rfl := Option.some.inj ho
                          refine want_none rfl ?_
                          obtain ⟨v1, g1, e1⟩ := hdep 12 rfl
                          have e1 := e1 141 rfl
                          exact op_assign rfl (eval_of e1) (hK _ w1 hx (fun _ => Ext.refl _) g1)
                        | i + 15, ho => cases ho
                      · intro V26 W26 hx hg
                        obtain ⟨_, m, er1, A26, c26, hP26, q0, s26⟩ := hg 13 (by decide)
                        obtain ⟨_, l2, er, hP2, q1⟩ := hg 14 (by decide)
                        obtain ⟨e1, e2⟩ := hP26.uniq hP2
                        subst e1 e2
                        simp only [List.length_cons, List.length_nil, fillAllN, dstOf, Act.put, List.getElem?_toArray, List.getElem?_cons_zero, List.getElem?_cons_succ, Option.bind_some, List.setIfInBounds_toArray, List.set_cons_zero, List.set_cons_succ, q0, q1]
                        clear hg q0 q1 hP2
                        have hml : r = m ∧ er1 = 0 := by
                          have hcl3 : (g3.cells.length : Int) ≤ 200 := by have := H2003.out; omega
                          rcases floodOut_all HV3.out hcl3 hP26 with ⟨h1, _⟩ | ⟨v', h1, _, h3, h4⟩
                          · rw [HFL3.out, HRC.out.2] at h1; cases h1
                          · rw [HFL3.out] at h1 h3
                            rw [HRC.out.2] at h1
                            injection h1 with h1
                            subst h1
                            exact ⟨HRC.out.1.uniq h3, h4⟩
                        obtain ⟨rfl, rfl⟩ := hml
                        have HM := Lib.hid s26
                        have p1 := (hx.cell (p := ⟨bp, offp + k, none⟩) hbp).trans p0
                        have hbp := Nat.lt_of_lt_of_le hbp hx.size
                        have HQ3 := Lib.hid (HQ2.out.ext hx)
                        have HX9 := Lib.hid (HXR.out.trans hx)
                        clear hP26 s26 s0 s1 s2 p0 hx HRC HQ2
                        go_wp2_with (go_at_call 17; refine (same_known _ _ _ _ r _ HM.out HQ3.out).mono ?_; rintro e W27 ⟨rfl, x27⟩)
                        go_roundw
                        case rel => exact ⟨k + 1, by first | (rw [hfs]; go_num; done) | (simp [hfs]; done) | (rw [← hwr]; go_num), by go_num, by omega, HX9.out.trans x27⟩
                        case measure => simp [intOf]; omega
                    · obtain rfl : k = ps.length := by omega
                      rw [lenTo_all, hsum]
                      go_wp2
                      go_ret
                      exact ⟨rfl, HX.out.trans hxr⟩
          · go_upto_region 16 with (first
              | (refine wpList_load_blk 23 (.tmp 8) rfl rfl HB2.out rfl _ Tryd.underlying23 rfl (by kernel_rfl) ?_)
              | (go_at_call 28; refine HHA.out.mono ?_; rintro e W8 ⟨rfl, x8⟩))
            have HB0 := Lib.hid (HB0.out.ext x8)
            have HL := Lib.hid (HL.out.ext x8)
            have HX := Lib.hid (HX.out.trans x8)
            have HSW := Lib.hid (HS.out.ext HX.out); have HSTW := Lib.hid (HST.out.ext HX.out)
            clear x8
            have hle := HL.out.le
            rw [rowsP_length] at hle
            obtain ⟨b9, off9, rfl, hbl, r0, r1, r2⟩ := pt_row HL.out HQ.out
            have HLS := Lib.hid (HL.out)
            have HQL := Lib.hid (List.mem_of_getElem? HQ.out)
            have HSET := Lib.hid (fun (w1 : World) (hx : Ext W8 w1) => SetG_any g A c q cv w1 (HSW.out.ext hx) HV.out (by have := H200.out; omega))
            have HV3 := Lib.hid (valid_setG HV.out q (v := cv) (by omega))
            have HFL3 := Lib.hid (fld_setG HV.out q cv)
            have H2003 := Lib.hid (show (setG g q cv).cells.length ≤ 200 by rw [setG_len]; exact H200.out)
            generalize setG g q cv = g3 at HSET HV3 HFL3 H2003
            refine wp_region_fin (w := W8) 9 (fun d i v w' => match i with
                | 0 => v = .agg #[.int .i64 g.box.lo.x, .int .i64 g.box.lo.y, .int .i64 g.box.lo.z, .int .i64 g.box.hi.x, .int .i64 g.box.hi.y, .int .i64 g.box.hi.z, .slice A g.cells.length c]
                | 1 => v = .slice (some ⟨b9, off9, none⟩) l.length c4
                | 2 => v = .int .i64 (j : Nat)
                | 3 => v = .pointer (some ⟨b9, off9 + j * 3, none⟩)
                | 4 => v = .agg #[.int .i64 q.x, .int .i64 q.y, .int .i64 q.z]
                | 5 => v = .int .u8 cv
                | 6 => v = .int .i64 cv
                | 7 => ∃ A' c', v = .agg #[.int .i64 g3.box.lo.x, .int .i64 g3.box.lo.y, .int .i64 g3.box.lo.z, .int .i64 g3.box.hi.x, .int .i64 g3.box.hi.y, .int .i64 g3.box.hi.z, .slice A' g3.cells.length c'] ∧ (d = false → w'.ownsRow W8.heap.size 3 1 (.slice A' g3.cells.length c') g3.cells.length (rowsI g3.cells).flatten)
                | 8 => ∃ fb, v = .pointer (some ⟨fb, 0, none⟩) ∧ W8.heap.size ≤ fb ∧ (d = false → Arr w' fb 28 [.int .i64 0, .int .i64 0, .int .i64 0, .int .i64 0, .int .i64 0, .int .i64 0, .slice none 0 0])
                | 9 => True
                | _ => True) 8 19 (fun v w' => ∃ fb A' c', v = .pointer (some ⟨fb, 0, none⟩) ∧ Arr w' fb 28 [.int .i64 g3.box.lo.x, .int .i64 g3.box.lo.y, .int .i64 g3.box.lo.z, .int .i64 g3.box.hi.x, .int .i64 g3.box.hi.y, .int .i64 g3.box.hi.z, .slice A' g3.cells.length c'] ∧ Sv w' w'.heap.size 1 A' c' (rowsI g3.cells)) hm (by kernel_rfl) (by kernel_rfl) rfl (by decide) rfl ⟨_, rfl, by kernel_rfl⟩ ?_ ?_ ?_ ?_ ?_
            · intro d i v w1 w2 hx h
              match i, h with
              | 0, h => exact h
              | 1, h => exact h
              | 2, h => exact h
              | 3, h => exact h
              | 4, h => exact h
              | 5, h => exact h
              | 6, h => exact h
              | 7, h => exact (by obtain ⟨A', c', k1, k2⟩ := h; exact ⟨A', c', k1, fun e => own_ext (k2 e) hx⟩)
              | 8, h => exact (by obtain ⟨fb, k1, k2, k3⟩ := h; exact ⟨fb, k1, k2, fun e => (k3 e).ext hx⟩)
              | 9, h => exact trivial
              | i + 10, h => exact trivial
            · intro i v w1 w2 h
              match i, h with
              | 0, h => exact h
              | 1, h => exact h
              | 2, h => exact h
              | 3, h => exact h
              | 4, h => exact h
              | 5, h => exact h
              | 6, h => exact h
              | 7, h => exact (by obtain ⟨A', c', k1, k2⟩ := h; exact ⟨A', c', k1, fun e => by cases e⟩)
              | 8, h => exact (by obtain ⟨fb, k1, k2, k3⟩ := h; exact ⟨fb, k1, k2, fun e => by cases e⟩)
              | 9, h => exact trivial
              | i + 10, h => exact trivial
            · intro v w1 w2 hx h; obtain ⟨fb, A', c', k1, k2, k3⟩ := h; exact ⟨fb, A', c', k1, k2.ext hx, k3.ext hx⟩
            · intro i o ho d b w1 hJd hN hx hmiss hdep K hK
              match i, ho with
              | 0, ho =>
                obtain rfl := Option.some.inj ho
                refine want_none rfl ?_
                have e5 : b.tmps[5]? = some (.pointer (some ⟨w.heap.size, 0, none⟩)) := hmiss 5 rfl
                exact op_loadrow rfl (eval_of e5) (HB0.out.ext hx) _ Tryd.underlying28 rfl (by kernel_rfl) (hK _ w1 hx (fun _ => Ext.refl _) (fun e => absurd e (by decide)) rfl)
              | 1, ho =>
                obtain rfl := Option.some.inj ho
                refine want_none rfl ?_
                have e12 : b.tmps[12]? = some (.slice (some ⟨b9, off9, none⟩) l.length c4) := hmiss 12 rfl
                exact op_move rfl (eval_of e12) (hK _ w1 hx (fun _ => Ext.refl _) (fun e => absurd e (by decide)) rfl)
              | 2, ho =>
                obtain rfl := Option.some.inj ho
                refine want_none rfl ?_
                have e18 : b.tmps[18]? = some (.int .i64 (j : Nat)) := hmiss 18 rfl
                exact op_move rfl (eval_of e18) (hK _ w1 hx (fun _ => Ext.refl _) (fun e => absurd e (by decide)) rfl)
              | 3, ho =>
                obtain rfl := Option.some.inj ho
                refine want_none rfl ?_
                obtain ⟨v91, g91, e91⟩ := hdep 1 rfl
                have g91 : v91 = .slice (some ⟨b9, off9, none⟩) l.length c4 := g91
                subst g91
                have e91 := e91 91 rfl
                obtain ⟨v92, g92, e92⟩ := hdep 2 rfl
                have g92 : v92 = .int .i64 (j : Nat) := g92
                subst g92
                have e92 := e92 92 rfl
                exact op_run (by unfold execOp; simp [e91, e92, Act.eval, go_sem, hj]) (hK _ w1 hx (fun _ => Ext.refl _) (fun e => absurd e (by decide)) rfl)
              | 4, ho =>
                obtain rfl := Option.some.inj ho
                refine want_none rfl ?_
                obtain ⟨v93, g93, e93⟩ := hdep 3 rfl
                have g93 : v93 = .pointer (some ⟨b9, off9 + j * 3, none⟩) := g93
                subst g93
                have e93 := e93 93 rfl
                have s0 := (hx.cell (p := ⟨b9, off9 + j * 3, none⟩) hbl).trans r0
                have s1 := (hx.cell (p := ⟨b9, off9 + j * 3 + 1, none⟩) hbl).trans r1
                have s2 := (hx.cell (p := ⟨b9, off9 + j * 3 + 2, none⟩) hbl).trans r2
                exact op_run (by unfold execOp; simp [e93, Act.eval, go_sem, s0, s1, s2]) (hK _ w1 hx (fun _ => Ext.refl _) (fun e => absurd e (by decide)) rfl)
              | 5, ho =>
                obtain rfl := Option.some.inj ho
                refine want_none rfl ?_
                have e4 : b.tmps[4]? = some (.int .u8 cv) := hmiss 4 rfl
                exact op_move rfl (eval_of e4) (hK _ w1 hx (fun _ => Ext.refl _) (fun e => absurd e (by decide)) rfl)
              | 6, ho =>
                obtain rfl := Option.some.inj ho
                refine want_none rfl ?_
                obtain ⟨v95, g95, e95⟩ := hdep 5 rfl
                have g95 : v95 = .int .u8 cv := g95
                subst g95
                have e95 := e95 95 rfl
                exact op_run (by unfold execOp; simp [e95, Act.eval, go_sem, hwv]) (hK _ w1 hx (fun _ => Ext.refl _) (fun e => absurd e (by decide)) rfl)
              | 7, ho =>
                obtain rfl := Option.some.inj ho
                refine want_none rfl ?_
                obtain ⟨v90, g90, e90⟩ := hdep 0 rfl
                have g90 : v90 = .agg #[.int .i64 g.box.lo.x, .int .i64 g.box.lo.y, .int .i64 g.box.lo.z, .int .i64 g.box.hi.x, .int .i64 g.box.hi.y, .int .i64 g.box.hi.z, .slice A g.cells.length c] := g90
                subst g90
                have e90 := e90 90 rfl
                obtain ⟨v94, g94, e94⟩ := hdep 4 rfl
                have g94 : v94 = .agg #[.int .i64 q.x, .int .i64 q.y, .int .i64 q.z] := g94
                subst g94
                have e94 := e94 94 rfl
                obtain ⟨v96, g96, e96⟩ := hdep 6 rfl
                have g96 : v96 = .int .i64 cv := g96
                subst g96
                have e96 := e96 96 rfl
                have hc := (HSET.out w1 hx).mono (R' := fun e w' => ∃ v, e = .returned v ∧ (Ext w1 w' ∧ ∃ A' c', v = .agg #[.int .i64 g3.box.lo.x, .int .i64 g3.box.lo.y, .int .i64 g3.box.lo.z, .int .i64 g3.box.hi.x, .int .i64 g3.box.hi.y, .int .i64 g3.box.hi.z, .slice A' g3.cells.length c'] ∧ (d = false → w'.ownsRow W8.heap.size 3 1 (.slice A' g3.cells.length c') g3.cells.length (rowsI g3.cells).flatten))) fun e w' ⟨A', c', h1, h2, _, h4⟩ => ⟨_, h1, h4, A', c', rfl, fun _ => own_low_mono hx.size h2⟩
                exact op_callG rfl (by simp [eval_of e90, eval_of e94, eval_of e96]) (fun _ _ => by kernel_rfl) hc (fun v w' h => hK v w' (hx.trans h.1) (fun _ => h.1) (fun e => absurd e (by decide)) h.2)
              | 8, ho =>
                obtain rfl := Option.some.inj ho
                refine want_none rfl ?_
                exact op_run (v := .pointer (some ⟨w1.heap.size, 0, none⟩)) (w2 := w1.alloc (.cells ([.int .i64 0, .int .i64 0, .int .i64 0, .int .i64 0, .int .i64 0, .int .i64 0, .slice none 0 0] : List Value).toArray 28)) (by unfold execOp; simp [go_sem]) (hK _ _ (hx.alloc _) (fun _ => (Ext.refl _).alloc _) (fun e => absurd e (by decide)) ⟨_, rfl, hx.size, fun _ => Arr.new w1 _ _⟩)
              | 9, ho =>
                obtain rfl := Option.some.inj ho
                refine want_none rfl ?_
                obtain rfl : d = false := hJd rfl
                obtain ⟨v19, ⟨fb, g19, f1, f2⟩, e19⟩ := hdep 8 rfl
                obtain ⟨v97, ⟨A', c', g97, o97⟩, e97⟩ := hdep 7 rfl
                subst g19 g97
                have e19 := e19 19 rfl
                have e97 := e97 97 rfl
                have B := f2 rfl
                have O := o97 rfl
                refine wp_store_row 28 (.tmp 19) (.tmp 97) rfl fb #[.int .i64 g3.box.lo.x, .int .i64 g3.box.lo.y, .int .i64 g3.box.lo.z, .int .i64 g3.box.hi.x, .int .i64 g3.box.hi.y, .int .i64 g3.box.hi.z, .slice A' g3.cells.length c'] (eval_of e19) (eval_of e97) _ ([.int .i64 0, .int .i64 0, .int .i64 0, .int .i64 0, .int .i64 0, .int .i64 0, .slice none 0 0] : List Value).toArray B (by kernel_rfl) rfl (by simp [Value.oneCell']) (hK undef _ (hx.setRow f1 _) (fun e => absurd rfl e) (fun _ v0 h0 => ?_) trivial)
                rw [e19] at h0
                injection h0 with h0
                subst h0
                exact ⟨fb, A', c', rfl, B.setRow [.int .i64 g3.box.lo.x, .int .i64 g3.box.lo.y, .int .i64 g3.box.lo.z, .int .i64 g3.box.hi.x, .int .i64 g3.box.hi.y, .int .i64 g3.box.hi.z, .slice A' g3.cells.length c'], Sv.of_own (own_keep O (grown_row (grown_refl w1 _) _) (fun b hb hbb => own_ne_arr O B (by decide) (by rw [hbb, hb]))) (rowsI_rwk _) (rowsI_length _)⟩
              | i + 10, ho => cases ho
            · intro V16 W16 hx hg hfin
              obtain ⟨fb, A3, c3, q0, hBF, hS3⟩ := hfin
              simp only [List.length_cons, List.length_nil, fillAllN, dstOf, Act.put, List.getElem?_toArray, List.getElem?_cons_zero, List.getElem?_cons_succ, Option.bind_some, List.setIfInBounds_toArray, List.set_cons_zero, List.set_cons_succ, q0]
              have HBF := Lib.hid hBF; have HS3 := Lib.hid hS3
              clear hg q0 hBF hS3 r0 r1 r2 hbl HSET
              have HL := Lib.hid (HL.out.ext hx)
              have HX := Lib.hid (HX.out.trans hx)
              have HSW := Lib.hid (HS.out.ext HX.out); have HSTW := Lib.hid (HST.out.ext HX.out)
              clear hx
              have hjc : j ≤ c4 := by omega
              have hjc2 : j + 1 ≤ c4 := by omega
              have hjl : j + 1 ≤ l.length := by omega
              have hwj : IntKind.i64.wrap ((j : Int) + 1) = ((j + 1 : Nat) : Int) := by have h1 : IntKind.i64.bits = 64 := rfl; have h2 : IntKind.i64.signed = true := rfl; simp [IntKind.wrap, h1, h2]; omega
              have HD := Lib.hid (HL.out.drop (i := j + 1) (by rw [rowsP_length]; omega))
              have hji : ¬ ((l.length : Int) < (j : Int) + 1) := by omega
              have hj0 : 0 ≤ (j : Int) + 1 := by omega
              obtain ⟨A7, hA7⟩ : ∃ A7 : Option Addr, A7 = (if c4 = j + 1 then some ⟨b9, off9, none⟩ else some ⟨b9, off9 + (j + 1) * 3, none⟩) := ⟨_, rfl⟩
              have HD := Lib.hid (show Sv W16 W16.heap.size 3 A7 (c4 - (j + 1)) (rowsP (l.drop (j + 1))) from by
                have h := HD.out
                rw [← rowsP_drop] at h
                rw [hA7]
                simpa [Addr.add] using h)
              have HT := Lib.hid (show Sv W16 W16.heap.size 3 (some ⟨b9, off9, none⟩) c4 (rowsP (l.take j)) from by rw [rowsP_take]; exact HL.out.take _)
              go_upto_region 17 with fail
              refine wp_region_fin (w := W16) 9 (fun d i v w' => match i with
                  | 0 => ∃ b, v = .slice (some ⟨b, 0, none⟩) 0 0 ∧ (d = false → w'.ownsRow W16.heap.size 23 3 (.slice (some ⟨b, 0, none⟩) 0 0) 0 [])
                  | 1 => v = .slice (some ⟨b9, off9, none⟩) l.length c4
                  | 2 => v = .int .i64 (j : Nat)
                  | 3 => v = .slice (some ⟨b9, off9, none⟩) j c4
                  | 4 => ∃ A' c', v = .slice A' j c' ∧ (d = false → w'.ownsRow W16.heap.size 23 3 (.slice A' j c') j (rowsP (l.take j)).flatten)
                  | 5 => v = .slice (some ⟨b9, off9, none⟩) l.length c4
                  | 6 => v = .int .i64 (j : Nat)
                  | 7 => v = .int .i64 ((j + 1 : Nat) : Int)
                  | 8 => v = .slice A7 (l.length - (j + 1)) (c4 - (j + 1))
                  | 9 => d = true ∧ ∃ A' c', v = .slice A' (dropAt l j).length c' ∧ Sv w' w'.heap.size 3 A' c' (rowsP (dropAt l j))
                  | 10 => d = true ∧ ∃ A' c', v = .slice A' (dropAt l j).length c' ∧ Sv w' w'.heap.size 3 A' c' (rowsP (dropAt l j))
                  | _ => True) 4 102 (fun _ _ => True) hm (by kernel_rfl) (by kernel_rfl) rfl (by decide) rfl ⟨_, rfl, by kernel_rfl⟩ ?_ ?_ ?_ ?_ ?_
              · intro d i v w1 w2 hx h
                match i, h with
                | 0, h => exact (by obtain ⟨b, k1, k2⟩ := h; exact ⟨b, k1, fun e => own_ext (k2 e) hx⟩)
                | 1, h => exact h
                | 2, h => exact h
                | 3, h => exact h
                | 4, h => exact (by obtain ⟨A', c', k1, k2⟩ := h; exact ⟨A', c', k1, fun e => own_ext (k2 e) hx⟩)
                | 5, h => exact h
                | 6, h => exact h
                | 7, h => exact h
                | 8, h => exact h
                | 9, h => exact (by obtain ⟨k0, A', c', k1, k2⟩ := h; exact ⟨k0, A', c', k1, k2.ext hx⟩)
                | 10, h => exact (by obtain ⟨k0, A', c', k1, k2⟩ := h; exact ⟨k0, A', c', k1, k2.ext hx⟩)
                | i + 11, h => exact trivial
              · intro i v w1 w2 h
                match i, h with
                | 0, h => exact (by obtain ⟨b, k1, k2⟩ := h; exact ⟨b, k1, fun e => by cases e⟩)
                | 1, h => exact h
                | 2, h => exact h
                | 3, h => exact h
                | 4, h => exact (by obtain ⟨A', c', k1, k2⟩ := h; exact ⟨A', c', k1, fun e => by cases e⟩)
                | 5, h => exact h
                | 6, h => exact h
                | 7, h => exact h
                | 8, h => exact h
                | 9, h => exact absurd h.1 (by simp)
                | 10, h => exact absurd h.1 (by simp)
                | i + 11, h => exact trivial
              · intro v w1 w2 hx h; exact trivial
              · intro i o ho d b w1 hJd hN hx hmiss hdep K hK
                match i, ho with
                | 0, ho =>
                  obtain rfl := Option.some.inj ho
                  refine want_none rfl ?_
                  exact op_run (v := .slice (some ⟨w1.heap.size, 0, none⟩) 0 0) (w2 := w1.alloc (.cells #[] 23)) (by unfold execOp; simp [go_sem]) (hK _ _ (hx.alloc _) (fun _ => (Ext.refl _).alloc _) (fun e => absurd e (by decide)) ⟨_, rfl, fun _ => own_low_mono hx.size (own_zero w1 _ 3)⟩)
                | 1, ho =>
                  obtain rfl := Option.some.inj ho
                  refine want_none rfl ?_
                  have e12 : b.tmps[12]? = some (.slice (some ⟨b9, off9, none⟩) l.length c4) := hmiss 12 rfl
                  exact op_move rfl (eval_of e12) (hK _ w1 hx (fun _ => Ext.refl _) (fun e => absurd e (by decide)) rfl)
                | 2, ho =>
                  obtain rfl := Option.some.inj ho
                  refine want_none rfl ?_
                  have e18 : b.tmps[18]? = some (.int .i64 (j : Nat)) := hmiss 18 rfl
                  exact op_move rfl (eval_of e18) (hK _ w1 hx (fun _ => Ext.refl _) (fun e => absurd e (by decide)) rfl)
                | 3, ho =>
                  obtain rfl := Option.some.inj ho
                  refine want_none rfl ?_
                  obtain ⟨v99, g99, e99⟩ := hdep 1 rfl
                  have g99 : v99 = .slice (some ⟨b9, off9, none⟩) l.length c4 := g99
                  subst g99
                  have e99 := e99 99 rfl
                  obtain ⟨v100, g100, e100⟩ := hdep 2 rfl
                  have g100 : v100 = .int .i64 (j : Nat) := g100
                  subst g100
                  have e100 := e100 100 rfl
                  exact op_run (by unfold execOp; simp [e99, e100, Act.eval, go_sem, hjc]) (hK _ w1 hx (fun _ => Ext.refl _) (fun e => absurd e (by decide)) rfl)
                | 4, ho =>
                  obtain rfl := Option.some.inj ho
                  refine want_none rfl ?_
                  obtain rfl : d = false := hN (by kernel_rfl)
                  obtain ⟨v98, ⟨b, k1, k2⟩, e98⟩ := hdep 0 rfl
                  subst k1
                  have e98 := e98 98 rfl
                  obtain ⟨v101, g101, e101⟩ := hdep 3 rfl
                  have g101 : v101 = .slice (some ⟨b9, off9, none⟩) j c4 := g101
                  subst g101
                  have e101 := e101 101 rfl
                  refine op_append_zero (.tmp 98) (.tmp 101) 31 rfl W16.heap.size 23 i0 (.agg #[.int .i64 0, .int .i64 0, .int .i64 0]) 3 24 Tryd.underlying31 HI0.out HZ0.out HZ1.out HZ2.out rfl (by decide) b (eval_of e98) (k2 rfl) _ _ j c4 (rowsP (l.take j)) (eval_of e101) (HT.out.ext hx) (by rw [rowsP_length, List.length_take]; omega) (by unfold maxLen; omega) (by omega) hx.size (fun v' w' ho he => ?_)
                  have ho' := ho
                  obtain ⟨A', c', e, _⟩ := own_form ho'
                  subst e
                  exact hK _ w' (hx.trans he) (fun _ => he) (fun e => absurd e (by decide)) ⟨A', c', rfl, fun _ => ho⟩
                | 5, ho =>
                  obtain rfl := Option.some.inj ho
                  refine want_none rfl ?_
                  have e12 : b.tmps[12]? = some (.slice (some ⟨b9, off9, none⟩) l.length c4) := hmiss 12 rfl
                  exact op_move rfl (eval_of e12) (hK _ w1 hx (fun _ => Ext.refl _) (fun e => absurd e (by decide)) rfl)
                | 6, ho =>
                  obtain rfl := Option.some.inj ho
                  refine want_none rfl ?_
                  have e18 : b.tmps[18]? = some (.int .i64 (j : Nat)) := hmiss 18 rfl
                  exact op_move rfl (eval_of e18) (hK _ w1 hx (fun _ => Ext.refl _) (fun e => absurd e (by decide)) rfl)
                | 7, ho =>
                  obtain rfl := Option.some.inj ho
                  refine want_none rfl ?_
                  obtain ⟨v104, g104, e104⟩ := hdep 6 rfl
                  have g104 : v104 = .int .i64 (j : Nat) := g104
                  subst g104
                  have e104 := e104 104 rfl
                  exact op_run (by unfold execOp; simp [e104, Act.eval, go_sem, hwj]) (hK _ w1 hx (fun _ => Ext.refl _) (fun e => absurd e (by decide)) rfl)
                | 8, ho =>
                  obtain rfl := Option.some.inj ho
                  refine want_none rfl ?_
                  obtain ⟨v103, g103, e103⟩ := hdep 5 rfl
                  have g103 : v103 = .slice (some ⟨b9, off9, none⟩) l.length c4 := g103
                  subst g103
                  have e103 := e103 103 rfl
                  obtain ⟨v105, g105, e105⟩ := hdep 7 rfl
                  have g105 : v105 = .int .i64 ((j + 1 : Nat) : Int) := g105
                  subst g105
                  have e105 := e105 105 rfl
                  exact op_run (by unfold execOp; simp [e103, e105, Act.eval, go_sem, hA7, hji, hj0]) (hK _ w1 hx (fun _ => Ext.refl _) (fun e => absurd e (by decide)) rfl)
                | 9, ho =>
                  obtain rfl := Option.some.inj ho
                  refine want_none rfl ?_
                  obtain rfl : d = false := hJd rfl
                  obtain ⟨v102, ⟨A', c', k1, k2⟩, e102⟩ := hdep 4 rfl
                  subst k1
                  have e102 := e102 102 rfl
                  have k2 := k2 rfl
                  obtain ⟨v106, g106, e106⟩ := hdep 8 rfl
                  have g106 : v106 = .slice A7 (l.length - (j + 1)) (c4 - (j + 1)) := g106
                  subst g106
                  have e106 := e106 106 rfl
                  refine op_append_sv (.tmp 102) (.tmp 106) 31 rfl W16.heap.size 23 i0 (.agg #[.int .i64 0, .int .i64 0, .int .i64 0]) 3 24 Tryd.underlying31 HI0.out HZ0.out HZ1.out HZ2.out rfl (by decide) _ j _ (eval_of e102) k2 _ _ (l.length - (j + 1)) (c4 - (j + 1)) (rowsP (l.drop (j + 1))) (eval_of e106) (HD.out.ext hx) (by rw [rowsP_length, List.length_drop]) (by unfold maxLen; omega) (by omega) hx.size (fun v' w' ho hg => ?_)
                  have hl' : j + (l.length - (j + 1)) = (dropAt l j).length := by rw [dropAt_length hj]; omega
                  have ho : w'.ownsRow W16.heap.size 23 3 v' (dropAt l j).length (rowsP (dropAt l j)).flatten := by rw [← hl']; simpa [rowsP, dropAt] using ho
                  obtain ⟨A', c', e, _⟩ := own_form ho
                  subst e
                  exact hK _ w' (hx.own k2 hg (Nat.le_refl _)) (fun e => absurd rfl e) (fun _ _ _ => trivial) ⟨rfl, A', c', rfl, Sv.of_own ho (rowsP_rwk _) (rowsP_length _)⟩
                | 10, ho =>
                  obtain rfl := Option.some.inj ho
                  refine want_none rfl ?_
                  obtain ⟨v1, g1, e1⟩ := hdep 9 rfl
                  have e1 := e1 107 rfl
                  exact op_assign rfl (eval_of e1) (hK _ w1 hx (fun _ => Ext.refl _) (fun e => absurd e (by decide)) g1)
                | i + 11, ho => cases ho
              · intro V17 W17 hx hg _
                obtain ⟨_, AR, cR, q0, sR⟩ := hg 10 (by decide)
                simp only [List.length_cons, List.length_nil, fillAllN, dstOf, Act.put, List.getElem?_toArray, List.getElem?_cons_zero, List.getElem?_cons_succ, Option.bind_some, List.setIfInBounds_toArray, List.set_cons_zero, List.set_cons_succ, q0]
                have HR := Lib.hid sR
                clear hg q0 sR hA7 HD HT
                have HBF := Lib.hid (HBF.out.ext hx); have HS3 := Lib.hid (HS3.out.ext hx)

                have HX := Lib.hid (HX.out.trans hx)
                have HSW := Lib.hid (HS.out.ext HX.out); have HSTW := Lib.hid (HST.out.ext HX.out)
                clear hx
                have hrl : (dropAt l j).length ≤ 199 := by rw [dropAt_length hj]; omega
                have hrln : (dropAt l j).length ≤ 9223372036854775807 := by omega
                have HRM := Lib.hid (fun x => dropAt_mem HQ.out HRG.out.sort.nodup x)
                have HRN := Lib.hid (dropAt_sort (k := j) HRG.out.sort).nodup
                have HPA := Lib.hid (fillParts_any AR cR (dropAt l j) W17 HSTW.out HR.out (by omega) (fun p hp => fld_small g HV.out p (by rw [HLI.out p ((HRM.out p).1 hp).1]; simp)))
                generalize dropAt l j = rest at hrl hrln HRM HRN HPA
                go_wp2_with (go_at_call 22; refine HPA.out.mono ?_; rintro e WP ⟨ps, vs, AP, cP, hps, rfl, sP, xP⟩)
                have HPS := Lib.hid hps; have HP := Lib.hid sP
                have HBF := Lib.hid (HBF.out.ext xP); have HS3 := Lib.hid (HS3.out.ext xP)

                have HX := Lib.hid (HX.out.trans xP)
                have HSW := Lib.hid (HS.out.ext HX.out); have HSTW := Lib.hid (HST.out.ext HX.out)
                clear xP
                have hsum := parts_sum hps HRN.out
                have hpl : ps.length ≤ 9223372036854775807 := by have h := sP.out.len; rw [List.length_map, sP.len] at h; exact h
                clear HPA hps sP
                go_loopw [22, 23] (fun nv i wr => ∃ k : Nat, nv = .int .i64 (lenTo ps k : Nat) ∧ i = .int .i64 k ∧ k ≤ ps.length ∧ Ext WP wr) (fun _ i _ => ps.length - (intOf i).toNat)
                case atStart => exact ⟨0, rfl, rfl, Nat.zero_le _, Ext.refl _⟩
                case round =>
                  obtain ⟨k, rfl, rfl, hk, hxr⟩ := hrel
                  by_cases hlt : k < ps.length
                  · obtain ⟨r, hr⟩ : ∃ r, ps[k]? = some r := ⟨_, List.getElem?_eq_getElem hlt⟩
                    have hfs := lenTo_succ ps hr
                    have hsl := lenTo_le ps (k + 1)
                    obtain ⟨b0, hb0, hbr, hgr⟩ := parts_each HPS.out (List.mem_of_getElem? hr)
                    have hrpos : 0 < r.length := (List.getElem?_eq_some_iff.1 hb0).1
                    have hr0 : ((r.length : Int) == 0) = false := by rw [beq_eq_false_iff_ne]; omega
                    have hrl2 : r.length ≤ 9223372036854775807 := by omega
                    have hwr : IntKind.i64.wrap ((lenTo ps k : Int) + (r.length : Int)) = ((lenTo ps (k + 1) : Nat) : Int) := by have h1 : IntKind.i64.bits = 64 := rfl; have h2 : IntKind.i64.signed = true := rfl; rw [hfs]; simp [IntKind.wrap, h1, h2]; omega
                    obtain ⟨bp, offp, AQ, cQ, rfl, hbp, p0, sQ⟩ := (HP.out.ext hxr).row hr
                    obtain ⟨bq, offq, rfl, hbq, s0, s1, s2⟩ := pt_row sQ hb0
                    rw [Nat.zero_mul, Nat.add_zero] at s0 s1 s2
                    have HQ2 := Lib.hid sQ
                    have HRC := Lib.hid (reg_cut HRG.out HF2.out HCV.out HRM.out hbr hgr)
                    have HBF := Lib.hid (HBF.out.ext hxr); have HS3 := Lib.hid (HS3.out.ext hxr); have HSTW := Lib.hid (HSTW.out.ext hxr)
                    have HXR := Lib.hid hxr
                    clear hr hb0 hbr hgr sQ hxr
                    go_upto_region 26 with fail
                    refine wp_region_flow (w := wr) 9 (fun d i v w' => match i with
                        | 0 => v = .agg #[.int .i64 g3.box.lo.x, .int .i64 g3.box.lo.y, .int .i64 g3.box.lo.z, .int .i64 g3.box.hi.x, .int .i64 g3.box.hi.y, .int .i64 g3.box.hi.z, .slice A3 g3.cells.length c3]
                        | 1 => OfG g3 (A3) c3 wr (fun v => v) d v w'
                        | 2 => OfG g3 (A3) c3 wr (fun v => .iface 35 v) d v w'
                        | 3 => v = .slice (some ⟨bp, offp, none⟩) ps.length cP
                        | 4 => v = .int .i64 (k : Nat)
                        | 5 => v = .pointer (some ⟨bp, offp + k, none⟩)
                        | 6 => v = .slice (some ⟨bq, offq, none⟩) r.length cQ
                        | 7 => v = .pointer (some ⟨bq, offq, none⟩)
                        | 8 => v = .agg #[.int .i64 b0.x, .int .i64 b0.y, .int .i64 b0.z]
                        | 9 => d = true ∧ GT (FloodOut (fld g3) b0 200) v w'
                        | 10 => d = true ∧ GT (FloodOut (fld g3) b0 200) v w'
                        | 11 => d = true ∧ G0 (FloodOut (fld g3) b0 200) v w'
                        | 12 => d = true ∧ G1 (FloodOut (fld g3) b0 200) v
                        | 13 => d = true ∧ G0 (FloodOut (fld g3) b0 200) v w'
                        | 14 => d = true ∧ G1 (FloodOut (fld g3) b0 200) v
                        | _ => True) hm (by kernel_rfl) (by kernel_rfl) rfl ?_ ?_ ?_ ?_
                    · intro d i v w1 w2 hx h
                      match i, h with
                      | 0, h => exact h
                      | 1, h => exact OfG.ext h hx
                      | 2, h => exact OfG.ext h hx
                      | 3, h => exact h
                      | 4, h => exact h
                      | 5, h => exact h
                      | 6, h => exact h
                      | 7, h => exact h
                      | 8, h => exact h
                      | 9, h => exact ⟨h.1, h.2.ext hx⟩
                      | 10, h => exact ⟨h.1, h.2.ext hx⟩
                      | 11, h => exact ⟨h.1, h.2.ext hx⟩
                      | 12, h => exact h
                      | 13, h => exact ⟨h.1, h.2.ext hx⟩
                      | 14, h => exact h
                      | i + 15, h => exact trivial
                    · intro i v w1 w2 h
                      match i, h with
                      | 0, h => exact h
                      | 1, h => exact OfG.up h
                      | 2, h => exact OfG.up h
                      | 3, h => exact h
                      | 4, h => exact h
                      | 5, h => exact h
                      | 6, h => exact h
                      | 7, h => exact h
                      | 8, h => exact h
                      | 9, h => exact absurd h.1 (by simp)
                      | 10, h => exact absurd h.1 (by simp)
                      | 11, h => exact absurd h.1 (by simp)
                      | 12, h => exact absurd h.1 (by simp)
                      | 13, h => exact absurd h.1 (by simp)
                      | 14, h => exact absurd h.1 (by simp)
                      | i + 15, h => exact trivial
                    · intro i o ho d b w1 hJd hx hmiss hdep K hK
                      match i, ho with
                      | 0, ho =>
                        obtain rfl := Option.some.inj ho
                        refine want_none rfl ?_
                        have e19 : b.tmps[19]? = some (.pointer (some ⟨fb, 0, none⟩)) := hmiss 19 rfl
                        exact op_loadrow rfl (eval_of e19) (HBF.out.ext hx) _ Tryd.underlying28 rfl (by kernel_rfl) (hK _ w1 hx (fun _ => Ext.refl _) rfl)
                      | 1, ho =>
                        obtain rfl := Option.some.inj ho
                        refine want_none rfl ?_
                        obtain ⟨v130, g130, e130⟩ := hdep 0 rfl
                        have g130 : v130 = .agg #[.int .i64 g3.box.lo.x, .int .i64 g3.box.lo.y, .int .i64 g3.box.lo.z, .int .i64 g3.box.hi.x, .int .i64 g3.box.hi.y, .int .i64 g3.box.hi.z, .slice A3 g3.cells.length c3] := g130
                        subst g130
                        have e130 := e130 130 rfl
                        have hc := (of_any g3 (A3) c3 w1 (HS3.out.ext hx)).mono (R' := fun e w' => ∃ v, e = .returned v ∧ (Ext w1 w' ∧ OfG g3 (A3) c3 wr (fun v => v) d v w')) fun e w' ⟨fb, h1, h2, h3, h4, h5⟩ => ⟨_, h3, h5, fb, rfl, Nat.le_trans hx.size h1, fun _ => h4⟩
                        exact op_callG rfl (by simp [eval_of e130]) (fun _ _ => by kernel_rfl) hc (fun v w' h => hK v w' (hx.trans h.1) (fun _ => h.1) h.2)
                      | 2, ho =>
                        obtain rfl := Option.some.inj ho
                        refine want_none rfl ?_
                        obtain ⟨v1, g1, e1⟩ := hdep 1 rfl
                        obtain ⟨fb, g1, g2, g3⟩ := g1
                        subst g1
                        have e1 := e1 131 rfl
                        exact op_run (by unfold execOp; simp [e1, Act.eval, go_sem]) (hK _ w1 hx (fun _ => Ext.refl _) ⟨fb, rfl, g2, g3⟩)
                      | 3, ho =>
                        obtain rfl := Option.some.inj ho
                        refine want_none rfl ?_
                        have e21 : b.tmps[21]? = some (.slice (some ⟨bp, offp, none⟩) ps.length cP) := hmiss 21 rfl
                        exact op_move rfl (eval_of e21) (hK _ w1 hx (fun _ => Ext.refl _) rfl)
                      | 4, ho =>
                        obtain rfl := Option.some.inj ho
                        refine want_none rfl ?_
                        have e23 : b.tmps[23]? = some (.int .i64 (k : Nat)) := hmiss 23 rfl
                        exact op_move rfl (eval_of e23) (hK _ w1 hx (fun _ => Ext.refl _) rfl)
                      | 5, ho =>
                        obtain rfl := Option.some.inj ho
                        refine want_none rfl ?_
                        obtain ⟨v133, g133, e133⟩ := hdep 3 rfl
                        have g133 : v133 = .slice (some ⟨bp, offp, none⟩) ps.length cP := g133
                        subst g133
                        have e133 := e133 133 rfl
                        obtain ⟨v134, g134, e134⟩ := hdep 4 rfl
                        have g134 : v134 = .int .i64 (k : Nat) := g134
                        subst g134
                        have e134 := e134 134 rfl
                        exact op_run (by unfold execOp; simp [e133, e134, Act.eval, go_sem, hlt]) (hK _ w1 hx (fun _ => Ext.refl _) rfl)
                      | 6, ho =>
                        obtain rfl := Option.some.inj ho
                        refine want_none rfl ?_
                        obtain ⟨v135, g135, e135⟩ := hdep 5 rfl
                        have g135 : v135 = .pointer (some ⟨bp, offp + k, none⟩) := g135
                        subst g135
                        have e135 := e135 135 rfl
                        have s0 := (hx.cell (p := ⟨bp, offp + k, none⟩) hbp).trans p0
                        exact op_run (by unfold execOp; simp [e135, Act.eval, go_sem, s0]) (hK _ w1 hx (fun _ => Ext.refl _) rfl)
                      | 7, ho =>
                        obtain rfl := Option.some.inj ho
                        refine want_none rfl ?_
                        obtain ⟨v136, g136, e136⟩ := hdep 6 rfl
                        have g136 : v136 = .slice (some ⟨bq, offq, none⟩) r.length cQ := g136
                        subst g136
                        have e136 := e136 136 rfl
                        exact op_run (by unfold execOp; simp [e136, Act.eval, go_sem, hrpos]) (hK _ w1 hx (fun _ => Ext.refl _) rfl)
                      | 8, ho =>
                        obtain rfl := Option.some.inj ho
                        refine want_none rfl ?_
                        obtain ⟨v137, g137, e137⟩ := hdep 7 rfl
                        have g137 : v137 = .pointer (some ⟨bq, offq, none⟩) := g137
                        subst g137
                        have e137 := e137 137 rfl
                        have t0 := (hx.cell (p := ⟨bq, offq, none⟩) hbq).trans s0
                        have t1 := (hx.cell (p := ⟨bq, offq + 1, none⟩) hbq).trans s1
                        have t2 := (hx.cell (p := ⟨bq, offq + 2, none⟩) hbq).trans s2
                        exact op_run (by unfold execOp; simp [e137, Act.eval, go_sem, t0, t1, t2]) (hK _ w1 hx (fun _ => Ext.refl _) rfl)
                      | 9, ho =>
                        obtain rfl := Option.some.inj ho
                        refine want_none rfl ?_
                        obtain rfl : d = false := hJd rfl
                        obtain ⟨v1, ⟨fb, g1, f1, fc⟩, e1⟩ := hdep 2 rfl
                        subst g1
                        have e1 := e1 132 rfl
                        obtain ⟨v138, g138, e138⟩ := hdep 8 rfl
                        have g138 : v138 = .agg #[.int .i64 b0.x, .int .i64 b0.y, .int .i64 b0.z] := g138
                        subst g138
                        have e138 := e138 138 rfl
                        have hc := (floodG_any HV3.out H2003.out (fc rfl) hx f1 HSTW.out b0 200).mono (R' := fun e w' => ∃ v, e = .returned v ∧ (Ext wr w' ∧ GT (FloodOut (fld g3) b0 200) v w')) fun e w' ⟨l, er, A', c', k, h1, h2, h3, h4, h5, h6⟩ => ⟨_, h3, h6, l, er, A', c', h1, rfl, h4⟩
                        exact op_callG rfl (by first | (simp [eval_of e1, eval_of e138]; done) | (simp [eval_of e1, eval_of e138]; rfl)) (fun _ _ => by kernel_rfl) hc (fun v w' h => hK v w' h.1 (fun e => absurd rfl e) ⟨rfl, h.2⟩)
                      | 10, ho =>
                        obtain rfl := Option.some.inj ho
                        refine want_none rfl ?_
                        obtain ⟨v1, g1, e1⟩ := hdep 9 rfl
                        have e1 := e1 139 rfl
                        exact op_move rfl (eval_of e1) (hK _ w1 hx (fun _ => Ext.refl _) g1)
                      | 11, ho =>
                        obtain rfl := Option.some.inj ho
                        refine want_none rfl ?_
                        obtain ⟨v1, g1, e1⟩ := hdep 10 rfl
                        have e1 := e1 129 rfl
                        obtain ⟨gd, l, er, A', c', h1, h2, h3⟩ := g1
                        subst h2
                        exact op_run (by unfold execOp; simp [e1, Act.eval, go_sem]) (hK _ w1 hx (fun _ => Ext.refl _) ⟨gd, l, er, A', c', h1, rfl, h3⟩)
                      | 12, ho =>
                        obtain rfl := Option.some.inj ho
                        refine want_none rfl ?_
                        obtain ⟨v1, g1, e1⟩ := hdep 10 rfl
                        have e1 := e1 129 rfl
                        obtain ⟨gd, l, er, A', c', h1, h2, h3⟩ := g1
                        subst h2
                        exact op_run (by unfold execOp; simp [e1, Act.eval, go_sem]) (hK _ w1 hx (fun _ => Ext.refl _) ⟨gd, l, er, h1, rfl⟩)
                      | 13, ho =>
                        obtain rfl := Option.some.inj ho
                        refine want_none rfl ?_
                        obtain ⟨v1, g1, e1⟩ := hdep 11 rfl
                        have e1 := e1 140 rfl
                        exact op_assign rfl (eval_of e1) (hK _ w1 hx (fun _ => Ext.refl _) g1)
                      | 14, ho =>
                        obtain rfl := Option.some.inj ho
                        refine want_none rfl ?_
                        obtain ⟨v1, g1, e1⟩ := hdep 12 rfl
                        have e1 := e1 141 rfl
                        exact op_assign rfl (eval_of e1) (hK _ w1 hx (fun _ => Ext.refl _) g1)
                      | i + 15, ho => cases ho
                    · intro V26 W26 hx hg
                      obtain ⟨_, m, er1, A26, c26, hP26, q0, s26⟩ := hg 13 (by decide)
                      obtain ⟨_, l2, er, hP2, q1⟩ := hg 14 (by decide)
                      obtain ⟨e1, e2⟩ := hP26.uniq hP2
                      subst e1 e2
                      simp only [List.length_cons, List.length_nil, fillAllN, dstOf, Act.put, List.getElem?_toArray, List.getElem?_cons_zero, List.getElem?_cons_succ, Option.bind_some, List.setIfInBounds_toArray, List.set_cons_zero, List.set_cons_succ, q0, q1]
                      clear hg q0 q1 hP2
                      have hml : r = m ∧ er1 = 0 := by
                        have hcl3 : (g3.cells.length : Int) ≤ 200 := by have := H2003.out; omega
                        rcases floodOut_all HV3.out hcl3 hP26 with ⟨h1, _⟩ | ⟨v', h1, _, h3, h4⟩
                        · rw [HFL3.out, HRC.out.2] at h1; cases h1
                        · rw [HFL3.out] at h1 h3
                          rw [HRC.out.2] at h1
                          injection h1 with h1
                          subst h1
                          exact ⟨HRC.out.1.uniq h3, h4⟩
                      obtain ⟨rfl, rfl⟩ := hml
                      have HM := Lib.hid s26
                      have p1 := (hx.cell (p := ⟨bp, offp + k, none⟩) hbp).trans p0
                      have hbp := Nat.lt_of_lt_of_le hbp hx.size
                      have HQ3 := Lib.hid (HQ2.out.ext hx)
                      have HX9 := Lib.hid (HXR.out.trans hx)
                      clear hP26 s26 s0 s1 s2 p0 hx HRC HQ2
                      go_wp2_with (go_at_call 17; refine (same_known _ _ _ _ r _ HM.out HQ3.out).mono ?_; rintro e W27 ⟨rfl, x27⟩)
                      go_roundw
                      case rel => exact ⟨k + 1, by first | (rw [hfs]; go_num; done) | (simp [hfs]; done) | (rw [← hwr]; go_num), by go_num, by omega, HX9.out.trans x27⟩
                      case measure => simp [intOf]; omega
                  · obtain rfl : k = ps.length := by omega
                    rw [lenTo_all, hsum]
                    go_wp2
                    go_ret
                    exact ⟨rfl, HX.out.trans hxr⟩
end Go.Proofs.YtelhefjikdoihaaDoor

/- FillIsCutOff: for every input the law returns true, and each argument reads as it did. No condition. -/
namespace Go.Proofs.YtelhefjikdoihaaDoor
open Go Go.RowKit Go.ChangeShapes Go.WideShapes Go.ChangeAt

theorem u8b_Gt {n : Int} (h : (Lit.int .u8 n).wf = true) : 0 ≤ n ∧ n ≤ 255 := by simpa [Lit.wf, IntKind.min, IntKind.max, IntKind.signed, IntKind.bits] using h
set_option maxHeartbeats 1600000 in
set_option maxRecDepth 100000 in
theorem fillIsCutOff_lifted (os : Os) (started : os.Started) (H : Type) (enc : TypeId × Value → H) :
    ReturnsInHanded {} Tryd.checked os 7 .any (fun w args => (Rows.fillIsCutOffSpec.pre enc Tryd.prog Tryd.f7 Rows.fillIsCutOffRow.domain false w args ∧ laidMetH Tryd.prog laidL w) ∧ sizedMet enc Tryd.prog Tryd.f7 (OpenSpec.ofChange Rows.fillIsCutOffSpec) false w args) (Rows.fillIsCutOffSpec.post enc Tryd.prog Tryd.f7 false true false false) := by
  refine returnsInHanded_of_change_and (C := Tryd.checked) (X := fun w _ => laidMetH Tryd.prog laidL w) (fun _ _ _ hh h => h.of_heap hh) own_ started (by kernel_rfl) Tryd.func7
    (ChangeSpec.witness_shaped (enc := enc) (C := Tryd.checked) (os := os) (X := fun w _ => laidMetH Tryd.prog laidL w) false (World.laidAll Tryd.prog os laidL) #[.agg #[.int .i64 0, .int .i64 0, .int .i64 0, .int .i64 0, .int .i64 0, .int .i64 0, .slice none 0 0], .agg #[.int .i64 0, .int .i64 0, .int .i64 0], .int .u8 0, .agg #[.int .i64 0, .int .i64 0, .int .i64 0], .int .u8 0] 8 (World.laidAll_os _ _ _) (World.shaped_of_ZipB (by kernel_rfl) (by kernel_rfl)) (by kernel_rfl) (by kernel_rfl) (by kernel_rfl)
      (by rw [MakeChecks.laidMetH_plain _ _ _ (by kernel_rfl)]; exact laidMet_laidAll _ (by kernel_rfl) (by kernel_rfl))) ?_
  intro W base args ds gs before hval0 hW hcnd _ hLd _
  have hval : ∀ (j : Nat) t v, Tryd.f7.params[j]? = some t → args[j]? = some v → Value.okWide Tryd.prog W .any base t v := hval0
  have hLd := laid_of hLd
  have hW' := hW
  obtain ⟨p, q, hA0, hV, rfl, hfz, hnd⟩ := hW
  have hA : DataW.TrodAll enc Tryd.prog W 0 (fun _ => true) true Tryd.f7.params.toList args.toList ds p := hA0
  have hAll := hA
  rw [Tryd.params7] at hA hval
  obtain ⟨v0, vs0, d0, ds0, p0, q0, ha, rfl, rfl, h0, r0⟩ := trodAll_cons hA
  obtain ⟨v1, vs1, d1, ds1, p1, q1, rfl, rfl, rfl, h1, r1⟩ := trodAll_cons r0
  obtain ⟨v2, vs2, d2, ds2, p2, q2, rfl, rfl, rfl, h2, r2⟩ := trodAll_cons r1
  obtain ⟨v3, vs3, d3, ds3, p3, q3, rfl, rfl, rfl, h3, r3⟩ := trodAll_cons r2
  obtain ⟨v4, vs4, d4, ds4, p4, q4, rfl, rfl, rfl, h4, r4⟩ := trodAll_cons r3
  obtain ⟨rfl, rfl, rfl⟩ := trodAll_nil r4
  obtain ⟨rfl, rfl⟩ := trodVars_none hV
  have hargs : args = #[v0, v1, v2, v3, v4] := by apply Array.ext'; exact ha
  subst hargs
  obtain ⟨g, A, c, rfl, hs⟩ := read_grid (hval 0 _ _ rfl rfl) h0
  obtain ⟨a1, rfl⟩ := read_Pt (hval 1 _ _ rfl rfl) h1
  obtain ⟨n, rfl, rfl, rfl, hn⟩ := open_int Tryd.underlying5 (hval 2 _ _ rfl rfl) h2
  obtain ⟨o1, rfl⟩ := read_Pt (hval 3 _ _ rfl rfl) h3
  obtain ⟨v, rfl, rfl, rfl, hv⟩ := open_int Tryd.underlying5 (hval 4 _ _ rfl rfl) h4
  refine (FillIsCutOff_any g A c a1 n o1 v W hs (u8b_Gt hn) (u8b_Gt hv) hLd).mono fun e W' ⟨he, hx⟩ => ?_
  subst he
  have hlt : ∀ x, x ∈ (p0 ++ (p1 ++ ([] ++ (p3 ++ ([] ++ []))))) → x.block < W.heap.size := fun x hx2 => hW'.lt x (by simpa using hx2)
  exact ⟨_, rfl, _, _, _, [], _, [], hW', trodAll_mk1 (shut_bool Tryd.underlying4 true), args_below laidOut_ _ _ _ _ W' (by rw [Tryd.params7]; intro t ht; simp at ht; rcases ht with rfl | rfl | rfl | rfl | rfl <;> exact ⟨by kernel_rfl, of_decide_eq_true (by kernel_rfl)⟩) hAll hx.below hlt, rfl, hx.below.frame _, fun h => by cases h⟩

theorem fillIsCutOff_row : Rows.FillIsCutOffSaid :=
  OpenClaim.holds_of_wide 7 Tryd.f7 rfl rfl rfl rfl rfl rfl rfl ⟨rfl, rfl, rfl, rfl, rfl⟩ rfl rfl rfl rfl rfl (by kernel_rfl) Tryd.func7 (by kernel_rfl)
    (of_decide_eq_true (by kernel_rfl)) (by unfold Func.isWrapper; rw [if_neg (of_decide_eq_false (by kernel_rfl))]; exact ⟨rfl, rfl⟩)
    (fun os started H enc _ => fillIsCutOff_lifted os started H enc)

theorem fillIsCutOff_holds : Rows.FillIsCutOffCardSaid :=
  Claim7.holds_tied_plain_at .later [] [.data] true Rows.fillIsCutOffCard.stood.harness false
    fillIsCutOff_row (fun _ h => by cases h) (by kernel_rfl) (fun _ h => by cases h) fillIsCutOff_row_tie rfl ⟨rfl, rfl⟩ (by kernel_rfl) rfl
    (fun f fn hf hfn => by
      obtain rfl : f = 7 := Option.some.inj ((show Tryd.prog.funcNamed "voxel/voxellaw21.FillIsCutOff" = some 7 by kernel_rfl).symm.trans hf) |>.symm
      obtain rfl : fn = Tryd.f7 := (Option.some.inj (Tryd.func7.symm.trans hfn)).symm
      exact ⟨by kernel_rfl, fun j t ht => by
        rw [Tryd.params7] at ht
        have hm : t ∈ [28, 23, 5, 23, 5] := by simpa using Array.mem_of_getElem? ht
        have hall : ([28, 23, 5, 23, 5].all fun u => !Tryd.prog.wantsStandIn u) = true := by kernel_rfl
        exact (show Tryd.prog.wantsStandIn t = false by simpa using List.all_eq_true.1 hall t hm)⟩)
    (by kernel_rfl)
end Go.Proofs.YtelhefjikdoihaaDoor
