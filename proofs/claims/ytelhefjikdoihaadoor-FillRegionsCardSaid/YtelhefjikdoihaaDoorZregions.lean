/- YtelhefjikdoihaaDoorRel · YtelhefjikdoihaaDoorGh · YtelhefjikdoihaaDoorGj · YtelhefjikdoihaaDoorGk · YtelhefjikdoihaaDoorGkP -/
import Derived.Test.YtelhefjikdoihaaDoorTie
import Derived.Test.YtelhefjikdoihaaDoorCards
import Derived.LaidLaws
import Derived.SevenTiedAt
import Derived.Test.YtelhefjikdoihaaDoorZa5
/- A region that draws its order: what each operation yields is known by a property that stays true while memory grows. Calls that make memory are let in. -/
namespace Go.Proofs.YtelhefjikdoihaaDoor
open Go Go.RowKit

section
variable {P : Program}
/-- The law by a table, guards let in. -/
theorem wp_region_tabg {G : Type} {Q : Exit → Act → World → Prop} {id : Nat} {a : Act} {w : World} {l : List Oper} (V : G → Nat → Value) (R : World → Array Bool → G → World → Prop) (g0 : G) (hm : P.follows .mixedOrders = true) (hs : Slots l.toArray) (hb : Back l.toArray)
    (h0 : R w (Array.replicate l.length false) g0 w.drew)
    (hstep : ∀ listed g w1 i o, l[i]? = some o → listed.getD i true = false → (∀ e, e ∈ o.after → Region.binds .any e = true → listed.getD e.on false = true) → R w listed g w1 →
      ∀ K : Act → World → Prop, (∀ g' w', R w (listed.setIfInBounds i true) g' w' → (∀ j, j < l.length → listed.getD j true = true → V g' j = V g j) → K ((fill l.toArray (V g) listed a).put o.dst (V g' i)) w') →
        if Region.wanted o (yielded l.toArray (fill l.toArray (V g) listed a).tmps) = true then o.wp P (fill l.toArray (V g) listed a) w1 K Q else K ((fill l.toArray (V g) listed a).put o.dst undef) w1)
    (hend : ∀ listed g w1, (∀ i, i < l.length → listed.getD i true = true) → R w listed g w1 → Q .normal (fill l.toArray (V g) listed a) w1) : (Code.region id l.toArray true).wp P Q a w := by
  refine wp_region_inv (fun listed b w1 => ∃ g, b = fill l.toArray (V g) listed a ∧ R w listed g w1) hm ⟨g0, ?_, h0⟩ ?_ ?_
  · have : ∀ n, fillN l.toArray (V g0) (Array.replicate l.length false) a n = a ∨ l.length < n := by
      intro n
      induction n with
      | zero => exact .inl rfl
      | succ n ih =>
        by_cases hn : l.length < n + 1
        · exact .inr hn
        · rcases ih with ih | ih
          · refine .inl ?_
            unfold fillN
            rw [if_neg (by simp [Array.getD]; omega), ih]
          · omega
    rcases this l.toArray.size with h | h
    · exact h.symm
    · simp at h
  · rintro listed b w1 i ⟨g, rfl, hR⟩ hi
    obtain ⟨hun, o, ho, hdeps⟩ := mem_ready.1 hi
    have ho' : l[i]? = some o := by simpa using ho
    have hi2 : i < l.toArray.size := (Array.getElem?_eq_some_iff.1 ho).1
    refine wpOp_step ho fun K hK => ?_
    refine hstep listed g w1 i o ho' hun hdeps hR K fun g' w' hR' hV => ?_
    refine hK _ _ ⟨g', ?_, hR'⟩
    have hd : dstOf l.toArray i = o.dst := by simp [dstOf, ho']
    rw [← hd, fill_congr (V' := V g') (fun j hl hj => (hV j (by simpa using hj) hl).symm), fill_put hs hi2 hun]
  · rintro listed b w1 ⟨g, rfl, hR⟩ hr
    exact hend listed g w1 (fun i hi => all_done hb hr i (by simpa using hi)) hR

/-- Operation o waits for operation j. -/
def waits (o : Oper) (j : Nat) : Bool := o.after.toList.any fun e => e.on == j && Region.binds .any e
theorem waits_spec {o : Oper} {j : Nat} (h : waits o j = true) : ∃ e, e ∈ o.after ∧ e.on = j ∧ Region.binds .any e = true := by
  unfold waits at h
  rw [List.any_eq_true] at h
  obtain ⟨e, he, h⟩ := h
  simp only [Bool.and_eq_true, beq_iff_eq] at h
  exact ⟨e, by simpa using he, h.1, h.2⟩
/-- The law: Good i says what operation i yields; it stays true while memory grows. -/
theorem wp_region_rel {Q : Exit → Act → World → Prop} {id : Nat} {a : Act} {w : World} {l : List Oper} (Good : Nat → Value → World → Prop) (hm : P.follows .mixedOrders = true) (hs : slotsB l.toArray = true) (hb : backB l.toArray = true) (hfit : ((List.range l.length).all fun j => match dstOf l.toArray j with | some d => decide (d < a.tmps.size) | none => true) = true)
    (hst : ∀ i v w1 w2, Ext w1 w2 → Good i v w1 → Good i v w2)
    (hstep : ∀ (i : Nat) (o : Oper), l[i]? = some o → ∀ (b : Act) (w1 : World), Ext w w1 → (∀ d : Nat, missB l.toArray d = true → b.tmps[d]? = a.tmps[d]?) →
      (∀ j, waits o j = true → ∃ v, Good j v w1 ∧ ∀ d, dstOf l.toArray j = some d → b.tmps[d]? = some v) →
      ∀ K : Act → World → Prop, (∀ v w', Ext w1 w' → Good i v w' → K (b.put o.dst v) w') → if Region.wanted o (yielded l.toArray b.tmps) = true then o.wp P b w1 K Q else K (b.put o.dst undef) w1)
    (hend : ∀ (V : Nat → Value) (w1 : World), Ext w w1 → (∀ i, i < l.length → Good i (V i) w1) → Q .normal (fillAllN l.toArray V a l.length) w1) : (Code.region id l.toArray true).wp P Q a w := by
  have hS := slotsB_spec hs
  have hB := backB_spec hb
  refine wp_region_tabg (G := Nat → Value) (fun g => g) (fun w listed g w1 => Ext w w1 ∧ ∀ i, i < l.length → listed.getD i true = true → Good i (g i) w1) (fun _ => undef) hm hS hB ?_ ?_ ?_
  · refine ⟨(Ext.refl _).drew, fun i hi h => ?_⟩
    have : (Array.replicate l.length false).getD i true = false := by simp [Array.getD, hi]
    rw [this] at h
    cases h
  · intro listed g w1 i o ho hun hdep hR K hK
    have hil : i < l.length := (List.getElem?_eq_some_iff.1 ho).1
    refine hstep i o ho (fill l.toArray g listed a) w1 hR.1 (fun d hd => fill_miss (fun i hi _ => missB_spec hd i hi)) (fun j hj => ?_) K (fun v w' hx hg => ?_)
    · obtain ⟨e, he, rfl, hbd⟩ := waits_spec hj
      have h1 := getD_up (hdep e he hbd)
      have h2 : e.on < l.length := by have := hB i o (by simpa using ho) e he; omega
      refine ⟨g e.on, hR.2 _ h2 h1, fun d hd => fill_hit hS (by simpa using h2) h1 hd ?_⟩
      rw [List.all_eq_true] at hfit
      have h3 := hfit e.on (List.mem_range.2 h2)
      rw [hd] at h3
      simpa using h3
    · have h := hK (fun k => if k = i then v else g k) w' ⟨hR.1.trans hx, fun j hj hl => ?_⟩ (fun j hj hl => ?_)
      · simpa using h
      · by_cases hji : j = i
        · subst hji; simpa using hg
        · simp only [if_neg hji]
          rw [getD_set_ne true (Ne.symm hji)] at hl
          exact hst _ _ _ _ hx (hR.2 j hj hl)
      · have hne : j ≠ i := fun e => by subst e; rw [hl] at hun; cases hun
        simp only [if_neg hne]
  · intro listed g w1 hall hR
    rw [fill_done hall]
    exact hend g w1 hR.1 (fun i hi => hR.2 i hi (hall i hi))

/- Operations, one kind each. -/
variable {o : Oper} {b : Act} {w1 : World} {K : Act → World → Prop} {Q : Exit → Act → World → Prop}
theorem eval_of {d : Nat} {v : Value} (h : b.tmps[d]? = some v) : b.eval (.tmp d) = v := by simp [Act.eval, Array.getD_eq_getD_getElem?, h]
theorem want_none {ops : Array Oper} {t : Array Value} {X Y : Prop} (hg : o.guard = none) (h : X) : if Region.wanted o (yielded ops t) = true then X else Y := by
  rw [if_pos (by simp [Region.wanted, hg])]; exact h
theorem want_yes {ops : Array Oper} {t : Array Value} {X Y : Prop} {j d : Nat} {c : Bool} (hg : o.guard = some (j, c)) (hd : dstOf ops j = some d) (ht : t[d]? = some (.bool c)) (h : X) : if Region.wanted o (yielded ops t) = true then X else Y := by
  have hd2 : (ops[j]?).bind (·.dst) = some d := hd
  rw [if_pos (by simp [Region.wanted, hg, yielded, hd2, ht])]; exact h
theorem want_no {ops : Array Oper} {t : Array Value} {X Y : Prop} {j d : Nat} {c : Bool} (hg : o.guard = some (j, c)) (hd : dstOf ops j = some d) (ht : t[d]? = some (.bool (!c)) ∨ t[d]? = some undef) (h : Y) : if Region.wanted o (yielded ops t) = true then X else Y := by
  have hd2 : (ops[j]?).bind (·.dst) = some d := hd
  rw [if_neg]
  · exact h
  · rcases ht with ht | ht
    · cases c <;> simp [Region.wanted, hg, yielded, hd2, ht]
    · simp [Region.wanted, hg, yielded, hd2, ht, undef]
theorem op_run {v : Value} {w2 : World} (hr : (execOp b.eval o).run P w1 = .ok (.value v) w2) (h : K (b.put o.dst v) w2) : o.wp P b w1 K Q := by
  unfold Oper.wp
  rw [hr]
  exact h
theorem op_move {x : Operand} {v : Value} (ho : o.op = .move x) (hx : b.eval x = v) (h : K (b.put o.dst v) w1) : o.wp P b w1 K Q :=
  op_run (by unfold execOp; simp [ho, hx]) h
theorem op_assign {x : Operand} {v : Value} (ho : o.op = .assign x) (hx : b.eval x = v) (h : K (b.put o.dst v) w1) : o.wp P b w1 K Q :=
  op_run (by unfold execOp; simp [ho, hx]) h
theorem op_loadrow {t : TypeId} {x : Operand} {bk : Nat} {tb : TypeId} {vs : List Value} (ho : o.op = .load t x) (hx : b.eval x = .pointer (some ⟨bk, 0, none⟩)) (hB : Arr w1 bk tb vs) (d : TypeDesc) (hu : P.underlying t = some d)
    (hd : (match d with | .struct _ | .array _ _ => true | _ => false) = true) (hi : (P.info? t).map (·.size) = some vs.length) (h : K (b.put o.dst (.agg vs.toArray)) w1) : o.wp P b w1 K Q :=
  wp_load_row t x ho bk hx tb vs.toArray (0, 0) d hB hu hd (by simpa using hi) h
theorem op_call {f : FuncId} {args : Array Operand} {ts : Array TypeId} {vs : Array Value} {G : Value → World → Prop} (ho : o.op = .call { callee := .value (.func f), args := args, argTypes := ts }) (ha : args.map b.eval = vs) (he : ∀ args w, (callFunc f args).run P w = .ok (.enter f args) w)
    (hc : Calls P f vs w1 fun e w' => ∃ v, e = .returned v ∧ Ext w1 w' ∧ G v w') (h : ∀ v w', Ext w1 w' → G v w' → K (b.put o.dst v) w') : o.wp P b w1 K Q := by
  have hr : (execOp b.eval o).run P w1 = .ok (.enter f vs) w1 := by
    unfold execOp
    simp [ho, resolve, invoke, Deferred.ofValue, Act.eval, ha, he]
  unfold Oper.wp
  rw [hr, Oper.upon_enter]
  refine hc.mono ?_
  rintro e w' ⟨v, rfl, hx, hg⟩
  exact h v w' hx hg
end
end Go.Proofs.YtelhefjikdoihaaDoor

/- A region that draws its order and in which one call (number J) changes what others made before it. -/
namespace Go.Proofs.YtelhefjikdoihaaDoor
open Go Go.RowKit

section
variable {P : Program}
/-- Every edge that binds goes back. -/
def Back2 (ops : Array Oper) : Prop := ∀ (i : Nat) (o : Oper), ops[i]? = some o → ∀ e, e ∈ o.after → Region.binds .any e = true → e.on < i
def backB2 (ops : Array Oper) : Bool := (List.range ops.size).all fun i => match ops[i]? with | some o => o.after.all fun e => !(Region.binds .any e) || decide (e.on < i) | none => true
theorem backB2_spec {ops : Array Oper} (h : backB2 ops = true) : Back2 ops := fun i o ho e he hbd => by
  unfold backB2 at h
  simp only [List.all_eq_true, List.mem_range] at h
  have h1 := h i (Array.getElem?_eq_some_iff.1 ho).1
  rw [ho] at h1
  simp only [Array.all_eq_true] at h1
  obtain ⟨k, hk, rfl⟩ := Array.mem_iff_getElem.1 he
  have h2 := h1 k hk
  rw [hbd] at h2
  simpa using h2
theorem all_done2 {ops : Array Oper} (hb : Back2 ops) {listed : Array Bool} (hr : Region.ready .any ops listed = []) : ∀ i, i < ops.size → listed.getD i true = true := by
  intro i
  induction i using Nat.strongRecOn with
  | ind i ih =>
    intro hi
    by_cases h : listed.getD i true = true
    · exact h
    · exfalso
      have h1 : i ∈ Region.ready .any ops listed := mem_ready.2 ⟨by simpa using h, ops[i], Array.getElem?_eq_getElem hi, fun e he hbd => by
        have h2 := hb i _ (Array.getElem?_eq_getElem hi) e he hbd
        have h3 := ih e.on h2 (by omega)
        have hsz : ∀ k, listed.getD k true = true → listed.getD i true = false → k < i → listed.getD k false = true := fun k h4 h5 h6 => by
          have hil : i < listed.size := by
            by_cases h7 : i < listed.size
            · exact h7
            · simp [Array.getD, h7] at h5
          have hkl : k < listed.size := by omega
          simpa [Array.getD, hkl] using h4
        exact hsz e.on h3 (by simpa using h) h2⟩
      rw [hr] at h1
      cases h1
/-- The law by a table, guards let in. -/
theorem wp_region_tabg2 {G : Type} {Q : Exit → Act → World → Prop} {id : Nat} {a : Act} {w : World} {l : List Oper} (V : G → Nat → Value) (R : World → Array Bool → G → World → Prop) (g0 : G) (hm : P.follows .mixedOrders = true) (hs : Slots l.toArray) (hb : Back2 l.toArray)
    (h0 : R w (Array.replicate l.length false) g0 w.drew)
    (hstep : ∀ listed g w1 i o, l[i]? = some o → listed.getD i true = false → (∀ e, e ∈ o.after → Region.binds .any e = true → listed.getD e.on false = true) → R w listed g w1 →
      ∀ K : Act → World → Prop, (∀ g' w', R w (listed.setIfInBounds i true) g' w' → (∀ j, j < l.length → listed.getD j true = true → V g' j = V g j) → K ((fill l.toArray (V g) listed a).put o.dst (V g' i)) w') →
        if Region.wanted o (yielded l.toArray (fill l.toArray (V g) listed a).tmps) = true then o.wp P (fill l.toArray (V g) listed a) w1 K Q else K ((fill l.toArray (V g) listed a).put o.dst undef) w1)
    (hend : ∀ listed g w1, (∀ i, i < l.length → listed.getD i true = true) → R w listed g w1 → Q .normal (fill l.toArray (V g) listed a) w1) : (Code.region id l.toArray true).wp P Q a w := by
  refine wp_region_inv (fun listed b w1 => ∃ g, b = fill l.toArray (V g) listed a ∧ R w listed g w1) hm ⟨g0, ?_, h0⟩ ?_ ?_
  · have : ∀ n, fillN l.toArray (V g0) (Array.replicate l.length false) a n = a ∨ l.length < n := by
      intro n
      induction n with
      | zero => exact .inl rfl
      | succ n ih =>
        by_cases hn : l.length < n + 1
        · exact .inr hn
        · rcases ih with ih | ih
          · refine .inl ?_
            unfold fillN
            rw [if_neg (by simp [Array.getD]; omega), ih]
          · omega
    rcases this l.toArray.size with h | h
    · exact h.symm
    · simp at h
  · rintro listed b w1 i ⟨g, rfl, hR⟩ hi
    obtain ⟨hun, o, ho, hdeps⟩ := mem_ready.1 hi
    have ho' : l[i]? = some o := by simpa using ho
    have hi2 : i < l.toArray.size := (Array.getElem?_eq_some_iff.1 ho).1
    refine wpOp_step ho fun K hK => ?_
    refine hstep listed g w1 i o ho' hun hdeps hR K fun g' w' hR' hV => ?_
    refine hK _ _ ⟨g', ?_, hR'⟩
    have hd : dstOf l.toArray i = o.dst := by simp [dstOf, ho']
    rw [← hd, fill_congr (V' := V g') (fun j hl hj => (hV j (by simpa using hj) hl).symm), fill_put hs hi2 hun]
  · rintro listed b w1 ⟨g, rfl, hR⟩ hr
    exact hend listed g w1 (fun i hi => all_done2 hb hr i (by simpa using hi)) hR

theorem wp_region_flow {Q : Exit → Act → World → Prop} {id : Nat} {a : Act} {w : World} {l : List Oper} (J : Nat) (Good : Bool → Nat → Value → World → Prop) (hm : P.follows .mixedOrders = true) (hs : slotsB l.toArray = true) (hb : backB2 l.toArray = true) (hfit : ((List.range l.length).all fun j => match dstOf l.toArray j with | some d => decide (d < a.tmps.size) | none => true) = true)
    (hst : ∀ d i v w1 w2, Ext w1 w2 → Good d i v w1 → Good d i v w2) (hup : ∀ i v w1 w2, Good false i v w1 → Good true i v w2)
    (hstep : ∀ (i : Nat) (o : Oper), l[i]? = some o → ∀ (d : Bool) (b : Act) (w1 : World), (i = J → d = false) → Ext w w1 → (∀ d : Nat, missB l.toArray d = true → b.tmps[d]? = a.tmps[d]?) →
      (∀ j, waits o j = true → ∃ v, Good d j v w1 ∧ ∀ d, dstOf l.toArray j = some d → b.tmps[d]? = some v) →
      ∀ K : Act → World → Prop, (∀ v w', Ext w w' → (i ≠ J → Ext w1 w') → Good (decide (i = J) || d) i v w' → K (b.put o.dst v) w') → if Region.wanted o (yielded l.toArray b.tmps) = true then o.wp P b w1 K Q else K (b.put o.dst undef) w1)
    (hend : ∀ (V : Nat → Value) (w1 : World), Ext w w1 → (∀ i, i < l.length → Good true i (V i) w1) → Q .normal (fillAllN l.toArray V a l.length) w1) : (Code.region id l.toArray true).wp P Q a w := by
  have hS := slotsB_spec hs
  have hB := backB2_spec hb
  refine wp_region_tabg2 (G := Nat → Value) (fun g => g) (fun w listed g w1 => Ext w w1 ∧ ∀ i, i < l.length → listed.getD i true = true → Good (listed.getD J true) i (g i) w1) (fun _ => undef) hm hS hB ?_ ?_ ?_
  · refine ⟨(Ext.refl _).drew, fun i hi h => ?_⟩
    have : (Array.replicate l.length false).getD i true = false := by simp [Array.getD, hi]
    rw [this] at h
    cases h
  · intro listed g w1 i o ho hun hdep hR K hK
    have hil : i < l.length := (List.getElem?_eq_some_iff.1 ho).1
    refine hstep i o ho (listed.getD J true) (fill l.toArray g listed a) w1 (fun e => by subst e; exact hun) hR.1 (fun d hd => fill_miss (fun i hi _ => missB_spec hd i hi)) (fun j hj => ?_) K (fun v w' hx hx1 hg => ?_)
    · obtain ⟨e, he, rfl, hbd⟩ := waits_spec hj
      have h1 := getD_up (hdep e he hbd)
      have h2 : e.on < l.length := by have := hB i o (by simpa using ho) e he hbd; omega
      refine ⟨g e.on, hR.2 _ h2 h1, fun d hd => fill_hit hS (by simpa using h2) h1 hd ?_⟩
      rw [List.all_eq_true] at hfit
      have h3 := hfit e.on (List.mem_range.2 h2)
      rw [hd] at h3
      simpa using h3
    · have h := hK (fun k => if k = i then v else g k) w' ⟨hx, fun j hj hl => ?_⟩ (fun j hj hl => ?_)
      · simpa using h
      · by_cases hiJ : i = J
        · subst hiJ
          have e1 : (listed.setIfInBounds i true).getD i true = true := by
            simp only [Array.getD]
            split <;> simp
          rw [e1]
          rw [hun] at hR hg
          by_cases hji : j = i
          · subst hji; simpa using hg
          · simp only [if_neg hji]
            rw [getD_set_ne true (Ne.symm hji)] at hl
            exact hup _ _ _ _ (hR.2 j hj hl)
        · rw [getD_set_ne true hiJ]
          by_cases hji : j = i
          · subst hji; simpa [hiJ] using hg
          · simp only [if_neg hji]
            rw [getD_set_ne true (Ne.symm hji)] at hl
            exact hst _ _ _ _ _ (hx1 hiJ) (hR.2 j hj hl)
      · have hne : j ≠ i := fun e => by subst e; rw [hl] at hun; cases hun
        simp only [if_neg hne]
  · intro listed g w1 hall hR
    rw [fill_done hall]
    refine hend g w1 hR.1 (fun i hi => ?_)
    have h := hR.2 i hi (hall i hi)
    cases hd : listed.getD J true
    · rw [hd] at h; exact hup _ _ _ _ h
    · rw [hd] at h; exact h
variable {o : Oper} {b : Act} {w1 : World} {K : Act → World → Prop} {Q : Exit → Act → World → Prop}
theorem op_callG {f : FuncId} {args : Array Operand} {ts : Array TypeId} {vs : Array Value} {G : Value → World → Prop} (ho : o.op = .call { callee := .value (.func f), args := args, argTypes := ts }) (ha : args.map b.eval = vs) (he : ∀ args w, (callFunc f args).run P w = .ok (.enter f args) w)
    (hc : Calls P f vs w1 fun e w' => ∃ v, e = .returned v ∧ G v w') (h : ∀ v w', G v w' → K (b.put o.dst v) w') : o.wp P b w1 K Q := by
  have hr : (execOp b.eval o).run P w1 = .ok (.enter f vs) w1 := by
    unfold execOp
    simp [ho, resolve, invoke, Deferred.ofValue, Act.eval, ha, he]
  unfold Oper.wp
  rw [hr, Oper.upon_enter]
  refine hc.mono ?_
  rintro e w' ⟨v, rfl, hg⟩
  exact h v w' hg
end
/-- The pair that a flood hands back, its first part, its second. -/
def GT (P : List Pt → Int → Prop) (v : Value) (w : World) : Prop := ∃ (l : List Pt) (er : Int) (A' : Option Addr) (c' : Nat), P l er ∧ v = .tuple #[.slice A' l.length c', .int .i64 er] ∧ Sv w w.heap.size 3 A' c' (rowsP l)
def G0 (P : List Pt → Int → Prop) (v : Value) (w : World) : Prop := ∃ (l : List Pt) (er : Int) (A' : Option Addr) (c' : Nat), P l er ∧ v = .slice A' l.length c' ∧ Sv w w.heap.size 3 A' c' (rowsP l)
def G1 (P : List Pt → Int → Prop) (v : Value) : Prop := ∃ (l : List Pt) (er : Int), P l er ∧ v = .int .i64 er
theorem GT.ext {P : List Pt → Int → Prop} {v : Value} {w w' : World} (h : GT P v w) (hx : Ext w w') : GT P v w' := by obtain ⟨l, er, A', c', h1, h2, h3⟩ := h; exact ⟨l, er, A', c', h1, h2, h3.ext hx⟩
theorem G0.ext {P : List Pt → Int → Prop} {v : Value} {w w' : World} (h : G0 P v w) (hx : Ext w w') : G0 P v w' := by obtain ⟨l, er, A', c', h1, h2, h3⟩ := h; exact ⟨l, er, A', c', h1, h2, h3.ext hx⟩
def JT (P : List Pt → Int → Prop) (b : Pt) (v : Value) : Prop := ∃ (l : List Pt) (er : Int), P l er ∧ v = .tuple #[.bool (decide (b ∈ l)), .int .i64 er]
def J0 (P : List Pt → Int → Prop) (b : Pt) (v : Value) : Prop := ∃ (l : List Pt) (er : Int), P l er ∧ v = .bool (decide (b ∈ l))
/-- A field made in the region. -/
def OfG (g : Gr) (A : Option Addr) (c : Nat) (w0 : World) (mk : Value → Value) (d : Bool) (v : Value) (w : World) : Prop := ∃ fb, v = mk (.pointer (some ⟨fb, 0, none⟩)) ∧ w0.heap.size ≤ fb ∧ (d = false → CntF g A c fb 0 w)
theorem OfG.ext {g : Gr} {A : Option Addr} {c : Nat} {w0 w w' : World} {mk : Value → Value} {d : Bool} {v : Value} (h : OfG g A c w0 mk d v w) (hx : Ext w w') : OfG g A c w0 mk d v w' := by obtain ⟨fb, h1, h2, h3⟩ := h; exact ⟨fb, h1, h2, fun e => (h3 e).ext hx⟩
theorem OfG.up {g : Gr} {A : Option Addr} {c : Nat} {w0 w w' : World} {mk : Value → Value} {d : Bool} {v : Value} (h : OfG g A c w0 mk d v w) : OfG g A c w0 mk true v w' := by obtain ⟨fb, h1, h2, _⟩ := h; exact ⟨fb, h1, h2, fun e => by cases e⟩
end Go.Proofs.YtelhefjikdoihaaDoor

/- Plain laws of regions: each cell's region is the same; a region is one part. -/
namespace Go.Proofs.YtelhefjikdoihaaDoor
open Go Go.RowKit

theorem IsReg.other {F : Pt → Option Int} {v : Int} {a q : Pt} {l : List Pt} (h : IsReg F v a l) (ha : F a = some v) (hq : q ∈ l) : IsReg F v q l :=
  ⟨h.sort, fun x => by
    have h1 := (h.mem q).1 hq
    exact (h.mem x).trans ⟨fun hx => (h1.symm ha).trans hx, fun hx => h1.trans hx⟩⟩
/-- With as many steps as there are cells at most, a flood is not cut short. -/
theorem floodOut_all {g : Gr} {a : Pt} {most er : Int} {l : List Pt} (hv : validG g = true) (hm : (g.cells.length : Int) ≤ most) (h : FloodOut (fld g) a most l er) : (fld g a = none ∧ inP a g.box = false ∧ l = [] ∧ er = 9) ∨ ∃ v, fld g a = some v ∧ inP a g.box = true ∧ IsReg (fld g) v a l ∧ er = 0 := by
  rcases h with ⟨h1, h2, h3⟩ | ⟨v, h1, ⟨⟨r, h2, h3, h4⟩, _⟩ | ⟨h2, _, h3⟩⟩
  · refine .inl ⟨h1, ?_, h2, h3⟩
    cases hh : inP a g.box
    · rfl
    · unfold fld at h1; rw [if_pos hh] at h1; cases h1
  · have := fld_fin g hv r h2 (fun q hq => by rw [(h3 q hq).val h1]; simp)
    omega
  · exact .inr ⟨v, h1, fld_some h1, h2, h3⟩
theorem borderOut_all {g : Gr} {a : Pt} {most er : Int} {l : List Pt} {v : Int} (hv : validG g = true) (hm : (g.cells.length : Int) ≤ most) (ha : fld g a = some v) (h : BorderOut (fld g) a most l er) : IsBrd (fld g) v a l ∧ er = 0 := by
  rcases h with ⟨h1, h2, h3⟩ | ⟨u, h1, ⟨⟨r, h2, h3, h4⟩, _⟩ | ⟨_, h2, h3⟩⟩
  · rw [ha] at h1; cases h1
  · have := fld_fin g hv r h2 (fun q hq => by rw [(h3 q hq).val h1]; simp)
    omega
  · rw [ha] at h1; injection h1 with h1; subst h1; exact ⟨h2, h3⟩
/-- Within a region each cell leads to each. -/
theorem reg_self {F : Pt → Option Int} {v : Int} {a q : Pt} {l : List Pt} (h : IsReg F v a l) (ha : F a = some v) (hq : q ∈ l) : IsReg (setF l) 1 q l := by
  have h2 := h.other ha hq
  refine ⟨h.sort, fun x => ⟨fun hx => ?_, fun hx => hx.in_ hq⟩⟩
  have key : ∀ y, Reach F v q y → Reach (setF l) 1 q y := by
    intro y hy
    induction hy with
    | base => exact .base
    | step k1 k2 k3 ih => exact ih.step k2 (setF_iff.2 ((h2.mem _).2 (k1.step k2 k3)))
  exact key x ((h2.mem x).1 hx)
theorem SortP.isSorted {l m : List Pt} (h : SortP l) (k : IsSorted l m) : m = l := k.sort.eq h k.mem
/-- A region is one part. -/
theorem reg_parts {F : Pt → Option Int} {v : Int} {a : Pt} {l : List Pt} {ps : List (List Pt)} (h : IsReg F v a l) (ha : F a = some v) (hp : IsParts l ps) : ps = [l] := by
  obtain ⟨m, hm, hpt⟩ := hp.ex
  obtain rfl := SortP.isSorted h.sort hm
  have hal : a ∈ m := (h.mem a).2 .base
  have key : ∀ k, 0 < k → k ≤ m.length → PT m m k [m] := by
    intro k
    induction k with
    | zero => intro hk; omega
    | succ k ih =>
      intro _ hk
      obtain ⟨p, hpk⟩ : ∃ p, m[k]? = some p := ⟨_, List.getElem?_eq_getElem (by omega)⟩
      have hpm := List.mem_of_getElem? hpk
      rcases Nat.eq_zero_or_pos k with rfl | h0
      · exact .add (ps := []) .zero hpk (by simp) (reg_self h ha hpm)
      · exact (ih h0 (by omega)).skip hpk (by simpa using hpm)
  exact hpt.uniq (key _ (List.length_pos_of_mem hal) (Nat.le_refl _))
theorem IsBrd.out {F : Pt → Option Int} {v : Int} {a q : Pt} {l : List Pt} (h : IsBrd F v a l) (hq : q ∈ l) : ∃ u, F q = some u ∧ u ≠ v := ((h.mem q).1 hq).1
end Go.Proofs.YtelhefjikdoihaaDoor

/- FillRegions. -/
namespace Go.Proofs.YtelhefjikdoihaaDoor
open Go Go.RowKit

set_option maxRecDepth 100000 in
set_option maxHeartbeats 8000000 in
theorem FillRegions_any (g : Gr) (A : Option Addr) (c : Nat) (a : Pt) (n : Int) (w : World) (hs : Sv w w.heap.size 1 A c (rowsI g.cells)) (hn : 0 ≤ n ∧ n ≤ 255) (hst : StepsIn w) :
    Calls Tryd.prog 6 #[.agg #[.int .i64 g.box.lo.x, .int .i64 g.box.lo.y, .int .i64 g.box.lo.z, .int .i64 g.box.hi.x, .int .i64 g.box.hi.y, .int .i64 g.box.hi.z, .slice A g.cells.length c], .agg #[.int .i64 a.x, .int .i64 a.y, .int .i64 a.z], .int .u8 n] w fun e w' => e = .returned (.bool true) ∧ Ext w w' := by
  have hm := mixed
  have hG := near_old
  have hx0 : Ext w ((w.alloc (.cells #[.int .i64 g.box.lo.x, .int .i64 g.box.lo.y, .int .i64 g.box.lo.z, .int .i64 g.box.hi.x, .int .i64 g.box.hi.y, .int .i64 g.box.hi.z, .slice A g.cells.length c] 28)).alloc (.cells #[.int .i64 a.x, .int .i64 a.y, .int .i64 a.z] 23)) := ((Ext.refl w).alloc _).alloc _
  have B0 := (Arr.new w 28 [.int .i64 g.box.lo.x, .int .i64 g.box.lo.y, .int .i64 g.box.lo.z, .int .i64 g.box.hi.x, .int .i64 g.box.hi.y, .int .i64 g.box.hi.z, .slice A g.cells.length c]).alloc (.cells #[.int .i64 a.x, .int .i64 a.y, .int .i64 a.z] 23)
  have B1 := Arr.new (w.alloc (.cells #[.int .i64 g.box.lo.x, .int .i64 g.box.lo.y, .int .i64 g.box.lo.z, .int .i64 g.box.hi.x, .int .i64 g.box.hi.y, .int .i64 g.box.hi.z, .slice A g.cells.length c] 28)) 23 [.int .i64 a.x, .int .i64 a.y, .int .i64 a.z]
  rw [World.size_alloc_] at B1
  have HB0 := Lib.hid B0; have HB1 := Lib.hid B1; have HX0 := Lib.hid hx0; have HS := Lib.hid hs; have HST := Lib.hid hst
  clear B0 B1 hx0
  have HFE := Lib.hid (fun (w' : World) (hx : Ext w w') => Few_any g A c w' (hs.ext hx))
  clear hs hst
  generalize hf : (decide (g.cells.length ≤ 200) && validG g) = bf at HFE
  have HF := Lib.hid hf
  clear hf
  go_enter Tryd.func6, Tryd.ntmps6
  go_upto_region 1 with fail
  obtain ⟨W0, hW⟩ : ∃ W, W = (w.alloc (.cells #[.int .i64 g.box.lo.x, .int .i64 g.box.lo.y, .int .i64 g.box.lo.z, .int .i64 g.box.hi.x, .int .i64 g.box.hi.y, .int .i64 g.box.hi.z, .slice A g.cells.length c] 28)).alloc (.cells #[.int .i64 a.x, .int .i64 a.y, .int .i64 a.z] 23) := ⟨_, rfl⟩
  rw [← hW] at HB0 HB1 HX0
  rw [← hW]
  clear hW
  go_upto_region 2 with (go_at_call 8; refine (sanity_any _ (HST.out.ext HX0.out)).mono ?_; rintro e W1 ⟨rfl, x1⟩)
  have HB0 := Lib.hid (HB0.out.ext x1); have HB1 := Lib.hid (HB1.out.ext x1); have HX0 := Lib.hid (HX0.out.trans x1)
  clear x1
  cases bf
  · go_wp2_with (first
      | (refine wpList_load_blk 28 (.tmp 3) rfl rfl HB0.out rfl _ Tryd.underlying28 rfl (by kernel_rfl) ?_)
      | (go_at_call 9; refine (HFE.out _ HX0.out).mono ?_; rintro e W2 ⟨rfl, x2⟩))
    go_ret
    exact ⟨rfl, HX0.out.trans x2⟩
  · have hf := HF.out
    rw [Bool.and_eq_true, decide_eq_true_eq] at hf
    obtain ⟨h200, hv⟩ := hf
    have HV := Lib.hid hv; have H200 := Lib.hid h200
    obtain ⟨sx, sy, sz, G⟩ := good_of hv
    have HGD := Lib.hid G
    clear hv h200 G
    go_upto_region 4 with (first
      | (refine wpList_load_blk 28 (.tmp 3) rfl rfl HB0.out rfl _ Tryd.underlying28 rfl (by kernel_rfl) ?_)
      | (go_at_call 9; refine (HFE.out _ HX0.out).mono ?_; rintro e W2 ⟨rfl, x2⟩))
    have HB0 := Lib.hid (HB0.out.ext x2); have HB1 := Lib.hid (HB1.out.ext x2); have HX := Lib.hid (HX0.out.trans x2)
    have HSW := Lib.hid (HS.out.ext HX.out); have HSTW := Lib.hid (HST.out.ext HX.out)
    clear x2
    refine wp_region_flow (w := W2) 4 (fun d i v w' => match i with
        | 0 => v = .agg #[.int .i64 g.box.lo.x, .int .i64 g.box.lo.y, .int .i64 g.box.lo.z, .int .i64 g.box.hi.x, .int .i64 g.box.hi.y, .int .i64 g.box.hi.z, .slice A g.cells.length c]
        | 1 => OfG g (A) c W2 (fun v => v) d v w'
        | 2 => OfG g (A) c W2 (fun v => .iface 35 v) d v w'
        | 3 => v = .agg #[.int .i64 a.x, .int .i64 a.y, .int .i64 a.z]
        | 4 => d = true ∧ GT (FloodOut (fld g) a 200) v w'
        | 5 => d = true ∧ GT (FloodOut (fld g) a 200) v w'
        | 6 => d = true ∧ G0 (FloodOut (fld g) a 200) v w'
        | 7 => d = true ∧ G1 (FloodOut (fld g) a 200) v
        | 8 => d = true ∧ G0 (FloodOut (fld g) a 200) v w'
        | 9 => d = true ∧ G1 (FloodOut (fld g) a 200) v
        | _ => True) hm (by kernel_rfl) (by kernel_rfl) rfl ?_ ?_ ?_ ?_
    · intro d i v w1 w2 hx h
      match i, h with
      | 0, h => exact h
      | 1, h => exact OfG.ext h hx
      | 2, h => exact OfG.ext h hx
      | 3, h => exact h
      | 4, h => exact ⟨h.1, h.2.ext hx⟩
      | 5, h => exact ⟨h.1, h.2.ext hx⟩
      | 6, h => exact ⟨h.1, h.2.ext hx⟩
      | 7, h => exact h
      | 8, h => exact ⟨h.1, h.2.ext hx⟩
      | 9, h => exact h
      | i + 10, h => exact trivial
    · intro i v w1 w2 h
      match i, h with
      | 0, h => exact h
      | 1, h => exact OfG.up h
      | 2, h => exact OfG.up h
      | 3, h => exact h
      | 4, h => exact absurd h.1 (by simp)
      | 5, h => exact absurd h.1 (by simp)
      | 6, h => exact absurd h.1 (by simp)
      | 7, h => exact absurd h.1 (by simp)
      | 8, h => exact absurd h.1 (by simp)
      | 9, h => exact absurd h.1 (by simp)
      | i + 10, h => exact trivial
    · intro i o ho d b w1 hJd hx hmiss hdep K hK
      match i, ho with
      | 0, ho =>
        obtain rfl := Option.some.inj ho
        refine want_none rfl ?_
        have e1 : b.tmps[3]? = some (.pointer (some ⟨w.heap.size, 0, none⟩)) := hmiss 3 rfl
        exact op_loadrow rfl (eval_of e1) (HB0.out.ext hx) _ Tryd.underlying28 rfl (by kernel_rfl) (hK _ w1 hx (fun _ => Ext.refl _) rfl)
      | 1, ho =>
        obtain rfl := Option.some.inj ho
        refine want_none rfl ?_
        obtain ⟨v1, g1, e1⟩ := hdep 0 rfl
        have g1 : v1 = .agg #[.int .i64 g.box.lo.x, .int .i64 g.box.lo.y, .int .i64 g.box.lo.z, .int .i64 g.box.hi.x, .int .i64 g.box.hi.y, .int .i64 g.box.hi.z, .slice A g.cells.length c] := g1
        subst g1
        have e1 := e1 27 rfl
        have hc := (of_any g (A) c w1 (HSW.out.ext hx)).mono (R' := fun e w' => ∃ v, e = .returned v ∧ (Ext w1 w' ∧ OfG g (A) c W2 (fun v => v) d v w')) fun e w' ⟨fb, h1, h2, h3, h4, h5⟩ => ⟨_, h3, h5, fb, rfl, Nat.le_trans hx.size h1, fun _ => h4⟩
        exact op_callG rfl (by simp [eval_of e1]) (fun _ _ => by kernel_rfl) hc (fun v w' h => hK v w' (hx.trans h.1) (fun _ => h.1) h.2)
      | 2, ho =>
        obtain rfl := Option.some.inj ho
        refine want_none rfl ?_
        obtain ⟨v1, g1, e1⟩ := hdep 1 rfl
        obtain ⟨fb, g1, g2, g3⟩ := g1
        subst g1
        have e1 := e1 28 rfl
        exact op_run (by unfold execOp; simp [e1, Act.eval, go_sem]) (hK _ w1 hx (fun _ => Ext.refl _) ⟨fb, rfl, g2, g3⟩)
      | 3, ho =>
        obtain rfl := Option.some.inj ho
        refine want_none rfl ?_
        have e1 : b.tmps[4]? = some (.pointer (some ⟨w.heap.size + 1, 0, none⟩)) := hmiss 4 rfl
        exact op_loadrow rfl (eval_of e1) (HB1.out.ext hx) _ Tryd.underlying23 rfl (by kernel_rfl) (hK _ w1 hx (fun _ => Ext.refl _) rfl)
      | 4, ho =>
        obtain rfl := Option.some.inj ho
        refine want_none rfl ?_
        obtain rfl : d = false := hJd rfl
        obtain ⟨v29, g29, e29⟩ := hdep 2 rfl
        obtain ⟨fb, g29, f1, fc⟩ := g29
        subst g29
        have e29 := e29 29 rfl
        obtain ⟨v30, g30, e30⟩ := hdep 3 rfl
        have g30 : v30 = .agg #[.int .i64 a.x, .int .i64 a.y, .int .i64 a.z] := g30
        subst g30
        have e30 := e30 30 rfl
        have hc := (floodG_any HV.out H200.out (fc rfl) hx f1 HSTW.out a 200).mono (R' := fun e w' => ∃ v, e = .returned v ∧ (Ext W2 w' ∧ GT (FloodOut (fld g) a 200) v w')) fun e w' ⟨l, er, A', c', k, h1, h2, h3, h4, h5, h6⟩ => ⟨_, h3, h6, l, er, A', c', h1, rfl, h4⟩
        exact op_callG rfl (by first | (simp [eval_of e29, eval_of e30]; done) | (simp [eval_of e29, eval_of e30]; rfl)) (fun _ _ => by kernel_rfl) hc (fun v w' h => hK v w' h.1 (fun e => absurd rfl e) ⟨rfl, h.2⟩)
      | 5, ho =>
        obtain rfl := Option.some.inj ho
        refine want_none rfl ?_
        obtain ⟨v1, g1, e1⟩ := hdep 4 rfl
        have e1 := e1 31 rfl
        exact op_move rfl (eval_of e1) (hK _ w1 hx (fun _ => Ext.refl _) g1)
      | 6, ho =>
        obtain rfl := Option.some.inj ho
        refine want_none rfl ?_
        obtain ⟨v1, g1, e1⟩ := hdep 5 rfl
        have e1 := e1 26 rfl
        obtain ⟨gd, l, er, A', c', h1, h2, h3⟩ := g1
        subst h2
        exact op_run (by unfold execOp; simp [e1, Act.eval, go_sem]) (hK _ w1 hx (fun _ => Ext.refl _) ⟨gd, l, er, A', c', h1, rfl, h3⟩)
      | 7, ho =>
        obtain rfl := Option.some.inj ho
        refine want_none rfl ?_
        obtain ⟨v1, g1, e1⟩ := hdep 5 rfl
        have e1 := e1 26 rfl
        obtain ⟨gd, l, er, A', c', h1, h2, h3⟩ := g1
        subst h2
        exact op_run (by unfold execOp; simp [e1, Act.eval, go_sem]) (hK _ w1 hx (fun _ => Ext.refl _) ⟨gd, l, er, h1, rfl⟩)
      | 8, ho =>
        obtain rfl := Option.some.inj ho
        refine want_none rfl ?_
        obtain ⟨v1, g1, e1⟩ := hdep 6 rfl
        have e1 := e1 32 rfl
        exact op_assign rfl (eval_of e1) (hK _ w1 hx (fun _ => Ext.refl _) g1)
      | 9, ho =>
        obtain rfl := Option.some.inj ho
        refine want_none rfl ?_
        obtain ⟨v1, g1, e1⟩ := hdep 7 rfl
        have e1 := e1 33 rfl
        exact op_assign rfl (eval_of e1) (hK _ w1 hx (fun _ => Ext.refl _) g1)
      | i + 10, ho => cases ho
    · intro V4 W4 hx hg
      obtain ⟨_, l, er1, A4, c4, hP, q0, s4⟩ := hg 8 (by decide)
      obtain ⟨_, l2, er, hP2, q1⟩ := hg 9 (by decide)
      obtain ⟨e1, e2⟩ := hP.uniq hP2
      subst e1 e2
      simp only [List.length_cons, List.length_nil, fillAllN, dstOf, Act.put, List.getElem?_toArray, List.getElem?_cons_zero, List.getElem?_cons_succ, Option.bind_some, q0, q1, List.setIfInBounds_toArray, List.set_cons_zero, List.set_cons_succ]
      clear hg q0 q1 hP2
      have hcl : (g.cells.length : Int) ≤ 200 := by have := H200.out; omega
      rcases floodOut_all HV.out hcl hP with ⟨_, _, rfl, rfl⟩ | ⟨v, hF, hin, hreg, rfl⟩
      · go_wp2
        go_ret
        exact ⟨rfl, HX.out.trans hx⟩
      · have HF2 := Lib.hid hF; have HIN := Lib.hid hin; have HRG := Lib.hid hreg; have HL := Lib.hid s4
        have hll : l.length ≤ 200 := Nat.le_trans (fld_fin g HV.out l hreg.sort.nodup (fun q hq => by rw [((hreg.mem q).1 hq).val hF]; simp)) H200.out
        have hpos : 0 < l.length := List.length_pos_of_mem ((hreg.mem a).2 .base)
        have HLI := Lib.hid (show ∀ q, q ∈ l → fld g q = some v from fun q hq => ((hreg.mem q).1 hq).val hF)
        clear hP s4 hF hin hreg
        have HB0 := Lib.hid (HB0.out.ext hx)
        have HB1 := Lib.hid (HB1.out.ext hx)
        have HX := Lib.hid (HX.out.trans hx)
        have HSW := Lib.hid (HS.out.ext HX.out); have HSTW := Lib.hid (HST.out.ext HX.out)
        clear hx
        have HGT := Lib.hid (get_any HGD.out A c a W4 HSW.out HF2.out)
        go_upto_region 8 with (first
          | (refine wpList_load_blk 28 (.tmp 3) rfl rfl HB0.out rfl _ Tryd.underlying28 rfl (by kernel_rfl) ?_)
          | (refine wpList_load_blk 23 (.tmp 4) rfl rfl HB1.out rfl _ Tryd.underlying23 rfl (by kernel_rfl) ?_)
          | (go_at_call 27; refine HGT.out.mono ?_; rintro e W5 ⟨rfl, x5⟩))
        clear HGT
        have HB0 := Lib.hid (HB0.out.ext x5)
        have HB1 := Lib.hid (HB1.out.ext x5)
        have HL := Lib.hid (HL.out.ext x5)
        have HX := Lib.hid (HX.out.trans x5)
        have HSW := Lib.hid (HS.out.ext HX.out); have HSTW := Lib.hid (HST.out.ext HX.out)
        clear x5
        go_wp2_with fail
        go_loopw [11] (fun i wr => ∃ k : Nat, i = .int .i64 k ∧ k ≤ l.length ∧ Ext W5 wr) (fun i _ => l.length - (intOf i).toNat)
        case atStart => exact ⟨0, rfl, Nat.zero_le _, Ext.refl _⟩
        case round =>
          obtain ⟨k, rfl, hk, hxr⟩ := hrel
          have HB0 := Lib.hid (HB0.out.ext hxr); have HB1 := Lib.hid (HB1.out.ext hxr); have HL := Lib.hid (HL.out.ext hxr); have HSW := Lib.hid (HSW.out.ext hxr); have HXR := Lib.hid hxr
          clear hxr
          by_cases hlt : k < l.length
          · obtain ⟨q, hq⟩ : ∃ q, l[k]? = some q := ⟨_, List.getElem?_eq_getElem hlt⟩
            have hql := List.mem_of_getElem? hq
            obtain ⟨b', off, rfl, hbl, r0, r1, r2⟩ := pt_row HL.out hq
            have hFq := HLI.out q hql
            have HI := Lib.hid (fun w' => refIn_any q g.box w')
            rw [fld_some hFq] at HI
            have HGN := Lib.hid (fun (w1 : World) (hx : Ext wr w1) (n : Nat) (os : Array Obj) => get_any HGD.out A c q (near w1 n os) ((HSW.out.ext hx).ext (Ext.of_near ⟨⟨n, os⟩, rfl⟩)) hFq)
            have d0 := HB0.out.cell 0
            have d1 := HB0.out.cell 1
            have d2 := HB0.out.cell 2
            have d3 := HB0.out.cell 3
            have d4 := HB0.out.cell 4
            have d5 := HB0.out.cell 5
            have lb := HB0.out.lt
            simp only [List.getElem?_cons_zero, List.getElem?_cons_succ] at d0 d1 d2 d3 d4 d5
            clear hq hql hFq
            go_upto_region 11 with fail
            refine wp_region_near (by assumption) (by kernel_rfl) ?_
            repeat (go_big_quiet_step ((go_at_call 26; exact near_call (HI.out _))))
            refine wpQuiet_nil ?_
            intro w1 hw1
            have hy := Ext.of_near hw1
            clear hw1
            have HX1 := Lib.hid hy
            have HB2 := HB0.out.ext hy
            have r0 := (hy.cell hbl).trans r0
            have r1 := (hy.cell hbl).trans r1
            have r2 := (hy.cell hbl).trans r2
            have hbl := Nat.lt_of_lt_of_le hbl hy.size
            have HGM := Lib.hid (HGN.out _ hy)
            clear hy d0 d1 d2 d3 d4 d5 lb
            have d0 := HB2.cell 0
            have d1 := HB2.cell 1
            have d2 := HB2.cell 2
            have d3 := HB2.cell 3
            have d4 := HB2.cell 4
            have d5 := HB2.cell 5
            have d6 := HB2.cell 6
            have lb := HB2.lt
            simp only [List.getElem?_cons_zero, List.getElem?_cons_succ] at d0 d1 d2 d3 d4 d5 d6
            clear HB2
            obtain ⟨W7, hW⟩ : ∃ W, W = w1 := ⟨_, rfl⟩
            rw [← hW] at HX1 HGM d0 d1 d2 d3 d4 d5 d6 r0 r1 r2 lb hbl
            rw [← hW]
            clear hW
            go_upto_region 12 with fail
            refine wp_region_near (by assumption) (by kernel_rfl) ?_
            repeat (go_big_quiet_step ((go_at_call 27; exact near_call (HGM.out _ _))))
            refine wpQuiet_nil ?_
            intro w1 hw1
            have hy := Ext.of_near hw1
            clear hw1
            have HX2 := Lib.hid (HXR.out.trans (HX1.out.trans hy))
            clear hy d0 d1 d2 d3 d4 d5 d6 r0 r1 r2
            go_wp2
            go_roundw
            case rel => exact ⟨k + 1, by go_num, by omega, HX2.out⟩
            case measure => simp [intOf]; omega
          · obtain rfl : k = l.length := by omega
            have HHA := Lib.hid (Has_any A4 c4 l a wr HL.out)
            rw [decide_eq_true ((HRG.out.mem a).2 .base)] at HHA
            have hne : ((l.length : Int) == 0) = false := by rw [beq_eq_false_iff_ne]; omega
            have HX := Lib.hid (HX.out.trans HXR.out)
            have HSTW := Lib.hid (HST.out.ext HX.out)
            go_upto_region 16 with (first
              | (refine wpList_load_blk 23 (.tmp 4) rfl rfl HB1.out rfl _ Tryd.underlying23 rfl (by kernel_rfl) ?_)
              | (go_at_call 28; refine HHA.out.mono ?_; rintro e W8 ⟨rfl, x8⟩))
            have HB0 := Lib.hid (HB0.out.ext x8); have HB1 := Lib.hid (HB1.out.ext x8); have HL := Lib.hid (HL.out.ext x8); have HX := Lib.hid (HX.out.trans x8)
            have HSW := Lib.hid (HS.out.ext HX.out); have HSTW := Lib.hid (HST.out.ext HX.out)
            clear x8 HHA
            obtain ⟨j, hj, hrem⟩ : ∃ j : Nat, j < l.length ∧ Int.tmod n (l.length : Int) = (j : Int) := ⟨n.toNat % l.length, Nat.mod_lt _ hpos, by obtain ⟨m0, hm0⟩ := Int.eq_ofNat_of_zero_le hn.1; rw [hm0]; rfl⟩
            obtain ⟨q, hq⟩ : ∃ q, l[j]? = some q := ⟨_, List.getElem?_eq_getElem hj⟩
            have HQ := Lib.hid (List.mem_of_getElem? hq)
            obtain ⟨b9, off9, rfl, hbl, r0, r1, r2⟩ := pt_row HL.out hq
            have hln : l.length ≤ 9223372036854775807 := by omega
            have hwn : IntKind.i64.wrap n = n := by have h1 : IntKind.i64.bits = 64 := rfl; have h2 : IntKind.i64.signed = true := rfl; simp [IntKind.wrap, h1, h2]; omega
            have hnil : ¬ l = [] := by intro e; rw [e] at hpos; simp at hpos
            clear hq
            refine wp_region_flow (w := W8) 11 (fun d i v w' => match i with
                | 0 => v = .agg #[.int .i64 g.box.lo.x, .int .i64 g.box.lo.y, .int .i64 g.box.lo.z, .int .i64 g.box.hi.x, .int .i64 g.box.hi.y, .int .i64 g.box.hi.z, .slice A g.cells.length c]
                | 1 => OfG g (A) c W8 (fun v => v) d v w'
                | 2 => OfG g (A) c W8 (fun v => .iface 35 v) d v w'
                | 3 => v = .slice (some ⟨b9, off9, none⟩) l.length c4
                | 4 => v = .int .u8 n
                | 5 => v = .int .i64 n
                | 6 => v = .slice (some ⟨b9, off9, none⟩) l.length c4
                | 7 => v = .int .i64 l.length
                | 8 => v = .int .i64 (j : Nat)
                | 9 => v = .pointer (some ⟨b9, off9 + j * 3, none⟩)
                | 10 => v = .agg #[.int .i64 q.x, .int .i64 q.y, .int .i64 q.z]
                | 11 => d = true ∧ GT (FloodOut (fld g) q 200) v w'
                | 12 => d = true ∧ GT (FloodOut (fld g) q 200) v w'
                | 13 => d = true ∧ G0 (FloodOut (fld g) q 200) v w'
                | 14 => d = true ∧ G1 (FloodOut (fld g) q 200) v
                | 15 => d = true ∧ G0 (FloodOut (fld g) q 200) v w'
                | 16 => d = true ∧ G1 (FloodOut (fld g) q 200) v
                | _ => True) hm (by kernel_rfl) (by kernel_rfl) rfl ?_ ?_ ?_ ?_
            · intro d i v w1 w2 hx h
              match i, h with
              | 0, h => exact h
              | 1, h => exact OfG.ext h hx
              | 2, h => exact OfG.ext h hx
              | 3, h => exact h
              | 4, h => exact h
              | 5, h => exact h
              | 6, h => exact h
              | 7, h => exact h
              | 8, h => exact h
              | 9, h => exact h
              | 10, h => exact h
              | 11, h => exact ⟨h.1, h.2.ext hx⟩
              | 12, h => exact ⟨h.1, h.2.ext hx⟩
              | 13, h => exact ⟨h.1, h.2.ext hx⟩
              | 14, h => exact h
              | 15, h => exact ⟨h.1, h.2.ext hx⟩
              | 16, h => exact h
              | i + 17, h => exact trivial
            · intro i v w1 w2 h
              match i, h with
              | 0, h => exact h
              | 1, h => exact OfG.up h
              | 2, h => exact OfG.up h
              | 3, h => exact h
              | 4, h => exact h
              | 5, h => exact h
              | 6, h => exact h
              | 7, h => exact h
              | 8, h => exact h
              | 9, h => exact h
              | 10, h => exact h
              | 11, h => exact absurd h.1 (by simp)
              | 12, h => exact absurd h.1 (by simp)
              | 13, h => exact absurd h.1 (by simp)
              | 14, h => exact absurd h.1 (by simp)
              | 15, h => exact absurd h.1 (by simp)
              | 16, h => exact absurd h.1 (by simp)
              | i + 17, h => exact trivial
            · intro i o ho d b w1 hJd hx hmiss hdep K hK
              match i, ho with
              | 0, ho =>
                obtain rfl := Option.some.inj ho
                refine want_none rfl ?_
                have e1 : b.tmps[3]? = some (.pointer (some ⟨w.heap.size, 0, none⟩)) := hmiss 3 rfl
                exact op_loadrow rfl (eval_of e1) (HB0.out.ext hx) _ Tryd.underlying28 rfl (by kernel_rfl) (hK _ w1 hx (fun _ => Ext.refl _) rfl)
              | 1, ho =>
                obtain rfl := Option.some.inj ho
                refine want_none rfl ?_
                obtain ⟨v1, g1, e1⟩ := hdep 0 rfl
                have g1 : v1 = .agg #[.int .i64 g.box.lo.x, .int .i64 g.box.lo.y, .int .i64 g.box.lo.z, .int .i64 g.box.hi.x, .int .i64 g.box.hi.y, .int .i64 g.box.hi.z, .slice A g.cells.length c] := g1
                subst g1
                have e1 := e1 84 rfl
                have hc := (of_any g (A) c w1 (HSW.out.ext hx)).mono (R' := fun e w' => ∃ v, e = .returned v ∧ (Ext w1 w' ∧ OfG g (A) c W8 (fun v => v) d v w')) fun e w' ⟨fb, h1, h2, h3, h4, h5⟩ => ⟨_, h3, h5, fb, rfl, Nat.le_trans hx.size h1, fun _ => h4⟩
                exact op_callG rfl (by simp [eval_of e1]) (fun _ _ => by kernel_rfl) hc (fun v w' h => hK v w' (hx.trans h.1) (fun _ => h.1) h.2)
              | 2, ho =>
                obtain rfl := Option.some.inj ho
                refine want_none rfl ?_
                obtain ⟨v1, g1, e1⟩ := hdep 1 rfl
                obtain ⟨fb, g1, g2, g3⟩ := g1
                subst g1
                have e1 := e1 85 rfl
                exact op_run (by unfold execOp; simp [e1, Act.eval, go_sem]) (hK _ w1 hx (fun _ => Ext.refl _) ⟨fb, rfl, g2, g3⟩)
              | 3, ho =>
                obtain rfl := Option.some.inj ho
                refine want_none rfl ?_
                have e1 : b.tmps[8]? = some (.slice (some ⟨b9, off9, none⟩) l.length c4) := hmiss 8 rfl
                exact op_move rfl (eval_of e1) (hK _ w1 hx (fun _ => Ext.refl _) rfl)
              | 4, ho =>
                obtain rfl := Option.some.inj ho
                refine want_none rfl ?_
                have e1 : b.tmps[2]? = some (.int .u8 n) := hmiss 2 rfl
                exact op_move rfl (eval_of e1) (hK _ w1 hx (fun _ => Ext.refl _) rfl)
              | 5, ho =>
                obtain rfl := Option.some.inj ho
                refine want_none rfl ?_
                obtain ⟨v88, g88, e88⟩ := hdep 4 rfl
                have g88 : v88 = .int .u8 n := g88
                subst g88
                have e88 := e88 88 rfl
                exact op_run (by unfold execOp; simp [e88, Act.eval, go_sem, hwn]) (hK _ w1 hx (fun _ => Ext.refl _) rfl)
              | 6, ho =>
                obtain rfl := Option.some.inj ho
                refine want_none rfl ?_
                have e1 : b.tmps[8]? = some (.slice (some ⟨b9, off9, none⟩) l.length c4) := hmiss 8 rfl
                exact op_move rfl (eval_of e1) (hK _ w1 hx (fun _ => Ext.refl _) rfl)
              | 7, ho =>
                obtain rfl := Option.some.inj ho
                refine want_none rfl ?_
                obtain ⟨v90, g90, e90⟩ := hdep 6 rfl
                have g90 : v90 = .slice (some ⟨b9, off9, none⟩) l.length c4 := g90
                subst g90
                have e90 := e90 90 rfl
                exact op_run (by unfold execOp; simp [e90, Act.eval, go_sem]) (hK _ w1 hx (fun _ => Ext.refl _) rfl)
              | 8, ho =>
                obtain rfl := Option.some.inj ho
                refine want_none rfl ?_
                obtain ⟨v89, g89, e89⟩ := hdep 5 rfl
                have g89 : v89 = .int .i64 n := g89
                subst g89
                have e89 := e89 89 rfl
                obtain ⟨v91, g91, e91⟩ := hdep 7 rfl
                have g91 : v91 = .int .i64 l.length := g91
                subst g91
                have e91 := e91 91 rfl
                exact op_run (by unfold execOp; simp [e89, e91, Act.eval, go_sem, hrem, hnil]) (hK _ w1 hx (fun _ => Ext.refl _) rfl)
              | 9, ho =>
                obtain rfl := Option.some.inj ho
                refine want_none rfl ?_
                obtain ⟨v87, g87, e87⟩ := hdep 3 rfl
                have g87 : v87 = .slice (some ⟨b9, off9, none⟩) l.length c4 := g87
                subst g87
                have e87 := e87 87 rfl
                obtain ⟨v92, g92, e92⟩ := hdep 8 rfl
                have g92 : v92 = .int .i64 (j : Nat) := g92
                subst g92
                have e92 := e92 92 rfl
                exact op_run (by unfold execOp; simp [e87, e92, Act.eval, go_sem, hj]) (hK _ w1 hx (fun _ => Ext.refl _) rfl)
              | 10, ho =>
                obtain rfl := Option.some.inj ho
                refine want_none rfl ?_
                obtain ⟨v93, g93, e93⟩ := hdep 9 rfl
                have g93 : v93 = .pointer (some ⟨b9, off9 + j * 3, none⟩) := g93
                subst g93
                have e93 := e93 93 rfl
                have s0 := (hx.cell hbl).trans r0
                have s1 := (hx.cell hbl).trans r1
                have s2 := (hx.cell hbl).trans r2
                exact op_run (by unfold execOp; simp [e93, Act.eval, go_sem, s0, s1, s2]) (hK _ w1 hx (fun _ => Ext.refl _) rfl)
              | 11, ho =>
                obtain rfl := Option.some.inj ho
                refine want_none rfl ?_
                obtain rfl : d = false := hJd rfl
                obtain ⟨v86, g86, e86⟩ := hdep 2 rfl
                obtain ⟨fb, g86, f1, fc⟩ := g86
                subst g86
                have e86 := e86 86 rfl
                obtain ⟨v94, g94, e94⟩ := hdep 10 rfl
                have g94 : v94 = .agg #[.int .i64 q.x, .int .i64 q.y, .int .i64 q.z] := g94
                subst g94
                have e94 := e94 94 rfl
                have hc := (floodG_any HV.out H200.out (fc rfl) hx f1 HSTW.out q 200).mono (R' := fun e w' => ∃ v, e = .returned v ∧ (Ext W8 w' ∧ GT (FloodOut (fld g) q 200) v w')) fun e w' ⟨l, er, A', c', k, h1, h2, h3, h4, h5, h6⟩ => ⟨_, h3, h6, l, er, A', c', h1, rfl, h4⟩
                exact op_callG rfl (by first | (simp [eval_of e86, eval_of e94]; done) | (simp [eval_of e86, eval_of e94]; rfl)) (fun _ _ => by kernel_rfl) hc (fun v w' h => hK v w' h.1 (fun e => absurd rfl e) ⟨rfl, h.2⟩)
              | 12, ho =>
                obtain rfl := Option.some.inj ho
                refine want_none rfl ?_
                obtain ⟨v1, g1, e1⟩ := hdep 11 rfl
                have e1 := e1 95 rfl
                exact op_move rfl (eval_of e1) (hK _ w1 hx (fun _ => Ext.refl _) g1)
              | 13, ho =>
                obtain rfl := Option.some.inj ho
                refine want_none rfl ?_
                obtain ⟨v1, g1, e1⟩ := hdep 12 rfl
                have e1 := e1 83 rfl
                obtain ⟨gd, l, er, A', c', h1, h2, h3⟩ := g1
                subst h2
                exact op_run (by unfold execOp; simp [e1, Act.eval, go_sem]) (hK _ w1 hx (fun _ => Ext.refl _) ⟨gd, l, er, A', c', h1, rfl, h3⟩)
              | 14, ho =>
                obtain rfl := Option.some.inj ho
                refine want_none rfl ?_
                obtain ⟨v1, g1, e1⟩ := hdep 12 rfl
                have e1 := e1 83 rfl
                obtain ⟨gd, l, er, A', c', h1, h2, h3⟩ := g1
                subst h2
                exact op_run (by unfold execOp; simp [e1, Act.eval, go_sem]) (hK _ w1 hx (fun _ => Ext.refl _) ⟨gd, l, er, h1, rfl⟩)
              | 15, ho =>
                obtain rfl := Option.some.inj ho
                refine want_none rfl ?_
                obtain ⟨v1, g1, e1⟩ := hdep 13 rfl
                have e1 := e1 96 rfl
                exact op_assign rfl (eval_of e1) (hK _ w1 hx (fun _ => Ext.refl _) g1)
              | 16, ho =>
                obtain rfl := Option.some.inj ho
                refine want_none rfl ?_
                obtain ⟨v1, g1, e1⟩ := hdep 14 rfl
                have e1 := e1 97 rfl
                exact op_assign rfl (eval_of e1) (hK _ w1 hx (fun _ => Ext.refl _) g1)
              | i + 17, ho => cases ho
            · intro V16 W16 hx hg
              obtain ⟨_, m, er1, A16, c16, hP16, q0, s16⟩ := hg 15 (by decide)
              obtain ⟨_, l2, er16, hP2, q1⟩ := hg 16 (by decide)
              obtain ⟨e1, e2⟩ := hP16.uniq hP2
              subst e1 e2
              simp only [List.length_cons, List.length_nil, fillAllN, dstOf, Act.put, List.getElem?_toArray, List.getElem?_cons_zero, List.getElem?_cons_succ, Option.bind_some, q0, q1, List.setIfInBounds_toArray, List.set_cons_zero, List.set_cons_succ]
              clear hg q0 q1 hP2
              have hml : m = l ∧ er1 = 0 := by
                rcases floodOut_all HV.out hcl hP16 with ⟨h1, _⟩ | ⟨v', h1, _, h3, h4⟩
                · rw [HLI.out q HQ.out] at h1; cases h1
                · rw [HLI.out q HQ.out] at h1; injection h1 with h1; subst h1
                  exact ⟨h3.uniq (HRG.out.other HF2.out HQ.out), h4⟩
              obtain ⟨rfl, rfl⟩ := hml
              have HM := Lib.hid s16
              clear hP16 s16 r0 r1 r2 hrem hj
              have HB0 := Lib.hid (HB0.out.ext hx); have HB1 := Lib.hid (HB1.out.ext hx); have HL := Lib.hid (HL.out.ext hx); have HX := Lib.hid (HX.out.trans hx)
              have HSW := Lib.hid (HS.out.ext HX.out); have HSTW := Lib.hid (HST.out.ext HX.out)
              clear hx
              go_upto_region 17 with fail
              refine wp_region_flow (w := W16) 4 (fun d i v w' => match i with
                  | 0 => v = .agg #[.int .i64 g.box.lo.x, .int .i64 g.box.lo.y, .int .i64 g.box.lo.z, .int .i64 g.box.hi.x, .int .i64 g.box.hi.y, .int .i64 g.box.hi.z, .slice A g.cells.length c]
                  | 1 => OfG g (A) c W16 (fun v => v) d v w'
                  | 2 => OfG g (A) c W16 (fun v => .iface 35 v) d v w'
                  | 3 => v = .agg #[.int .i64 a.x, .int .i64 a.y, .int .i64 a.z]
                  | 4 => d = true ∧ GT (BorderOut (fld g) a 200) v w'
                  | 5 => d = true ∧ GT (BorderOut (fld g) a 200) v w'
                  | 6 => d = true ∧ G0 (BorderOut (fld g) a 200) v w'
                  | 7 => d = true ∧ G1 (BorderOut (fld g) a 200) v
                  | 8 => d = true ∧ G0 (BorderOut (fld g) a 200) v w'
                  | 9 => d = true ∧ G1 (BorderOut (fld g) a 200) v
                  | _ => True) hm (by kernel_rfl) (by kernel_rfl) rfl ?_ ?_ ?_ ?_
              · intro d i v w1 w2 hx h
                match i, h with
                | 0, h => exact h
                | 1, h => exact OfG.ext h hx
                | 2, h => exact OfG.ext h hx
                | 3, h => exact h
                | 4, h => exact ⟨h.1, h.2.ext hx⟩
                | 5, h => exact ⟨h.1, h.2.ext hx⟩
                | 6, h => exact ⟨h.1, h.2.ext hx⟩
                | 7, h => exact h
                | 8, h => exact ⟨h.1, h.2.ext hx⟩
                | 9, h => exact h
                | i + 10, h => exact trivial
              · intro i v w1 w2 h
                match i, h with
                | 0, h => exact h
                | 1, h => exact OfG.up h
                | 2, h => exact OfG.up h
                | 3, h => exact h
                | 4, h => exact absurd h.1 (by simp)
                | 5, h => exact absurd h.1 (by simp)
                | 6, h => exact absurd h.1 (by simp)
                | 7, h => exact absurd h.1 (by simp)
                | 8, h => exact absurd h.1 (by simp)
                | 9, h => exact absurd h.1 (by simp)
                | i + 10, h => exact trivial
              · intro i o ho d b w1 hJd hx hmiss hdep K hK
                match i, ho with
                | 0, ho =>
                  obtain rfl := Option.some.inj ho
                  refine want_none rfl ?_
                  have e1 : b.tmps[3]? = some (.pointer (some ⟨w.heap.size, 0, none⟩)) := hmiss 3 rfl
                  exact op_loadrow rfl (eval_of e1) (HB0.out.ext hx) _ Tryd.underlying28 rfl (by kernel_rfl) (hK _ w1 hx (fun _ => Ext.refl _) rfl)
                | 1, ho =>
                  obtain rfl := Option.some.inj ho
                  refine want_none rfl ?_
                  obtain ⟨v1, g1, e1⟩ := hdep 0 rfl
                  have g1 : v1 = .agg #[.int .i64 g.box.lo.x, .int .i64 g.box.lo.y, .int .i64 g.box.lo.z, .int .i64 g.box.hi.x, .int .i64 g.box.hi.y, .int .i64 g.box.hi.z, .slice A g.cells.length c] := g1
                  subst g1
                  have e1 := e1 99 rfl
                  have hc := (of_any g (A) c w1 (HSW.out.ext hx)).mono (R' := fun e w' => ∃ v, e = .returned v ∧ (Ext w1 w' ∧ OfG g (A) c W16 (fun v => v) d v w')) fun e w' ⟨fb, h1, h2, h3, h4, h5⟩ => ⟨_, h3, h5, fb, rfl, Nat.le_trans hx.size h1, fun _ => h4⟩
                  exact op_callG rfl (by simp [eval_of e1]) (fun _ _ => by kernel_rfl) hc (fun v w' h => hK v w' (hx.trans h.1) (fun _ => h.1) h.2)
                | 2, ho =>
                  obtain rfl := Option.some.inj ho
                  refine want_none rfl ?_
                  obtain ⟨v1, g1, e1⟩ := hdep 1 rfl
                  obtain ⟨fb, g1, g2, g3⟩ := g1
                  subst g1
                  have e1 := e1 100 rfl
                  exact op_run (by unfold execOp; simp [e1, Act.eval, go_sem]) (hK _ w1 hx (fun _ => Ext.refl _) ⟨fb, rfl, g2, g3⟩)
                | 3, ho =>
                  obtain rfl := Option.some.inj ho
                  refine want_none rfl ?_
                  have e1 : b.tmps[4]? = some (.pointer (some ⟨w.heap.size + 1, 0, none⟩)) := hmiss 4 rfl
                  exact op_loadrow rfl (eval_of e1) (HB1.out.ext hx) _ Tryd.underlying23 rfl (by kernel_rfl) (hK _ w1 hx (fun _ => Ext.refl _) rfl)
                | 4, ho =>
                  obtain rfl := Option.some.inj ho
                  refine want_none rfl ?_
                  obtain rfl : d = false := hJd rfl
                  obtain ⟨v101, g101, e101⟩ := hdep 2 rfl
                  obtain ⟨fb, g101, f1, fc⟩ := g101
                  subst g101
                  have e101 := e101 101 rfl
                  obtain ⟨v102, g102, e102⟩ := hdep 3 rfl
                  have g102 : v102 = .agg #[.int .i64 a.x, .int .i64 a.y, .int .i64 a.z] := g102
                  subst g102
                  have e102 := e102 102 rfl
                  have hc := (borderG_any HV.out H200.out (fc rfl) hx f1 HSTW.out a 200).mono (R' := fun e w' => ∃ v, e = .returned v ∧ (Ext W16 w' ∧ GT (BorderOut (fld g) a 200) v w')) fun e w' ⟨l, er, A', c', k, h1, h2, h3, h4, h5, h6⟩ => ⟨_, h3, h6, l, er, A', c', h1, rfl, h4⟩
                  exact op_callG rfl (by first | (simp [eval_of e101, eval_of e102]; done) | (simp [eval_of e101, eval_of e102]; rfl)) (fun _ _ => by kernel_rfl) hc (fun v w' h => hK v w' h.1 (fun e => absurd rfl e) ⟨rfl, h.2⟩)
                | 5, ho =>
                  obtain rfl := Option.some.inj ho
                  refine want_none rfl ?_
                  obtain ⟨v1, g1, e1⟩ := hdep 4 rfl
                  have e1 := e1 103 rfl
                  exact op_move rfl (eval_of e1) (hK _ w1 hx (fun _ => Ext.refl _) g1)
                | 6, ho =>
                  obtain rfl := Option.some.inj ho
                  refine want_none rfl ?_
                  obtain ⟨v1, g1, e1⟩ := hdep 5 rfl
                  have e1 := e1 98 rfl
                  obtain ⟨gd, l, er, A', c', h1, h2, h3⟩ := g1
                  subst h2
                  exact op_run (by unfold execOp; simp [e1, Act.eval, go_sem]) (hK _ w1 hx (fun _ => Ext.refl _) ⟨gd, l, er, A', c', h1, rfl, h3⟩)
                | 7, ho =>
                  obtain rfl := Option.some.inj ho
                  refine want_none rfl ?_
                  obtain ⟨v1, g1, e1⟩ := hdep 5 rfl
                  have e1 := e1 98 rfl
                  obtain ⟨gd, l, er, A', c', h1, h2, h3⟩ := g1
                  subst h2
                  exact op_run (by unfold execOp; simp [e1, Act.eval, go_sem]) (hK _ w1 hx (fun _ => Ext.refl _) ⟨gd, l, er, h1, rfl⟩)
                | 8, ho =>
                  obtain rfl := Option.some.inj ho
                  refine want_none rfl ?_
                  obtain ⟨v1, g1, e1⟩ := hdep 6 rfl
                  have e1 := e1 104 rfl
                  exact op_assign rfl (eval_of e1) (hK _ w1 hx (fun _ => Ext.refl _) g1)
                | 9, ho =>
                  obtain rfl := Option.some.inj ho
                  refine want_none rfl ?_
                  obtain ⟨v1, g1, e1⟩ := hdep 7 rfl
                  have e1 := e1 105 rfl
                  exact op_assign rfl (eval_of e1) (hK _ w1 hx (fun _ => Ext.refl _) g1)
                | i + 10, ho => cases ho
              · intro V17 W17 hx hg
                obtain ⟨_, bd, er1, A17, c17, hP17, q0, s17⟩ := hg 8 (by decide)
                obtain ⟨_, l2, er17, hP2, q1⟩ := hg 9 (by decide)
                obtain ⟨e1, e2⟩ := hP17.uniq hP2
                subst e1 e2
                simp only [List.length_cons, List.length_nil, fillAllN, dstOf, Act.put, List.getElem?_toArray, List.getElem?_cons_zero, List.getElem?_cons_succ, Option.bind_some, q0, q1, List.setIfInBounds_toArray, List.set_cons_zero, List.set_cons_succ]
                clear hg q0 q1 hP2
                obtain ⟨hbd, rfl⟩ := borderOut_all HV.out hcl HF2.out hP17
                have HBD := Lib.hid hbd; have HO := Lib.hid s17
                have hbl2 : bd.length ≤ 200 := Nat.le_trans (fld_fin g HV.out bd hbd.sort.nodup (fun q hq => by obtain ⟨u, hu, _⟩ := hbd.out hq; rw [hu]; simp)) H200.out
                have hbln : bd.length ≤ 9223372036854775807 := by omega
                have HB0 := Lib.hid (HB0.out.ext hx); have HL := Lib.hid (HL.out.ext hx); have HM := Lib.hid (HM.out.ext hx); have HX := Lib.hid (HX.out.trans hx)
                clear hx hP17 s17 hbd HB1
                go_upto_region 19 with (go_at_call 17; refine (same_known _ _ _ _ m _ HL.out HM.out).mono ?_; rintro e W18 ⟨rfl, x18⟩)
                have HB0 := Lib.hid (HB0.out.ext x18); have HL := Lib.hid (HL.out.ext x18); have HO := Lib.hid (HO.out.ext x18); have HX := Lib.hid (HX.out.trans x18)
                clear x18 HM
                go_upto_region 20 with (first
                  | (go_at_call 20; refine (refSorted_any _ _ m _ HL.out (by omega)).mono ?_; rintro e WA ⟨m', hm', AA, cA, rfl, sA, xA⟩; obtain rfl := SortP.isSorted HRG.out.sort hm')
                  | (go_at_call 17; refine (same_known _ _ _ _ m' _ (HL.out.ext xA) sA).mono ?_; rintro e WB ⟨rfl, xB⟩))
                have hxx := xA.trans xB
                have HB0 := Lib.hid (HB0.out.ext hxx); have HL := Lib.hid (HL.out.ext hxx); have HO := Lib.hid (HO.out.ext hxx); have HX := Lib.hid (HX.out.trans hxx)
                have HSW := Lib.hid (HS.out.ext HX.out); have HSTW := Lib.hid (HST.out.ext HX.out)
                clear hxx xA xB sA hm'
                have HPA := Lib.hid (fun (w' : World) (hs : Sv w' w'.heap.size 3 (some ⟨b9, off9, none⟩) c4 (rowsP m')) (hst : StepsIn w') => fillParts_any (some ⟨b9, off9, none⟩) c4 m' w' hst hs (by omega) (fun p hp => fld_small g HV.out p (by rw [HLI.out p hp]; simp)))
                go_wp2_with fail
                go_loopw [19] (fun i wr => ∃ k : Nat, i = .int .i64 k ∧ k ≤ bd.length ∧ Ext WB wr) (fun i _ => bd.length - (intOf i).toNat)
                case atStart => exact ⟨0, rfl, Nat.zero_le _, Ext.refl _⟩
                case round =>
                  obtain ⟨k, rfl, hk, hxr⟩ := hrel
                  have HB0 := Lib.hid (HB0.out.ext hxr); have HL := Lib.hid (HL.out.ext hxr); have HO := Lib.hid (HO.out.ext hxr); have HSW := Lib.hid (HSW.out.ext hxr); have HXR := Lib.hid hxr
                  clear hxr
                  by_cases hlt : k < bd.length
                  · obtain ⟨q2, hq⟩ : ∃ q2, bd[k]? = some q2 := ⟨_, List.getElem?_eq_getElem hlt⟩
                    obtain ⟨u, hFq, huv⟩ := HBD.out.out (List.mem_of_getElem? hq)
                    have huv2 : (u == v) = false := by simpa using huv
                    obtain ⟨b', off, rfl, hbl, r0, r1, r2⟩ := pt_row HO.out hq
                    have HI := Lib.hid (fun w' => refIn_any q2 g.box w')
                    rw [fld_some hFq] at HI
                    have HGN := Lib.hid (fun (w1 : World) (hx : Ext wr w1) (n : Nat) (os : Array Obj) => get_any HGD.out A c q2 (near w1 n os) ((HSW.out.ext hx).ext (Ext.of_near ⟨⟨n, os⟩, rfl⟩)) hFq)
                    have d0 := HB0.out.cell 0
                    have d1 := HB0.out.cell 1
                    have d2 := HB0.out.cell 2
                    have d3 := HB0.out.cell 3
                    have d4 := HB0.out.cell 4
                    have d5 := HB0.out.cell 5
                    have lb := HB0.out.lt
                    simp only [List.getElem?_cons_zero, List.getElem?_cons_succ] at d0 d1 d2 d3 d4 d5
                    clear hq hFq huv
                    go_upto_region 23 with fail
                    refine wp_region_near (by assumption) (by kernel_rfl) ?_
                    repeat (go_big_quiet_step ((go_at_call 26; exact near_call (HI.out _))))
                    refine wpQuiet_nil ?_
                    intro w1 hw1
                    have hy := Ext.of_near hw1
                    clear hw1
                    have HX1 := Lib.hid hy
                    have HB2 := HB0.out.ext hy
                    have r0 := (hy.cell hbl).trans r0
                    have r1 := (hy.cell hbl).trans r1
                    have r2 := (hy.cell hbl).trans r2
                    have hbl := Nat.lt_of_lt_of_le hbl hy.size
                    have HGM := Lib.hid (HGN.out _ hy)
                    clear hy d0 d1 d2 d3 d4 d5 lb
                    have d0 := HB2.cell 0
                    have d1 := HB2.cell 1
                    have d2 := HB2.cell 2
                    have d3 := HB2.cell 3
                    have d4 := HB2.cell 4
                    have d5 := HB2.cell 5
                    have d6 := HB2.cell 6
                    have lb := HB2.lt
                    simp only [List.getElem?_cons_zero, List.getElem?_cons_succ] at d0 d1 d2 d3 d4 d5 d6
                    clear HB2
                    obtain ⟨W7, hW⟩ : ∃ W, W = w1 := ⟨_, rfl⟩
                    rw [← hW] at HX1 HGM d0 d1 d2 d3 d4 d5 d6 r0 r1 r2 lb hbl
                    rw [← hW]
                    clear hW
                    go_upto_region 24 with fail
                    refine wp_region_near (by assumption) (by kernel_rfl) ?_
                    repeat (go_big_quiet_step ((go_at_call 27; exact near_call (HGM.out _ _))))
                    refine wpQuiet_nil ?_
                    intro w1 hw1
                    have hy := Ext.of_near hw1
                    clear hw1
                    have HX2 := Lib.hid (HXR.out.trans (HX1.out.trans hy))
                    clear hy d0 d1 d2 d3 d4 d5 d6 r0 r1 r2
                    go_wp2
                    go_roundw
                    case rel => exact ⟨k + 1, by go_num, by omega, HX2.out⟩
                    case measure => simp [intOf]; omega
                  · obtain rfl : k = bd.length := by omega
                    have HX := Lib.hid (HX.out.trans HXR.out)
                    have HSTW := Lib.hid (HST.out.ext HX.out)
                    go_wp2_with (go_at_call 22; refine (HPA.out _ HL.out HSTW.out).mono ?_; rintro e WP ⟨ps, vs, AP, cP, hps, rfl, sP, xP⟩; obtain rfl := reg_parts HRG.out HF2.out hps)
                    go_ret
                    exact ⟨rfl, HX.out.trans xP⟩
end Go.Proofs.YtelhefjikdoihaaDoor

/- FillRegions: for every input the law returns true, and each argument reads as it did. No condition. -/
namespace Go.Proofs.YtelhefjikdoihaaDoor
open Go Go.RowKit Go.ChangeShapes Go.WideShapes Go.ChangeAt

theorem u8b_Gk {n : Int} (h : (Lit.int .u8 n).wf = true) : 0 ≤ n ∧ n ≤ 255 := by simpa [Lit.wf, IntKind.min, IntKind.max, IntKind.signed, IntKind.bits] using h
set_option maxHeartbeats 1600000 in
set_option maxRecDepth 100000 in
theorem fillRegions_lifted (os : Os) (started : os.Started) (H : Type) (enc : TypeId × Value → H) :
    ReturnsInHanded {} Tryd.checked os 6 .any (fun w args => (Rows.fillRegionsSpec.pre enc Tryd.prog Tryd.f6 Rows.fillRegionsRow.domain false w args ∧ laidMetH Tryd.prog laidL w) ∧ sizedMet enc Tryd.prog Tryd.f6 (OpenSpec.ofChange Rows.fillRegionsSpec) false w args) (Rows.fillRegionsSpec.post enc Tryd.prog Tryd.f6 false true false false) := by
  refine returnsInHanded_of_change_and (C := Tryd.checked) (X := fun w _ => laidMetH Tryd.prog laidL w) (fun _ _ _ hh h => h.of_heap hh) own_ started (by kernel_rfl) Tryd.func6
    (ChangeSpec.witness_shaped (enc := enc) (C := Tryd.checked) (os := os) (X := fun w _ => laidMetH Tryd.prog laidL w) false (World.laidAll Tryd.prog os laidL) #[.agg #[.int .i64 0, .int .i64 0, .int .i64 0, .int .i64 0, .int .i64 0, .int .i64 0, .slice none 0 0], .agg #[.int .i64 0, .int .i64 0, .int .i64 0], .int .u8 0] 8 (World.laidAll_os _ _ _) (World.shaped_of_ZipB (by kernel_rfl) (by kernel_rfl)) (by kernel_rfl) (by kernel_rfl) (by kernel_rfl)
      (by rw [MakeChecks.laidMetH_plain _ _ _ (by kernel_rfl)]; exact laidMet_laidAll _ (by kernel_rfl) (by kernel_rfl))) ?_
  intro W base args ds gs before hval0 hW hcnd _ hLd _
  have hval : ∀ (j : Nat) t v, Tryd.f6.params[j]? = some t → args[j]? = some v → Value.okWide Tryd.prog W .any base t v := hval0
  have hLd := laid_of hLd
  have hW' := hW
  obtain ⟨p, q, hA0, hV, rfl, hfz, hnd⟩ := hW
  have hA : DataW.TrodAll enc Tryd.prog W 0 (fun _ => true) true Tryd.f6.params.toList args.toList ds p := hA0
  have hAll := hA
  rw [Tryd.params6] at hA hval
  obtain ⟨v0, vs0, d0, ds0, p0, q0, ha, rfl, rfl, h0, r0⟩ := trodAll_cons hA
  obtain ⟨v1, vs1, d1, ds1, p1, q1, rfl, rfl, rfl, h1, r1⟩ := trodAll_cons r0
  obtain ⟨v2, vs2, d2, ds2, p2, q2, rfl, rfl, rfl, h2, r2⟩ := trodAll_cons r1
  obtain ⟨rfl, rfl, rfl⟩ := trodAll_nil r2
  obtain ⟨rfl, rfl⟩ := trodVars_none hV
  have hargs : args = #[v0, v1, v2] := by apply Array.ext'; exact ha
  subst hargs
  obtain ⟨g, A, c, rfl, hs⟩ := read_grid (hval 0 _ _ rfl rfl) h0
  obtain ⟨a, rfl⟩ := read_Pt (hval 1 _ _ rfl rfl) h1
  obtain ⟨n, rfl, rfl, rfl, hn⟩ := open_int Tryd.underlying5 (hval 2 _ _ rfl rfl) h2
  refine (FillRegions_any g A c a n W hs (u8b_Gk hn) hLd).mono fun e W' ⟨he, hx⟩ => ?_
  subst he
  have hlt : ∀ x, x ∈ (p0 ++ (p1 ++ ([] ++ []))) → x.block < W.heap.size := fun x hx2 => hW'.lt x (by simpa using hx2)
  exact ⟨_, rfl, _, _, _, [], _, [], hW', trodAll_mk1 (shut_bool Tryd.underlying4 true), args_below laidOut_ _ _ _ _ W' (by rw [Tryd.params6]; intro t ht; simp at ht; rcases ht with rfl | rfl | rfl <;> exact ⟨by kernel_rfl, of_decide_eq_true (by kernel_rfl)⟩) hAll hx.below hlt, rfl, hx.below.frame _, fun h => by cases h⟩

theorem fillRegions_row : Rows.FillRegionsSaid :=
  OpenClaim.holds_of_wide 6 Tryd.f6 rfl rfl rfl rfl rfl rfl rfl ⟨rfl, rfl, rfl, rfl, rfl⟩ rfl rfl rfl rfl rfl (by kernel_rfl) Tryd.func6 (by kernel_rfl)
    (of_decide_eq_true (by kernel_rfl)) (by unfold Func.isWrapper; rw [if_neg (of_decide_eq_false (by kernel_rfl))]; exact ⟨rfl, rfl⟩)
    (fun os started H enc _ => fillRegions_lifted os started H enc)

theorem fillRegions_holds : Rows.FillRegionsCardSaid :=
  Claim7.holds_tied_plain_at .later [] [.data] true Rows.fillRegionsCard.stood.harness false
    fillRegions_row (fun _ h => by cases h) (by kernel_rfl) (fun _ h => by cases h) fillRegions_row_tie rfl ⟨rfl, rfl⟩ (by kernel_rfl) rfl
    (fun f fn hf hfn => by
      obtain rfl : f = 6 := Option.some.inj ((show Tryd.prog.funcNamed "voxel/voxellaw21.FillRegions" = some 6 by kernel_rfl).symm.trans hf) |>.symm
      obtain rfl : fn = Tryd.f6 := (Option.some.inj (Tryd.func6.symm.trans hfn)).symm
      exact ⟨by kernel_rfl, fun j t ht => by
        rw [Tryd.params6] at ht
        have hm : t ∈ [28, 23, 5] := by simpa using Array.mem_of_getElem? ht
        have hall : ([28, 23, 5].all fun u => !Tryd.prog.wantsStandIn u) = true := by kernel_rfl
        exact (show Tryd.prog.wantsStandIn t = false by simpa using List.all_eq_true.1 hall t hm)⟩)
    (by kernel_rfl)
end Go.Proofs.YtelhefjikdoihaaDoor
