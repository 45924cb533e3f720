/- YtelhefjikdoihaaDoorRel · YtelhefjikdoihaaDoorGh · YtelhefjikdoihaaDoorGi · YtelhefjikdoihaaDoorGiP -/
import Derived.Test.YtelhefjikdoihaaDoorTie
import Derived.Test.YtelhefjikdoihaaDoorCards
import Derived.LaidLaws
import Derived.SevenTiedAt
import Derived.Test.YtelhefjikdoihaaDoorZa5
/- A region that draws its order: what each operation yields is known by a property that stays true while memory grows. Calls that make memory are let in. -/
namespace Go.Proofs.YtelhefjikdoihaaDoor
open Go Go.RowKit

section
variable {P : Program}
/-- The law by a table, guards let in. -/
theorem wp_region_tabg {G : Type} {Q : Exit → Act → World → Prop} {id : Nat} {a : Act} {w : World} {l : List Oper} (V : G → Nat → Value) (R : World → Array Bool → G → World → Prop) (g0 : G) (hm : P.follows .mixedOrders = true) (hs : Slots l.toArray) (hb : Back l.toArray)
    (h0 : R w (Array.replicate l.length false) g0 w.drew)
    (hstep : ∀ listed g w1 i o, l[i]? = some o → listed.getD i true = false → (∀ e, e ∈ o.after → Region.binds .any e = true → listed.getD e.on false = true) → R w listed g w1 →
      ∀ K : Act → World → Prop, (∀ g' w', R w (listed.setIfInBounds i true) g' w' → (∀ j, j < l.length → listed.getD j true = true → V g' j = V g j) → K ((fill l.toArray (V g) listed a).put o.dst (V g' i)) w') →
        if Region.wanted o (yielded l.toArray (fill l.toArray (V g) listed a).tmps) = true then o.wp P (fill l.toArray (V g) listed a) w1 K Q else K ((fill l.toArray (V g) listed a).put o.dst undef) w1)
    (hend : ∀ listed g w1, (∀ i, i < l.length → listed.getD i true = true) → R w listed g w1 → Q .normal (fill l.toArray (V g) listed a) w1) : (Code.region id l.toArray true).wp P Q a w := by
  refine wp_region_inv (fun listed b w1 => ∃ g, b = fill l.toArray (V g) listed a ∧ R w listed g w1) hm ⟨g0, ?_, h0⟩ ?_ ?_
  · have : ∀ n, fillN l.toArray (V g0) (Array.replicate l.length false) a n = a ∨ l.length < n := by
      intro n
      induction n with
      | zero => exact .inl rfl
      | succ n ih =>
        by_cases hn : l.length < n + 1
        · exact .inr hn
        · rcases ih with ih | ih
          · refine .inl ?_
            unfold fillN
            rw [if_neg (by simp [Array.getD]; omega), ih]
          · omega
    rcases this l.toArray.size with h | h
    · exact h.symm
    · simp at h
  · rintro listed b w1 i ⟨g, rfl, hR⟩ hi
    obtain ⟨hun, o, ho, hdeps⟩ := mem_ready.1 hi
    have ho' : l[i]? = some o := by simpa using ho
    have hi2 : i < l.toArray.size := (Array.getElem?_eq_some_iff.1 ho).1
    refine wpOp_step ho fun K hK => ?_
    refine hstep listed g w1 i o ho' hun hdeps hR K fun g' w' hR' hV => ?_
    refine hK _ _ ⟨g', ?_, hR'⟩
    have hd : dstOf l.toArray i = o.dst := by simp [dstOf, ho']
    rw [← hd, fill_congr (V' := V g') (fun j hl hj => (hV j (by simpa using hj) hl).symm), fill_put hs hi2 hun]
  · rintro listed b w1 ⟨g, rfl, hR⟩ hr
    exact hend listed g w1 (fun i hi => all_done hb hr i (by simpa using hi)) hR

/-- Operation o waits for operation j. -/
def waits (o : Oper) (j : Nat) : Bool := o.after.toList.any fun e => e.on == j && Region.binds .any e
theorem waits_spec {o : Oper} {j : Nat} (h : waits o j = true) : ∃ e, e ∈ o.after ∧ e.on = j ∧ Region.binds .any e = true := by
  unfold waits at h
  rw [List.any_eq_true] at h
  obtain ⟨e, he, h⟩ := h
  simp only [Bool.and_eq_true, beq_iff_eq] at h
  exact ⟨e, by simpa using he, h.1, h.2⟩
/-- The law: Good i says what operation i yields; it stays true while memory grows. -/
theorem wp_region_rel {Q : Exit → Act → World → Prop} {id : Nat} {a : Act} {w : World} {l : List Oper} (Good : Nat → Value → World → Prop) (hm : P.follows .mixedOrders = true) (hs : slotsB l.toArray = true) (hb : backB l.toArray = true) (hfit : ((List.range l.length).all fun j => match dstOf l.toArray j with | some d => decide (d < a.tmps.size) | none => true) = true)
    (hst : ∀ i v w1 w2, Ext w1 w2 → Good i v w1 → Good i v w2)
    (hstep : ∀ (i : Nat) (o : Oper), l[i]? = some o → ∀ (b : Act) (w1 : World), Ext w w1 → (∀ d : Nat, missB l.toArray d = true → b.tmps[d]? = a.tmps[d]?) →
      (∀ j, waits o j = true → ∃ v, Good j v w1 ∧ ∀ d, dstOf l.toArray j = some d → b.tmps[d]? = some v) →
      ∀ K : Act → World → Prop, (∀ v w', Ext w1 w' → Good i v w' → K (b.put o.dst v) w') → if Region.wanted o (yielded l.toArray b.tmps) = true then o.wp P b w1 K Q else K (b.put o.dst undef) w1)
    (hend : ∀ (V : Nat → Value) (w1 : World), Ext w w1 → (∀ i, i < l.length → Good i (V i) w1) → Q .normal (fillAllN l.toArray V a l.length) w1) : (Code.region id l.toArray true).wp P Q a w := by
  have hS := slotsB_spec hs
  have hB := backB_spec hb
  refine wp_region_tabg (G := Nat → Value) (fun g => g) (fun w listed g w1 => Ext w w1 ∧ ∀ i, i < l.length → listed.getD i true = true → Good i (g i) w1) (fun _ => undef) hm hS hB ?_ ?_ ?_
  · refine ⟨(Ext.refl _).drew, fun i hi h => ?_⟩
    have : (Array.replicate l.length false).getD i true = false := by simp [Array.getD, hi]
    rw [this] at h
    cases h
  · intro listed g w1 i o ho hun hdep hR K hK
    have hil : i < l.length := (List.getElem?_eq_some_iff.1 ho).1
    refine hstep i o ho (fill l.toArray g listed a) w1 hR.1 (fun d hd => fill_miss (fun i hi _ => missB_spec hd i hi)) (fun j hj => ?_) K (fun v w' hx hg => ?_)
    · obtain ⟨e, he, rfl, hbd⟩ := waits_spec hj
      have h1 := getD_up (hdep e he hbd)
      have h2 : e.on < l.length := by have := hB i o (by simpa using ho) e he; omega
      refine ⟨g e.on, hR.2 _ h2 h1, fun d hd => fill_hit hS (by simpa using h2) h1 hd ?_⟩
      rw [List.all_eq_true] at hfit
      have h3 := hfit e.on (List.mem_range.2 h2)
      rw [hd] at h3
      simpa using h3
    · have h := hK (fun k => if k = i then v else g k) w' ⟨hR.1.trans hx, fun j hj hl => ?_⟩ (fun j hj hl => ?_)
      · simpa using h
      · by_cases hji : j = i
        · subst hji; simpa using hg
        · simp only [if_neg hji]
          rw [getD_set_ne true (Ne.symm hji)] at hl
          exact hst _ _ _ _ hx (hR.2 j hj hl)
      · have hne : j ≠ i := fun e => by subst e; rw [hl] at hun; cases hun
        simp only [if_neg hne]
  · intro listed g w1 hall hR
    rw [fill_done hall]
    exact hend g w1 hR.1 (fun i hi => hR.2 i hi (hall i hi))

/- Operations, one kind each. -/
variable {o : Oper} {b : Act} {w1 : World} {K : Act → World → Prop} {Q : Exit → Act → World → Prop}
theorem eval_of {d : Nat} {v : Value} (h : b.tmps[d]? = some v) : b.eval (.tmp d) = v := by simp [Act.eval, Array.getD_eq_getD_getElem?, h]
theorem want_none {ops : Array Oper} {t : Array Value} {X Y : Prop} (hg : o.guard = none) (h : X) : if Region.wanted o (yielded ops t) = true then X else Y := by
  rw [if_pos (by simp [Region.wanted, hg])]; exact h
theorem want_yes {ops : Array Oper} {t : Array Value} {X Y : Prop} {j d : Nat} {c : Bool} (hg : o.guard = some (j, c)) (hd : dstOf ops j = some d) (ht : t[d]? = some (.bool c)) (h : X) : if Region.wanted o (yielded ops t) = true then X else Y := by
  have hd2 : (ops[j]?).bind (·.dst) = some d := hd
  rw [if_pos (by simp [Region.wanted, hg, yielded, hd2, ht])]; exact h
theorem want_no {ops : Array Oper} {t : Array Value} {X Y : Prop} {j d : Nat} {c : Bool} (hg : o.guard = some (j, c)) (hd : dstOf ops j = some d) (ht : t[d]? = some (.bool (!c)) ∨ t[d]? = some undef) (h : Y) : if Region.wanted o (yielded ops t) = true then X else Y := by
  have hd2 : (ops[j]?).bind (·.dst) = some d := hd
  rw [if_neg]
  · exact h
  · rcases ht with ht | ht
    · cases c <;> simp [Region.wanted, hg, yielded, hd2, ht]
    · simp [Region.wanted, hg, yielded, hd2, ht, undef]
theorem op_run {v : Value} {w2 : World} (hr : (execOp b.eval o).run P w1 = .ok (.value v) w2) (h : K (b.put o.dst v) w2) : o.wp P b w1 K Q := by
  unfold Oper.wp
  rw [hr]
  exact h
theorem op_move {x : Operand} {v : Value} (ho : o.op = .move x) (hx : b.eval x = v) (h : K (b.put o.dst v) w1) : o.wp P b w1 K Q :=
  op_run (by unfold execOp; simp [ho, hx]) h
theorem op_assign {x : Operand} {v : Value} (ho : o.op = .assign x) (hx : b.eval x = v) (h : K (b.put o.dst v) w1) : o.wp P b w1 K Q :=
  op_run (by unfold execOp; simp [ho, hx]) h
theorem op_loadrow {t : TypeId} {x : Operand} {bk : Nat} {tb : TypeId} {vs : List Value} (ho : o.op = .load t x) (hx : b.eval x = .pointer (some ⟨bk, 0, none⟩)) (hB : Arr w1 bk tb vs) (d : TypeDesc) (hu : P.underlying t = some d)
    (hd : (match d with | .struct _ | .array _ _ => true | _ => false) = true) (hi : (P.info? t).map (·.size) = some vs.length) (h : K (b.put o.dst (.agg vs.toArray)) w1) : o.wp P b w1 K Q :=
  wp_load_row t x ho bk hx tb vs.toArray (0, 0) d hB hu hd (by simpa using hi) h
theorem op_call {f : FuncId} {args : Array Operand} {ts : Array TypeId} {vs : Array Value} {G : Value → World → Prop} (ho : o.op = .call { callee := .value (.func f), args := args, argTypes := ts }) (ha : args.map b.eval = vs) (he : ∀ args w, (callFunc f args).run P w = .ok (.enter f args) w)
    (hc : Calls P f vs w1 fun e w' => ∃ v, e = .returned v ∧ Ext w1 w' ∧ G v w') (h : ∀ v w', Ext w1 w' → G v w' → K (b.put o.dst v) w') : o.wp P b w1 K Q := by
  have hr : (execOp b.eval o).run P w1 = .ok (.enter f vs) w1 := by
    unfold execOp
    simp [ho, resolve, invoke, Deferred.ofValue, Act.eval, ha, he]
  unfold Oper.wp
  rw [hr, Oper.upon_enter]
  refine hc.mono ?_
  rintro e w' ⟨v, rfl, hx, hg⟩
  exact h v w' hx hg
end
end Go.Proofs.YtelhefjikdoihaaDoor

/- A region that draws its order and in which one call (number J) changes what others made before it. -/
namespace Go.Proofs.YtelhefjikdoihaaDoor
open Go Go.RowKit

section
variable {P : Program}
/-- Every edge that binds goes back. -/
def Back2 (ops : Array Oper) : Prop := ∀ (i : Nat) (o : Oper), ops[i]? = some o → ∀ e, e ∈ o.after → Region.binds .any e = true → e.on < i
def backB2 (ops : Array Oper) : Bool := (List.range ops.size).all fun i => match ops[i]? with | some o => o.after.all fun e => !(Region.binds .any e) || decide (e.on < i) | none => true
theorem backB2_spec {ops : Array Oper} (h : backB2 ops = true) : Back2 ops := fun i o ho e he hbd => by
  unfold backB2 at h
  simp only [List.all_eq_true, List.mem_range] at h
  have h1 := h i (Array.getElem?_eq_some_iff.1 ho).1
  rw [ho] at h1
  simp only [Array.all_eq_true] at h1
  obtain ⟨k, hk, rfl⟩ := Array.mem_iff_getElem.1 he
  have h2 := h1 k hk
  rw [hbd] at h2
  simpa using h2
theorem all_done2 {ops : Array Oper} (hb : Back2 ops) {listed : Array Bool} (hr : Region.ready .any ops listed = []) : ∀ i, i < ops.size → listed.getD i true = true := by
  intro i
  induction i using Nat.strongRecOn with
  | ind i ih =>
    intro hi
    by_cases h : listed.getD i true = true
    · exact h
    · exfalso
      have h1 : i ∈ Region.ready .any ops listed := mem_ready.2 ⟨by simpa using h, ops[i], Array.getElem?_eq_getElem hi, fun e he hbd => by
        have h2 := hb i _ (Array.getElem?_eq_getElem hi) e he hbd
        have h3 := ih e.on h2 (by omega)
        have hsz : ∀ k, listed.getD k true = true → listed.getD i true = false → k < i → listed.getD k false = true := fun k h4 h5 h6 => by
          have hil : i < listed.size := by
            by_cases h7 : i < listed.size
            · exact h7
            · simp [Array.getD, h7] at h5
          have hkl : k < listed.size := by omega
          simpa [Array.getD, hkl] using h4
        exact hsz e.on h3 (by simpa using h) h2⟩
      rw [hr] at h1
      cases h1
/-- The law by a table, guards let in. -/
theorem wp_region_tabg2 {G : Type} {Q : Exit → Act → World → Prop} {id : Nat} {a : Act} {w : World} {l : List Oper} (V : G → Nat → Value) (R : World → Array Bool → G → World → Prop) (g0 : G) (hm : P.follows .mixedOrders = true) (hs : Slots l.toArray) (hb : Back2 l.toArray)
    (h0 : R w (Array.replicate l.length false) g0 w.drew)
    (hstep : ∀ listed g w1 i o, l[i]? = some o → listed.getD i true = false → (∀ e, e ∈ o.after → Region.binds .any e = true → listed.getD e.on false = true) → R w listed g w1 →
      ∀ K : Act → World → Prop, (∀ g' w', R w (listed.setIfInBounds i true) g' w' → (∀ j, j < l.length → listed.getD j true = true → V g' j = V g j) → K ((fill l.toArray (V g) listed a).put o.dst (V g' i)) w') →
        if Region.wanted o (yielded l.toArray (fill l.toArray (V g) listed a).tmps) = true then o.wp P (fill l.toArray (V g) listed a) w1 K Q else K ((fill l.toArray (V g) listed a).put o.dst undef) w1)
    (hend : ∀ listed g w1, (∀ i, i < l.length → listed.getD i true = true) → R w listed g w1 → Q .normal (fill l.toArray (V g) listed a) w1) : (Code.region id l.toArray true).wp P Q a w := by
  refine wp_region_inv (fun listed b w1 => ∃ g, b = fill l.toArray (V g) listed a ∧ R w listed g w1) hm ⟨g0, ?_, h0⟩ ?_ ?_
  · have : ∀ n, fillN l.toArray (V g0) (Array.replicate l.length false) a n = a ∨ l.length < n := by
      intro n
      induction n with
      | zero => exact .inl rfl
      | succ n ih =>
        by_cases hn : l.length < n + 1
        · exact .inr hn
        · rcases ih with ih | ih
          · refine .inl ?_
            unfold fillN
            rw [if_neg (by simp [Array.getD]; omega), ih]
          · omega
    rcases this l.toArray.size with h | h
    · exact h.symm
    · simp at h
  · rintro listed b w1 i ⟨g, rfl, hR⟩ hi
    obtain ⟨hun, o, ho, hdeps⟩ := mem_ready.1 hi
    have ho' : l[i]? = some o := by simpa using ho
    have hi2 : i < l.toArray.size := (Array.getElem?_eq_some_iff.1 ho).1
    refine wpOp_step ho fun K hK => ?_
    refine hstep listed g w1 i o ho' hun hdeps hR K fun g' w' hR' hV => ?_
    refine hK _ _ ⟨g', ?_, hR'⟩
    have hd : dstOf l.toArray i = o.dst := by simp [dstOf, ho']
    rw [← hd, fill_congr (V' := V g') (fun j hl hj => (hV j (by simpa using hj) hl).symm), fill_put hs hi2 hun]
  · rintro listed b w1 ⟨g, rfl, hR⟩ hr
    exact hend listed g w1 (fun i hi => all_done2 hb hr i (by simpa using hi)) hR

theorem wp_region_flow {Q : Exit → Act → World → Prop} {id : Nat} {a : Act} {w : World} {l : List Oper} (J : Nat) (Good : Bool → Nat → Value → World → Prop) (hm : P.follows .mixedOrders = true) (hs : slotsB l.toArray = true) (hb : backB2 l.toArray = true) (hfit : ((List.range l.length).all fun j => match dstOf l.toArray j with | some d => decide (d < a.tmps.size) | none => true) = true)
    (hst : ∀ d i v w1 w2, Ext w1 w2 → Good d i v w1 → Good d i v w2) (hup : ∀ i v w1 w2, Good false i v w1 → Good true i v w2)
    (hstep : ∀ (i : Nat) (o : Oper), l[i]? = some o → ∀ (d : Bool) (b : Act) (w1 : World), (i = J → d = false) → Ext w w1 → (∀ d : Nat, missB l.toArray d = true → b.tmps[d]? = a.tmps[d]?) →
      (∀ j, waits o j = true → ∃ v, Good d j v w1 ∧ ∀ d, dstOf l.toArray j = some d → b.tmps[d]? = some v) →
      ∀ K : Act → World → Prop, (∀ v w', Ext w w' → (i ≠ J → Ext w1 w') → Good (decide (i = J) || d) i v w' → K (b.put o.dst v) w') → if Region.wanted o (yielded l.toArray b.tmps) = true then o.wp P b w1 K Q else K (b.put o.dst undef) w1)
    (hend : ∀ (V : Nat → Value) (w1 : World), Ext w w1 → (∀ i, i < l.length → Good true i (V i) w1) → Q .normal (fillAllN l.toArray V a l.length) w1) : (Code.region id l.toArray true).wp P Q a w := by
  have hS := slotsB_spec hs
  have hB := backB2_spec hb
  refine wp_region_tabg2 (G := Nat → Value) (fun g => g) (fun w listed g w1 => Ext w w1 ∧ ∀ i, i < l.length → listed.getD i true = true → Good (listed.getD J true) i (g i) w1) (fun _ => undef) hm hS hB ?_ ?_ ?_
  · refine ⟨(Ext.refl _).drew, fun i hi h => ?_⟩
    have : (Array.replicate l.length false).getD i true = false := by simp [Array.getD, hi]
    rw [this] at h
    cases h
  · intro listed g w1 i o ho hun hdep hR K hK
    have hil : i < l.length := (List.getElem?_eq_some_iff.1 ho).1
    refine hstep i o ho (listed.getD J true) (fill l.toArray g listed a) w1 (fun e => by subst e; exact hun) hR.1 (fun d hd => fill_miss (fun i hi _ => missB_spec hd i hi)) (fun j hj => ?_) K (fun v w' hx hx1 hg => ?_)
    · obtain ⟨e, he, rfl, hbd⟩ := waits_spec hj
      have h1 := getD_up (hdep e he hbd)
      have h2 : e.on < l.length := by have := hB i o (by simpa using ho) e he hbd; omega
      refine ⟨g e.on, hR.2 _ h2 h1, fun d hd => fill_hit hS (by simpa using h2) h1 hd ?_⟩
      rw [List.all_eq_true] at hfit
      have h3 := hfit e.on (List.mem_range.2 h2)
      rw [hd] at h3
      simpa using h3
    · have h := hK (fun k => if k = i then v else g k) w' ⟨hx, fun j hj hl => ?_⟩ (fun j hj hl => ?_)
      · simpa using h
      · by_cases hiJ : i = J
        · subst hiJ
          have e1 : (listed.setIfInBounds i true).getD i true = true := by
            simp only [Array.getD]
            split <;> simp
          rw [e1]
          rw [hun] at hR hg
          by_cases hji : j = i
          · subst hji; simpa using hg
          · simp only [if_neg hji]
            rw [getD_set_ne true (Ne.symm hji)] at hl
            exact hup _ _ _ _ (hR.2 j hj hl)
        · rw [getD_set_ne true hiJ]
          by_cases hji : j = i
          · subst hji; simpa [hiJ] using hg
          · simp only [if_neg hji]
            rw [getD_set_ne true (Ne.symm hji)] at hl
            exact hst _ _ _ _ _ (hx1 hiJ) (hR.2 j hj hl)
      · have hne : j ≠ i := fun e => by subst e; rw [hl] at hun; cases hun
        simp only [if_neg hne]
  · intro listed g w1 hall hR
    rw [fill_done hall]
    refine hend g w1 hR.1 (fun i hi => ?_)
    have h := hR.2 i hi (hall i hi)
    cases hd : listed.getD J true
    · rw [hd] at h; exact hup _ _ _ _ h
    · rw [hd] at h; exact h
variable {o : Oper} {b : Act} {w1 : World} {K : Act → World → Prop} {Q : Exit → Act → World → Prop}
theorem op_callG {f : FuncId} {args : Array Operand} {ts : Array TypeId} {vs : Array Value} {G : Value → World → Prop} (ho : o.op = .call { callee := .value (.func f), args := args, argTypes := ts }) (ha : args.map b.eval = vs) (he : ∀ args w, (callFunc f args).run P w = .ok (.enter f args) w)
    (hc : Calls P f vs w1 fun e w' => ∃ v, e = .returned v ∧ G v w') (h : ∀ v w', G v w' → K (b.put o.dst v) w') : o.wp P b w1 K Q := by
  have hr : (execOp b.eval o).run P w1 = .ok (.enter f vs) w1 := by
    unfold execOp
    simp [ho, resolve, invoke, Deferred.ofValue, Act.eval, ha, he]
  unfold Oper.wp
  rw [hr, Oper.upon_enter]
  refine hc.mono ?_
  rintro e w' ⟨v, rfl, hg⟩
  exact h v w' hg
end
/-- The pair that a flood hands back, its first part, its second. -/
def GT (P : List Pt → Int → Prop) (v : Value) (w : World) : Prop := ∃ (l : List Pt) (er : Int) (A' : Option Addr) (c' : Nat), P l er ∧ v = .tuple #[.slice A' l.length c', .int .i64 er] ∧ Sv w w.heap.size 3 A' c' (rowsP l)
def G0 (P : List Pt → Int → Prop) (v : Value) (w : World) : Prop := ∃ (l : List Pt) (er : Int) (A' : Option Addr) (c' : Nat), P l er ∧ v = .slice A' l.length c' ∧ Sv w w.heap.size 3 A' c' (rowsP l)
def G1 (P : List Pt → Int → Prop) (v : Value) : Prop := ∃ (l : List Pt) (er : Int), P l er ∧ v = .int .i64 er
theorem GT.ext {P : List Pt → Int → Prop} {v : Value} {w w' : World} (h : GT P v w) (hx : Ext w w') : GT P v w' := by obtain ⟨l, er, A', c', h1, h2, h3⟩ := h; exact ⟨l, er, A', c', h1, h2, h3.ext hx⟩
theorem G0.ext {P : List Pt → Int → Prop} {v : Value} {w w' : World} (h : G0 P v w) (hx : Ext w w') : G0 P v w' := by obtain ⟨l, er, A', c', h1, h2, h3⟩ := h; exact ⟨l, er, A', c', h1, h2, h3.ext hx⟩
def JT (P : List Pt → Int → Prop) (b : Pt) (v : Value) : Prop := ∃ (l : List Pt) (er : Int), P l er ∧ v = .tuple #[.bool (decide (b ∈ l)), .int .i64 er]
def J0 (P : List Pt → Int → Prop) (b : Pt) (v : Value) : Prop := ∃ (l : List Pt) (er : Int), P l er ∧ v = .bool (decide (b ∈ l))
/-- A field made in the region. -/
def OfG (g : Gr) (A : Option Addr) (c : Nat) (w0 : World) (mk : Value → Value) (d : Bool) (v : Value) (w : World) : Prop := ∃ fb, v = mk (.pointer (some ⟨fb, 0, none⟩)) ∧ w0.heap.size ≤ fb ∧ (d = false → CntF g A c fb 0 w)
theorem OfG.ext {g : Gr} {A : Option Addr} {c : Nat} {w0 w w' : World} {mk : Value → Value} {d : Bool} {v : Value} (h : OfG g A c w0 mk d v w) (hx : Ext w w') : OfG g A c w0 mk d v w' := by obtain ⟨fb, h1, h2, h3⟩ := h; exact ⟨fb, h1, h2, fun e => (h3 e).ext hx⟩
theorem OfG.up {g : Gr} {A : Option Addr} {c : Nat} {w0 w w' : World} {mk : Value → Value} {d : Bool} {v : Value} (h : OfG g A c w0 mk d v w) : OfG g A c w0 mk true v w' := by obtain ⟨fb, h1, h2, _⟩ := h; exact ⟨fb, h1, h2, fun e => by cases e⟩
end Go.Proofs.YtelhefjikdoihaaDoor

/- FillMatchesSpec. -/
namespace Go.Proofs.YtelhefjikdoihaaDoor
open Go Go.RowKit

theorem flag_uniq {F : Pt → Option Int} {a b : Pt} {most er er' : Int} {l l' : List Pt} (h : FloodOut F a most l er) (k : FloodOut F a most l' er') : decide (b ∈ l) = decide (b ∈ l') ∧ er = er' := by
  obtain ⟨rfl, rfl⟩ := h.uniq k
  exact ⟨rfl, rfl⟩
set_option maxRecDepth 100000 in
set_option maxHeartbeats 8000000 in
theorem FillMatchesSpec_any (g : Gr) (A : Option Addr) (c : Nat) (a p : Pt) (n : Int) (w : World) (hs : Sv w w.heap.size 1 A c (rowsI g.cells)) (hst : StepsIn w) :
    Calls Tryd.prog 3 #[.agg #[.int .i64 g.box.lo.x, .int .i64 g.box.lo.y, .int .i64 g.box.lo.z, .int .i64 g.box.hi.x, .int .i64 g.box.hi.y, .int .i64 g.box.hi.z, .slice A g.cells.length c], .agg #[.int .i64 a.x, .int .i64 a.y, .int .i64 a.z], .agg #[.int .i64 p.x, .int .i64 p.y, .int .i64 p.z], .int .i64 n] w fun e w' => e = .returned (.bool true) ∧ Ext w w' := by
  have hm := mixed
  have hG := near_old
  have hx0 : Ext w (((w.alloc (.cells #[.int .i64 g.box.lo.x, .int .i64 g.box.lo.y, .int .i64 g.box.lo.z, .int .i64 g.box.hi.x, .int .i64 g.box.hi.y, .int .i64 g.box.hi.z, .slice A g.cells.length c] 28)).alloc (.cells #[.int .i64 a.x, .int .i64 a.y, .int .i64 a.z] 23)).alloc (.cells #[.int .i64 p.x, .int .i64 p.y, .int .i64 p.z] 23)) := (((Ext.refl w).alloc _).alloc _).alloc _
  have B0 := ((Arr.new w 28 [.int .i64 g.box.lo.x, .int .i64 g.box.lo.y, .int .i64 g.box.lo.z, .int .i64 g.box.hi.x, .int .i64 g.box.hi.y, .int .i64 g.box.hi.z, .slice A g.cells.length c]).alloc (.cells #[.int .i64 a.x, .int .i64 a.y, .int .i64 a.z] 23)).alloc (.cells #[.int .i64 p.x, .int .i64 p.y, .int .i64 p.z] 23)
  have B1 := (Arr.new (w.alloc (.cells #[.int .i64 g.box.lo.x, .int .i64 g.box.lo.y, .int .i64 g.box.lo.z, .int .i64 g.box.hi.x, .int .i64 g.box.hi.y, .int .i64 g.box.hi.z, .slice A g.cells.length c] 28)) 23 [.int .i64 a.x, .int .i64 a.y, .int .i64 a.z]).alloc (.cells #[.int .i64 p.x, .int .i64 p.y, .int .i64 p.z] 23)
  have B2 := Arr.new ((w.alloc (.cells #[.int .i64 g.box.lo.x, .int .i64 g.box.lo.y, .int .i64 g.box.lo.z, .int .i64 g.box.hi.x, .int .i64 g.box.hi.y, .int .i64 g.box.hi.z, .slice A g.cells.length c] 28)).alloc (.cells #[.int .i64 a.x, .int .i64 a.y, .int .i64 a.z] 23)) 23 [.int .i64 p.x, .int .i64 p.y, .int .i64 p.z]
  simp only [World.size_alloc_] at B1 B2
  have HB0 := Lib.hid B0; have HB1 := Lib.hid B1; have HB2 := Lib.hid B2; have HX0 := Lib.hid hx0; have HS := Lib.hid hs; have HST := Lib.hid hst
  clear B0 B1 B2 hx0
  have HFE := Lib.hid (fun (w' : World) (hx : Ext w w') => Few_any g A c w' (hs.ext hx))
  clear hs hst
  generalize hf : (decide (g.cells.length ≤ 200) && validG g) = bf at HFE
  have HF := Lib.hid hf
  clear hf
  go_enter Tryd.func3, Tryd.ntmps3
  go_upto_region 1 with fail
  obtain ⟨W0, hW⟩ : ∃ W, W = ((w.alloc (.cells #[.int .i64 g.box.lo.x, .int .i64 g.box.lo.y, .int .i64 g.box.lo.z, .int .i64 g.box.hi.x, .int .i64 g.box.hi.y, .int .i64 g.box.hi.z, .slice A g.cells.length c] 28)).alloc (.cells #[.int .i64 a.x, .int .i64 a.y, .int .i64 a.z] 23)).alloc (.cells #[.int .i64 p.x, .int .i64 p.y, .int .i64 p.z] 23) := ⟨_, rfl⟩
  rw [← hW] at HB0 HB1 HB2 HX0
  rw [← hW]
  clear hW
  go_upto_region 2 with (go_at_call 8; refine (sanity_any _ (HST.out.ext HX0.out)).mono ?_; rintro e W1 ⟨rfl, x1⟩)
  have HB0 := Lib.hid (HB0.out.ext x1); have HB1 := Lib.hid (HB1.out.ext x1); have HB2 := Lib.hid (HB2.out.ext x1); have HX0 := Lib.hid (HX0.out.trans x1)
  clear x1
  cases bf
  · go_wp2_with (first
      | (refine wpList_load_blk 28 (.tmp 4) rfl rfl HB0.out rfl _ Tryd.underlying28 rfl (by kernel_rfl) ?_)
      | (go_at_call 9; refine (HFE.out _ HX0.out).mono ?_; rintro e W2 ⟨rfl, x2⟩))
    go_ret
    exact ⟨rfl, HX0.out.trans x2⟩
  · have hf := HF.out
    rw [Bool.and_eq_true, decide_eq_true_eq] at hf
    obtain ⟨h200, hv⟩ := hf
    have HV := Lib.hid hv; have H200 := Lib.hid h200
    clear hv h200
    go_upto_region 4 with (first
      | (refine wpList_load_blk 28 (.tmp 4) rfl rfl HB0.out rfl _ Tryd.underlying28 rfl (by kernel_rfl) ?_)
      | (go_at_call 9; refine (HFE.out _ HX0.out).mono ?_; rintro e W2 ⟨rfl, x2⟩))
    have HB0 := Lib.hid (HB0.out.ext x2); have HB1 := Lib.hid (HB1.out.ext x2); have HB2 := Lib.hid (HB2.out.ext x2); have HX := Lib.hid (HX0.out.trans x2)
    have HSW := Lib.hid (HS.out.ext HX.out); have HSTW := Lib.hid (HST.out.ext HX.out)
    clear x2
    refine wp_region_flow (w := W2) 5 (fun d i v w' => match i with
        | 0 => v = .agg #[.int .i64 g.box.lo.x, .int .i64 g.box.lo.y, .int .i64 g.box.lo.z, .int .i64 g.box.hi.x, .int .i64 g.box.hi.y, .int .i64 g.box.hi.z, .slice A g.cells.length c]
        | 1 => OfG g (A) c W2 (fun v => v) d v w'
        | 2 => OfG g (A) c W2 (fun v => .iface 35 v) d v w'
        | 3 => v = .agg #[.int .i64 a.x, .int .i64 a.y, .int .i64 a.z]
        | 4 => v = .int .i64 n
        | 5 => d = true ∧ GT (FloodOut (fld g) a n) v w'
        | 6 => d = true ∧ GT (FloodOut (fld g) a n) v w'
        | 7 => d = true ∧ G0 (FloodOut (fld g) a n) v w'
        | 8 => d = true ∧ G1 (FloodOut (fld g) a n) v
        | 9 => d = true ∧ G0 (FloodOut (fld g) a n) v w'
        | 10 => d = true ∧ G1 (FloodOut (fld g) a n) v
        | _ => True) hm (by kernel_rfl) (by kernel_rfl) rfl ?_ ?_ ?_ ?_
    · intro d i v w1 w2 hx h
      match i, h with
      | 0, h => exact h
      | 1, h => exact OfG.ext h hx
      | 2, h => exact OfG.ext h hx
      | 3, h => exact h
      | 4, h => exact h
      | 5, h => exact ⟨h.1, h.2.ext hx⟩
      | 6, h => exact ⟨h.1, h.2.ext hx⟩
      | 7, h => exact ⟨h.1, h.2.ext hx⟩
      | 8, h => exact h
      | 9, h => exact ⟨h.1, h.2.ext hx⟩
      | 10, h => exact h
      | i + 11, h => exact trivial
    · intro i v w1 w2 h
      match i, h with
      | 0, h => exact h
      | 1, h => exact OfG.up h
      | 2, h => exact OfG.up h
      | 3, h => exact h
      | 4, h => exact h
      | 5, h => exact absurd h.1 (by simp)
      | 6, h => exact absurd h.1 (by simp)
      | 7, h => exact absurd h.1 (by simp)
      | 8, h => exact absurd h.1 (by simp)
      | 9, h => exact absurd h.1 (by simp)
      | 10, h => exact absurd h.1 (by simp)
      | i + 11, h => exact trivial
    · intro i o ho d b w1 hJd hx hmiss hdep K hK
      match i, ho with
      | 0, ho =>
        obtain rfl := Option.some.inj ho
        refine want_none rfl ?_
        have e1 : b.tmps[4]? = some (.pointer (some ⟨w.heap.size, 0, none⟩)) := hmiss 4 rfl
        exact op_loadrow rfl (eval_of e1) (HB0.out.ext hx) _ Tryd.underlying28 rfl (by kernel_rfl) (hK _ w1 hx (fun _ => Ext.refl _) rfl)
      | 1, ho =>
        obtain rfl := Option.some.inj ho
        refine want_none rfl ?_
        obtain ⟨v1, g1, e1⟩ := hdep 0 rfl
        have g1 : v1 = .agg #[.int .i64 g.box.lo.x, .int .i64 g.box.lo.y, .int .i64 g.box.lo.z, .int .i64 g.box.hi.x, .int .i64 g.box.hi.y, .int .i64 g.box.hi.z, .slice A g.cells.length c] := g1
        subst g1
        have e1 := e1 30 rfl
        have hc := (of_any g (A) c w1 (HSW.out.ext hx)).mono (R' := fun e w' => ∃ v, e = .returned v ∧ (Ext w1 w' ∧ OfG g (A) c W2 (fun v => v) d v w')) fun e w' ⟨fb, h1, h2, h3, h4, h5⟩ => ⟨_, h3, h5, fb, rfl, Nat.le_trans hx.size h1, fun _ => h4⟩
        exact op_callG rfl (by simp [eval_of e1]) (fun _ _ => by kernel_rfl) hc (fun v w' h => hK v w' (hx.trans h.1) (fun _ => h.1) h.2)
      | 2, ho =>
        obtain rfl := Option.some.inj ho
        refine want_none rfl ?_
        obtain ⟨v1, g1, e1⟩ := hdep 1 rfl
        obtain ⟨fb, g1, g2, g3⟩ := g1
        subst g1
        have e1 := e1 31 rfl
        exact op_run (by unfold execOp; simp [e1, Act.eval, go_sem]) (hK _ w1 hx (fun _ => Ext.refl _) ⟨fb, rfl, g2, g3⟩)
      | 3, ho =>
        obtain rfl := Option.some.inj ho
        refine want_none rfl ?_
        have e1 : b.tmps[5]? = some (.pointer (some ⟨w.heap.size + 1, 0, none⟩)) := hmiss 5 rfl
        exact op_loadrow rfl (eval_of e1) (HB1.out.ext hx) _ Tryd.underlying23 rfl (by kernel_rfl) (hK _ w1 hx (fun _ => Ext.refl _) rfl)
      | 4, ho =>
        obtain rfl := Option.some.inj ho
        refine want_none rfl ?_
        have e1 : b.tmps[3]? = some (.int .i64 n) := hmiss 3 rfl
        exact op_move rfl (eval_of e1) (hK _ w1 hx (fun _ => Ext.refl _) rfl)
      | 5, ho =>
        obtain rfl := Option.some.inj ho
        refine want_none rfl ?_
        obtain rfl : d = false := hJd rfl
        obtain ⟨v32, g32, e32⟩ := hdep 2 rfl
        obtain ⟨fb, g32, f1, fc⟩ := g32
        subst g32
        have e32 := e32 32 rfl
        obtain ⟨v33, g33, e33⟩ := hdep 3 rfl
        have g33 : v33 = .agg #[.int .i64 a.x, .int .i64 a.y, .int .i64 a.z] := g33
        subst g33
        have e33 := e33 33 rfl
        obtain ⟨v34, g34, e34⟩ := hdep 4 rfl
        have g34 : v34 = .int .i64 n := g34
        subst g34
        have e34 := e34 34 rfl
        have hc := (floodG_any HV.out H200.out (fc rfl) hx f1 HSTW.out a n).mono (R' := fun e w' => ∃ v, e = .returned v ∧ (Ext W2 w' ∧ GT (FloodOut (fld g) a n) v w')) fun e w' ⟨l, er, A', c', k, h1, h2, h3, h4, h5, h6⟩ => ⟨_, h3, h6, l, er, A', c', h1, rfl, h4⟩
        exact op_callG rfl (by simp [eval_of e32, eval_of e33, eval_of e34]) (fun _ _ => by kernel_rfl) hc (fun v w' h => hK v w' h.1 (fun e => absurd rfl e) ⟨rfl, h.2⟩)
      | 6, ho =>
        obtain rfl := Option.some.inj ho
        refine want_none rfl ?_
        obtain ⟨v1, g1, e1⟩ := hdep 5 rfl
        have e1 := e1 35 rfl
        exact op_move rfl (eval_of e1) (hK _ w1 hx (fun _ => Ext.refl _) g1)
      | 7, ho =>
        obtain rfl := Option.some.inj ho
        refine want_none rfl ?_
        obtain ⟨v1, g1, e1⟩ := hdep 6 rfl
        have e1 := e1 29 rfl
        obtain ⟨gd, l, er, A', c', h1, h2, h3⟩ := g1
        subst h2
        exact op_run (by unfold execOp; simp [e1, Act.eval, go_sem]) (hK _ w1 hx (fun _ => Ext.refl _) ⟨gd, l, er, A', c', h1, rfl, h3⟩)
      | 8, ho =>
        obtain rfl := Option.some.inj ho
        refine want_none rfl ?_
        obtain ⟨v1, g1, e1⟩ := hdep 6 rfl
        have e1 := e1 29 rfl
        obtain ⟨gd, l, er, A', c', h1, h2, h3⟩ := g1
        subst h2
        exact op_run (by unfold execOp; simp [e1, Act.eval, go_sem]) (hK _ w1 hx (fun _ => Ext.refl _) ⟨gd, l, er, h1, rfl⟩)
      | 9, ho =>
        obtain rfl := Option.some.inj ho
        refine want_none rfl ?_
        obtain ⟨v1, g1, e1⟩ := hdep 7 rfl
        have e1 := e1 36 rfl
        exact op_assign rfl (eval_of e1) (hK _ w1 hx (fun _ => Ext.refl _) g1)
      | 10, ho =>
        obtain rfl := Option.some.inj ho
        refine want_none rfl ?_
        obtain ⟨v1, g1, e1⟩ := hdep 8 rfl
        have e1 := e1 37 rfl
        exact op_assign rfl (eval_of e1) (hK _ w1 hx (fun _ => Ext.refl _) g1)
      | i + 11, ho => cases ho
    · intro V4 W4 hx hg
      obtain ⟨_, l, er1, A4, c4, hP, q0, s4⟩ := hg 9 (by decide)
      obtain ⟨_, l2, er, hP2, q1⟩ := hg 10 (by decide)
      obtain ⟨e1, e2⟩ := hP.uniq hP2
      subst e1 e2
      simp only [List.length_cons, List.length_nil, fillAllN, dstOf, Act.put, List.getElem?_toArray, List.getElem?_cons_zero, List.getElem?_cons_succ, Option.bind_some, q0, q1, List.setIfInBounds_toArray, List.set_cons_zero, List.set_cons_succ]
      clear hg q0 q1 hP2
      have HP := Lib.hid hP; have HL := Lib.hid s4
      clear hP s4
      have HB0 := Lib.hid (HB0.out.ext hx)
      have HB1 := Lib.hid (HB1.out.ext hx)
      have HB2 := Lib.hid (HB2.out.ext hx)
      have HX := Lib.hid (HX.out.trans hx)
      have HSW := Lib.hid (HS.out.ext HX.out); have HSTW := Lib.hid (HST.out.ext HX.out)
      clear hx
      go_upto_region 6 with (first
        | (refine wpList_load_blk 28 (.tmp 4) rfl rfl HB0.out rfl _ Tryd.underlying28 rfl (by kernel_rfl) ?_)
        | (refine wpList_load_blk 23 (.tmp 5) rfl rfl HB1.out rfl _ Tryd.underlying23 rfl (by kernel_rfl) ?_)
        | (go_at_call 12; refine (refFlood_any g A c a n _ HSW.out HV.out H200.out).mono ?_; rintro e W5 ⟨m, er5, A5, c5, hP5, rfl, s5, x5⟩; obtain ⟨q1, q2⟩ := HP.out.uniq hP5; subst q1 q2))
      have HM := Lib.hid s5
      clear s5 hP5
      have HB0 := Lib.hid (HB0.out.ext x5)
      have HB1 := Lib.hid (HB1.out.ext x5)
      have HB2 := Lib.hid (HB2.out.ext x5)
      have HL := Lib.hid (HL.out.ext x5)
      have HX := Lib.hid (HX.out.trans x5)
      have HSW := Lib.hid (HS.out.ext HX.out); have HSTW := Lib.hid (HST.out.ext HX.out)
      clear x5
      refine wp_region_flow (w := W5) 6 (fun d i v w' => match i with
          | 0 => v = .agg #[.int .i64 g.box.lo.x, .int .i64 g.box.lo.y, .int .i64 g.box.lo.z, .int .i64 g.box.hi.x, .int .i64 g.box.hi.y, .int .i64 g.box.hi.z, .slice A g.cells.length c]
          | 1 => OfG g (A) c W5 (fun v => v) d v w'
          | 2 => OfG g (A) c W5 (fun v => .iface 35 v) d v w'
          | 3 => v = .agg #[.int .i64 a.x, .int .i64 a.y, .int .i64 a.z]
          | 4 => v = .agg #[.int .i64 p.x, .int .i64 p.y, .int .i64 p.z]
          | 5 => v = .int .i64 n
          | 6 => d = true ∧ JT (FloodOut (fld g) a n) p v
          | 7 => d = true ∧ JT (FloodOut (fld g) a n) p v
          | 8 => d = true ∧ J0 (FloodOut (fld g) a n) p v
          | 9 => d = true ∧ G1 (FloodOut (fld g) a n) v
          | 10 => d = true ∧ J0 (FloodOut (fld g) a n) p v
          | 11 => d = true ∧ G1 (FloodOut (fld g) a n) v
          | _ => True) hm (by kernel_rfl) (by kernel_rfl) rfl ?_ ?_ ?_ ?_
      · intro d i v w1 w2 hx h
        match i, h with
        | 0, h => exact h
        | 1, h => exact OfG.ext h hx
        | 2, h => exact OfG.ext h hx
        | 3, h => exact h
        | 4, h => exact h
        | 5, h => exact h
        | 6, h => exact h
        | 7, h => exact h
        | 8, h => exact h
        | 9, h => exact h
        | 10, h => exact h
        | 11, h => exact h
        | i + 12, h => exact trivial
      · intro i v w1 w2 h
        match i, h with
        | 0, h => exact h
        | 1, h => exact OfG.up h
        | 2, h => exact OfG.up h
        | 3, h => exact h
        | 4, h => exact h
        | 5, h => exact h
        | 6, h => exact absurd h.1 (by simp)
        | 7, h => exact absurd h.1 (by simp)
        | 8, h => exact absurd h.1 (by simp)
        | 9, h => exact absurd h.1 (by simp)
        | 10, h => exact absurd h.1 (by simp)
        | 11, h => exact absurd h.1 (by simp)
        | i + 12, h => exact trivial
      · intro i o ho d b w1 hJd hx hmiss hdep K hK
        match i, ho with
        | 0, ho =>
          obtain rfl := Option.some.inj ho
          refine want_none rfl ?_
          have e1 : b.tmps[4]? = some (.pointer (some ⟨w.heap.size, 0, none⟩)) := hmiss 4 rfl
          exact op_loadrow rfl (eval_of e1) (HB0.out.ext hx) _ Tryd.underlying28 rfl (by kernel_rfl) (hK _ w1 hx (fun _ => Ext.refl _) rfl)
        | 1, ho =>
          obtain rfl := Option.some.inj ho
          refine want_none rfl ?_
          obtain ⟨v1, g1, e1⟩ := hdep 0 rfl
          have g1 : v1 = .agg #[.int .i64 g.box.lo.x, .int .i64 g.box.lo.y, .int .i64 g.box.lo.z, .int .i64 g.box.hi.x, .int .i64 g.box.hi.y, .int .i64 g.box.hi.z, .slice A g.cells.length c] := g1
          subst g1
          have e1 := e1 46 rfl
          have hc := (of_any g (A) c w1 (HSW.out.ext hx)).mono (R' := fun e w' => ∃ v, e = .returned v ∧ (Ext w1 w' ∧ OfG g (A) c W5 (fun v => v) d v w')) fun e w' ⟨fb, h1, h2, h3, h4, h5⟩ => ⟨_, h3, h5, fb, rfl, Nat.le_trans hx.size h1, fun _ => h4⟩
          exact op_callG rfl (by simp [eval_of e1]) (fun _ _ => by kernel_rfl) hc (fun v w' h => hK v w' (hx.trans h.1) (fun _ => h.1) h.2)
        | 2, ho =>
          obtain rfl := Option.some.inj ho
          refine want_none rfl ?_
          obtain ⟨v1, g1, e1⟩ := hdep 1 rfl
          obtain ⟨fb, g1, g2, g3⟩ := g1
          subst g1
          have e1 := e1 47 rfl
          exact op_run (by unfold execOp; simp [e1, Act.eval, go_sem]) (hK _ w1 hx (fun _ => Ext.refl _) ⟨fb, rfl, g2, g3⟩)
        | 3, ho =>
          obtain rfl := Option.some.inj ho
          refine want_none rfl ?_
          have e1 : b.tmps[5]? = some (.pointer (some ⟨w.heap.size + 1, 0, none⟩)) := hmiss 5 rfl
          exact op_loadrow rfl (eval_of e1) (HB1.out.ext hx) _ Tryd.underlying23 rfl (by kernel_rfl) (hK _ w1 hx (fun _ => Ext.refl _) rfl)
        | 4, ho =>
          obtain rfl := Option.some.inj ho
          refine want_none rfl ?_
          have e1 : b.tmps[6]? = some (.pointer (some ⟨w.heap.size + 1 + 1, 0, none⟩)) := hmiss 6 rfl
          exact op_loadrow rfl (eval_of e1) (HB2.out.ext hx) _ Tryd.underlying23 rfl (by kernel_rfl) (hK _ w1 hx (fun _ => Ext.refl _) rfl)
        | 5, ho =>
          obtain rfl := Option.some.inj ho
          refine want_none rfl ?_
          have e1 : b.tmps[3]? = some (.int .i64 n) := hmiss 3 rfl
          exact op_move rfl (eval_of e1) (hK _ w1 hx (fun _ => Ext.refl _) rfl)
        | 6, ho =>
          obtain rfl := Option.some.inj ho
          refine want_none rfl ?_
          obtain rfl : d = false := hJd rfl
          obtain ⟨v48, g48, e48⟩ := hdep 2 rfl
          obtain ⟨fb, g48, f1, fc⟩ := g48
          subst g48
          have e48 := e48 48 rfl
          obtain ⟨v49, g49, e49⟩ := hdep 3 rfl
          have g49 : v49 = .agg #[.int .i64 a.x, .int .i64 a.y, .int .i64 a.z] := g49
          subst g49
          have e49 := e49 49 rfl
          obtain ⟨v50, g50, e50⟩ := hdep 4 rfl
          have g50 : v50 = .agg #[.int .i64 p.x, .int .i64 p.y, .int .i64 p.z] := g50
          subst g50
          have e50 := e50 50 rfl
          obtain ⟨v51, g51, e51⟩ := hdep 5 rfl
          have g51 : v51 = .int .i64 n := g51
          subst g51
          have e51 := e51 51 rfl
          have hc := (joinedG_any HV.out H200.out (fc rfl) hx f1 HSTW.out a p n).mono (R' := fun e w' => ∃ v, e = .returned v ∧ (Ext W5 w' ∧ JT (FloodOut (fld g) a n) p v)) fun e w' ⟨l, er, h1, h2, h3⟩ => ⟨_, h2, h3, l, er, h1, rfl⟩
          exact op_callG rfl (by simp [eval_of e48, eval_of e49, eval_of e50, eval_of e51]) (fun _ _ => by kernel_rfl) hc (fun v w' h => hK v w' h.1 (fun e => absurd rfl e) ⟨rfl, h.2⟩)
        | 7, ho =>
          obtain rfl := Option.some.inj ho
          refine want_none rfl ?_
          obtain ⟨v1, g1, e1⟩ := hdep 6 rfl
          have e1 := e1 52 rfl
          exact op_move rfl (eval_of e1) (hK _ w1 hx (fun _ => Ext.refl _) g1)
        | 8, ho =>
          obtain rfl := Option.some.inj ho
          refine want_none rfl ?_
          obtain ⟨v1, g1, e1⟩ := hdep 7 rfl
          have e1 := e1 45 rfl
          obtain ⟨gd, l, er, h1, h2⟩ := g1
          subst h2
          exact op_run (by unfold execOp; simp [e1, Act.eval, go_sem]) (hK _ w1 hx (fun _ => Ext.refl _) ⟨gd, l, er, h1, rfl⟩)
        | 9, ho =>
          obtain rfl := Option.some.inj ho
          refine want_none rfl ?_
          obtain ⟨v1, g1, e1⟩ := hdep 7 rfl
          have e1 := e1 45 rfl
          obtain ⟨gd, l, er, h1, h2⟩ := g1
          subst h2
          exact op_run (by unfold execOp; simp [e1, Act.eval, go_sem]) (hK _ w1 hx (fun _ => Ext.refl _) ⟨gd, l, er, h1, rfl⟩)
        | 10, ho =>
          obtain rfl := Option.some.inj ho
          refine want_none rfl ?_
          obtain ⟨v1, g1, e1⟩ := hdep 8 rfl
          have e1 := e1 53 rfl
          exact op_assign rfl (eval_of e1) (hK _ w1 hx (fun _ => Ext.refl _) g1)
        | 11, ho =>
          obtain rfl := Option.some.inj ho
          refine want_none rfl ?_
          obtain ⟨v1, g1, e1⟩ := hdep 9 rfl
          have e1 := e1 54 rfl
          exact op_assign rfl (eval_of e1) (hK _ w1 hx (fun _ => Ext.refl _) g1)
        | i + 12, ho => cases ho
      · intro V6 W6 hx hg
        obtain ⟨_, lj, er1, hPJ, q0⟩ := hg 10 (by decide)
        obtain ⟨_, l2, erj, hP2, q1⟩ := hg 11 (by decide)
        obtain ⟨e1, e2⟩ := hPJ.uniq hP2
        subst e1 e2
        simp only [List.length_cons, List.length_nil, fillAllN, dstOf, Act.put, List.getElem?_toArray, List.getElem?_cons_zero, List.getElem?_cons_succ, Option.bind_some, q0, q1, List.setIfInBounds_toArray, List.set_cons_zero, List.set_cons_succ]
        clear hg q0 q1 hP2
        have HB0 := Lib.hid (HB0.out.ext hx)
        have HB1 := Lib.hid (HB1.out.ext hx)
        have HB2 := Lib.hid (HB2.out.ext hx)
        have HL := Lib.hid (HL.out.ext hx)
        have HM := Lib.hid (HM.out.ext hx)
        have HX := Lib.hid (HX.out.trans hx)
        have HSW := Lib.hid (HS.out.ext HX.out); have HSTW := Lib.hid (HST.out.ext HX.out)
        clear hx
        go_upto_region 8 with (first
          | (refine wpList_load_blk 28 (.tmp 4) rfl rfl HB0.out rfl _ Tryd.underlying28 rfl (by kernel_rfl) ?_)
          | (refine wpList_load_blk 23 (.tmp 5) rfl rfl HB1.out rfl _ Tryd.underlying23 rfl (by kernel_rfl) ?_)
          | (refine wpList_load_blk 23 (.tmp 6) rfl rfl HB2.out rfl _ Tryd.underlying23 rfl (by kernel_rfl) ?_)
          | (go_at_call 14; refine (refJoined_any g A c a p n _ HSW.out HV.out H200.out).mono ?_; rintro e W7 ⟨m7, er7, hP7, rfl, x7⟩; obtain ⟨q1, q2⟩ := hPJ.uniq hP7; subst q1 q2))
        clear hP7 hPJ
        have HB0 := Lib.hid (HB0.out.ext x7)
        have HB1 := Lib.hid (HB1.out.ext x7)
        have HB2 := Lib.hid (HB2.out.ext x7)
        have HL := Lib.hid (HL.out.ext x7)
        have HM := Lib.hid (HM.out.ext x7)
        have HX := Lib.hid (HX.out.trans x7)
        have HSW := Lib.hid (HS.out.ext HX.out); have HSTW := Lib.hid (HST.out.ext HX.out)
        clear x7
        refine wp_region_flow (w := W7) 5 (fun d i v w' => match i with
            | 0 => v = .agg #[.int .i64 g.box.lo.x, .int .i64 g.box.lo.y, .int .i64 g.box.lo.z, .int .i64 g.box.hi.x, .int .i64 g.box.hi.y, .int .i64 g.box.hi.z, .slice A g.cells.length c]
            | 1 => OfG g (A) c W7 (fun v => v) d v w'
            | 2 => OfG g (A) c W7 (fun v => .iface 35 v) d v w'
            | 3 => v = .agg #[.int .i64 a.x, .int .i64 a.y, .int .i64 a.z]
            | 4 => v = .int .i64 n
            | 5 => d = true ∧ GT (BorderOut (fld g) a n) v w'
            | 6 => d = true ∧ GT (BorderOut (fld g) a n) v w'
            | 7 => d = true ∧ G0 (BorderOut (fld g) a n) v w'
            | 8 => d = true ∧ G1 (BorderOut (fld g) a n) v
            | 9 => d = true ∧ G0 (BorderOut (fld g) a n) v w'
            | 10 => d = true ∧ G1 (BorderOut (fld g) a n) v
            | _ => True) hm (by kernel_rfl) (by kernel_rfl) rfl ?_ ?_ ?_ ?_
        · intro d i v w1 w2 hx h
          match i, h with
          | 0, h => exact h
          | 1, h => exact OfG.ext h hx
          | 2, h => exact OfG.ext h hx
          | 3, h => exact h
          | 4, h => exact h
          | 5, h => exact ⟨h.1, h.2.ext hx⟩
          | 6, h => exact ⟨h.1, h.2.ext hx⟩
          | 7, h => exact ⟨h.1, h.2.ext hx⟩
          | 8, h => exact h
          | 9, h => exact ⟨h.1, h.2.ext hx⟩
          | 10, h => exact h
          | i + 11, h => exact trivial
        · intro i v w1 w2 h
          match i, h with
          | 0, h => exact h
          | 1, h => exact OfG.up h
          | 2, h => exact OfG.up h
          | 3, h => exact h
          | 4, h => exact h
          | 5, h => exact absurd h.1 (by simp)
          | 6, h => exact absurd h.1 (by simp)
          | 7, h => exact absurd h.1 (by simp)
          | 8, h => exact absurd h.1 (by simp)
          | 9, h => exact absurd h.1 (by simp)
          | 10, h => exact absurd h.1 (by simp)
          | i + 11, h => exact trivial
        · intro i o ho d b w1 hJd hx hmiss hdep K hK
          match i, ho with
          | 0, ho =>
            obtain rfl := Option.some.inj ho
            refine want_none rfl ?_
            have e1 : b.tmps[4]? = some (.pointer (some ⟨w.heap.size, 0, none⟩)) := hmiss 4 rfl
            exact op_loadrow rfl (eval_of e1) (HB0.out.ext hx) _ Tryd.underlying28 rfl (by kernel_rfl) (hK _ w1 hx (fun _ => Ext.refl _) rfl)
          | 1, ho =>
            obtain rfl := Option.some.inj ho
            refine want_none rfl ?_
            obtain ⟨v1, g1, e1⟩ := hdep 0 rfl
            have g1 : v1 = .agg #[.int .i64 g.box.lo.x, .int .i64 g.box.lo.y, .int .i64 g.box.lo.z, .int .i64 g.box.hi.x, .int .i64 g.box.hi.y, .int .i64 g.box.hi.z, .slice A g.cells.length c] := g1
            subst g1
            have e1 := e1 64 rfl
            have hc := (of_any g (A) c w1 (HSW.out.ext hx)).mono (R' := fun e w' => ∃ v, e = .returned v ∧ (Ext w1 w' ∧ OfG g (A) c W7 (fun v => v) d v w')) fun e w' ⟨fb, h1, h2, h3, h4, h5⟩ => ⟨_, h3, h5, fb, rfl, Nat.le_trans hx.size h1, fun _ => h4⟩
            exact op_callG rfl (by simp [eval_of e1]) (fun _ _ => by kernel_rfl) hc (fun v w' h => hK v w' (hx.trans h.1) (fun _ => h.1) h.2)
          | 2, ho =>
            obtain rfl := Option.some.inj ho
            refine want_none rfl ?_
            obtain ⟨v1, g1, e1⟩ := hdep 1 rfl
            obtain ⟨fb, g1, g2, g3⟩ := g1
            subst g1
            have e1 := e1 65 rfl
            exact op_run (by unfold execOp; simp [e1, Act.eval, go_sem]) (hK _ w1 hx (fun _ => Ext.refl _) ⟨fb, rfl, g2, g3⟩)
          | 3, ho =>
            obtain rfl := Option.some.inj ho
            refine want_none rfl ?_
            have e1 : b.tmps[5]? = some (.pointer (some ⟨w.heap.size + 1, 0, none⟩)) := hmiss 5 rfl
            exact op_loadrow rfl (eval_of e1) (HB1.out.ext hx) _ Tryd.underlying23 rfl (by kernel_rfl) (hK _ w1 hx (fun _ => Ext.refl _) rfl)
          | 4, ho =>
            obtain rfl := Option.some.inj ho
            refine want_none rfl ?_
            have e1 : b.tmps[3]? = some (.int .i64 n) := hmiss 3 rfl
            exact op_move rfl (eval_of e1) (hK _ w1 hx (fun _ => Ext.refl _) rfl)
          | 5, ho =>
            obtain rfl := Option.some.inj ho
            refine want_none rfl ?_
            obtain rfl : d = false := hJd rfl
            obtain ⟨v66, g66, e66⟩ := hdep 2 rfl
            obtain ⟨fb, g66, f1, fc⟩ := g66
            subst g66
            have e66 := e66 66 rfl
            obtain ⟨v67, g67, e67⟩ := hdep 3 rfl
            have g67 : v67 = .agg #[.int .i64 a.x, .int .i64 a.y, .int .i64 a.z] := g67
            subst g67
            have e67 := e67 67 rfl
            obtain ⟨v68, g68, e68⟩ := hdep 4 rfl
            have g68 : v68 = .int .i64 n := g68
            subst g68
            have e68 := e68 68 rfl
            have hc := (borderG_any HV.out H200.out (fc rfl) hx f1 HSTW.out a n).mono (R' := fun e w' => ∃ v, e = .returned v ∧ (Ext W7 w' ∧ GT (BorderOut (fld g) a n) v w')) fun e w' ⟨l, er, A', c', k, h1, h2, h3, h4, h5, h6⟩ => ⟨_, h3, h6, l, er, A', c', h1, rfl, h4⟩
            exact op_callG rfl (by simp [eval_of e66, eval_of e67, eval_of e68]) (fun _ _ => by kernel_rfl) hc (fun v w' h => hK v w' h.1 (fun e => absurd rfl e) ⟨rfl, h.2⟩)
          | 6, ho =>
            obtain rfl := Option.some.inj ho
            refine want_none rfl ?_
            obtain ⟨v1, g1, e1⟩ := hdep 5 rfl
            have e1 := e1 69 rfl
            exact op_move rfl (eval_of e1) (hK _ w1 hx (fun _ => Ext.refl _) g1)
          | 7, ho =>
            obtain rfl := Option.some.inj ho
            refine want_none rfl ?_
            obtain ⟨v1, g1, e1⟩ := hdep 6 rfl
            have e1 := e1 63 rfl
            obtain ⟨gd, l, er, A', c', h1, h2, h3⟩ := g1
            subst h2
            exact op_run (by unfold execOp; simp [e1, Act.eval, go_sem]) (hK _ w1 hx (fun _ => Ext.refl _) ⟨gd, l, er, A', c', h1, rfl, h3⟩)
          | 8, ho =>
            obtain rfl := Option.some.inj ho
            refine want_none rfl ?_
            obtain ⟨v1, g1, e1⟩ := hdep 6 rfl
            have e1 := e1 63 rfl
            obtain ⟨gd, l, er, A', c', h1, h2, h3⟩ := g1
            subst h2
            exact op_run (by unfold execOp; simp [e1, Act.eval, go_sem]) (hK _ w1 hx (fun _ => Ext.refl _) ⟨gd, l, er, h1, rfl⟩)
          | 9, ho =>
            obtain rfl := Option.some.inj ho
            refine want_none rfl ?_
            obtain ⟨v1, g1, e1⟩ := hdep 7 rfl
            have e1 := e1 70 rfl
            exact op_assign rfl (eval_of e1) (hK _ w1 hx (fun _ => Ext.refl _) g1)
          | 10, ho =>
            obtain rfl := Option.some.inj ho
            refine want_none rfl ?_
            obtain ⟨v1, g1, e1⟩ := hdep 8 rfl
            have e1 := e1 71 rfl
            exact op_assign rfl (eval_of e1) (hK _ w1 hx (fun _ => Ext.refl _) g1)
          | i + 11, ho => cases ho
        · intro V8 W8 hx hg
          obtain ⟨_, o, er1, A8, c8, hPB, q0, s8⟩ := hg 9 (by decide)
          obtain ⟨_, l2, er8, hP2, q1⟩ := hg 10 (by decide)
          obtain ⟨e1, e2⟩ := hPB.uniq hP2
          subst e1 e2
          simp only [List.length_cons, List.length_nil, fillAllN, dstOf, Act.put, List.getElem?_toArray, List.getElem?_cons_zero, List.getElem?_cons_succ, Option.bind_some, q0, q1, List.setIfInBounds_toArray, List.set_cons_zero, List.set_cons_succ]
          clear hg q0 q1 hP2
          have HO := Lib.hid s8; have HPB := Lib.hid hPB
          clear s8 hPB
          have HB0 := Lib.hid (HB0.out.ext hx)
          have HB1 := Lib.hid (HB1.out.ext hx)
          have HB2 := Lib.hid (HB2.out.ext hx)
          have HL := Lib.hid (HL.out.ext hx)
          have HM := Lib.hid (HM.out.ext hx)
          have HX := Lib.hid (HX.out.trans hx)
          have HSW := Lib.hid (HS.out.ext HX.out); have HSTW := Lib.hid (HST.out.ext HX.out)
          clear hx
          go_upto_region 10 with (first
            | (refine wpList_load_blk 28 (.tmp 4) rfl rfl HB0.out rfl _ Tryd.underlying28 rfl (by kernel_rfl) ?_)
            | (refine wpList_load_blk 23 (.tmp 5) rfl rfl HB1.out rfl _ Tryd.underlying23 rfl (by kernel_rfl) ?_)
            | (go_at_call 16; refine (refBorder_any g A c a n _ HSW.out HV.out H200.out).mono ?_; rintro e W9 ⟨m9, er9, A9, c9, hP9, rfl, s9, x9⟩; obtain ⟨q1, q2⟩ := HPB.out.uniq hP9; subst q1 q2))
          have HQ := Lib.hid s9
          clear s9 hP9
          have HL := Lib.hid (HL.out.ext x9)
          have HM := Lib.hid (HM.out.ext x9)
          have HO := Lib.hid (HO.out.ext x9)
          have HX := Lib.hid (HX.out.trans x9)
          have HSW := Lib.hid (HS.out.ext HX.out); have HSTW := Lib.hid (HST.out.ext HX.out)
          clear x9
          go_upto_region 11 with (go_at_call 17; refine (same_known _ _ _ _ l _ HL.out HM.out).mono ?_; rintro e WA ⟨rfl, xA⟩)
          have HO := Lib.hid (HO.out.ext xA)
          have HQ := Lib.hid (HQ.out.ext xA)
          have HX := Lib.hid (HX.out.trans xA)
          have HSW := Lib.hid (HS.out.ext HX.out); have HSTW := Lib.hid (HST.out.ext HX.out)
          clear xA
          go_upto_region 12 with (go_at_call 17; refine (same_known _ _ _ _ o _ HO.out HQ.out).mono ?_; rintro e WB ⟨rfl, xB⟩)
          have HX := Lib.hid (HX.out.trans xB)
          clear xB
          go_wp2
          go_ret
          exact ⟨rfl, HX.out⟩
end Go.Proofs.YtelhefjikdoihaaDoor

/- FillMatchesSpec: for every input the law returns true, and each argument reads as it did. No condition. -/
namespace Go.Proofs.YtelhefjikdoihaaDoor
open Go Go.RowKit Go.ChangeShapes Go.WideShapes Go.ChangeAt

set_option maxHeartbeats 1600000 in
set_option maxRecDepth 100000 in
theorem fillMatchesSpec_lifted (os : Os) (started : os.Started) (H : Type) (enc : TypeId × Value → H) :
    ReturnsInHanded {} Tryd.checked os 3 .any (fun w args => (Rows.fillMatchesSpecSpec.pre enc Tryd.prog Tryd.f3 Rows.fillMatchesSpecRow.domain false w args ∧ laidMetH Tryd.prog laidL w) ∧ sizedMet enc Tryd.prog Tryd.f3 (OpenSpec.ofChange Rows.fillMatchesSpecSpec) false w args) (Rows.fillMatchesSpecSpec.post enc Tryd.prog Tryd.f3 false true false false) := by
  refine returnsInHanded_of_change_and (C := Tryd.checked) (X := fun w _ => laidMetH Tryd.prog laidL w) (fun _ _ _ hh h => h.of_heap hh) own_ started (by kernel_rfl) Tryd.func3
    (ChangeSpec.witness_shaped (enc := enc) (C := Tryd.checked) (os := os) (X := fun w _ => laidMetH Tryd.prog laidL w) false (World.laidAll Tryd.prog os laidL) #[.agg #[.int .i64 0, .int .i64 0, .int .i64 0, .int .i64 0, .int .i64 0, .int .i64 0, .slice none 0 0], .agg #[.int .i64 0, .int .i64 0, .int .i64 0], .agg #[.int .i64 0, .int .i64 0, .int .i64 0], .int .i64 0] 8 (World.laidAll_os _ _ _) (World.shaped_of_ZipB (by kernel_rfl) (by kernel_rfl)) (by kernel_rfl) (by kernel_rfl) (by kernel_rfl)
      (by rw [MakeChecks.laidMetH_plain _ _ _ (by kernel_rfl)]; exact laidMet_laidAll _ (by kernel_rfl) (by kernel_rfl))) ?_
  intro W base args ds gs before hval0 hW hcnd _ hLd _
  have hval : ∀ (j : Nat) t v, Tryd.f3.params[j]? = some t → args[j]? = some v → Value.okWide Tryd.prog W .any base t v := hval0
  have hLd := laid_of hLd
  have hW' := hW
  obtain ⟨p, q, hA0, hV, rfl, hfz, hnd⟩ := hW
  have hA : DataW.TrodAll enc Tryd.prog W 0 (fun _ => true) true Tryd.f3.params.toList args.toList ds p := hA0
  have hAll := hA
  rw [Tryd.params3] at hA hval
  obtain ⟨v0, vs0, d0, ds0, p0, q0, ha, rfl, rfl, h0, r0⟩ := trodAll_cons hA
  obtain ⟨v1, vs1, d1, ds1, p1, q1, rfl, rfl, rfl, h1, r1⟩ := trodAll_cons r0
  obtain ⟨v2, vs2, d2, ds2, p2, q2, rfl, rfl, rfl, h2, r2⟩ := trodAll_cons r1
  obtain ⟨v3, vs3, d3, ds3, p3, q3, rfl, rfl, rfl, h3, r3⟩ := trodAll_cons r2
  obtain ⟨rfl, rfl, rfl⟩ := trodAll_nil r3
  obtain ⟨rfl, rfl⟩ := trodVars_none hV
  have hargs : args = #[v0, v1, v2, v3] := by apply Array.ext'; exact ha
  subst hargs
  obtain ⟨g, A, c, rfl, hs⟩ := read_grid (hval 0 _ _ rfl rfl) h0
  obtain ⟨a1, rfl⟩ := read_Pt (hval 1 _ _ rfl rfl) h1
  obtain ⟨a2, rfl⟩ := read_Pt (hval 2 _ _ rfl rfl) h2
  obtain ⟨n, rfl, rfl, rfl, _⟩ := open_int Tryd.underlying3 (hval 3 _ _ rfl rfl) h3
  refine (FillMatchesSpec_any g A c a1 a2 n W hs hLd).mono fun e W' ⟨he, hx⟩ => ?_
  subst he
  have hlt : ∀ x, x ∈ (p0 ++ (p1 ++ (p2 ++ ([] ++ [])))) → x.block < W.heap.size := fun x hx2 => hW'.lt x (by simpa using hx2)
  exact ⟨_, rfl, _, _, _, [], _, [], hW', trodAll_mk1 (shut_bool Tryd.underlying4 true), args_below laidOut_ _ _ _ _ W' (by rw [Tryd.params3]; intro t ht; simp at ht; rcases ht with rfl | rfl | rfl <;> exact ⟨by kernel_rfl, of_decide_eq_true (by kernel_rfl)⟩) hAll hx.below hlt, rfl, hx.below.frame _, fun h => by cases h⟩

theorem fillMatchesSpec_row : Rows.FillMatchesSpecSaid :=
  OpenClaim.holds_of_wide 3 Tryd.f3 rfl rfl rfl rfl rfl rfl rfl ⟨rfl, rfl, rfl, rfl, rfl⟩ rfl rfl rfl rfl rfl (by kernel_rfl) Tryd.func3 (by kernel_rfl)
    (of_decide_eq_true (by kernel_rfl)) (by unfold Func.isWrapper; rw [if_neg (of_decide_eq_false (by kernel_rfl))]; exact ⟨rfl, rfl⟩)
    (fun os started H enc _ => fillMatchesSpec_lifted os started H enc)

theorem fillMatchesSpec_holds : Rows.FillMatchesSpecCardSaid :=
  Claim7.holds_tied_plain_at .later [] [.data] true Rows.fillMatchesSpecCard.stood.harness false
    fillMatchesSpec_row (fun _ h => by cases h) (by kernel_rfl) (fun _ h => by cases h) fillMatchesSpec_row_tie rfl ⟨rfl, rfl⟩ (by kernel_rfl) rfl
    (fun f fn hf hfn => by
      obtain rfl : f = 3 := Option.some.inj ((show Tryd.prog.funcNamed "voxel/voxellaw21.FillMatchesSpec" = some 3 by kernel_rfl).symm.trans hf) |>.symm
      obtain rfl : fn = Tryd.f3 := (Option.some.inj (Tryd.func3.symm.trans hfn)).symm
      exact ⟨by kernel_rfl, fun j t ht => by
        rw [Tryd.params3] at ht
        have hm : t ∈ [28, 23, 23, 3] := by simpa using Array.mem_of_getElem? ht
        have hall : ([28, 23, 23, 3].all fun u => !Tryd.prog.wantsStandIn u) = true := by kernel_rfl
        exact (show Tryd.prog.wantsStandIn t = false by simpa using List.all_eq_true.1 hall t hm)⟩)
    (by kernel_rfl)
end Go.Proofs.YtelhefjikdoihaaDoor
