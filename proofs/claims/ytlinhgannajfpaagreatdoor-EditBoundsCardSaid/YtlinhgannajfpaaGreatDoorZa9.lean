/- YtlinhgannajfpaaGreatDoorMx · YtlinhgannajfpaaGreatDoorUu · YtlinhgannajfpaaGreatDoorRead · YtlinhgannajfpaaGreatDoorRdu · YtlinhgannajfpaaGreatDoorRdB · YtlinhgannajfpaaGreatDoorRc · YtlinhgannajfpaaGreatDoorPl · YtlinhgannajfpaaGreatDoorUv · YtlinhgannajfpaaGreatDoorTn -/
import Derived.Lib.Hide
import Derived.ProofKit
import Derived.Lib.SmallJoins
import Derived.Deep.Slices
import Derived.OpenShut
import Derived.Test.YtlinhgannajfpaaGreatDoorRows
import Derived.LaidMore
import Derived.Stop.Joined
import Derived.Lay
import Derived.Test.YtlinhgannajfpaaGreatDoorZa8
/- Generic: a region that draws its order, told by a list of the values that its operations yield; one short word for each operation. -/
namespace Go.Proofs.YtlinhgannajfpaaGreatDoor
open Go Go.RowKit

section
variable {P : Program}
theorem wp_region_rel2 {Q : Exit → Act → World → Prop} {id : Nat} {a : Act} {w : World} {l : List Oper} (Good : Nat → Value → World → Prop) (hm : P.follows .mixedOrders = true) (hs : slotsB l.toArray = true) (hb : backB2 l.toArray = true) (hfit : ((List.range l.length).all fun j => match dstOf l.toArray j with | some d => decide (d < a.tmps.size) | none => true) = true)
    (hst : ∀ i v w1 w2, Ext w1 w2 → Good i v w1 → Good i v w2)
    (hstep : ∀ (i : Nat) (o : Oper), l[i]? = some o → ∀ (b : Act) (w1 : World), Ext w w1 → (∀ d : Nat, missB l.toArray d = true → b.tmps[d]? = a.tmps[d]?) →
      (∀ j, waits o j = true → ∃ v, Good j v w1 ∧ ∀ d, dstOf l.toArray j = some d → b.tmps[d]? = some v) →
      ∀ K : Act → World → Prop, (∀ v w', Ext w1 w' → Good i v w' → K (b.put o.dst v) w') → if Region.wanted o (yielded l.toArray b.tmps) = true then o.wp P b w1 K Q else K (b.put o.dst undef) w1)
    (hend : ∀ (V : Nat → Value) (w1 : World), Ext w w1 → (∀ i, i < l.length → Good i (V i) w1) → Q .normal (fillAllN l.toArray V a l.length) w1) : (Code.region id l.toArray true).wp P Q a w := by
 have hS := slotsB_spec hs
 have hB := backB2_spec hb
 refine wp_region_tabg2 (G := Nat → Value) (fun g => g) (fun w listed g w1 => Ext w w1 ∧ ∀ i, i < l.length → listed.getD i true = true → Good i (g i) w1) (fun _ => undef) hm hS hB ?_ ?_ ?_
 · refine ⟨(Ext.refl _).drew, fun i hi h => ?_⟩
   have : (Array.replicate l.length false).getD i true = false := by simp [Array.getD, hi]
   rw [this] at h
   cases h
 · intro listed g w1 i o ho hun hdep hR K hK
   have hil : i < l.length := (List.getElem?_eq_some_iff.1 ho).1
   refine hstep i o ho (fill l.toArray g listed a) w1 hR.1 (fun d hd => fill_miss (fun i hi _ => missB_spec hd i hi)) (fun j hj => ?_) K (fun v w' hx hg => ?_)
   · obtain ⟨e, he, rfl, hbd⟩ := waits_spec hj
     have h1 := getD_up (hdep e he hbd)
     have h2 : e.on < l.length := by have := hB i o (by simpa using ho) e he hbd; omega
     refine ⟨g e.on, hR.2 _ h2 h1, fun d hd => fill_hit hS (by simpa using h2) h1 hd ?_⟩
     rw [List.all_eq_true] at hfit
     have h3 := hfit e.on (List.mem_range.2 h2)
     rw [hd] at h3
     simpa using h3
   · have h := hK (fun k => if k = i then v else g k) w' ⟨hR.1.trans hx, fun j hj hl => ?_⟩ (fun j hj hl => ?_)
     · simpa using h
     · by_cases hji : j = i
       · subst hji; simpa using hg
       · simp only [if_neg hji]
         rw [getD_set_ne true (Ne.symm hji)] at hl
         exact hst _ _ _ _ hx (hR.2 j hj hl)
     · have hne : j ≠ i := fun e => by subst e; rw [hl] at hun; cases hun
       simp only [if_neg hne]
 · intro listed g w1 hall hR
   rw [fill_done hall]
   exact hend g w1 hR.1 (fun i hi => hR.2 i hi (hall i hi))

def GdM (vs : List (Option Value)) (G : Nat → Value → World → Prop) (i : Nat) (v : Value) (w : World) : Prop := match (vs[i]?).join with | some u => v = u | none => G i v w
structure InM (l : List Oper) (vs : List (Option Value)) (G : Nat → Value → World → Prop) (a : Act) (w : World) (o : Oper) (b : Act) (w1 : World) : Prop where
 ext : Ext w w1
 miss : ∀ d : Nat, missB l.toArray d = true → b.tmps[d]? = a.tmps[d]?
 dep : ∀ j, waits o j = true → ∃ v, GdM vs G j v w1 ∧ ∀ d, dstOf l.toArray j = some d → b.tmps[d]? = some v
def evM (l : List Oper) (vs : List (Option Value)) (a : Act) (o : Oper) : Operand → Option Value
 | .tmp s => match (List.range l.length).find? (fun j => waits o j && (dstOf l.toArray j == some s)) with
   | some j => (vs[j]?).join
   | none => if missB l.toArray s then a.tmps[s]? else none
 | .const v => some v
 | .global g => some (.pointer (some ⟨g, 0, none⟩))
 | .func f => some (.func (.func f) #[] #[])
def evsM (l : List Oper) (vs : List (Option Value)) (a : Act) (o : Oper) : List Operand → Option (List Value)
 | [] => some []
 | x :: xs => match evM l vs a o x, evsM l vs a o xs with | some v, some us => some (v :: us) | _, _ => none
variable {Q : Exit → Act → World → Prop} {l : List Oper} {vs : List (Option Value)} {G : Nat → Value → World → Prop} {a b : Act} {w w1 : World} {o : Oper} {i : Nat}
theorem InM.ev (h : InM l vs G a w o b w1) {x : Operand} {v : Value} (e : evM l vs a o x = some v) : b.eval x = v := by
 cases x with
 | tmp s =>
   unfold evM at e
   simp only at e
   split at e
   · rename_i j hj
     have h1 := List.find?_some hj
     simp only [Bool.and_eq_true, beq_iff_eq] at h1
     obtain ⟨u, hg, hd⟩ := h.dep j h1.1
     have h2 := hd s h1.2
     unfold GdM at hg
     rw [e] at hg
     simp only at hg
     subst hg
     exact eval_of h2
   · split at e
     · rename_i hm
       exact eval_of ((h.miss s hm).trans e)
     · cases e
 | const u => injection e
 | global g => injection e
 | func f => injection e
theorem InM.evs (h : InM l vs G a w o b w1) : ∀ {xs : List Operand} {us : List Value}, evsM l vs a o xs = some us → xs.map b.eval = us
 | [], us, e => by injection e
 | x :: xs, us, e => by
   unfold evsM at e
   split at e
   · rename_i v us' e1 e2
     injection e with e
     subst e
     rw [List.map_cons, h.ev e1, h.evs e2]
   · cases e
def StepM (P : Program) (Q : Exit → Act → World → Prop) (l : List Oper) (vs : List (Option Value)) (G : Nat → Value → World → Prop) (a : Act) (w : World) (i : Nat) (o : Oper) : Prop :=
 ∀ (b : Act) (w1 : World), InM l vs G a w o b w1 → ∀ K : Act → World → Prop, (∀ v w', Ext w1 w' → GdM vs G i v w' → K (b.put o.dst v) w') → if Region.wanted o (yielded l.toArray b.tmps) = true then o.wp P b w1 K Q else K (b.put o.dst undef) w1
def StepsM (P : Program) (Q : Exit → Act → World → Prop) (l : List Oper) (vs : List (Option Value)) (G : Nat → Value → World → Prop) (a : Act) (w : World) : Nat → List Oper → Prop
 | _, [] => True
 | i, o :: os => StepM P Q l vs G a w i o ∧ StepsM P Q l vs G a w (i + 1) os
theorem c_ {os : List Oper} (h : StepM P Q l vs G a w i o) (k : StepsM P Q l vs G a w (i + 1) os) : StepsM P Q l vs G a w i (o :: os) := ⟨h, k⟩
theorem steps_at : ∀ {os : List Oper} {i0 : Nat}, StepsM P Q l vs G a w i0 os → ∀ k o, os[k]? = some o → StepM P Q l vs G a w (i0 + k) o
 | [], _, _, k, o, h => by simp at h
 | o' :: os, i0, hs, 0, o, h => by
   simp only [List.getElem?_cons_zero, Option.some.injEq] at h
   subst h
   exact hs.1
 | o' :: os, i0, hs, k + 1, o, h => by
   rw [List.getElem?_cons_succ] at h
   have := steps_at hs.2 k o h
   rwa [show i0 + 1 + k = i0 + (k + 1) by omega] at this
def fillM : List Oper → (Nat → Value) → Nat → Act → Act
 | [], _, _, a => a
 | o :: os, V, i, a => fillM os V (i + 1) (a.put o.dst (V i))
theorem fillM_all (V : Nat → Value) (a : Act) : ∀ (os pre : List Oper), fillM os V pre.length (fillAllN (pre ++ os).toArray V a pre.length) = fillAllN (pre ++ os).toArray V a (pre.length + os.length)
 | [], pre => rfl
 | o :: os, pre => by
   have h := fillM_all V a os (pre ++ [o])
   rw [List.append_assoc, List.singleton_append, List.length_append, List.length_singleton] at h
   rw [List.length_cons, show pre.length + (os.length + 1) = pre.length + 1 + os.length by omega, ← h]
   have hd : dstOf (pre ++ o :: os).toArray pre.length = o.dst := by simp [dstOf]
   show fillM os V (pre.length + 1) _ = _
   congr 1
   show _ = (fillAllN (pre ++ o :: os).toArray V a pre.length).put (dstOf (pre ++ o :: os).toArray pre.length) (V pre.length)
   rw [hd]
theorem fillM_congr (_a : Act) {V V' : Nat → Value} : ∀ (os : List Oper) (i : Nat) (a : Act), (∀ k, i ≤ k → k < i + os.length → V k = V' k) → fillM os V i a = fillM os V' i a
 | [], _, _, _ => rfl
 | o :: os, i, a, h => by
   unfold fillM
   rw [h i (Nat.le_refl _) (by simp)]
   exact fillM_congr a os (i + 1) _ (fun k h1 h2 => h k (by omega) (by rw [List.length_cons]; omega))
theorem wp_region_mix {id : Nat} (vs : List (Option Value)) (G : Nat → Value → World → Prop) (hm : P.follows .mixedOrders = true) (hs : slotsB l.toArray = true) (hb : backB2 l.toArray = true) (hfit : ((List.range l.length).all fun j => match dstOf l.toArray j with | some d => decide (d < a.tmps.size) | none => true) = true)
    (hst : ∀ i v w1 w2, Ext w1 w2 → G i v w1 → G i v w2) (hsteps : StepsM P Q l vs G a w 0 l)
    (hend : ∀ (U : Nat → Value) (w1 : World), Ext w w1 → (∀ i, i < l.length → (vs[i]?).join = none → G i (U i) w1) → Q .normal (fillM l (fun i => ((vs[i]?).join).getD (U i)) 0 a) w1) : (Code.region id l.toArray true).wp P Q a w := by
 refine wp_region_rel2 (GdM vs G) hm hs hb hfit ?_ ?_ ?_
 · intro i v w1 w2 hx h
   unfold GdM at *
   split
   · rename_i u hu; rw [hu] at h; exact h
   · rename_i hu; rw [hu] at h; exact hst _ _ _ _ hx h
 · intro i o ho b w1 hx hmiss hdep K hK
   have h := steps_at hsteps i o ho
   rw [Nat.zero_add] at h
   exact h b w1 ⟨hx, hmiss, hdep⟩ K hK
 · intro V w1 hx hg
   have h := hend V w1 hx (fun i hi hn => by have h1 := hg i hi; unfold GdM at h1; rw [hn] at h1; exact h1)
   have e := fillM_all V a l []
   rw [List.nil_append, List.length_nil, Nat.zero_add] at e
   rw [← e]
   have e2 : fillAllN l.toArray V a 0 = a := rfl
   rw [e2]
   rw [fillM_congr (V' := fun i => ((vs[i]?).join).getD (V i)) a l 0 a (fun k _ hk => ?_)]
   · exact h
   · have h1 := hg k (by omega)
     unfold GdM at h1
     cases hq : (vs[k]?).join with
     | none => rfl
     | some u => rw [hq] at h1; exact h1
theorem wp_region_val {id : Nat} (vs : List (Option Value)) (hm : P.follows .mixedOrders = true) (hs : slotsB l.toArray = true) (hb : backB2 l.toArray = true) (hfit : ((List.range l.length).all fun j => match dstOf l.toArray j with | some d => decide (d < a.tmps.size) | none => true) = true)
    (hsteps : StepsM P Q l vs (fun _ _ _ => True) a w 0 l) (hend : ∀ (w1 : World), Ext w w1 → Q .normal (fillM l (fun i => ((vs[i]?).join).getD undef) 0 a) w1) (hall : (vs.all fun v => v.isSome) = true) (hlen : vs.length = l.length) : (Code.region id l.toArray true).wp P Q a w := by
 refine wp_region_mix vs (fun _ _ _ => True) hm hs hb hfit (fun _ _ _ _ _ h => h) hsteps fun U w1 hx _ => ?_
 rw [fillM_congr (V' := fun i => ((vs[i]?).join).getD undef) a l 0 a (fun k _ hk => ?_)]
 · exact hend w1 hx
 · have hk2 : k < vs.length := by omega
   rw [List.getElem?_eq_getElem hk2]
   have := List.all_eq_true.1 hall _ (List.getElem_mem hk2)
   cases hq : vs[k] with
   | none => rw [hq] at this; cases this
   | some u => rfl

def WantM (l : List Oper) (vs : List (Option Value)) (o : Oper) : Prop := o.guard = none ∨ ∃ j d c, o.guard = some (j, c) ∧ dstOf l.toArray j = some d ∧ waits o j = true ∧ (vs[j]?).join = some (.bool c)
theorem InM.want {X Y : Prop} (h : InM l vs G a w o b w1) (hw : WantM l vs o) (hX : X) : if Region.wanted o (yielded l.toArray b.tmps) = true then X else Y := by
 rcases hw with hg | ⟨j, d, c, hg, hd, hwt, hv⟩
 · exact want_none hg hX
 · obtain ⟨v, h1, h2⟩ := h.dep j hwt
   unfold GdM at h1
   rw [hv] at h1
   simp only at h1
   subst h1
   exact want_yes hg hd (h2 d hd) hX
theorem GdM.val {u : Value} (h : (vs[i]?).join = some u) (w : World) : GdM vs G i u w := by unfold GdM; rw [h]
theorem GdM.prop {u : Value} {w : World} (h : (vs[i]?).join = none) (hg : G i u w) : GdM vs G i u w := by unfold GdM; rw [h]; exact hg
theorem s_no {j d : Nat} {c : Bool} (hg : o.guard = some (j, c) := by rfl) (hd : dstOf l.toArray j = some d := by rfl) (hw : waits o j = true := by rfl) (hv : (vs[j]?).join = some (.bool (!c)) ∨ (vs[j]?).join = some undef := by first | exact .inl rfl | exact .inr rfl)
    (hi : (vs[i]?).join = some undef := by rfl) : StepM P Q l vs G a w i o := fun b w1 h K hK => by
 obtain ⟨v, h1, h2⟩ := h.dep j hw
 unfold GdM at h1
 refine want_no hg hd ?_ (hK _ w1 (Ext.refl _) (GdM.val hi w1))
 rcases hv with hv | hv
 · rw [hv] at h1; simp only at h1; subst h1; exact .inl (h2 d hd)
 · rw [hv] at h1; simp only at h1; subst h1; exact .inr (h2 d hd)
theorem s_mv {x : Operand} {u : Value} (ho : o.op = .move x ∨ o.op = .assign x := by first | exact .inl rfl | exact .inr rfl) (hx : evM l vs a o x = some u := by rfl) (hi : (vs[i]?).join = some u := by rfl)
    (hw : WantM l vs o := by first | exact .inl rfl | exact .inr ⟨_, _, _, rfl, rfl, rfl, rfl⟩) : StepM P Q l vs G a w i o := fun b w1 h K hK => by
 refine h.want hw ?_
 have hk := hK _ w1 (Ext.refl _) (GdM.val hi w1)
 rcases ho with ho | ho
 · exact op_move ho (h.ev hx) hk
 · exact op_assign ho (h.ev hx) hk
theorem s_run0 {u : Value} (hi : (vs[i]?).join = some u := by rfl) (hw : WantM l vs o := by first | exact .inl rfl | exact .inr ⟨_, _, _, rfl, rfl, rfl, rfl⟩) (hr : ∀ (b : Act) (w1 : World), Ext w w1 → (execOp b.eval o).run P w1 = .ok (.value u) w1) : StepM P Q l vs G a w i o := fun b w1 h _K hK =>
 h.want hw (op_run (hr b w1 h.ext) (hK _ w1 (Ext.refl _) (GdM.val hi w1)))
theorem InM.slot (h : InM l vs G a w o b w1) {s : Nat} {v : Value} (e : evM l vs a o (.tmp s) = some v) : b.tmps[s]? = some v := by
 unfold evM at e
 simp only at e
 split at e
 · rename_i j hj
   have h1 := List.find?_some hj
   simp only [Bool.and_eq_true, beq_iff_eq] at h1
   obtain ⟨u, hg, hd⟩ := h.dep j h1.1
   have h2 := hd s h1.2
   unfold GdM at hg
   rw [e] at hg
   simp only at hg
   subst hg
   exact h2
 · split at e
   · rename_i hm
     exact (h.miss s hm).trans e
   · cases e
theorem s_run1 (s : Nat) {v u : Value} (hx : evM l vs a o (.tmp s) = some v := by rfl) (hi : (vs[i]?).join = some u := by rfl) (hw : WantM l vs o := by first | exact .inl rfl | exact .inr ⟨_, _, _, rfl, rfl, rfl, rfl⟩) (hr : ∀ (b : Act) (w1 : World), Ext w w1 → b.tmps[s]? = some v → (execOp b.eval o).run P w1 = .ok (.value u) w1) : StepM P Q l vs G a w i o := fun b w1 h _K hK =>
 h.want hw (op_run (hr b w1 h.ext (h.slot hx)) (hK _ w1 (Ext.refl _) (GdM.val hi w1)))
theorem s_run2 (s t : Nat) {v v2 u : Value} (hx : evM l vs a o (.tmp s) = some v := by rfl) (hy : evM l vs a o (.tmp t) = some v2 := by rfl) (hi : (vs[i]?).join = some u := by rfl) (hw : WantM l vs o := by first | exact .inl rfl | exact .inr ⟨_, _, _, rfl, rfl, rfl, rfl⟩) (hr : ∀ (b : Act) (w1 : World), Ext w w1 → b.tmps[s]? = some v → b.tmps[t]? = some v2 → (execOp b.eval o).run P w1 = .ok (.value u) w1) : StepM P Q l vs G a w i o := fun b w1 h _K hK =>
 h.want hw (op_run (hr b w1 h.ext (h.slot hx) (h.slot hy)) (hK _ w1 (Ext.refl _) (GdM.val hi w1)))
theorem s_run3 (s t r : Nat) {v v2 v3 u : Value} (hx : evM l vs a o (.tmp s) = some v := by rfl) (hy : evM l vs a o (.tmp t) = some v2 := by rfl) (hz : evM l vs a o (.tmp r) = some v3 := by rfl) (hi : (vs[i]?).join = some u := by rfl) (hw : WantM l vs o := by first | exact .inl rfl | exact .inr ⟨_, _, _, rfl, rfl, rfl, rfl⟩) (hr : ∀ (b : Act) (w1 : World), Ext w w1 → b.tmps[s]? = some v → b.tmps[t]? = some v2 → b.tmps[r]? = some v3 → (execOp b.eval o).run P w1 = .ok (.value u) w1) : StepM P Q l vs G a w i o := fun b w1 h _K hK =>
 h.want hw (op_run (hr b w1 h.ext (h.slot hx) (h.slot hy) (h.slot hz)) (hK _ w1 (Ext.refl _) (GdM.val hi w1)))
theorem s_row {t tb : TypeId} {x : Operand} {bk : Nat} {ws : List Value} (H : Hid (Arr w bk tb ws)) {d : TypeDesc} (hu : P.underlying t = some d) (ho : o.op = .load t x := by rfl) (hx : evM l vs a o x = some (.pointer (some ⟨bk, 0, none⟩)) := by rfl)
    (hd : (match d with | .struct _ | .array _ _ => true | _ => false) = true := by rfl) (hz : (P.info? t).map (·.size) = some ws.length := by kernel_rfl) (hi : (vs[i]?).join = some (.agg ws.toArray) := by rfl)
    (hw : WantM l vs o := by first | exact .inl rfl | exact .inr ⟨_, _, _, rfl, rfl, rfl, rfl⟩) : StepM P Q l vs G a w i o := fun _b w1 h _K hK =>
 h.want hw (op_loadrow ho (h.ev hx) (H.out.ext h.ext) d hu hd hz (hK _ w1 (Ext.refl _) (GdM.val hi w1)))
theorem s_mid {t : TypeId} {x : Operand} {bk off : Nat} {ws : List Value} (H : ∀ w1, Ext w w1 → ∀ j v, ws[j]? = some v → w1.cell? ⟨bk, off + j, none⟩ = some v) {d : TypeDesc} (hu : P.underlying t = some d) (ho : o.op = .load t x := by rfl) (hx : evM l vs a o x = some (.pointer (some ⟨bk, off, none⟩)) := by rfl)
    (hd : d.isRow = true := by rfl) (hz : (P.info? t).map (·.size) = some ws.length := by kernel_rfl) (hi : (vs[i]?).join = some (.agg ws.toArray) := by rfl)
    (hw : WantM l vs o := by first | exact .inl rfl | exact .inr ⟨_, _, _, rfl, rfl, rfl, rfl⟩) : StepM P Q l vs G a w i o := fun _b w1 h _K hK =>
 h.want hw (wp_load_mid t x ho bk off (h.ev hx) ws d (H w1 h.ext) hu hd hz (hK _ w1 (Ext.refl _) (GdM.val hi w1)))
theorem s_call {f : FuncId} {args : List Operand} {ts : Array TypeId} {us : List Value} {u : Value} (hc : ∀ w1, Ext w w1 → Calls P f us.toArray w1 fun e w' => e = .returned u ∧ Ext w1 w') (ho : o.op = .call { callee := .value (.func f), args := args.toArray, argTypes := ts } := by rfl)
    (ha : evsM l vs a o args = some us := by rfl) (he : ∀ args w, (callFunc f args).run P w = .ok (.enter f args) w := by intro _ _; kernel_rfl) (hi : (vs[i]?).join = some u := by rfl)
    (hw : WantM l vs o := by first | exact .inl rfl | exact .inr ⟨_, _, _, rfl, rfl, rfl, rfl⟩) : StepM P Q l vs G a w i o := fun b w1 h K hK =>
 h.want hw (op_call (G := fun v _ => v = u) ho (by rw [List.map_toArray, h.evs ha]) he ((hc w1 h.ext).mono fun e w' ⟨h1, h2⟩ => ⟨u, h1, h2, rfl⟩) (fun v w' h1 h2 => by subst h2; exact hK _ w' h1 (GdM.val hi w')))
theorem s_callG {f : FuncId} {args : List Operand} {ts : Array TypeId} {us : List Value} (hc : ∀ w1, Ext w w1 → Calls P f us.toArray w1 fun e w' => ∃ v, e = .returned v ∧ Ext w1 w' ∧ G i v w') (ho : o.op = .call { callee := .value (.func f), args := args.toArray, argTypes := ts } := by rfl)
    (ha : evsM l vs a o args = some us := by rfl) (he : ∀ args w, (callFunc f args).run P w = .ok (.enter f args) w := by intro _ _; kernel_rfl) (hi : (vs[i]?).join = none := by rfl)
    (hw : WantM l vs o := by first | exact .inl rfl | exact .inr ⟨_, _, _, rfl, rfl, rfl, rfl⟩) : StepM P Q l vs G a w i o := fun b w1 h K hK =>
 h.want hw (op_call (G := fun v w' => G i v w') ho (by rw [List.map_toArray, h.evs ha]) he (hc w1 h.ext) (fun v w' h1 h2 => hK _ w' h1 (GdM.prop hi h2)))
theorem g_true : ∀ (_i : Nat) (_v : Value) (w1 w2 : World), Ext w1 w2 → True → True := fun _ _ _ _ _ h => h
theorem g_if {k : Nat} {A : Value → World → Prop} {B : Nat → Value → World → Prop} (h : ∀ v w1 w2, Ext w1 w2 → A v w1 → A v w2) (hB : ∀ i v w1 w2, Ext w1 w2 → B i v w1 → B i v w2) :
    ∀ (i : Nat) (v : Value) (w1 w2 : World), Ext w1 w2 → (if i = k then A v w1 else B i v w1) → (if i = k then A v w2 else B i v w2) := fun i v w1 w2 hx hh => by
 by_cases he : i = k
 · rw [if_pos he] at *; exact h v w1 w2 hx hh
 · rw [if_neg he] at *; exact hB i v w1 w2 hx hh
theorem g_at {k : Nat} {p q : Prop} : (if k = k then p else q) = p := if_pos rfl
theorem s_by (hw : WantM l vs o) (hk : ∀ (b : Act) (w1 : World), InM l vs G a w o b w1 → ∀ K : Act → World → Prop, (∀ v w', Ext w1 w' → GdM vs G i v w' → K (b.put o.dst v) w') → o.wp P b w1 K Q) : StepM P Q l vs G a w i o := fun b w1 h K hK => h.want hw (hk b w1 h K hK)
end
end Go.Proofs.YtlinhgannajfpaaGreatDoor

/- sanity. -/
namespace Go.Proofs.YtlinhgannajfpaaGreatDoor
open Go Go.RowKit

theorem rows_len17 (l : List Ed) : ∀ x, x ∈ rowsE l → x.length = 17 := fun x hx => (rowsE_rwk l).len x hx
theorem op_buildRows {P : Program} {o : Oper} {b : Act} {w1 : World} {K : Act → World → Prop} {Q : Exit → Act → World → Prop} (t e : TypeId) (n : Nat) (parts : Array (Nat × Operand)) (ho : o.op = .buildSlice t n parts)
    (k : Nat) (hk : 0 < k) (xs : List (List Value)) (hx : ∀ x, x ∈ xs → x.length = k) (hl : xs.length = n) (hn : 0 < n) (hnk : n * k ≤ 2 ^ 24)
    (hs : (parts.map fun (i, x) => (i, b.eval x)).toList = ((xs.map fun x => Value.agg x.toArray).zipIdx 0).map fun x => (x.2, x.1))
    (hu : P.underlying t = some (.slice e)) (hi : (P.info? e).map (·.size) = some k) (hz : ((P.info? e).bind (·.zero)).isSome = true)
    (h : K (b.put o.dst (.slice (some ⟨w1.heap.size, 0, none⟩) n n)) (w1.alloc (.cells xs.flatten.toArray e))) : o.wp P b w1 K Q := by
 cases hie : P.info? e with
 | none => simp [hie] at hi
 | some ie =>
   have hsz : ie.size = k := by simpa [hie] using hi
   obtain ⟨z, hzz⟩ := Option.isSome_iff_exists.1 (by simpa [hie] using hz : (ie.zero).isSome = true)
   have hpos := Nat.mul_pos hn hk
   refine wp_buildSlice t e n parts ho _ ie z hu hie hzz (by rw [hsz]; omega) (by rw [hsz]; omega) ?_ h
   rw [hs, hsz]
   have hf := Great.fill_whole (s := k) hk (xs.map fun x => Value.agg x.toArray) ((Array.range (n * k)).map (z.cells[· % z.cells.size]!)) (fun v hv => by
    obtain ⟨x, hm, rfl⟩ := List.mem_map.1 hv
    simpa [Value.cells] using hx x hm) (by simp [hl])
   rw [hf]
   congr 1
   rw [List.flatMap_def, List.map_map]
   congr 2
   simp [Function.comp_def, Value.cells]
theorem svB_18 (w : World) : Sv (w.alloc (.cells #[.int .u8 34, .int .u8 6, .int .u8 10, .int .u8 2, .int .u8 4, .int .u8 4, .int .u8 0, .int .u8 0, .int .u8 0, .int .u8 0, .int .u8 0, .int .u8 0, .int .u8 8, .int .u8 8, .int .u8 8, .int .u8 0, .int .u8 2, .int .u8 6] 5)) (w.alloc (.cells #[.int .u8 34, .int .u8 6, .int .u8 10, .int .u8 2, .int .u8 4, .int .u8 4, .int .u8 0, .int .u8 0, .int .u8 0, .int .u8 0, .int .u8 0, .int .u8 0, .int .u8 8, .int .u8 8, .int .u8 8, .int .u8 0, .int .u8 2, .int .u8 6] 5)).heap.size 1 (some ⟨w.heap.size, 0, none⟩) 18 (rowsB bal18) := by
 have h1 := Sv.lit w 5 1 (rowsB bal18) (rowsB_rwk _) (by rw [rowsB_length]; unfold maxLen; decide)
 exact h1
theorem svE_lit (w : World) (l : List Ed) (h : l.length ≤ 1000) : Sv (w.alloc (.cells (rowsE l).flatten.toArray 29)) (w.alloc (.cells (rowsE l).flatten.toArray 29)).heap.size 17 (some ⟨w.heap.size, 0, none⟩) l.length (rowsE l) := by
 have h1 := Sv.lit w 29 17 (rowsE l) (rowsE_rwk _) (by rw [rowsE_length]; unfold maxLen; omega)
 rwa [rowsE_length] at h1
theorem k_enc (W : World) : Calls Tryz.prog 25 #[.agg #[.int .i64 ballEd.st.tick, .int .i64 ballEd.st.clock, .int .i64 ballEd.st.site, .int .i64 ballEd.st.seq, .int .i64 ballEd.kind, .int .i64 ballEd.box.lo.x, .int .i64 ballEd.box.lo.y, .int .i64 ballEd.box.lo.z, .int .i64 ballEd.box.hi.x, .int .i64 ballEd.box.hi.y, .int .i64 ballEd.box.hi.z, .int .i64 ballEd.at_.x, .int .i64 ballEd.at_.y, .int .i64 ballEd.at_.z, .int .i64 ballEd.turn, .int .i64 ballEd.cell, .int .i64 ballEd.size]] W fun e w' => ∃ b c, e = .returned (.slice (some ⟨b, 0, none⟩) 18 c) ∧ 18 ≤ c ∧ Sv w' w'.heap.size 1 (some ⟨b, 0, none⟩) c (rowsB bal18) ∧ Ext W w' := by
 refine (EncEd_any ballEd fit_bal W).mono ?_
 rintro e w' ⟨A, c, rfl, ho, hx⟩
 rw [enc_bal] at ho
 have hs := own_sv_B ho rfl
 rcases ho.2 with ⟨h0, _⟩ | ⟨g, cap, cur, e1, _⟩
 · injection h0 with _ h0
   cases h0
 · injection e1 with e1
   subst e1
   exact ⟨g, c, by rw [enc_bal]; rfl, by have := hs.le; rw [rowsB_length] at this; exact this, hs, hx⟩
theorem k_renc (W : World) : Calls Tryz.prog 26 #[.agg #[.int .i64 (undoEd 1 1).st.tick, .int .i64 (undoEd 1 1).st.clock, .int .i64 (undoEd 1 1).st.site, .int .i64 (undoEd 1 1).st.seq, .int .i64 (undoEd 1 1).kind, .int .i64 (undoEd 1 1).box.lo.x, .int .i64 (undoEd 1 1).box.lo.y, .int .i64 (undoEd 1 1).box.lo.z, .int .i64 (undoEd 1 1).box.hi.x, .int .i64 (undoEd 1 1).box.hi.y, .int .i64 (undoEd 1 1).box.hi.z, .int .i64 (undoEd 1 1).at_.x, .int .i64 (undoEd 1 1).at_.y, .int .i64 (undoEd 1 1).at_.z, .int .i64 (undoEd 1 1).turn, .int .i64 (undoEd 1 1).cell, .int .i64 (undoEd 1 1).size]] W fun e w' => ∃ A c, e = .returned (.slice A und18.length c) ∧ Sv w' w'.heap.size 1 A c (rowsB und18) ∧ Ext W w' := by
 refine (refEnc_any (undoEd 1 1) fit_und W).mono ?_
 rintro e w' ⟨A, c, rfl, ho, hx⟩
 exact ⟨A, c, rfl, own_sv_B ho rfl, hx⟩
theorem k_dec (b : List UInt8) (n : Nat) (hn : b.length = n) (x : Ed) (r : Int) (hd : decE b = (x, r)) (hl : b.length ≤ 1000000) (A : Option Addr) (c : Nat) (W : World) (hs : Sv W W.heap.size 1 A c (rowsB b)) (hR : EnvI W) :
    Calls Tryz.prog 29 #[.slice A n c] W fun e w' => e = .returned (.tuple #[.agg #[.int .i64 x.st.tick, .int .i64 x.st.clock, .int .i64 x.st.site, .int .i64 x.st.seq, .int .i64 x.kind, .int .i64 x.box.lo.x, .int .i64 x.box.lo.y, .int .i64 x.box.lo.z, .int .i64 x.box.hi.x, .int .i64 x.box.hi.y, .int .i64 x.box.hi.z, .int .i64 x.at_.x, .int .i64 x.at_.y, .int .i64 x.at_.z, .int .i64 x.turn, .int .i64 x.cell, .int .i64 x.size], .int .i64 r]) ∧ Ext W w' := by
 subst hn
 have h := EdDecode_any b hl A c W hs hR.R
 rw [hd] at h
 exact h
theorem k_chk (x : Ed) (d m r : Int) (h : checkE x d m = r) (W : World) (hR : EnvI W) : Calls Tryz.prog 11 #[.agg #[.int .i64 x.st.tick, .int .i64 x.st.clock, .int .i64 x.st.site, .int .i64 x.st.seq, .int .i64 x.kind, .int .i64 x.box.lo.x, .int .i64 x.box.lo.y, .int .i64 x.box.lo.z, .int .i64 x.box.hi.x, .int .i64 x.box.hi.y, .int .i64 x.box.hi.z, .int .i64 x.at_.x, .int .i64 x.at_.y, .int .i64 x.at_.z, .int .i64 x.turn, .int .i64 x.cell, .int .i64 x.size], .int .i64 d, .int .i64 m] W fun e w' => e = .returned (.int .i64 r) ∧ Ext W w' := by
 rw [← h]; exact Check_any x d m W hR.R
theorem k_bnd (W : World) : Calls Tryz.prog 15 #[.agg #[.int .i64 ballEd.st.tick, .int .i64 ballEd.st.clock, .int .i64 ballEd.st.site, .int .i64 ballEd.st.seq, .int .i64 ballEd.kind, .int .i64 ballEd.box.lo.x, .int .i64 ballEd.box.lo.y, .int .i64 ballEd.box.lo.z, .int .i64 ballEd.box.hi.x, .int .i64 ballEd.box.hi.y, .int .i64 ballEd.box.hi.z, .int .i64 ballEd.at_.x, .int .i64 ballEd.at_.y, .int .i64 ballEd.at_.z, .int .i64 ballEd.turn, .int .i64 ballEd.cell, .int .i64 ballEd.size], .int .i64 3] W fun e w' => e = .returned (.agg #[.int .i64 3, .int .i64 3, .int .i64 3, .int .i64 6, .int .i64 6, .int .i64 6]) ∧ Ext W w' := by
 have h := Bounds_ball ballEd rfl 3 (by decide) W
 rw [bnd_1] at h
 exact h
theorem k_same (A A2 : Option Addr) (c c2 : Nat) (W : World) (hs : Sv W W.heap.size 1 A c (rowsB bal18)) (hs2 : Sv W W.heap.size 1 A2 c2 (rowsB bal18)) : Calls Tryz.prog 24 #[.slice A 18 c, .slice A2 18 c2] W fun e w' => e = .returned (.bool true) ∧ Ext W w' := by
 have h := refSameB_any bal18 bal18 A A2 c c2 W hs hs2
 rw [beq_self_eq_true] at h
 exact h
theorem k_frm (x : Ed) (r : Bool) (h : formedE x = r) (W : World) (hR : EnvI W) : Calls Tryz.prog 13 #[.agg #[.int .i64 x.st.tick, .int .i64 x.st.clock, .int .i64 x.st.site, .int .i64 x.st.seq, .int .i64 x.kind, .int .i64 x.box.lo.x, .int .i64 x.box.lo.y, .int .i64 x.box.lo.z, .int .i64 x.box.hi.x, .int .i64 x.box.hi.y, .int .i64 x.box.hi.z, .int .i64 x.at_.x, .int .i64 x.at_.y, .int .i64 x.at_.z, .int .i64 x.turn, .int .i64 x.cell, .int .i64 x.size]] W fun e w' => e = .returned (.bool r) ∧ Ext W w' := by
 rw [← h]; exact Formed_any x W hR.R
theorem k_name (W : World) (hR : EnvI W) : Calls Tryz.prog 17 #[.int .i64 5] W fun e w' => e = .returned (strV [102, 105, 108, 108]) ∧ Ext W w' := by
 have h := Name_any 5 W hR.N
 rw [knd_1] at h
 exact h
theorem k_cmp (W : World) : Calls Tryz.prog 19 #[.agg #[.int .i64 ballEd.st.tick, .int .i64 ballEd.st.clock, .int .i64 ballEd.st.site, .int .i64 ballEd.st.seq, .int .i64 ballEd.kind, .int .i64 ballEd.box.lo.x, .int .i64 ballEd.box.lo.y, .int .i64 ballEd.box.lo.z, .int .i64 ballEd.box.hi.x, .int .i64 ballEd.box.hi.y, .int .i64 ballEd.box.hi.z, .int .i64 ballEd.at_.x, .int .i64 ballEd.at_.y, .int .i64 ballEd.at_.z, .int .i64 ballEd.turn, .int .i64 ballEd.cell, .int .i64 ballEd.size], .agg #[.int .i64 (undoEd 1 0).st.tick, .int .i64 (undoEd 1 0).st.clock, .int .i64 (undoEd 1 0).st.site, .int .i64 (undoEd 1 0).st.seq, .int .i64 (undoEd 1 0).kind, .int .i64 (undoEd 1 0).box.lo.x, .int .i64 (undoEd 1 0).box.lo.y, .int .i64 (undoEd 1 0).box.lo.z, .int .i64 (undoEd 1 0).box.hi.x, .int .i64 (undoEd 1 0).box.hi.y, .int .i64 (undoEd 1 0).box.hi.z, .int .i64 (undoEd 1 0).at_.x, .int .i64 (undoEd 1 0).at_.y, .int .i64 (undoEd 1 0).at_.z, .int .i64 (undoEd 1 0).turn, .int .i64 (undoEd 1 0).cell, .int .i64 (undoEd 1 0).size]] W fun e w' => e = .returned (.int .i64 (-1)) ∧ Ext W w' := by
 have h := CompareEd_any ballEd (undoEd 1 0) W
 rw [cmp_1] at h
 exact h.mono fun e w' ⟨h1, h2⟩ => ⟨h1, h2.ext⟩
theorem k_sort (A : Option Addr) (c : Nat) (W : World) (hs : Sv W W.heap.size 17 A c (rowsE [ballEd, ballEd])) : Calls Tryz.prog 22 #[.slice A 2 c] W fun e w' => ∃ v, e = .returned v ∧ Ext W w' ∧ ∃ A7 c7, v = .slice A7 1 c7 := by
 refine (SortedEd_any A c [ballEd, ballEd] W hs (by decide)).mono ?_
 rintro e w' ⟨m, v, hm, rfl, ho, hx⟩
 obtain ⟨A', c', rfl, _⟩ := own_form ho
 exact ⟨_, rfl, hx, A', c', by rw [srt_1 hm]⟩
set_option maxRecDepth 100000 in
set_option maxHeartbeats 16000000 in
theorem sanity_any (w : World) (hR : EnvI w) :
    Calls Tryz.prog 10 #[] w fun e w' => e = .returned (.bool true) ∧ Ext w w' := by
 have hm := mixed
 have HR := Lib.hid hR
 clear hR
 go_enter Tryz.func10, Tryz.ntmps10
 have HXl := Lib.hid (Ext.refl w)
 go_upto_region 2 with (first
     | (go_at_call 42; refine (ball_any _).mono ?_; rintro e W1 ⟨rfl, xx⟩; have HXl := Lib.hid (HXl.out.trans xx); clear xx)
     | (refine wpList_store_blk2 29 (.tmp 1) (.tmp 13) rfl rfl (Arr.new W1 29 [.int .i64 0, .int .i64 0, .int .i64 0, .int .i64 0, .int .i64 0, .int .i64 0, .int .i64 0, .int .i64 0, .int .i64 0, .int .i64 0, .int .i64 0, .int .i64 0, .int .i64 0, .int .i64 0, .int .i64 0, .int .i64 0, .int .i64 0]) [.int .i64 ballEd.st.tick, .int .i64 ballEd.st.clock, .int .i64 ballEd.st.site, .int .i64 ballEd.st.seq, .int .i64 ballEd.kind, .int .i64 ballEd.box.lo.x, .int .i64 ballEd.box.lo.y, .int .i64 ballEd.box.lo.z, .int .i64 ballEd.box.hi.x, .int .i64 ballEd.box.hi.y, .int .i64 ballEd.box.hi.z, .int .i64 ballEd.at_.x, .int .i64 ballEd.at_.y, .int .i64 ballEd.at_.z, .int .i64 ballEd.turn, .int .i64 ballEd.cell, .int .i64 ballEd.size] rfl rfl (by kernel_rfl) rfl rfl rfl ?_; intro W2 hW; have HX2 := Lib.hid (show Ext w W2 by rw [hW]; exact (HXl.out.alloc _).setRow (g := W1.heap.size) HXl.out.size _); have HB1 := Lib.hid (show Arr W2 W1.heap.size 29 [.int .i64 ballEd.st.tick, .int .i64 ballEd.st.clock, .int .i64 ballEd.st.site, .int .i64 ballEd.st.seq, .int .i64 ballEd.kind, .int .i64 ballEd.box.lo.x, .int .i64 ballEd.box.lo.y, .int .i64 ballEd.box.lo.z, .int .i64 ballEd.box.hi.x, .int .i64 ballEd.box.hi.y, .int .i64 ballEd.box.hi.z, .int .i64 ballEd.at_.x, .int .i64 ballEd.at_.y, .int .i64 ballEd.at_.z, .int .i64 ballEd.turn, .int .i64 ballEd.cell, .int .i64 ballEd.size] by rw [hW]; exact (Arr.new W1 29 [.int .i64 0, .int .i64 0, .int .i64 0, .int .i64 0, .int .i64 0, .int .i64 0, .int .i64 0, .int .i64 0, .int .i64 0, .int .i64 0, .int .i64 0, .int .i64 0, .int .i64 0, .int .i64 0, .int .i64 0, .int .i64 0, .int .i64 0]).setRow [.int .i64 ballEd.st.tick, .int .i64 ballEd.st.clock, .int .i64 ballEd.st.site, .int .i64 ballEd.st.seq, .int .i64 ballEd.kind, .int .i64 ballEd.box.lo.x, .int .i64 ballEd.box.lo.y, .int .i64 ballEd.box.lo.z, .int .i64 ballEd.box.hi.x, .int .i64 ballEd.box.hi.y, .int .i64 ballEd.box.hi.z, .int .i64 ballEd.at_.x, .int .i64 ballEd.at_.y, .int .i64 ballEd.at_.z, .int .i64 ballEd.turn, .int .i64 ballEd.cell, .int .i64 ballEd.size]); clear hW HXl))
 obtain ⟨b1, hb1⟩ : ∃ b, b = W1.heap.size := ⟨_, rfl⟩
 rw [← hb1] at HB1
 rw [← hb1]
 clear hb1
 have HXl := Lib.hid HX2.out
 go_upto_region 3 with (first
     | (refine ldB 29 1 HB1.out Tryz.underlying29 ?_) | (refine ldB 29 1 (HB1.out.alloc _) Tryz.underlying29 ?_) | (refine ldB 29 1 ((HB1.out.alloc _).alloc _) Tryz.underlying29 ?_)
     | (go_at_call 25; refine (k_enc _).mono ?_; rintro e W3 ⟨b2, c2, rfl, hc2, hs2, xx⟩; have HB1 := Lib.hid (HB1.out.ext xx); have HS2 := Lib.hid hs2; have HXl := Lib.hid (HXl.out.trans xx); clear xx hs2))
 go_upto_region 4 with (first
     | (go_at_call 29; refine (k_dec bal18 18 rfl ballEd 0 dec_bal (by decide +kernel) _ _ _ HS2.out (HR.out.ext HXl.out)).mono ?_; rintro e Wd ⟨rfl, xx⟩; have HXl := Lib.hid (HXl.out.trans xx); have HB1 := Lib.hid (HB1.out.ext xx); have HS2 := Lib.hid (HS2.out.ext xx); clear xx)
     | (refine wpList_store_blk2 29 (.tmp 3) (.tmp 19) rfl rfl (Arr.new Wd 29 [.int .i64 0, .int .i64 0, .int .i64 0, .int .i64 0, .int .i64 0, .int .i64 0, .int .i64 0, .int .i64 0, .int .i64 0, .int .i64 0, .int .i64 0, .int .i64 0, .int .i64 0, .int .i64 0, .int .i64 0, .int .i64 0, .int .i64 0]) [.int .i64 ballEd.st.tick, .int .i64 ballEd.st.clock, .int .i64 ballEd.st.site, .int .i64 ballEd.st.seq, .int .i64 ballEd.kind, .int .i64 ballEd.box.lo.x, .int .i64 ballEd.box.lo.y, .int .i64 ballEd.box.lo.z, .int .i64 ballEd.box.hi.x, .int .i64 ballEd.box.hi.y, .int .i64 ballEd.box.hi.z, .int .i64 ballEd.at_.x, .int .i64 ballEd.at_.y, .int .i64 ballEd.at_.z, .int .i64 ballEd.turn, .int .i64 ballEd.cell, .int .i64 ballEd.size] rfl rfl (by kernel_rfl) rfl rfl rfl ?_; intro W4 hW; have HX4 := Lib.hid (show Ext w W4 by rw [hW]; exact (HXl.out.alloc _).setRow (g := Wd.heap.size) HXl.out.size _); have HB1 := Lib.hid (show Arr W4 b1 29 [.int .i64 ballEd.st.tick, .int .i64 ballEd.st.clock, .int .i64 ballEd.st.site, .int .i64 ballEd.st.seq, .int .i64 ballEd.kind, .int .i64 ballEd.box.lo.x, .int .i64 ballEd.box.lo.y, .int .i64 ballEd.box.lo.z, .int .i64 ballEd.box.hi.x, .int .i64 ballEd.box.hi.y, .int .i64 ballEd.box.hi.z, .int .i64 ballEd.at_.x, .int .i64 ballEd.at_.y, .int .i64 ballEd.at_.z, .int .i64 ballEd.turn, .int .i64 ballEd.cell, .int .i64 ballEd.size] by rw [hW]; exact (HB1.out.alloc _).setRow_other (by have := HB1.out.lt; omega) _); have HS2 := Lib.hid (show Sv W4 W4.heap.size 1 (some ⟨b2, 0, none⟩) c2 (rowsB bal18) from HS2.out.ext (by rw [hW]; exact ((Ext.refl Wd).alloc _).setRow (g := Wd.heap.size) (Nat.le_refl _) _)); have HB3 := Lib.hid (show Arr W4 Wd.heap.size 29 [.int .i64 ballEd.st.tick, .int .i64 ballEd.st.clock, .int .i64 ballEd.st.site, .int .i64 ballEd.st.seq, .int .i64 ballEd.kind, .int .i64 ballEd.box.lo.x, .int .i64 ballEd.box.lo.y, .int .i64 ballEd.box.lo.z, .int .i64 ballEd.box.hi.x, .int .i64 ballEd.box.hi.y, .int .i64 ballEd.box.hi.z, .int .i64 ballEd.at_.x, .int .i64 ballEd.at_.y, .int .i64 ballEd.at_.z, .int .i64 ballEd.turn, .int .i64 ballEd.cell, .int .i64 ballEd.size] by rw [hW]; exact (Arr.new Wd 29 [.int .i64 0, .int .i64 0, .int .i64 0, .int .i64 0, .int .i64 0, .int .i64 0, .int .i64 0, .int .i64 0, .int .i64 0, .int .i64 0, .int .i64 0, .int .i64 0, .int .i64 0, .int .i64 0, .int .i64 0, .int .i64 0, .int .i64 0]).setRow [.int .i64 ballEd.st.tick, .int .i64 ballEd.st.clock, .int .i64 ballEd.st.site, .int .i64 ballEd.st.seq, .int .i64 ballEd.kind, .int .i64 ballEd.box.lo.x, .int .i64 ballEd.box.lo.y, .int .i64 ballEd.box.lo.z, .int .i64 ballEd.box.hi.x, .int .i64 ballEd.box.hi.y, .int .i64 ballEd.box.hi.z, .int .i64 ballEd.at_.x, .int .i64 ballEd.at_.y, .int .i64 ballEd.at_.z, .int .i64 ballEd.turn, .int .i64 ballEd.cell, .int .i64 ballEd.size]); clear hW HXl))
 obtain ⟨b3, hb3⟩ : ∃ b, b = Wd.heap.size := ⟨_, rfl⟩
 rw [← hb3] at HB3
 rw [← hb3]
 clear hb3
 have HXl := Lib.hid HX4.out
 go_upto_region 5 with (first
     | (go_at_call 29; refine (k_dec [] 0 rfl zeroE 5 dec_nil (by decide +kernel) _ _ _ (Sv.nil _ _ _) (HR.out.ext HXl.out)).mono ?_; rintro e Wd ⟨rfl, xx⟩; have HXl := Lib.hid (HXl.out.trans xx); have HB1 := Lib.hid (HB1.out.ext xx); have HS2 := Lib.hid (HS2.out.ext xx); have HB3 := Lib.hid (HB3.out.ext xx); clear xx)
     | (refine wpList_store_blk2 29 (.tmp 5) (.tmp 23) rfl rfl (Arr.new Wd 29 [.int .i64 0, .int .i64 0, .int .i64 0, .int .i64 0, .int .i64 0, .int .i64 0, .int .i64 0, .int .i64 0, .int .i64 0, .int .i64 0, .int .i64 0, .int .i64 0, .int .i64 0, .int .i64 0, .int .i64 0, .int .i64 0, .int .i64 0]) [.int .i64 zeroE.st.tick, .int .i64 zeroE.st.clock, .int .i64 zeroE.st.site, .int .i64 zeroE.st.seq, .int .i64 zeroE.kind, .int .i64 zeroE.box.lo.x, .int .i64 zeroE.box.lo.y, .int .i64 zeroE.box.lo.z, .int .i64 zeroE.box.hi.x, .int .i64 zeroE.box.hi.y, .int .i64 zeroE.box.hi.z, .int .i64 zeroE.at_.x, .int .i64 zeroE.at_.y, .int .i64 zeroE.at_.z, .int .i64 zeroE.turn, .int .i64 zeroE.cell, .int .i64 zeroE.size] rfl rfl (by kernel_rfl) rfl rfl rfl ?_; intro W5 hW; have HX5 := Lib.hid (show Ext w W5 by rw [hW]; exact (HXl.out.alloc _).setRow (g := Wd.heap.size) HXl.out.size _); have HB1 := Lib.hid (show Arr W5 b1 29 [.int .i64 ballEd.st.tick, .int .i64 ballEd.st.clock, .int .i64 ballEd.st.site, .int .i64 ballEd.st.seq, .int .i64 ballEd.kind, .int .i64 ballEd.box.lo.x, .int .i64 ballEd.box.lo.y, .int .i64 ballEd.box.lo.z, .int .i64 ballEd.box.hi.x, .int .i64 ballEd.box.hi.y, .int .i64 ballEd.box.hi.z, .int .i64 ballEd.at_.x, .int .i64 ballEd.at_.y, .int .i64 ballEd.at_.z, .int .i64 ballEd.turn, .int .i64 ballEd.cell, .int .i64 ballEd.size] by rw [hW]; exact (HB1.out.alloc _).setRow_other (by have := HB1.out.lt; omega) _); have HS2 := Lib.hid (show Sv W5 W5.heap.size 1 (some ⟨b2, 0, none⟩) c2 (rowsB bal18) from HS2.out.ext (by rw [hW]; exact ((Ext.refl Wd).alloc _).setRow (g := Wd.heap.size) (Nat.le_refl _) _)); have HB3 := Lib.hid (show Arr W5 b3 29 [.int .i64 ballEd.st.tick, .int .i64 ballEd.st.clock, .int .i64 ballEd.st.site, .int .i64 ballEd.st.seq, .int .i64 ballEd.kind, .int .i64 ballEd.box.lo.x, .int .i64 ballEd.box.lo.y, .int .i64 ballEd.box.lo.z, .int .i64 ballEd.box.hi.x, .int .i64 ballEd.box.hi.y, .int .i64 ballEd.box.hi.z, .int .i64 ballEd.at_.x, .int .i64 ballEd.at_.y, .int .i64 ballEd.at_.z, .int .i64 ballEd.turn, .int .i64 ballEd.cell, .int .i64 ballEd.size] by rw [hW]; exact (HB3.out.alloc _).setRow_other (by have := HB3.out.lt; omega) _); clear hW HXl))
 obtain ⟨bz4, hbz⟩ : ∃ b, b = Wd.heap.size := ⟨_, rfl⟩
 rw [← hbz]
 clear hbz
 have HXl := Lib.hid HX5.out
 go_upto_region 6 with (first
     | (at_builtin; refine wpList_append_full_B rfl (.tmp 31) (.tmp 32) rfl b2 0 18 bal18 rfl rfl (by obtain ⟨b', o', e', _, h'⟩ := (HS2.out.ext ((Ext.refl W5).alloc (.cells #[.int .u8 0] 5))).mem (by decide); injection e' with e'; injection e' with e1 e2; subst e1 e2; exact h') ⟨W5.heap.size, 0, none⟩ 1 1 [0] rfl rfl (svB_one W5 0) (by decide) (by decide) ?_; intro A5 c5 Wa hs5 xx; have HS5 := Lib.hid hs5; have HXl := Lib.hid ((HXl.out.alloc _).trans xx); have HB1 := Lib.hid ((HB1.out.alloc _).ext xx); have HB3 := Lib.hid ((HB3.out.alloc _).ext xx); have HS2 := Lib.hid ((HS2.out.ext ((Ext.refl W5).alloc _)).ext xx); clear hs5 xx)
     | (go_at_call 29; refine (k_dec (bal18 ++ [0]) 19 rfl zeroE 6 dec_more (by decide +kernel) _ _ _ HS5.out (HR.out.ext HXl.out)).mono ?_; rintro e Wd ⟨rfl, xx⟩; have HXl := Lib.hid (HXl.out.trans xx); have HB1 := Lib.hid (HB1.out.ext xx); have HS2 := Lib.hid (HS2.out.ext xx); have HB3 := Lib.hid (HB3.out.ext xx); clear xx)
     | (refine wpList_store_blk2 29 (.tmp 7) (.tmp 35) rfl rfl (Arr.new Wd 29 [.int .i64 0, .int .i64 0, .int .i64 0, .int .i64 0, .int .i64 0, .int .i64 0, .int .i64 0, .int .i64 0, .int .i64 0, .int .i64 0, .int .i64 0, .int .i64 0, .int .i64 0, .int .i64 0, .int .i64 0, .int .i64 0, .int .i64 0]) [.int .i64 zeroE.st.tick, .int .i64 zeroE.st.clock, .int .i64 zeroE.st.site, .int .i64 zeroE.st.seq, .int .i64 zeroE.kind, .int .i64 zeroE.box.lo.x, .int .i64 zeroE.box.lo.y, .int .i64 zeroE.box.lo.z, .int .i64 zeroE.box.hi.x, .int .i64 zeroE.box.hi.y, .int .i64 zeroE.box.hi.z, .int .i64 zeroE.at_.x, .int .i64 zeroE.at_.y, .int .i64 zeroE.at_.z, .int .i64 zeroE.turn, .int .i64 zeroE.cell, .int .i64 zeroE.size] rfl rfl (by kernel_rfl) rfl rfl rfl ?_; intro W6 hW; have HX6 := Lib.hid (show Ext w W6 by rw [hW]; exact (HXl.out.alloc _).setRow (g := Wd.heap.size) HXl.out.size _); have HB1 := Lib.hid (show Arr W6 b1 29 [.int .i64 ballEd.st.tick, .int .i64 ballEd.st.clock, .int .i64 ballEd.st.site, .int .i64 ballEd.st.seq, .int .i64 ballEd.kind, .int .i64 ballEd.box.lo.x, .int .i64 ballEd.box.lo.y, .int .i64 ballEd.box.lo.z, .int .i64 ballEd.box.hi.x, .int .i64 ballEd.box.hi.y, .int .i64 ballEd.box.hi.z, .int .i64 ballEd.at_.x, .int .i64 ballEd.at_.y, .int .i64 ballEd.at_.z, .int .i64 ballEd.turn, .int .i64 ballEd.cell, .int .i64 ballEd.size] by rw [hW]; exact (HB1.out.alloc _).setRow_other (by have := HB1.out.lt; omega) _); have HS2 := Lib.hid (show Sv W6 W6.heap.size 1 (some ⟨b2, 0, none⟩) c2 (rowsB bal18) from HS2.out.ext (by rw [hW]; exact ((Ext.refl Wd).alloc _).setRow (g := Wd.heap.size) (Nat.le_refl _) _)); have HB3 := Lib.hid (show Arr W6 b3 29 [.int .i64 ballEd.st.tick, .int .i64 ballEd.st.clock, .int .i64 ballEd.st.site, .int .i64 ballEd.st.seq, .int .i64 ballEd.kind, .int .i64 ballEd.box.lo.x, .int .i64 ballEd.box.lo.y, .int .i64 ballEd.box.lo.z, .int .i64 ballEd.box.hi.x, .int .i64 ballEd.box.hi.y, .int .i64 ballEd.box.hi.z, .int .i64 ballEd.at_.x, .int .i64 ballEd.at_.y, .int .i64 ballEd.at_.z, .int .i64 ballEd.turn, .int .i64 ballEd.cell, .int .i64 ballEd.size] by rw [hW]; exact (HB3.out.alloc _).setRow_other (by have := HB3.out.lt; omega) _); clear hW HXl))
 obtain ⟨bz5, hbz⟩ : ∃ b, b = Wd.heap.size := ⟨_, rfl⟩
 rw [← hbz]
 clear hbz
 have HXl := Lib.hid HX6.out
 go_upto_region 7 with (first
     | (go_at_call 43; refine (undo_any _ _ _).mono ?_; rintro e Wu ⟨rfl, xx⟩; have HB1 := Lib.hid (HB1.out.ext xx); have HB3 := Lib.hid (HB3.out.ext xx); have HS2 := Lib.hid (HS2.out.ext xx); have HXl := Lib.hid (HXl.out.trans xx); clear xx)
     | (go_at_call 26; refine (k_renc _).mono ?_; rintro e We ⟨A6, c6, rfl, hs6, xx⟩; have HB1 := Lib.hid (HB1.out.ext xx); have HB3 := Lib.hid (HB3.out.ext xx); have HS2 := Lib.hid (HS2.out.ext xx); have HXl := Lib.hid (HXl.out.trans xx); have HS6 := Lib.hid hs6; clear xx hs6)
     | (go_at_call 29; refine (k_dec und18 und18.length rfl zeroE 1 dec_und (by decide +kernel) _ _ _ HS6.out (HR.out.ext HXl.out)).mono ?_; rintro e Wd ⟨rfl, xx⟩; have HXl := Lib.hid (HXl.out.trans xx); have HB1 := Lib.hid (HB1.out.ext xx); have HS2 := Lib.hid (HS2.out.ext xx); have HB3 := Lib.hid (HB3.out.ext xx); clear xx)
     | (refine wpList_store_blk2 29 (.tmp 9) (.tmp 41) rfl rfl (Arr.new Wd 29 [.int .i64 0, .int .i64 0, .int .i64 0, .int .i64 0, .int .i64 0, .int .i64 0, .int .i64 0, .int .i64 0, .int .i64 0, .int .i64 0, .int .i64 0, .int .i64 0, .int .i64 0, .int .i64 0, .int .i64 0, .int .i64 0, .int .i64 0]) [.int .i64 zeroE.st.tick, .int .i64 zeroE.st.clock, .int .i64 zeroE.st.site, .int .i64 zeroE.st.seq, .int .i64 zeroE.kind, .int .i64 zeroE.box.lo.x, .int .i64 zeroE.box.lo.y, .int .i64 zeroE.box.lo.z, .int .i64 zeroE.box.hi.x, .int .i64 zeroE.box.hi.y, .int .i64 zeroE.box.hi.z, .int .i64 zeroE.at_.x, .int .i64 zeroE.at_.y, .int .i64 zeroE.at_.z, .int .i64 zeroE.turn, .int .i64 zeroE.cell, .int .i64 zeroE.size] rfl rfl (by kernel_rfl) rfl rfl rfl ?_; intro W7 hW; have HX7 := Lib.hid (show Ext w W7 by rw [hW]; exact (HXl.out.alloc _).setRow (g := Wd.heap.size) HXl.out.size _); have HB1 := Lib.hid (show Arr W7 b1 29 [.int .i64 ballEd.st.tick, .int .i64 ballEd.st.clock, .int .i64 ballEd.st.site, .int .i64 ballEd.st.seq, .int .i64 ballEd.kind, .int .i64 ballEd.box.lo.x, .int .i64 ballEd.box.lo.y, .int .i64 ballEd.box.lo.z, .int .i64 ballEd.box.hi.x, .int .i64 ballEd.box.hi.y, .int .i64 ballEd.box.hi.z, .int .i64 ballEd.at_.x, .int .i64 ballEd.at_.y, .int .i64 ballEd.at_.z, .int .i64 ballEd.turn, .int .i64 ballEd.cell, .int .i64 ballEd.size] by rw [hW]; exact (HB1.out.alloc _).setRow_other (by have := HB1.out.lt; omega) _); have HS2 := Lib.hid (show Sv W7 W7.heap.size 1 (some ⟨b2, 0, none⟩) c2 (rowsB bal18) from HS2.out.ext (by rw [hW]; exact ((Ext.refl Wd).alloc _).setRow (g := Wd.heap.size) (Nat.le_refl _) _)); have HB3 := Lib.hid (show Arr W7 b3 29 [.int .i64 ballEd.st.tick, .int .i64 ballEd.st.clock, .int .i64 ballEd.st.site, .int .i64 ballEd.st.seq, .int .i64 ballEd.kind, .int .i64 ballEd.box.lo.x, .int .i64 ballEd.box.lo.y, .int .i64 ballEd.box.lo.z, .int .i64 ballEd.box.hi.x, .int .i64 ballEd.box.hi.y, .int .i64 ballEd.box.hi.z, .int .i64 ballEd.at_.x, .int .i64 ballEd.at_.y, .int .i64 ballEd.at_.z, .int .i64 ballEd.turn, .int .i64 ballEd.cell, .int .i64 ballEd.size] by rw [hW]; exact (HB3.out.alloc _).setRow_other (by have := HB3.out.lt; omega) _); clear hW HXl))
 obtain ⟨bz6, hbz⟩ : ∃ b, b = Wd.heap.size := ⟨_, rfl⟩
 rw [← hbz]
 clear hbz
 have HXl := Lib.hid HX7.out
 have KC1 := Lib.hid (fun (W : World) (hx : Ext w W) => k_chk ballEd 3 2 0 chk_1 W (HR.out.ext hx))
 have KC2 := Lib.hid (fun (W : World) (hx : Ext w W) => k_chk ballEd 2 2 1 chk_2 W (HR.out.ext hx))
 have KC3 := Lib.hid (fun (W : World) (hx : Ext w W) => k_chk ballEd 3 1 1 chk_3 W (HR.out.ext hx))
 have KC4 := Lib.hid (fun (W : World) (hx : Ext w W) => k_chk ballEd 15 2 13 chk_4 W (HR.out.ext hx))
 have KC5 := Lib.hid (fun (W : World) (hx : Ext w W) => k_chk (undoEd 1 0) 3 2 0 chk_5 W (HR.out.ext hx))
 have KC6 := Lib.hid (fun (W : World) (hx : Ext w W) => k_chk (undoEd 2 0) 3 2 1 chk_6 W (HR.out.ext hx))
 have KC7 := Lib.hid (fun (W : World) (hx : Ext w W) => k_chk (undoEd 1 1) 3 2 1 chk_7 W (HR.out.ext hx))
 have HXm := Lib.hid (Ext.refl W7)
 go_upto_region 8 with (first
     | (refine ldB 29 1 HB1.out Tryz.underlying29 ?_) | (refine ldB 29 1 (HB1.out.alloc _) Tryz.underlying29 ?_) | (refine ldB 29 1 ((HB1.out.alloc _).alloc _) Tryz.underlying29 ?_)
     | (go_at_call 43; refine (undo_any _ _ _).mono ?_; rintro e Wu ⟨rfl, xx⟩; have HB1 := Lib.hid (HB1.out.ext xx); have HXl := Lib.hid (HXl.out.trans xx); have HXm := Lib.hid (HXm.out.trans xx); clear xx)
     | (go_at_call 11; first | ((with_reducible refine (KC1.out _ HXl.out).mono ?_); rintro e W8 ⟨rfl, xx⟩; have HB1 := Lib.hid (HB1.out.ext xx); have HXl := Lib.hid (HXl.out.trans xx); have HXm := Lib.hid (HXm.out.trans xx); clear xx) | ((with_reducible refine (KC2.out _ HXl.out).mono ?_); rintro e W8 ⟨rfl, xx⟩; have HB1 := Lib.hid (HB1.out.ext xx); have HXl := Lib.hid (HXl.out.trans xx); have HXm := Lib.hid (HXm.out.trans xx); clear xx) | ((with_reducible refine (KC3.out _ HXl.out).mono ?_); rintro e W8 ⟨rfl, xx⟩; have HB1 := Lib.hid (HB1.out.ext xx); have HXl := Lib.hid (HXl.out.trans xx); have HXm := Lib.hid (HXm.out.trans xx); clear xx) | ((with_reducible refine (KC4.out _ HXl.out).mono ?_); rintro e W8 ⟨rfl, xx⟩; have HB1 := Lib.hid (HB1.out.ext xx); have HXl := Lib.hid (HXl.out.trans xx); have HXm := Lib.hid (HXm.out.trans xx); clear xx) | ((with_reducible refine (KC5.out _ HXl.out).mono ?_); rintro e W8 ⟨rfl, xx⟩; have HB1 := Lib.hid (HB1.out.ext xx); have HXl := Lib.hid (HXl.out.trans xx); have HXm := Lib.hid (HXm.out.trans xx); clear xx) | ((with_reducible refine (KC6.out _ HXl.out).mono ?_); rintro e W8 ⟨rfl, xx⟩; have HB1 := Lib.hid (HB1.out.ext xx); have HXl := Lib.hid (HXl.out.trans xx); have HXm := Lib.hid (HXm.out.trans xx); clear xx) | ((with_reducible refine (KC7.out _ HXl.out).mono ?_); rintro e W8 ⟨rfl, xx⟩; have HB1 := Lib.hid (HB1.out.ext xx); have HXl := Lib.hid (HXl.out.trans xx); have HXm := Lib.hid (HXm.out.trans xx); clear xx)))
 have HB3 := Lib.hid (HB3.out.ext HXm.out)
 have HS2 := Lib.hid (HS2.out.ext HXm.out)
 clear HXm KC1 KC2 KC3 KC4 KC5 KC6 KC7
 have hq := eqEd_run ballEd ballEd
 simp only [decide_true] at hq
 have hq : ∀ W : World, (binOp .eql 29 (.agg #[.int .i64 ballEd.st.tick, .int .i64 ballEd.st.clock, .int .i64 ballEd.st.site, .int .i64 ballEd.st.seq, .int .i64 ballEd.kind, .int .i64 ballEd.box.lo.x, .int .i64 ballEd.box.lo.y, .int .i64 ballEd.box.lo.z, .int .i64 ballEd.box.hi.x, .int .i64 ballEd.box.hi.y, .int .i64 ballEd.box.hi.z, .int .i64 ballEd.at_.x, .int .i64 ballEd.at_.y, .int .i64 ballEd.at_.z, .int .i64 ballEd.turn, .int .i64 ballEd.cell, .int .i64 ballEd.size]) (.agg #[.int .i64 ballEd.st.tick, .int .i64 ballEd.st.clock, .int .i64 ballEd.st.site, .int .i64 ballEd.st.seq, .int .i64 ballEd.kind, .int .i64 ballEd.box.lo.x, .int .i64 ballEd.box.lo.y, .int .i64 ballEd.box.lo.z, .int .i64 ballEd.box.hi.x, .int .i64 ballEd.box.hi.y, .int .i64 ballEd.box.hi.z, .int .i64 ballEd.at_.x, .int .i64 ballEd.at_.y, .int .i64 ballEd.at_.z, .int .i64 ballEd.turn, .int .i64 ballEd.cell, .int .i64 ballEd.size])).run Tryz.prog W = .ok (.bool true) W := hq
 go_upto_region 9 with (first
     | (refine ldB 29 1 HB1.out Tryz.underlying29 ?_) | (refine ldB 29 1 (HB1.out.alloc _) Tryz.underlying29 ?_) | (refine ldB 29 1 ((HB1.out.alloc _).alloc _) Tryz.underlying29 ?_)
     | (refine ldB 29 3 HB3.out Tryz.underlying29 ?_) | (refine ldB 29 3 (HB3.out.alloc _) Tryz.underlying29 ?_) | (refine ldB 29 3 ((HB3.out.alloc _).alloc _) Tryz.underlying29 ?_)
     | (refine ldB 29 1 (HB1.out.alloc _) Tryz.underlying29 ?_) | (refine ldB 29 1 ((HB1.out.alloc _).alloc _) Tryz.underlying29 ?_) | (refine ldB 29 1 (((HB1.out.alloc _).alloc _).alloc _) Tryz.underlying29 ?_)
     | (go_at_call 15; refine (k_bnd _).mono ?_; rintro e Wb ⟨rfl, xx⟩; have HB1 := Lib.hid (HB1.out.ext xx); have HB3 := Lib.hid (HB3.out.ext xx); have HS2 := Lib.hid (HS2.out.ext xx); have HXl := Lib.hid (HXl.out.trans xx); clear xx)
     | (go_at_call 24; refine (k_same _ _ _ _ _ (HS2.out.ext ((Ext.refl _).alloc _)) (svB_18 Wb)).mono ?_; rintro e W9 ⟨rfl, xx⟩; have HB1 := Lib.hid ((HB1.out.alloc _).ext xx); have HB3 := Lib.hid ((HB3.out.alloc _).ext xx); have HS2 := Lib.hid ((HS2.out.ext ((Ext.refl _).alloc _)).ext xx); have HXl := Lib.hid ((HXl.out.alloc _).trans xx); clear xx))
 clear hq
 have hdg := eqDg_run (digE ballEd) (by decide +kernel)
 refine wp_region_mix [some (.bool true), some (.bool true), some (.bool true), some (.bool true), some (.bool true), some (.agg #[.int .i64 ballEd.st.tick, .int .i64 ballEd.st.clock, .int .i64 ballEd.st.site, .int .i64 ballEd.st.seq, .int .i64 ballEd.kind, .int .i64 ballEd.box.lo.x, .int .i64 ballEd.box.lo.y, .int .i64 ballEd.box.lo.z, .int .i64 ballEd.box.hi.x, .int .i64 ballEd.box.hi.y, .int .i64 ballEd.box.hi.z, .int .i64 ballEd.at_.x, .int .i64 ballEd.at_.y, .int .i64 ballEd.at_.z, .int .i64 ballEd.turn, .int .i64 ballEd.cell, .int .i64 ballEd.size]), some (.bool true), some (.bool true), some (.bool true), some (.agg #[.int .i64 (undoEd 1 1).st.tick, .int .i64 (undoEd 1 1).st.clock, .int .i64 (undoEd 1 1).st.site, .int .i64 (undoEd 1 1).st.seq, .int .i64 (undoEd 1 1).kind, .int .i64 (undoEd 1 1).box.lo.x, .int .i64 (undoEd 1 1).box.lo.y, .int .i64 (undoEd 1 1).box.lo.z, .int .i64 (undoEd 1 1).box.hi.x, .int .i64 (undoEd 1 1).box.hi.y, .int .i64 (undoEd 1 1).box.hi.z, .int .i64 (undoEd 1 1).at_.x, .int .i64 (undoEd 1 1).at_.y, .int .i64 (undoEd 1 1).at_.z, .int .i64 (undoEd 1 1).turn, .int .i64 (undoEd 1 1).cell, .int .i64 (undoEd 1 1).size]), some (.bool false), some (.bool true), some (.bool true), some (.bool true), some (strV [102, 105, 108, 108]), some (.bool true), some (.bool true), some (.bool true), some (.agg #[.int .i64 ballEd.st.tick, .int .i64 ballEd.st.clock, .int .i64 ballEd.st.site, .int .i64 ballEd.st.seq, .int .i64 ballEd.kind, .int .i64 ballEd.box.lo.x, .int .i64 ballEd.box.lo.y, .int .i64 ballEd.box.lo.z, .int .i64 ballEd.box.hi.x, .int .i64 ballEd.box.hi.y, .int .i64 ballEd.box.hi.z, .int .i64 ballEd.at_.x, .int .i64 ballEd.at_.y, .int .i64 ballEd.at_.z, .int .i64 ballEd.turn, .int .i64 ballEd.cell, .int .i64 ballEd.size]), some (.agg #[.int .i64 (undoEd 1 0).st.tick, .int .i64 (undoEd 1 0).st.clock, .int .i64 (undoEd 1 0).st.site, .int .i64 (undoEd 1 0).st.seq, .int .i64 (undoEd 1 0).kind, .int .i64 (undoEd 1 0).box.lo.x, .int .i64 (undoEd 1 0).box.lo.y, .int .i64 (undoEd 1 0).box.lo.z, .int .i64 (undoEd 1 0).box.hi.x, .int .i64 (undoEd 1 0).box.hi.y, .int .i64 (undoEd 1 0).box.hi.z, .int .i64 (undoEd 1 0).at_.x, .int .i64 (undoEd 1 0).at_.y, .int .i64 (undoEd 1 0).at_.z, .int .i64 (undoEd 1 0).turn, .int .i64 (undoEd 1 0).cell, .int .i64 (undoEd 1 0).size]), some (.int .i64 (-1)), some (.bool true), some (.bool true), some (.bool true), some (.agg #[.int .i64 ballEd.st.tick, .int .i64 ballEd.st.clock, .int .i64 ballEd.st.site, .int .i64 ballEd.st.seq, .int .i64 ballEd.kind, .int .i64 ballEd.box.lo.x, .int .i64 ballEd.box.lo.y, .int .i64 ballEd.box.lo.z, .int .i64 ballEd.box.hi.x, .int .i64 ballEd.box.hi.y, .int .i64 ballEd.box.hi.z, .int .i64 ballEd.at_.x, .int .i64 ballEd.at_.y, .int .i64 ballEd.at_.z, .int .i64 ballEd.turn, .int .i64 ballEd.cell, .int .i64 ballEd.size]), some (.agg (bvs (digE ballEd)).toArray), some (.agg #[.int .i64 ballEd.st.tick, .int .i64 ballEd.st.clock, .int .i64 ballEd.st.site, .int .i64 ballEd.st.seq, .int .i64 ballEd.kind, .int .i64 ballEd.box.lo.x, .int .i64 ballEd.box.lo.y, .int .i64 ballEd.box.lo.z, .int .i64 ballEd.box.hi.x, .int .i64 ballEd.box.hi.y, .int .i64 ballEd.box.hi.z, .int .i64 ballEd.at_.x, .int .i64 ballEd.at_.y, .int .i64 ballEd.at_.z, .int .i64 ballEd.turn, .int .i64 ballEd.cell, .int .i64 ballEd.size]), some (.agg (bvs (digE ballEd)).toArray), some (.bool true), some (.bool true), some (.bool true), some (.agg #[.int .i64 ballEd.st.tick, .int .i64 ballEd.st.clock, .int .i64 ballEd.st.site, .int .i64 ballEd.st.seq, .int .i64 ballEd.kind, .int .i64 ballEd.box.lo.x, .int .i64 ballEd.box.lo.y, .int .i64 ballEd.box.lo.z, .int .i64 ballEd.box.hi.x, .int .i64 ballEd.box.hi.y, .int .i64 ballEd.box.hi.z, .int .i64 ballEd.at_.x, .int .i64 ballEd.at_.y, .int .i64 ballEd.at_.z, .int .i64 ballEd.turn, .int .i64 ballEd.cell, .int .i64 ballEd.size]), some (.agg #[.int .i64 ballEd.st.tick, .int .i64 ballEd.st.clock, .int .i64 ballEd.st.site, .int .i64 ballEd.st.seq, .int .i64 ballEd.kind, .int .i64 ballEd.box.lo.x, .int .i64 ballEd.box.lo.y, .int .i64 ballEd.box.lo.z, .int .i64 ballEd.box.hi.x, .int .i64 ballEd.box.hi.y, .int .i64 ballEd.box.hi.z, .int .i64 ballEd.at_.x, .int .i64 ballEd.at_.y, .int .i64 ballEd.at_.z, .int .i64 ballEd.turn, .int .i64 ballEd.cell, .int .i64 ballEd.size]), none, none, some (.int .i64 1), some (.bool true), some (.bool true), some (.bool true)] (fun i v w' => if i = 33 then (∃ bL, v = .slice (some ⟨bL, 0, none⟩) 2 2 ∧ Sv w' w'.heap.size 17 (some ⟨bL, 0, none⟩) 2 (rowsE [ballEd, ballEd])) else (if i = 34 then (∃ A7 c7, v = .slice A7 1 c7) else (True))) hm (by kernel_rfl) (by kernel_rfl) rfl ?_ ?_ ?_
 · exact g_if (fun v w1 w2 hx h => (fun ⟨bL, h1, h2⟩ => ⟨bL, h1, h2.ext hx⟩) h) (g_if (fun v w1 w2 hx h => (fun h => h) h) (g_true))
 · refine c_ s_mv ?_
   refine c_ s_mv ?_
   refine c_ s_mv ?_
   refine c_ (s_run2 109 110 (hr := fun b w1 _ e f => by unfold execOp; simp [e, f, Act.eval, go_sem])) ?_
   refine c_ s_mv ?_
   refine c_ (s_row HB1 Tryz.underlying29) ?_
   refine c_ (s_call fun w1 hx => k_frm ballEd true frm_1 w1 (HR.out.ext (HXl.out.trans hx))) ?_
   refine c_ (s_run2 112 114 (hr := fun b w1 _ e f => by unfold execOp; simp [e, f, Act.eval, go_sem])) ?_
   refine c_ s_mv ?_
   refine c_ (s_call fun w1 hx => undo_any 1 1 w1) ?_
   refine c_ (s_call fun w1 hx => k_frm (undoEd 1 1) false frm_2 w1 (HR.out.ext (HXl.out.trans hx))) ?_
   refine c_ (s_run1 118 (hr := fun b w1 _ e => by unfold execOp; simp [e, Act.eval, go_sem])) ?_
   refine c_ (s_run2 116 119 (hr := fun b w1 _ e f => by unfold execOp; simp [e, f, Act.eval, go_sem])) ?_
   refine c_ s_mv ?_
   refine c_ (s_call fun w1 hx => k_name w1 (HR.out.ext (HXl.out.trans hx))) ?_
   refine c_ (s_run1 122 (hr := fun b w1 _ e => by unfold execOp; simp [e, Act.eval, go_sem, strV])) ?_
   refine c_ (s_run2 121 123 (hr := fun b w1 _ e f => by unfold execOp; simp [e, f, Act.eval, go_sem])) ?_
   refine c_ s_mv ?_
   refine c_ (s_row HB1 Tryz.underlying29) ?_
   refine c_ (s_call fun w1 hx => undo_any 1 0 w1) ?_
   refine c_ (s_call fun w1 hx => k_cmp w1) ?_
   refine c_ (s_run1 128 (hr := fun b w1 _ e => by unfold execOp; simp [e, Act.eval, go_sem])) ?_
   refine c_ (s_run2 125 129 (hr := fun b w1 _ e f => by unfold execOp; simp [e, f, Act.eval, go_sem])) ?_
   refine c_ s_mv ?_
   refine c_ (s_row HB1 Tryz.underlying29) ?_
   refine c_ (s_call fun w1 hx => DigEd_any ballEd fit_bal w1 (HR.out.ext (HXl.out.trans hx)).H) ?_
   refine c_ (s_row HB1 Tryz.underlying29) ?_
   refine c_ (s_call fun w1 hx => refDig_any ballEd fit_bal w1 (HR.out.ext (HXl.out.trans hx)).K) ?_
   refine c_ (s_run2 133 135 (hr := fun b w1 _ e f => by unfold execOp; simp [e, f, Act.eval, go_sem, hdg])) ?_
   refine c_ (s_run2 131 136 (hr := fun b w1 _ e f => by unfold execOp; simp [e, f, Act.eval, go_sem])) ?_
   refine c_ s_mv ?_
   refine c_ (s_row HB1 Tryz.underlying29) ?_
   refine c_ (s_row HB1 Tryz.underlying29) ?_
   refine c_ (s_by (.inr ⟨_, _, _, rfl, rfl, rfl, rfl⟩) fun b w1 h K hK => ?_) ?_
   · have hx := h.ext
     replace hK : ∀ v w', Ext w1 w' → (∃ bL, v = .slice (some ⟨bL, 0, none⟩) 2 2 ∧ Sv w' w'.heap.size 17 (some ⟨bL, 0, none⟩) 2 (rowsE [ballEd, ballEd])) → K (b.put (some 141) v) w' := fun v w' h1 h2 => hK v w' h1 (GdM.prop rfl h2)
     obtain ⟨v139, g139, e139⟩ := h.dep 31 rfl
     have g139 : v139 = .agg #[.int .i64 ballEd.st.tick, .int .i64 ballEd.st.clock, .int .i64 ballEd.st.site, .int .i64 ballEd.st.seq, .int .i64 ballEd.kind, .int .i64 ballEd.box.lo.x, .int .i64 ballEd.box.lo.y, .int .i64 ballEd.box.lo.z, .int .i64 ballEd.box.hi.x, .int .i64 ballEd.box.hi.y, .int .i64 ballEd.box.hi.z, .int .i64 ballEd.at_.x, .int .i64 ballEd.at_.y, .int .i64 ballEd.at_.z, .int .i64 ballEd.turn, .int .i64 ballEd.cell, .int .i64 ballEd.size] := g139
     subst g139
     have e139 := e139 139 rfl
     obtain ⟨v140, g140, e140⟩ := h.dep 32 rfl
     have g140 : v140 = .agg #[.int .i64 ballEd.st.tick, .int .i64 ballEd.st.clock, .int .i64 ballEd.st.site, .int .i64 ballEd.st.seq, .int .i64 ballEd.kind, .int .i64 ballEd.box.lo.x, .int .i64 ballEd.box.lo.y, .int .i64 ballEd.box.lo.z, .int .i64 ballEd.box.hi.x, .int .i64 ballEd.box.hi.y, .int .i64 ballEd.box.hi.z, .int .i64 ballEd.at_.x, .int .i64 ballEd.at_.y, .int .i64 ballEd.at_.z, .int .i64 ballEd.turn, .int .i64 ballEd.cell, .int .i64 ballEd.size] := g140
     subst g140
     have e140 := e140 140 rfl
     exact op_buildRows 35 29 2 _ rfl 17 (by decide) (rowsE [ballEd, ballEd]) (rows_len17 _) rfl (by decide) (by decide) (by simp [eval_of e139, eval_of e140, rowsE, Ed.cells]) Tryz.underlying35 (by kernel_rfl) (by kernel_rfl) (hK _ _ ((Ext.refl w1).alloc _) ⟨w1.heap.size, rfl, svE_lit w1 [ballEd, ballEd] (by decide)⟩)
   refine c_ (s_by (.inr ⟨_, _, _, rfl, rfl, rfl, rfl⟩) fun b w1 h K hK => ?_) ?_
   · have hx := h.ext
     replace hK : ∀ v w', Ext w1 w' → (∃ A7 c7, v = .slice A7 1 c7) → K (b.put (some 142) v) w' := fun v w' h1 h2 => hK v w' h1 (GdM.prop rfl h2)
     obtain ⟨v141, g141, e141⟩ := h.dep 33 rfl
     have g141 : ∃ bL, v141 = .slice (some ⟨bL, 0, none⟩) 2 2 ∧ Sv w1 w1.heap.size 17 (some ⟨bL, 0, none⟩) 2 (rowsE [ballEd, ballEd]) := g141
     obtain ⟨bL, rfl, hL⟩ := g141
     have e141 := e141 141 rfl
     have hc : Calls Tryz.prog 22 #[.slice (some ⟨bL, 0, none⟩) 2 2] w1 fun e w' => ∃ v, e = .returned v ∧ Ext w1 w' ∧ (∃ A7 c7, v = .slice A7 1 c7) := k_sort _ _ w1 hL
     exact op_call (G := fun v w' => ∃ A7 c7, v = .slice A7 1 c7) rfl (by simp [eval_of e141]) (fun _ _ => by kernel_rfl) hc (fun v w' h1 h2 => hK v w' h1 h2)
   refine c_ (s_by (.inr ⟨_, _, _, rfl, rfl, rfl, rfl⟩) fun b w1 h K hK => ?_) ?_
   · have hx := h.ext
     replace hK : ∀ v w', Ext w1 w' → (v = .int .i64 1) → K (b.put (some 143) v) w' := fun v w' h1 h2 => (by subst h2; exact hK _ w' h1 (GdM.val rfl w'))
     obtain ⟨v142, g142, e142⟩ := h.dep 34 rfl
     have g142 : ∃ A7 c7, v142 = .slice A7 1 c7 := g142
     obtain ⟨A7, c7, rfl⟩ := g142
     have e142 := e142 142 rfl
     exact op_run (by unfold execOp; simp [e142, Act.eval, go_sem]) (hK _ w1 (Ext.refl _) rfl)
   refine c_ (s_run1 143 (hr := fun b w1 _ e => by unfold execOp; simp [e, Act.eval, go_sem])) ?_
   refine c_ (s_run2 138 144 (hr := fun b w1 _ e f => by unfold execOp; simp [e, f, Act.eval, go_sem])) ?_
   refine c_ s_mv ?_
   exact trivial
 · intro U w9 hx hg
   have g33 : ∃ bL, U 33 = .slice (some ⟨bL, 0, none⟩) 2 2 ∧ Sv w9 w9.heap.size 17 (some ⟨bL, 0, none⟩) 2 (rowsE [ballEd, ballEd]) := hg 33 (by decide) rfl
   have g34 : ∃ A7 c7, U 34 = .slice A7 1 c7 := hg 34 (by decide) rfl
   simp only [fillM, Act.put, List.getElem?_cons_zero, List.getElem?_cons_succ, Option.join_some, Option.getD_some, Option.getD_none, List.setIfInBounds_toArray, List.set_cons_zero, List.set_cons_succ, Nat.zero_add, Nat.reduceAdd]
   clear hg
   go_wp2_with fail
   go_ret
   exact ⟨rfl, HXl.out.trans hx⟩
end Go.Proofs.YtlinhgannajfpaaGreatDoor

/- Reading of arguments: a type all of whose cells are ints; a slice of such; a struct by value; the step from a walk to a law's row. For every program that the seat's is. -/
namespace Go.Proofs.YtlinhgannajfpaaGreatDoor
open Go Go.RowKit Go.ChangeShapes Go.WideShapes Go.ChangeAt

section
variable {P : Program}
def IntsT (P : Program) (t : TypeId) : Prop := ∀ (H : Type) (enc : TypeId × Value → H) (w : World) (base : Nat) (spare : Nat → Bool) (held : Bool) (fuel : Nat) (cs : List Value) (x : DataW H × List MemPlace),
 DataW.trod enc P w base spare held fuel t cs = some x → cs.length = P.cellsOf t ∧ ∀ (c : Value), c ∈ cs → ∃ n : Int, c = .int .i64 n ∧ (Lit.int .i64 n).wf = true
theorem ints_int {t : TypeId} (ht : P.underlying t = some (.int .i64)) (hc : P.cellsOf t = 1) : IntsT P t := fun H enc w base spare held fuel cs x h => by
 obtain ⟨n, rfl, _, hw⟩ := DataW.trod_int ht h
 exact ⟨by rw [hc]; rfl, fun c hc => by simp only [List.mem_singleton] at hc; exact ⟨n, hc, hw⟩⟩
theorem ints_struct {t : TypeId} {fs : Array Field} (ht : P.underlying t = some (.struct fs)) (hf : ∀ (i : Nat) (f : Field), fs[i]? = some f → IntsT P f.type)
    (hcov : ∀ j, j < P.cellsOf t → ∃ (i : Nat) (f : Field), fs[i]? = some f ∧ f.offset ≤ j ∧ j < f.offset + P.cellsOf f.type) : IntsT P t := fun H enc w base spare held fuel cs x h => by
 obtain ⟨xs, n, _, _, hlen, hxl, hg⟩ := DataW.trod_struct ht h
 refine ⟨hlen, fun c hc => ?_⟩
 obtain ⟨j, hj⟩ := List.getElem?_of_mem hc
 have hjl := (List.getElem?_eq_some_iff.1 hj).1
 obtain ⟨i, f, hif, h1, h2⟩ := hcov j (by omega)
 have hx : ∃ y, xs[i]? = some y := ⟨xs[i]'(by rw [hxl]; exact (Array.getElem?_eq_some_iff.1 hif).1), List.getElem?_eq_getElem _⟩
 obtain ⟨y, hy⟩ := hx
 have h3 := hg i f hif
 rw [hy] at h3
 obtain ⟨_, h5⟩ := hf i f hif H enc w base spare held n _ y h3
 refine h5 c ?_
 have : ((cs.drop f.offset).take (P.cellsOf f.type))[j - f.offset]? = some c := by
  rw [List.getElem?_take, if_pos (by omega), List.getElem?_drop, show f.offset + (j - f.offset) = j by omega, hj]
 exact List.mem_of_getElem? this
theorem ints_list {cs : List Value} (h : ∀ (c : Value), c ∈ cs → ∃ n : Int, c = .int .i64 n ∧ (Lit.int .i64 n).wf = true) : ∃ l : List Int, cs = l.map (Value.int .i64) ∧ ∀ n, n ∈ l → (Lit.int .i64 n).wf = true := by
 induction cs with
 | nil => exact ⟨[], rfl, fun n hn => by simp at hn⟩
 | cons c cs ih =>
   obtain ⟨n, rfl, hw⟩ := h c (List.mem_cons_self ..)
   obtain ⟨l, rfl, hl⟩ := ih (fun d hd => h d (List.mem_cons_of_mem _ hd))
   exact ⟨n :: l, rfl, fun m hm => by rcases List.mem_cons.1 hm with rfl | hm; exact hw; exact hl m hm⟩

variable {H : Type} {enc : TypeId × Value → H} {W : World}
theorem read_rows {t e : TypeId} {k : Nat} (ht : P.underlying t = some (.slice e)) (hc : P.cellsOf e = k) (hk : 0 < k) (hi : IntsT P e) {base : Nat} {r : Reach} {v : Value} {d : DataW H} {ps : List MemPlace}
    (hv : Value.okWide P W r base t v) (h : DataW.Trod enc P W 0 (fun _ => true) true t v d ps) :
    ∃ (A : Option Addr) (c : Nat) (ls : List (List Int)), v = .slice A ls.length c ∧ Sl W W.heap.size k A c (ls.map fun l => l.map (Value.int .i64)) ∧ ∀ l, l ∈ ls → l.length = k ∧ ∀ n, n ∈ l → (Lit.int .i64 n).wf = true := by
 obtain ⟨a0, len0, cap0, rfl⟩ := okWide_slice ht hv
 obtain ⟨fuel, hf⟩ := h
 have hf' : DataW.trod enc P W 0 (fun _ => true) true fuel t [.slice a0 len0 cap0] = some (d, ps) := by simpa [Value.cells] using hf
 rcases Go.Deep.open_slice ht hf' with ⟨hcs, _⟩ | ⟨a, len, cap, m, n, D, Pl, hcs, _, hl, hm, hmm, _, hel⟩
 · simp only [List.cons.injEq, and_true, Value.slice.injEq] at hcs
   obtain ⟨rfl, rfl, rfl⟩ := hcs
   exact ⟨none, 0, [], rfl, Sl.nil _ _ _, fun l hl => by simp at hl⟩
 · simp only [List.cons.injEq, and_true, Value.slice.injEq] at hcs
   obtain ⟨rfl, rfl, rfl⟩ := hcs
   have hmc : len0 ≤ m := by rw [hmm]; simp; exact hl
   have hall : ∀ i, ∃ l : List Int, i < len0 → l.length = k ∧ (∀ n, n ∈ l → (Lit.int .i64 n).wf = true) ∧ ∀ (j : Nat) (u : Value), (l.map (Value.int .i64))[j]? = some u → W.cell? (a.add (i * k + j)) = some u := by
    intro i
    by_cases hi2 : i < len0
    · obtain ⟨cs', hcells, htr⟩ := hel i (by omega)
      rw [hc] at hcells
      obtain ⟨h1, h2⟩ := hi H enc W 0 (fun _ => true) true n cs' _ htr
      obtain ⟨l, rfl, hw⟩ := ints_list h2
      obtain ⟨_, h3, h4⟩ := World.cells?_some hcells
      refine ⟨l, fun _ => ⟨by simpa using h3, hw, fun j u hu => ?_⟩⟩
      have hj : j < k := by have := (List.getElem?_eq_some_iff.1 hu).1; simp at this h3; omega
      rw [← Go.Deep.add_add, h4 j hj]
      exact hu
    · exact ⟨[], fun h => absurd h hi2⟩
   obtain ⟨f, hfs⟩ := Classical.axiomOfChoice hall
   refine ⟨some a, cap0, (List.range len0).map f, by simp, ⟨by simpa using hl, hm, ?_, fun hpos => ?_⟩, ?_⟩
   · intro x hx
     simp only [List.map_map, List.mem_map, List.mem_range, Function.comp] at hx
     obtain ⟨i, hi2, rfl⟩ := hx
     exact ⟨f i, (hfs i hi2).1, rfl⟩
   · have hpos' : 0 < len0 := by simpa using hpos
     have h0 : ∃ u, W.cell? a = some u := by
      obtain ⟨h1, _, h3⟩ := hfs 0 hpos'
      have hl0 : 0 < ((f 0).map (Value.int .i64)).length := by simp; omega
      have := h3 0 _ (List.getElem?_eq_getElem hl0)
      simp only [Nat.zero_mul, Nat.add_zero] at this
      have ha : a.add 0 = a := by unfold Addr.add; simp
      rw [ha] at this
      exact ⟨_, this⟩
     obtain ⟨u0, h0⟩ := h0
     have hsp := World.cell?_spot h0
     obtain ⟨b, off, spot⟩ := a
     simp only at hsp
     subst hsp
     refine ⟨b, off, rfl, World.block_lt_of_cell? W _ h0, fun j u hu => ?_⟩
     have hlen : ∀ x, x ∈ ((List.range len0).map f).map (fun l => l.map (Value.int .i64)) → x.length = k := by
      intro x hx
      simp only [List.map_map, List.mem_map, List.mem_range, Function.comp] at hx
      obtain ⟨i, hi2, rfl⟩ := hx
      simpa using (hfs i hi2).1
     have hjl : j < (((List.range len0).map f).map (fun l => l.map (Value.int .i64))).flatten.length := (List.getElem?_eq_some_iff.1 hu).1
     rw [flatten_length _ hlen] at hjl
     simp only [List.length_map, List.length_range] at hjl
     have hi2 : j / k < len0 := Nat.div_lt_of_lt_mul (by rw [Nat.mul_comm]; exact hjl)
     have hr : j % k < k := Nat.mod_lt _ hk
     have hj : j = j / k * k + j % k := by rw [Nat.mul_comm]; exact (Nat.div_add_mod j k).symm
     have hrow : (((List.range len0).map f).map (fun l => l.map (Value.int .i64)))[j / k]? = some ((f (j / k)).map (Value.int .i64)) := by
      simp [hi2]
     have hrl : j % k < ((f (j / k)).map (Value.int .i64)).length := by simp [(hfs _ hi2).1]; exact hr
     have h5 := flatten_at _ hlen (j / k) _ hrow (j % k) _ (List.getElem?_eq_getElem hrl)
     rw [← hj, hu] at h5
     have h6 := (hfs _ hi2).2.2 (j % k) _ (List.getElem?_eq_getElem hrl)
     rw [add_lit, ← hj] at h6
     rw [h5]; exact h6
   · intro l hl2
     simp only [List.mem_map, List.mem_range] at hl2
     obtain ⟨i, hi2, rfl⟩ := hl2
     exact ⟨(hfs i hi2).1, (hfs i hi2).2.1⟩

theorem read_struct {t : TypeId} {fs : Array Field} (ht : P.underlying t = some (.struct fs)) (hi : IntsT P t) {base : Nat} {r : Reach} {v : Value} {d : DataW H} {ps : List MemPlace}
    (hv : Value.okWide P W r base t v) (h : DataW.Trod enc P W 0 (fun _ => true) true t v d ps) :
    ∃ l : List Int, v = .agg (l.map (Value.int .i64)).toArray ∧ l.length = P.cellsOf t ∧ ∀ n, n ∈ l → (Lit.int .i64 n).wf = true := by
 obtain ⟨cs, rfl, hsz⟩ := okWide_struct ht hv
 obtain ⟨fuel, hf⟩ := h
 obtain ⟨h1, h2⟩ := hi H enc W 0 (fun _ => true) true fuel cs.toList _ (by simpa [Value.cells] using hf)
 obtain ⟨l, hl, hw⟩ := ints_list h2
 refine ⟨l, by rw [← hl], ?_, hw⟩
 have := congrArg List.length hl
 simp at this
 omega

theorem args_below (hl : laidOutB P = true) : ∀ (ts : List TypeId) (vs : List Value) (ds : List (DataW H)) (ps : List MemPlace) (W' : World), (∀ t, t ∈ ts → P.readableRec t = true ∧ t < P.types.size) →
    DataW.TrodAll enc P W 0 (fun _ => true) true ts vs ds ps → Below W.heap.size W W' → (∀ x, x ∈ ps → x.block < W.heap.size) → DataW.TrodAll enc P W' 0 (fun b => decide (b < W.heap.size)) true ts vs ds ps
 | [], vs, ds, ps, W', _, h, _, _ => by
   obtain ⟨rfl, rfl, rfl⟩ := trodAll_nil h
   exact rfl
 | t :: ts, vs, ds, ps, W', hr, h, hb, hlt => by
   obtain ⟨v, vs', d, ds', p, q, rfl, rfl, rfl, h1, h2⟩ := trodAll_cons h
   obtain ⟨r1, r2⟩ := hr t (List.mem_cons_self ..)
   exact ⟨p, q, Below.trod hl r1 r2 h1 hb (fun x hx => hlt x (List.mem_append.2 (.inl hx))), args_below hl ts vs' ds' q W' (fun t ht => hr t (List.mem_cons_of_mem _ ht)) h2 hb (fun x hx => hlt x (List.mem_append.2 (.inr hx))), rfl⟩
theorem wf_bounds {n : Int} (h : (Lit.int .i64 n).wf = true) : -9223372036854775808 ≤ n ∧ n ≤ 9223372036854775807 := by
 have h1 : IntKind.i64.min = -9223372036854775808 := rfl
 have h2 : IntKind.i64.max = 9223372036854775807 := rfl
 simp [Lit.wf, h1, h2] at h
 exact h
end
end Go.Proofs.YtlinhgannajfpaaGreatDoor

/- Reading of arguments: structs of ints and slices of them. -/
namespace Go.Proofs.YtlinhgannajfpaaGreatDoor
open Go Go.RowKit Go.ChangeShapes Go.WideShapes Go.ChangeAt

def coverB (P : Program) (fs : Array Field) (n : Nat) : Bool := (List.range n).all fun j => (List.range fs.size).any fun i => match fs[i]? with | some f => decide (f.offset ≤ j) && decide (j < f.offset + P.cellsOf f.type) | none => false
theorem cover_of {P : Program} {fs : Array Field} {n : Nat} (h : coverB P fs n = true) : ∀ j, j < n → ∃ (i : Nat) (f : Field), fs[i]? = some f ∧ f.offset ≤ j ∧ j < f.offset + P.cellsOf f.type := fun j hj => by
 unfold coverB at h
 rw [List.all_eq_true] at h
 have h1 := h j (List.mem_range.2 hj)
 rw [List.any_eq_true] at h1
 obtain ⟨i, hi, h2⟩ := h1
 cases hf : fs[i]? with
 | none => rw [hf] at h2; cases h2
 | some f =>
   rw [hf] at h2
   simp only [Bool.and_eq_true, decide_eq_true_eq] at h2
   exact ⟨i, f, hf, h2.1, h2.2⟩
theorem own_ : ownKnob Tryz.prog.godebug = none := by kernel_rfl
theorem laidOut_ : laidOutB Tryz.prog = true := by kernel_rfl
theorem cells_int : Tryz.prog.cellsOf 3 = 1 := by kernel_rfl
theorem cells_St : Tryz.prog.cellsOf 23 = 4 := by kernel_rfl
theorem cells_Pt : Tryz.prog.cellsOf 25 = 3 := by kernel_rfl
theorem cells_Bx : Tryz.prog.cellsOf 27 = 6 := by kernel_rfl
theorem cells_Ed : Tryz.prog.cellsOf 29 = 17 := by kernel_rfl
theorem ints_int_ : IntsT Tryz.prog 3 := ints_int Tryz.underlying3 (by kernel_rfl)
theorem ints_St : IntsT Tryz.prog 23 := by
 refine ints_struct Tryz.underlying23 (fun i f h => ?_) (fun j hj => ?_)
 · match i, h with
   | 0, h => injection h with h; subst h; exact ints_int_
   | 1, h => injection h with h; subst h; exact ints_int_
   | 2, h => injection h with h; subst h; exact ints_int_
   | 3, h => injection h with h; subst h; exact ints_int_
   | i + 4, h => simp at h
 · exact cover_of (by kernel_rfl) j hj
theorem ints_Pt : IntsT Tryz.prog 25 := by
 refine ints_struct Tryz.underlying25 (fun i f h => ?_) (fun j hj => ?_)
 · match i, h with
   | 0, h => injection h with h; subst h; exact ints_int_
   | 1, h => injection h with h; subst h; exact ints_int_
   | 2, h => injection h with h; subst h; exact ints_int_
   | i + 3, h => simp at h
 · exact cover_of (by kernel_rfl) j hj
theorem ints_Bx : IntsT Tryz.prog 27 := by
 refine ints_struct Tryz.underlying27 (fun i f h => ?_) (fun j hj => ?_)
 · match i, h with
   | 0, h => injection h with h; subst h; exact ints_Pt
   | 1, h => injection h with h; subst h; exact ints_Pt
   | i + 2, h => simp at h
 · exact cover_of (by kernel_rfl) j hj
theorem ints_Ed : IntsT Tryz.prog 29 := by
 refine ints_struct Tryz.underlying29 (fun i f h => ?_) (fun j hj => ?_)
 · match i, h with
   | 0, h => injection h with h; subst h; exact ints_St
   | 1, h => injection h with h; subst h; exact ints_int_
   | 2, h => injection h with h; subst h; exact ints_Bx
   | 3, h => injection h with h; subst h; exact ints_Pt
   | 4, h => injection h with h; subst h; exact ints_int_
   | 5, h => injection h with h; subst h; exact ints_int_
   | 6, h => injection h with h; subst h; exact ints_int_
   | i + 7, h => simp at h
 · exact cover_of (by kernel_rfl) j hj
def Ed.ints (x : Ed) : List Int := [x.st.tick, x.st.clock, x.st.site, x.st.seq, x.kind, x.box.lo.x, x.box.lo.y, x.box.lo.z, x.box.hi.x, x.box.hi.y, x.box.hi.z, x.at_.x, x.at_.y, x.at_.z, x.turn, x.cell, x.size]
def Pt.ints (x : Pt) : List Int := [x.x, x.y, x.z]
set_option maxRecDepth 100000 in
theorem read_Eds {H : Type} {enc : TypeId × Value → H} {W : World} {base : Nat} {r : Reach} {v : Value} {d : DataW H} {ps : List MemPlace}
    (hv : Value.okWide Tryz.prog W r base 35 v) (h : DataW.Trod enc Tryz.prog W 0 (fun _ => true) true 35 v d ps) :
    ∃ (A : Option Addr) (c : Nat) (l : List Ed), v = .slice A l.length c ∧ Sv W W.heap.size 17 A c (rowsE l) ∧ ∀ y, y ∈ l → ∀ n, n ∈ y.ints → (Lit.int .i64 n).wf = true := by
 obtain ⟨A, c, ls, rfl, hs, hl⟩ := read_rows Tryz.underlying35 cells_Ed (by decide) ints_Ed hv h
 obtain ⟨l, hll, hfit⟩ : ∃ l : List Ed, ls.map (fun l => l.map (Value.int .i64)) = rowsE l ∧ ∀ y, y ∈ l → ∀ n, n ∈ y.ints → (Lit.int .i64 n).wf = true := by
  clear hs hv h
  induction ls with
  | nil => exact ⟨[], rfl, by simp⟩
  | cons x xs ih =>
    obtain ⟨l, hl', hfit⟩ := ih (fun y hy => hl y (List.mem_cons_of_mem _ hy))
    obtain ⟨h3, h4⟩ := hl x (List.mem_cons_self ..)
    match x, h3, h4 with
    | [a0, a1, a2, a3, a4, a5, a6, a7, a8, a9, a10, a11, a12, a13, a14, a15, a16], _, h4 => exact ⟨⟨⟨a0, a1, a2, a3⟩, a4, ⟨⟨a5, a6, a7⟩, ⟨a8, a9, a10⟩⟩, ⟨a11, a12, a13⟩, a14, a15, a16⟩ :: l, by unfold rowsE at hl' ⊢; simp only [List.map_cons, hl']; rfl, fun y hy => by
      rcases List.mem_cons.1 hy with rfl | hy
      · exact h4
      · exact hfit y hy⟩
 rw [hll] at hs
 have hlen := congrArg List.length hll
 unfold rowsE at hlen
 simp only [List.length_map] at hlen
 exact ⟨A, c, l, by rw [hlen], hs.sv, hfit⟩
set_option maxRecDepth 100000 in
theorem read_Ed {H : Type} {enc : TypeId × Value → H} {W : World} {base : Nat} {r : Reach} {v : Value} {d : DataW H} {ps : List MemPlace}
    (hv : Value.okWide Tryz.prog W r base 29 v) (h : DataW.Trod enc Tryz.prog W 0 (fun _ => true) true 29 v d ps) : ∃ x : Ed, v = .agg (x.ints.map (Value.int .i64)).toArray ∧ ∀ n, n ∈ x.ints → (Lit.int .i64 n).wf = true := by
 obtain ⟨l, rfl, hl, hw⟩ := read_struct Tryz.underlying29 ints_Ed hv h
 rw [cells_Ed] at hl
 match l, hl, hw with
 | [a0, a1, a2, a3, a4, a5, a6, a7, a8, a9, a10, a11, a12, a13, a14, a15, a16], _, hw => exact ⟨⟨⟨a0, a1, a2, a3⟩, a4, ⟨⟨a5, a6, a7⟩, ⟨a8, a9, a10⟩⟩, ⟨a11, a12, a13⟩, a14, a15, a16⟩, rfl, hw⟩
set_option maxRecDepth 100000 in
theorem read_Pt {H : Type} {enc : TypeId × Value → H} {W : World} {base : Nat} {r : Reach} {v : Value} {d : DataW H} {ps : List MemPlace}
    (hv : Value.okWide Tryz.prog W r base 25 v) (h : DataW.Trod enc Tryz.prog W 0 (fun _ => true) true 25 v d ps) : ∃ x : Pt, v = .agg (x.ints.map (Value.int .i64)).toArray ∧ ∀ n, n ∈ x.ints → (Lit.int .i64 n).wf = true := by
 obtain ⟨l, rfl, hl, hw⟩ := read_struct Tryz.underlying25 ints_Pt hv h
 rw [cells_Pt] at hl
 match l, hl, hw with
 | [a0, a1, a2], _, hw => exact ⟨⟨a0, a1, a2⟩, rfl, hw⟩
end Go.Proofs.YtlinhgannajfpaaGreatDoor

/- Reading of an argument: a slice of bytes. -/
namespace Go.Proofs.YtlinhgannajfpaaGreatDoor
open Go Go.RowKit Go.ChangeShapes Go.WideShapes Go.ChangeAt

theorem rowsB_flat (l : List UInt8) : (rowsB l).flatten = l.map fun x => Value.int .u8 (x.toNat : Int) := by
 unfold rowsB
 induction l with
 | nil => rfl
 | cons x xs ih => simp only [List.map_cons, List.flatten_cons, ih]; rfl
theorem byte_of {n : Int} (h : (Lit.int .u8 n).wf = true) : ∃ x : UInt8, n = (x.toNat : Int) := by
 have h1 : 0 ≤ n ∧ n ≤ 255 := by simpa [Lit.wf, IntKind.min, IntKind.max, IntKind.signed, IntKind.bits] using h
 refine ⟨UInt8.ofNat n.toNat, ?_⟩
 rw [UInt8.toNat_ofNat']
 omega
set_option maxRecDepth 100000 in
theorem read_Bs {H : Type} {enc : TypeId × Value → H} {W : World} {base : Nat} {r : Reach} {v : Value} {d : DataW H} {ps : List MemPlace}
    (hv : Value.okWide Tryz.prog W r base 42 v) (h : DataW.Trod enc Tryz.prog W 0 (fun _ => true) true 42 v d ps) :
    ∃ (A : Option Addr) (c : Nat) (l : List UInt8), v = .slice A l.length c ∧ Sv W W.heap.size 1 A c (rowsB l) := by
 have hc : Tryz.prog.cellsOf 5 = 1 := by kernel_rfl
 obtain ⟨a0, len0, cap0, rfl⟩ := okWide_slice Tryz.underlying42 hv
 obtain ⟨fuel, hf⟩ := h
 have hf' : DataW.trod enc Tryz.prog W 0 (fun _ => true) true fuel 42 [.slice a0 len0 cap0] = some (d, ps) := by simpa [Value.cells] using hf
 rcases Go.Deep.open_slice Tryz.underlying42 hf' with ⟨hcs, _⟩ | ⟨a, len, cap, m, n, D, Pl, hcs, _, hl, hm, hmm, _, hel⟩
 · simp only [List.cons.injEq, and_true, Value.slice.injEq] at hcs
   obtain ⟨rfl, rfl, rfl⟩ := hcs
   exact ⟨none, 0, [], rfl, Sv.nil _ _ _⟩
 · simp only [List.cons.injEq, and_true, Value.slice.injEq] at hcs
   obtain ⟨rfl, rfl, rfl⟩ := hcs
   have hmc : len0 ≤ m := by rw [hmm]; simp; exact hl
   have hall : ∀ i, ∃ x : UInt8, i < len0 → W.cell? (a.add i) = some (.int .u8 (x.toNat : Int)) := by
    intro i
    by_cases hi2 : i < len0
    · obtain ⟨cs', hcells, htr⟩ := hel i (by omega)
      rw [hc] at hcells
      obtain ⟨nn, h1, _, hw⟩ := DataW.trod_int Tryz.underlying5 htr
      obtain ⟨x, rfl⟩ := byte_of hw
      obtain ⟨_, h3, h4⟩ := World.cells?_some hcells
      refine ⟨x, fun _ => ?_⟩
      have h5 := h4 0 (by decide)
      rw [Go.Deep.add_add, Nat.add_zero, Nat.mul_one] at h5
      rw [h5]
      rw [h1]
      rfl
    · exact ⟨0, fun h => absurd h hi2⟩
   obtain ⟨f, hfs⟩ := Classical.axiomOfChoice hall
   refine ⟨some a, cap0, (List.range len0).map f, by simp, ⟨by simpa [rowsB] using hl, hm, rowsB_rwk _, fun hpos => ?_⟩⟩
   have hpos' : 0 < len0 := by simpa [rowsB] using hpos
   have h0 := hfs 0 hpos'
   have ha : a.add 0 = a := by unfold Addr.add; simp
   rw [ha] at h0
   have hsp := World.cell?_spot h0
   obtain ⟨b, off, spot⟩ := a
   simp only at hsp
   subst hsp
   refine ⟨b, off, rfl, World.block_lt_of_cell? W _ h0, fun j u hu => ?_⟩
   rw [rowsB_flat, List.map_map, List.getElem?_map] at hu
   obtain ⟨i, hi, rfl⟩ := Option.map_eq_some_iff.1 hu
   obtain ⟨hlt, rfl⟩ := List.getElem?_eq_some_iff.1 hi
   simp only [List.length_range] at hlt
   have h6 := hfs j hlt
   rw [add_lit] at h6
   simpa using h6
end Go.Proofs.YtlinhgannajfpaaGreatDoor

/- Contract of the reference's layer of edits: Check; and that it is the program's. -/
namespace Go.Proofs.YtlinhgannajfpaaGreatDoor
open Go Go.RowKit

def hiE (x : Ed) (s : Int) : Bool := decide (x.box.hi.x ≤ s) && (decide (x.box.hi.y ≤ s) && decide (x.box.hi.z ≤ s))
def boxE (x : Ed) (s : Int) : Bool := !emptyB x.box && (inP x.box.lo (cubeB s) && hiE x s)
def turnE (x : Ed) : Bool := decide (0 ≤ x.turn) && decide (x.turn < 48)
def cellE (x : Ed) (m : Int) : Bool := decide (0 ≤ x.cell) && decide (x.cell < m)
def okE (x : Ed) (s m : Int) : Bool :=
 if x.kind = 1 then boxE x s && cellE x m
 else if x.kind = 2 then inP x.at_ (cubeB s) && (cellE x m && (decide (1 ≤ x.size) && decide (x.size ≤ 4096)))
 else if x.kind = 3 then boxE x s && (turnE x && cellE x m)
 else if x.kind = 4 then boxE x s && (inP x.at_ (cubeB s) && turnE x)
 else if x.kind = 5 then inP x.at_ (cubeB s) && (cellE x m && (decide (1 ≤ x.size) && decide (x.size ≤ 32768)))
 else if x.kind = 7 then boxE x s && (decide (x.st.tick ≤ x.size) && decide (x.size ≤ 4000))
 else decide (1 ≤ x.size) && decide (x.size < x.st.seq)
def checkR (x : Ed) (d m : Int) : Int := if decide (2 ≤ d ∧ d ≤ 14) then (if decide (1 ≤ m ∧ m ≤ 256) && formedE x then (if okE x (2 ^ d.toNat) m then 0 else 1) else 1) else 13

set_option maxRecDepth 100000 in
set_option maxHeartbeats 4000000 in
theorem refCheck_depth (x : Ed) (d m : Int) (w : World) (h : ¬ (2 ≤ d ∧ d ≤ 14)) :
    Calls Tryz.prog 12 #[.agg #[.int .i64 x.st.tick, .int .i64 x.st.clock, .int .i64 x.st.site, .int .i64 x.st.seq, .int .i64 x.kind, .int .i64 x.box.lo.x, .int .i64 x.box.lo.y, .int .i64 x.box.lo.z, .int .i64 x.box.hi.x, .int .i64 x.box.hi.y, .int .i64 x.box.hi.z, .int .i64 x.at_.x, .int .i64 x.at_.y, .int .i64 x.at_.z, .int .i64 x.turn, .int .i64 x.cell, .int .i64 x.size], .int .i64 d, .int .i64 m] w fun e w' => e = .returned (.int .i64 13) ∧ Ext w w' := by
 go_enter Tryz.func12, Tryz.ntmps12
 by_cases h1 : d < 2
 · go_wp2
   go_ret
   exact ⟨rfl, byX⟩
 · have h2 : 14 < d := by omega
   go_wp2
   go_ret
   exact ⟨rfl, byX⟩
set_option maxRecDepth 100000 in
set_option maxHeartbeats 4000000 in
theorem refCheck_out (x : Ed) (d m : Int) (w : World) (hd : 2 ≤ d ∧ d ≤ 14) (h : ¬ (1 ≤ m ∧ m ≤ 256) ∨ formedE x = false) :
    Calls Tryz.prog 12 #[.agg #[.int .i64 x.st.tick, .int .i64 x.st.clock, .int .i64 x.st.site, .int .i64 x.st.seq, .int .i64 x.kind, .int .i64 x.box.lo.x, .int .i64 x.box.lo.y, .int .i64 x.box.lo.z, .int .i64 x.box.hi.x, .int .i64 x.box.hi.y, .int .i64 x.box.hi.z, .int .i64 x.at_.x, .int .i64 x.at_.y, .int .i64 x.at_.z, .int .i64 x.turn, .int .i64 x.cell, .int .i64 x.size], .int .i64 d, .int .i64 m] w fun e w' => e = .returned (.int .i64 1) ∧ Ext w w' := by
 have HF := Lib.hid (fun w' : World => refFormed_any x w')
 have d1 : ¬ d < 2 := by omega
 have d2 : ¬ 14 < d := by omega
 by_cases h1 : m < 1
 · clear h
   generalize formedE x = bf at HF
   go_enter Tryz.func12, Tryz.ntmps12
   go_upto_region 1 with fail
   obtain ⟨W0, hW⟩ : ∃ W, W = w.alloc (.cells #[.int .i64 x.st.tick, .int .i64 x.st.clock, .int .i64 x.st.site, .int .i64 x.st.seq, .int .i64 x.kind, .int .i64 x.box.lo.x, .int .i64 x.box.lo.y, .int .i64 x.box.lo.z, .int .i64 x.box.hi.x, .int .i64 x.box.hi.y, .int .i64 x.box.hi.z, .int .i64 x.at_.x, .int .i64 x.at_.y, .int .i64 x.at_.z, .int .i64 x.turn, .int .i64 x.cell, .int .i64 x.size] 29) := ⟨_, rfl⟩
   have hx0 : Ext w W0 := by rw [hW]; exact (Ext.refl w).alloc _
   have B0 : Arr W0 w.heap.size 29 [.int .i64 x.st.tick, .int .i64 x.st.clock, .int .i64 x.st.site, .int .i64 x.st.seq, .int .i64 x.kind, .int .i64 x.box.lo.x, .int .i64 x.box.lo.y, .int .i64 x.box.lo.z, .int .i64 x.box.hi.x, .int .i64 x.box.hi.y, .int .i64 x.box.hi.z, .int .i64 x.at_.x, .int .i64 x.at_.y, .int .i64 x.at_.z, .int .i64 x.turn, .int .i64 x.cell, .int .i64 x.size] := by rw [hW]; exact Arr.new w _ _
   rw [← hW]
   clear hW
   have cB0 := B0.cell
   have fB0 := B0.frozen
   have lB0 := B0.lt
   go_wp2_with (first | (refine ldB 29 3 B0 Tryz.underlying29 ?_) | (refine ldB 29 3 (B0.alloc _) Tryz.underlying29 ?_) | (refine ldB 29 3 ((B0.alloc _).alloc _) Tryz.underlying29 ?_))
   ((refine (HF.out _).mono ?_); rintro e wx ⟨rfl, xx⟩; have xz := xx.size; (try simp only [World.size_alloc_, World.size_setCell_] at xz); obtain ⟨B0, cB0, fB0, lB0⟩ := Arr.look (w' := wx) B0 byX)
   go_wp2
   go_ret
   exact ⟨rfl, byX⟩
 · by_cases h2 : 256 < m
   · clear h
     generalize formedE x = bf at HF
     go_enter Tryz.func12, Tryz.ntmps12
     go_upto_region 1 with fail
     obtain ⟨W0, hW⟩ : ∃ W, W = w.alloc (.cells #[.int .i64 x.st.tick, .int .i64 x.st.clock, .int .i64 x.st.site, .int .i64 x.st.seq, .int .i64 x.kind, .int .i64 x.box.lo.x, .int .i64 x.box.lo.y, .int .i64 x.box.lo.z, .int .i64 x.box.hi.x, .int .i64 x.box.hi.y, .int .i64 x.box.hi.z, .int .i64 x.at_.x, .int .i64 x.at_.y, .int .i64 x.at_.z, .int .i64 x.turn, .int .i64 x.cell, .int .i64 x.size] 29) := ⟨_, rfl⟩
     have hx0 : Ext w W0 := by rw [hW]; exact (Ext.refl w).alloc _
     have B0 : Arr W0 w.heap.size 29 [.int .i64 x.st.tick, .int .i64 x.st.clock, .int .i64 x.st.site, .int .i64 x.st.seq, .int .i64 x.kind, .int .i64 x.box.lo.x, .int .i64 x.box.lo.y, .int .i64 x.box.lo.z, .int .i64 x.box.hi.x, .int .i64 x.box.hi.y, .int .i64 x.box.hi.z, .int .i64 x.at_.x, .int .i64 x.at_.y, .int .i64 x.at_.z, .int .i64 x.turn, .int .i64 x.cell, .int .i64 x.size] := by rw [hW]; exact Arr.new w _ _
     rw [← hW]
     clear hW
     have cB0 := B0.cell
     have fB0 := B0.frozen
     have lB0 := B0.lt
     go_wp2_with (first | (refine ldB 29 3 B0 Tryz.underlying29 ?_) | (refine ldB 29 3 (B0.alloc _) Tryz.underlying29 ?_) | (refine ldB 29 3 ((B0.alloc _).alloc _) Tryz.underlying29 ?_))
     ((refine (HF.out _).mono ?_); rintro e wx ⟨rfl, xx⟩; have xz := xx.size; (try simp only [World.size_alloc_, World.size_setCell_] at xz); obtain ⟨B0, cB0, fB0, lB0⟩ := Arr.look (w' := wx) B0 byX)
     go_wp2
     go_ret
     exact ⟨rfl, byX⟩
   · have hf : formedE x = false := h.resolve_left (fun hh => hh ⟨by omega, by omega⟩)
     rw [hf] at HF
     clear h hf
     go_enter Tryz.func12, Tryz.ntmps12
     go_upto_region 1 with fail
     obtain ⟨W0, hW⟩ : ∃ W, W = w.alloc (.cells #[.int .i64 x.st.tick, .int .i64 x.st.clock, .int .i64 x.st.site, .int .i64 x.st.seq, .int .i64 x.kind, .int .i64 x.box.lo.x, .int .i64 x.box.lo.y, .int .i64 x.box.lo.z, .int .i64 x.box.hi.x, .int .i64 x.box.hi.y, .int .i64 x.box.hi.z, .int .i64 x.at_.x, .int .i64 x.at_.y, .int .i64 x.at_.z, .int .i64 x.turn, .int .i64 x.cell, .int .i64 x.size] 29) := ⟨_, rfl⟩
     have hx0 : Ext w W0 := by rw [hW]; exact (Ext.refl w).alloc _
     have B0 : Arr W0 w.heap.size 29 [.int .i64 x.st.tick, .int .i64 x.st.clock, .int .i64 x.st.site, .int .i64 x.st.seq, .int .i64 x.kind, .int .i64 x.box.lo.x, .int .i64 x.box.lo.y, .int .i64 x.box.lo.z, .int .i64 x.box.hi.x, .int .i64 x.box.hi.y, .int .i64 x.box.hi.z, .int .i64 x.at_.x, .int .i64 x.at_.y, .int .i64 x.at_.z, .int .i64 x.turn, .int .i64 x.cell, .int .i64 x.size] := by rw [hW]; exact Arr.new w _ _
     rw [← hW]
     clear hW
     have cB0 := B0.cell
     have fB0 := B0.frozen
     have lB0 := B0.lt
     go_wp2_with (first | (refine ldB 29 3 B0 Tryz.underlying29 ?_) | (refine ldB 29 3 (B0.alloc _) Tryz.underlying29 ?_) | (refine ldB 29 3 ((B0.alloc _).alloc _) Tryz.underlying29 ?_))
     ((refine (HF.out _).mono ?_); rintro e wx ⟨rfl, xx⟩; have xz := xx.size; (try simp only [World.size_alloc_, World.size_setCell_] at xz); obtain ⟨B0, cB0, fB0, lB0⟩ := Arr.look (w' := wx) B0 byX)
     go_wp2
     go_ret
     exact ⟨rfl, byX⟩

theorem okE_def (x : Ed) (s m : Int) : okE x s m = (if x.kind = 1 then boxE x s && cellE x m
 else if x.kind = 2 then inP x.at_ (cubeB s) && (cellE x m && (decide (1 ≤ x.size) && decide (x.size ≤ 4096)))
 else if x.kind = 3 then boxE x s && (turnE x && cellE x m)
 else if x.kind = 4 then boxE x s && (inP x.at_ (cubeB s) && turnE x)
 else if x.kind = 5 then inP x.at_ (cubeB s) && (cellE x m && (decide (1 ≤ x.size) && decide (x.size ≤ 32768)))
 else if x.kind = 7 then boxE x s && (decide (x.st.tick ≤ x.size) && decide (x.size ≤ 4000))
 else decide (1 ≤ x.size) && decide (x.size < x.st.seq)) := rfl
set_option maxRecDepth 100000 in
set_option maxHeartbeats 16000000 in
theorem refCheck_in (x : Ed) (d m : Int) (w : World) (hd : 2 ≤ d ∧ d ≤ 14) (hm : 1 ≤ m ∧ m ≤ 256) (hf : formedE x = true) (hkk : x.kind = 1 ∨ x.kind = 2 ∨ x.kind = 3 ∨ x.kind = 4 ∨ x.kind = 5 ∨ x.kind = 6 ∨ x.kind = 7 ∨ x.kind = 8) :
    Calls Tryz.prog 12 #[.agg #[.int .i64 x.st.tick, .int .i64 x.st.clock, .int .i64 x.st.site, .int .i64 x.st.seq, .int .i64 x.kind, .int .i64 x.box.lo.x, .int .i64 x.box.lo.y, .int .i64 x.box.lo.z, .int .i64 x.box.hi.x, .int .i64 x.box.hi.y, .int .i64 x.box.hi.z, .int .i64 x.at_.x, .int .i64 x.at_.y, .int .i64 x.at_.z, .int .i64 x.turn, .int .i64 x.cell, .int .i64 x.size], .int .i64 d, .int .i64 m] w fun e w' => e = .returned (.int .i64 (if okE x (2 ^ d.toNat) m then 0 else 1)) ∧ Ext w w' := by
 have HF := Lib.hid (fun w' : World => hf ▸ refFormed_any x w')
 have HQ := Lib.hid (fun w' : World => refcube_any d hd w')
 have hok := okE_def x (2 ^ d.toNat) m
 generalize (2 : Int) ^ d.toNat = S at HQ hok ⊢
 have HE := Lib.hid (fun w' : World => refEmpty_any x.box w')
 have HL := Lib.hid (fun w' : World => refIn_any x.box.lo (cubeB S) w')
 have HA := Lib.hid (fun w' : World => refIn_any x.at_ (cubeB S) w')
 have HB1 := Lib.hid (show boxE x S = (!emptyB x.box && (inP x.box.lo (cubeB S) && hiE x S)) from rfl)
 have HH := Lib.hid (show hiE x S = (decide (x.box.hi.x ≤ S) && (decide (x.box.hi.y ≤ S) && decide (x.box.hi.z ≤ S))) from rfl)
 have HT := Lib.hid (show turnE x = (decide (0 ≤ x.turn) && decide (x.turn < 48)) from rfl)
 have HC := Lib.hid (show cellE x m = (decide (0 ≤ x.cell) && decide (x.cell < m)) from rfl)
 obtain ⟨R, hR⟩ : ∃ R : Int, R = (if okE x S m then 0 else 1) := ⟨_, rfl⟩
 rw [← hR]
 rw [hok] at hR
 clear hok
 generalize emptyB x.box = be at HE HB1
 generalize inP x.box.lo (cubeB S) = bl at HL HB1
 generalize inP x.at_ (cubeB S) = ba at HA hR
 generalize hiE x S = bh at HB1 HH
 generalize boxE x S = bx at HB1 hR
 generalize turnE x = bt at HT hR
 generalize cellE x m = bc at HC hR
 have HR := Lib.hid hR
 have HKK := Lib.hid hkk
 have d1 : ¬ d < 2 := by omega
 have d2 : ¬ 14 < d := by omega
 have m1 : ¬ m < 1 := by omega
 have m2 : ¬ 256 < m := by omega
 clear hd hm hf hR hkk
 simp only [cubeB] at HQ HL HA
 go_enter Tryz.func12, Tryz.ntmps12
 go_upto_region 1 with fail
 obtain ⟨W0, hW⟩ : ∃ W, W = w.alloc (.cells #[.int .i64 x.st.tick, .int .i64 x.st.clock, .int .i64 x.st.site, .int .i64 x.st.seq, .int .i64 x.kind, .int .i64 x.box.lo.x, .int .i64 x.box.lo.y, .int .i64 x.box.lo.z, .int .i64 x.box.hi.x, .int .i64 x.box.hi.y, .int .i64 x.box.hi.z, .int .i64 x.at_.x, .int .i64 x.at_.y, .int .i64 x.at_.z, .int .i64 x.turn, .int .i64 x.cell, .int .i64 x.size] 29) := ⟨_, rfl⟩
 have hx0 : Ext w W0 := by rw [hW]; exact (Ext.refl w).alloc _
 have B0 : Arr W0 w.heap.size 29 [.int .i64 x.st.tick, .int .i64 x.st.clock, .int .i64 x.st.site, .int .i64 x.st.seq, .int .i64 x.kind, .int .i64 x.box.lo.x, .int .i64 x.box.lo.y, .int .i64 x.box.lo.z, .int .i64 x.box.hi.x, .int .i64 x.box.hi.y, .int .i64 x.box.hi.z, .int .i64 x.at_.x, .int .i64 x.at_.y, .int .i64 x.at_.z, .int .i64 x.turn, .int .i64 x.cell, .int .i64 x.size] := by rw [hW]; exact Arr.new w _ _
 rw [← hW]
 clear hW
 have cB0 := B0.cell
 have fB0 := B0.frozen
 have lB0 := B0.lt
 generalize (.agg #[.int .i64 x.st.tick, .int .i64 x.st.clock, .int .i64 x.st.site, .int .i64 x.st.seq, .int .i64 x.kind, .int .i64 x.box.lo.x, .int .i64 x.box.lo.y, .int .i64 x.box.lo.z, .int .i64 x.box.hi.x, .int .i64 x.box.hi.y, .int .i64 x.box.hi.z, .int .i64 x.at_.x, .int .i64 x.at_.y, .int .i64 x.at_.z, .int .i64 x.turn, .int .i64 x.cell, .int .i64 x.size] : Value) = V0
 go_wp2_with (first | (refine ldB 29 3 B0 Tryz.underlying29 ?_) | (refine ldB 29 3 (B0.alloc _) Tryz.underlying29 ?_) | (refine ldB 29 3 ((B0.alloc _).alloc _) Tryz.underlying29 ?_))
 ((refine (HF.out _).mono ?_); rintro e wx ⟨rfl, xx⟩; have xz := xx.size; (try simp only [World.size_alloc_, World.size_setCell_] at xz); obtain ⟨B0, cB0, fB0, lB0⟩ := Arr.look (w' := wx) B0 byX)
 go_wp2_with fail
 ((refine (HQ.out _).mono ?_); rintro e wa ⟨rfl, xx⟩; have xz := xx.size; (try simp only [World.size_alloc_, World.size_setCell_] at xz); obtain ⟨B0, cB0, fB0, lB0⟩ := Arr.look (w' := wa) B0 byX)
 go_wp2_with (first | (refine wpList_load_part 27 (.tmp 38) rfl rfl B0 5 [.int .i64 x.box.lo.x, .int .i64 x.box.lo.y, .int .i64 x.box.lo.z, .int .i64 x.box.hi.x, .int .i64 x.box.hi.y, .int .i64 x.box.hi.z] rfl rfl _ Tryz.underlying27 rfl (by kernel_rfl) ?_) | (refine wpList_load_part 27 (.tmp 38) rfl rfl (B0.alloc _) 5 [.int .i64 x.box.lo.x, .int .i64 x.box.lo.y, .int .i64 x.box.lo.z, .int .i64 x.box.hi.x, .int .i64 x.box.hi.y, .int .i64 x.box.hi.z] rfl rfl _ Tryz.underlying27 rfl (by kernel_rfl) ?_))
 ((refine (HE.out _).mono ?_); rintro e wx ⟨rfl, xx⟩; have xz := xx.size; (try simp only [World.size_alloc_] at xz); obtain ⟨B0, cB0, fB0, lB0⟩ := Arr.look (w' := wx) B0 byX)
 have B1 := (Arr.new wa 27 [.int .i64 0, .int .i64 0, .int .i64 0, .int .i64 S, .int .i64 S, .int .i64 S]).ext xx
 have cB1 := B1.cell
 have fB1 := B1.frozen
 have lB1 := B1.lt
 go_wp2_with (first | (refine wpList_load_part 25 (.tmp 42) rfl rfl B0 5 [.int .i64 x.box.lo.x, .int .i64 x.box.lo.y, .int .i64 x.box.lo.z] rfl rfl _ Tryz.underlying25 rfl (by kernel_rfl) ?_) | (refine wpList_load_part 25 (.tmp 42) rfl rfl (B0.alloc _) 5 [.int .i64 x.box.lo.x, .int .i64 x.box.lo.y, .int .i64 x.box.lo.z] rfl rfl _ Tryz.underlying25 rfl (by kernel_rfl) ?_) | (refine ldB 27 8 B1 Tryz.underlying27 ?_) | (refine ldB 27 8 (B1.alloc _) Tryz.underlying27 ?_) | (refine ldB 27 8 ((B1.alloc _).alloc _) Tryz.underlying27 ?_))
 ((refine (HL.out _).mono ?_); rintro e wi ⟨rfl, xx⟩; have xz := xx.size; (try simp only [World.size_alloc_, World.size_setCell_] at xz); obtain ⟨B0, cB0, fB0, lB0⟩ := Arr.look (w' := wi) B0 byX; obtain ⟨B1, cB1, fB1, lB1⟩ := Arr.look (w' := wi) B1 byX)
 go_upto_region 10 with (first | (refine wpList_load_part 25 (.tmp 47) rfl rfl B0 8 [.int .i64 x.box.hi.x, .int .i64 x.box.hi.y, .int .i64 x.box.hi.z] rfl rfl _ Tryz.underlying25 rfl (by kernel_rfl) ?_) | (refine wpList_load_part 25 (.tmp 47) rfl rfl (B0.alloc _) 8 [.int .i64 x.box.hi.x, .int .i64 x.box.hi.y, .int .i64 x.box.hi.z] rfl rfl _ Tryz.underlying25 rfl (by kernel_rfl) ?_))
 have hx1 : Ext w wi := byX
 obtain ⟨W1, hW1⟩ : ∃ W, W = wi.alloc (.cells #[.int .i64 x.box.hi.x, .int .i64 x.box.hi.y, .int .i64 x.box.hi.z] 25) := ⟨_, rfl⟩
 have hx2 : Ext w W1 := by rw [hW1]; exact hx1.alloc _
 have B2 : Arr W1 wi.heap.size 25 [.int .i64 x.box.hi.x, .int .i64 x.box.hi.y, .int .i64 x.box.hi.z] := by rw [hW1]; exact Arr.new wi _ _
 have B0 : Arr W1 _ _ _ := hW1 ▸ B0.alloc _
 have B1 : Arr W1 _ _ _ := hW1 ▸ B1.alloc _
 rw [← hW1]
 have cB0 := B0.cell
 have cB1 := B1.cell
 have cB2 := B2.cell
 clear hW1
 go_cut [12] (fun v wc => v = .bool bh ∧ wc = W1)
 case first =>
  go_wp2
  all_goals
   go_meet
   case rel => exact ⟨by rw [HH.out]; first | (simp [*]; done) | (simp [*]; omega), rfl⟩
 case rest =>
 obtain ⟨rfl, hwc⟩ := hcut
 obtain rfl := hwc.symm
 go_upto_region 11 with fail
 go_cut [9, 10, 12, 13] (fun _ _ _ v wc => v = .bool bx ∧ wc = W1)
 case first =>
  go_wp2
  all_goals
   go_meet
   case rel => exact ⟨by rw [HB1.out]; first | (simp [*]; done) | (simp [*]; omega), rfl⟩
 case rest =>
 obtain ⟨rfl, hwc⟩ := hcut
 obtain rfl := hwc.symm
 go_wp2_with (first | (refine wpList_load_part 25 (.tmp 79) rfl rfl B0 11 [.int .i64 x.at_.x, .int .i64 x.at_.y, .int .i64 x.at_.z] rfl rfl _ Tryz.underlying25 rfl (by kernel_rfl) ?_) | (refine wpList_load_part 25 (.tmp 79) rfl rfl (B0.alloc _) 11 [.int .i64 x.at_.x, .int .i64 x.at_.y, .int .i64 x.at_.z] rfl rfl _ Tryz.underlying25 rfl (by kernel_rfl) ?_) | (refine ldB 27 8 B1 Tryz.underlying27 ?_) | (refine ldB 27 8 (B1.alloc _) Tryz.underlying27 ?_) | (refine ldB 27 8 ((B1.alloc _).alloc _) Tryz.underlying27 ?_))
 ((refine (HA.out _).mono ?_); rintro e W2 ⟨rfl, xx⟩; have xz := xx.size; (try simp only [World.size_alloc_, World.size_setCell_] at xz); obtain ⟨B0, cB0, fB0, lB0⟩ := Arr.look (w' := W2) B0 byX)
 have hx3 : Ext w W2 := hx2.trans xx
 go_upto_region 13 with fail
 go_cut [15] (fun v wc => v = .bool bt ∧ wc = W2)
 case first =>
  go_wp2
  all_goals
   go_meet
   case rel => exact ⟨by rw [HT.out]; first | (simp [*]; done) | (simp [*]; omega), rfl⟩
 case rest =>
 obtain ⟨rfl, hwc⟩ := hcut
 obtain rfl := hwc.symm
 go_upto_region 14 with fail
 go_cut [16] (fun v wc => v = .bool bc ∧ wc = W2)
 case first =>
  go_wp2
  all_goals
   go_meet
   case rel => exact ⟨by rw [HC.out]; first | (simp [*]; done) | (simp [*]; omega), rfl⟩
 case rest =>
 obtain ⟨rfl, hwc⟩ := hcut
 obtain rfl := hwc.symm
 clear xx hx1 hx2
 rcases HKK.out with hk | hk | hk | hk | hk | hk | hk | hk
 all_goals
  have hr := HR.out
  simp [hk] at hr
  have HR2 := Lib.hid hr
  clear hr
  go_wp2
  all_goals
   go_ret
   refine ⟨ret_int ?_, hx3⟩
   rw [HR2.out]
   clear hk lB0 lB1 cB0 cB1 cB2 fB0 fB1 d1 d2 m1 m2
   first | rfl | (simp [*]; done) | (split <;> first | rfl | (exfalso; simp_all; done) | (exfalso; simp_all; omega))

theorem refCheck_any (x : Ed) (d m : Int) (w : World) :
    Calls Tryz.prog 12 #[.agg #[.int .i64 x.st.tick, .int .i64 x.st.clock, .int .i64 x.st.site, .int .i64 x.st.seq, .int .i64 x.kind, .int .i64 x.box.lo.x, .int .i64 x.box.lo.y, .int .i64 x.box.lo.z, .int .i64 x.box.hi.x, .int .i64 x.box.hi.y, .int .i64 x.box.hi.z, .int .i64 x.at_.x, .int .i64 x.at_.y, .int .i64 x.at_.z, .int .i64 x.turn, .int .i64 x.cell, .int .i64 x.size], .int .i64 d, .int .i64 m] w fun e w' => e = .returned (.int .i64 (checkR x d m)) ∧ Ext w w' := by
 by_cases hd : 2 ≤ d ∧ d ≤ 14
 · by_cases h : ¬ (1 ≤ m ∧ m ≤ 256) ∨ formedE x = false
   · have e : checkR x d m = 1 := by
       unfold checkR
       rw [decide_eq_true hd]
       rcases h with h | h
       · rw [decide_eq_false h]; rfl
       · rw [h]; simp
     rw [e]
     exact refCheck_out x d m w hd h
   · have hm : 1 ≤ m ∧ m ≤ 256 := Classical.byContradiction fun hh => h (.inl hh)
     have hf : formedE x = true := by
      cases hq : formedE x
      · exact absurd (.inr hq) h
      · rfl
     have hk : 1 ≤ x.kind ∧ x.kind ≤ 8 := by
      have h := formedE_def x
      rw [hf] at h
      cases hq : decide (1 ≤ x.kind ∧ x.kind ≤ 8)
      · rw [hq] at h; simp at h
      · exact of_decide_eq_true hq
     have e : checkR x d m = if okE x (2 ^ d.toNat) m then 0 else 1 := by
      unfold checkR
      rw [decide_eq_true hd, decide_eq_true hm, hf]
      rfl
     rw [e]
     exact refCheck_in x d m w hd hm hf (by omega)
 · have e : checkR x d m = 13 := by unfold checkR; rw [decide_eq_false hd]; rfl
   rw [e]
   exact refCheck_depth x d m w hd
end Go.Proofs.YtlinhgannajfpaaGreatDoor

/- A plain law: the reference's Check is the program's. -/
namespace Go.Proofs.YtlinhgannajfpaaGreatDoor
open Go Go.RowKit

def fits (x : Ed) : Prop := x.box.hi.x ≤ 9223372036854775807 ∧ x.box.hi.y ≤ 9223372036854775807 ∧ x.box.hi.z ≤ 9223372036854775807
theorem last_in (b : Bx) (S : Int) (_h0 : S ≤ 1000000) (h : inP b.lo (cubeB S) = true) (he : emptyB b = false) (hx : b.hi.x ≤ 9223372036854775807 ∧ b.hi.y ≤ 9223372036854775807 ∧ b.hi.z ≤ 9223372036854775807) :
    inP (lastP b) (cubeB S) = (decide (b.hi.x ≤ S) && (decide (b.hi.y ≤ S) && decide (b.hi.z ≤ S))) := by
 have h9 : 0 ≤ b.lo.x ∧ 0 ≤ b.lo.y ∧ 0 ≤ b.lo.z ∧ b.lo.x < S ∧ b.lo.y < S ∧ b.lo.z < S := by
  unfold inP cubeB at h
  simp only [Bool.and_eq_true, decide_eq_true_eq] at h
  exact ⟨h.1, h.2.2.1, h.2.2.2.2.1, h.2.1, h.2.2.2.1, h.2.2.2.2.2⟩
 have he2 : b.lo.x < b.hi.x ∧ b.lo.y < b.hi.y ∧ b.lo.z < b.hi.z := by
  simp only [emptyB, inP, Bool.not_eq_false', Bool.and_eq_true, decide_eq_true_eq] at he
  omega
 have w1 : wrap64 (b.hi.x + wrap64 (-1 * 1)) = b.hi.x - 1 := by
  have : wrap64 (-1 * 1) = -1 := by unfold wrap64; omega
  rw [this]; unfold wrap64; omega
 have w2 : wrap64 (b.hi.y + wrap64 (-1 * 1)) = b.hi.y - 1 := by
  have : wrap64 (-1 * 1) = -1 := by unfold wrap64; omega
  rw [this]; unfold wrap64; omega
 have w3 : wrap64 (b.hi.z + wrap64 (-1 * 1)) = b.hi.z - 1 := by
  have : wrap64 (-1 * 1) = -1 := by unfold wrap64; omega
  rw [this]; unfold wrap64; omega
 rw [Bool.eq_iff_iff]
 simp only [lastP, addP, scaleP, inP, cubeB, w1, w2, w3, Bool.and_eq_true, decide_eq_true_eq]
 omega
theorem box_iff (x : Ed) (S : Int) (h0 : S ≤ 1000000) (hw : fits x) : boxE x S = !(emptyB x.box || (!inP x.box.lo (cubeB S) || !inP (lastP x.box) (cubeB S))) := by
 unfold boxE hiE
 cases he : emptyB x.box
 · cases hl : inP x.box.lo (cubeB S)
   · rfl
   · rw [last_in x.box S h0 hl he hw]
     simp
 · rfl
theorem usesF_lits (x : Ed) : (x.kind = 1 → usesF x.kind 1 = true ∧ usesF x.kind 2 = false ∧ usesF x.kind 4 = false ∧ usesF x.kind 8 = true ∧ usesF x.kind 16 = false) := fun h => by rw [h]; decide
theorem ok_bad (x : Ed) (S m : Int) (h0 : S ≤ 1000000) (hm : 1 ≤ m) (hf : formedE x = true) (hw : fits x) : okE x S m = !badE x S m := by
 have hb := box_iff x S h0 hw
 have hd := formedE_def x
 rw [hf] at hd
 have hd := hd.symm
 simp only [Bool.and_eq_true, decide_eq_true_eq, Bool.or_eq_true] at hd
 obtain ⟨hv, hk, h1, h2, h4, h8, h16⟩ := hd
 have hvv := (validS_iff x.st).1 hv
 rw [badE_def]
 have hk2 : x.kind = 1 ∨ x.kind = 2 ∨ x.kind = 3 ∨ x.kind = 4 ∨ x.kind = 5 ∨ x.kind = 6 ∨ x.kind = 7 ∨ x.kind = 8 := by omega
 generalize emptyB x.box = b1 at hb ⊢
 generalize inP x.box.lo (cubeB S) = b2 at hb ⊢
 generalize inP (lastP x.box) (cubeB S) = b3 at hb ⊢
 generalize hba : inP x.at_ (cubeB S) = b4
 unfold okE
 rw [hb, hba]
 unfold turnE cellE leastE mostE
 rcases hk2 with h | h | h | h | h | h | h | h
 all_goals
  rw [h] at h1 h2 h4 h8 h16 ⊢
  simp [usesF] at h1 h2 h4 h8 h16 ⊢
  rw [Bool.eq_iff_iff]
  cases b1 <;> cases b2 <;> cases b3 <;> cases b4 <;> simp <;> omega
theorem check_eq (x : Ed) (d m : Int) (hw : fits x) : checkR x d m = checkE x d m := by
 unfold checkR checkE
 by_cases hd : 2 ≤ d ∧ d ≤ 14
 · by_cases hm : 1 ≤ m ∧ m ≤ 256
   · cases hf : formedE x
     · simp
     · have hS : (2 : Int) ^ d.toNat ≤ 1000000 := by
         obtain rfl | rfl | rfl | rfl | rfl | rfl | rfl | rfl | rfl | rfl | rfl | rfl | rfl : d = 2 ∨ d = 3 ∨ d = 4 ∨ d = 5 ∨ d = 6 ∨ d = 7 ∨ d = 8 ∨ d = 9 ∨ d = 10 ∨ d = 11 ∨ d = 12 ∨ d = 13 ∨ d = 14 := by omega
         all_goals decide
       rw [ok_bad x _ m hS hm.1 hf hw]
       cases badE x (2 ^ d.toNat) m <;> simp
   · rw [decide_eq_false hm]; simp
 · rw [decide_eq_false hd]; simp
end Go.Proofs.YtlinhgannajfpaaGreatDoor

/- What the laid variables give: the tables of the kinds and of the axes, the constants of both hashes. -/
namespace Go.Proofs.YtlinhgannajfpaaGreatDoor
open Go Go.RowKit Go.ChangeShapes Go.WideShapes Go.ChangeAt

theorem wf64 {n : Int} (h : (Lit.int .i64 n).wf = true) : fit64 n := by
 unfold fit64
 simpa [Lit.wf, IntKind.min, IntKind.max, IntKind.signed, IntKind.bits] using h
theorem fitE_of {x : Ed} (h : ∀ n, n ∈ x.ints → (Lit.int .i64 n).wf = true) : FitE x := fun n hn => wf64 (h n (by
 simp only [numsE, List.mem_cons, List.not_mem_nil, or_false] at hn
 simp only [Ed.ints, List.mem_cons, List.not_mem_nil, or_false]
 rcases hn with e | e | e | e | e | e | e | e | e | e | e | e | e | e | e | e | e <;> simp [e]))
theorem fits_of {x : Ed} (h : ∀ n, n ∈ x.ints → (Lit.int .i64 n).wf = true) : fits x :=
 ⟨(wf64 (h _ (by simp [Ed.ints]))).2, (wf64 (h _ (by simp [Ed.ints]))).2, (wf64 (h _ (by simp [Ed.ints]))).2⟩
section
variable {P : Program} {H : Type} {enc : TypeId × Value → H} {w : World} {spare : Nat → Bool} {held : Bool} {n : Nat}
theorem int_at {k : IntKind} {t : TypeId} (ht : P.underlying t = some (.int k)) {cs : List Value} {off : Nat} {v : Int} {p : List MemPlace} (h : DataW.trod enc P w 0 spare held n t ((cs.drop off).take 1) = some (.lit (.int k v), p)) : cs[off]? = some (.int k v) := by
 obtain ⟨m, e1, e2, _⟩ := DataW.trod_int ht h
 injection e2 with e2 _
 injection e2 with e2
 injection e2 with _ e2
 subst e2
 have h1 : ((cs.drop off).take 1)[0]? = some (.int k v) := by rw [e1]; rfl
 rw [List.getElem?_take, if_pos (by decide), List.getElem?_drop] at h1
 exact h1
theorem str_at {t : TypeId} (ht : P.underlying t = some .string) {cs : List Value} {off : Nat} {l : List UInt8} {p : List MemPlace} (h : DataW.trod enc P w 0 spare held n t ((cs.drop off).take 1) = some (.lit (.string l), p)) : cs[off]? = some (strV l) := by
 obtain ⟨s, e1, e2, _⟩ := DataW.trod_string ht h
 injection e2 with e2 _
 injection e2 with e2
 injection e2 with e2
 have e3 : s = ⟨l.toArray⟩ := by
  obtain ⟨⟨x⟩⟩ := s
  rw [e2]
 subst e3
 have h1 : ((cs.drop off).take 1)[0]? = some (strV l) := by rw [e1]; rfl
 rw [List.getElem?_take, if_pos (by decide), List.getElem?_drop] at h1
 exact h1
theorem part_at {ds : List (DataW H)} {xs : List (DataW H × List MemPlace)} {p : List MemPlace} {q : List MemPlace} (hx : ((DataW.agg ds, p) : DataW H × List MemPlace) = (.agg (xs.map (·.1)), q)) {i : Nat} {d : DataW H} (hd : ds[i]? = some d) : ∃ r, xs[i]? = some (d, r) := by
 injection hx with hx _
 injection hx with hx
 subst hx
 rw [List.getElem?_map] at hd
 obtain ⟨x, hx, rfl⟩ := Option.map_eq_some_iff.1 hd
 exact ⟨x.2, hx⟩
end
theorem gRows : Tryz.prog.globalNamed "voxel/edit.rows" = some 0 := by kernel_rfl
theorem gAxes : Tryz.prog.globalNamed "voxel/point.axes" = some 1 := by kernel_rfl
theorem gHash : Tryz.prog.globalNamed "voxel/hash.constants" = some 2 := by kernel_rfl
theorem gRef2 : Tryz.prog.globalNamed "voxel/voxelref02.constants" = some 3 := by kernel_rfl
def laidL : List (String × DataW Unit) := [("voxel/point.axes", Rows.laid_voxel_point_axes), ("voxel/voxelref02.constants", Rows.laid_voxel_voxelref02_constants), ("voxel/hash.constants", Rows.laid_voxel_hash_constants), ("voxel/edit.rows", Rows.laid_voxel_edit_rows)]
set_option maxRecDepth 100000 in
theorem rows_of {W : World} {cs : Array Value} {f : Nat} {p : List MemPlace} {enc : TypeId × Value → Unit} {spare : Nat → Bool} {held : Bool} (hv : W.var? Tryz.prog "voxel/edit.rows" = some cs) (hd : DataW.trod enc Tryz.prog W 0 spare held f 80 cs.toList = some (Rows.laid_voxel_edit_rows, p)) : RowsIn W ∧ NamesIn W := by
 obtain ⟨xs, m, _, hx, _, _, hg⟩ := DataW.trod_array Tryz.underlying80 hd
 have c2 : Tryz.prog.cellsOf 79 = 2 := by kernel_rfl
 have c1 : Tryz.prog.cellsOf 3 = 1 := by kernel_rfl
 have c3 : Tryz.prog.cellsOf 9 = 1 := by kernel_rfl
 rw [c2] at hg
 have key : ∀ i, i < 9 → W.cell? ⟨0, 2 * i + 1, none⟩ = some (.int .i64 (rowF i)) ∧ W.cell? ⟨0, 2 * i, none⟩ = some (strV (nameF i)) := by
  intro i hi
  have hpart : ∃ r, xs[i]? = some (.agg [.lit (.string (nameF i)), .lit (.int .i64 (rowF i))], r) := by
   match i, hi with
   | 0, _ => exact part_at hx (i := 0) rfl
   | 1, _ => exact part_at hx (i := 1) rfl
   | 2, _ => exact part_at hx (i := 2) rfl
   | 3, _ => exact part_at hx (i := 3) rfl
   | 4, _ => exact part_at hx (i := 4) rfl
   | 5, _ => exact part_at hx (i := 5) rfl
   | 6, _ => exact part_at hx (i := 6) rfl
   | 7, _ => exact part_at hx (i := 7) rfl
   | 8, _ => exact part_at hx (i := 8) rfl
   | i + 9, h => omega
  obtain ⟨r, hp⟩ := hpart
  have g := hg i hi
  rw [hp] at g
  obtain ⟨ys, k, _, hy, _, _, hf⟩ := DataW.trod_struct Tryz.underlying79 g
  obtain ⟨r1, h1⟩ := part_at hy (i := 1) rfl
  obtain ⟨r0, h0⟩ := part_at hy (i := 0) rfl
  have f1 : DataW.trod enc Tryz.prog W 0 spare held k 3 ((((cs.toList.drop (i * 2)).take 2).drop 1).take (Tryz.prog.cellsOf 3)) = ys[1]? := hf 1 _ rfl
  have f0 : DataW.trod enc Tryz.prog W 0 spare held k 9 ((((cs.toList.drop (i * 2)).take 2).drop 0).take (Tryz.prog.cellsOf 9)) = ys[0]? := hf 0 _ rfl
  rw [h1, c1] at f1
  rw [h0, c3] at f0
  have q := int_at Tryz.underlying3 f1
  have q0 := str_at Tryz.underlying9 f0
  rw [List.getElem?_take, if_pos (by decide), List.getElem?_drop, Array.getElem?_toList] at q q0
  rw [World.var?_cell gRows hv (2 * i + 1), World.var?_cell gRows hv (2 * i), show 2 * i + 1 = i * 2 + 1 by omega, show 2 * i = i * 2 + 0 by omega]
  exact ⟨q, q0⟩
 have hlt := World.block_lt_of_cell? W _ (key 0 (by decide)).1
 exact ⟨⟨fun i hi => (key i hi).1, hlt⟩, ⟨fun i hi => (key i hi).2, hlt⟩⟩
set_option maxRecDepth 100000 in
theorem axes_of {W : World} {cs : Array Value} {f : Nat} {p : List MemPlace} {enc : TypeId × Value → Unit} {spare : Nat → Bool} {held : Bool} (hv : W.var? Tryz.prog "voxel/point.axes" = some cs) (hd : DataW.trod enc Tryz.prog W 0 spare held f 148 cs.toList = some (Rows.laid_voxel_point_axes, p)) : AxesIn W := by
 obtain ⟨xs, m, _, hx, _, _, hg⟩ := DataW.trod_array Tryz.underlying148 hd
 have c1 : Tryz.prog.cellsOf 9 = 1 := by kernel_rfl
 rw [c1] at hg
 have key : ∀ i, i < 6 → W.cell? ⟨1, i, none⟩ = some (strV (axisL i)) := by
  intro i hi
  have hpart : ∃ r, xs[i]? = some (.lit (.string (axisL i)), r) := by
   match i, hi with
   | 0, _ => exact part_at hx (i := 0) rfl
   | 1, _ => exact part_at hx (i := 1) rfl
   | 2, _ => exact part_at hx (i := 2) rfl
   | 3, _ => exact part_at hx (i := 3) rfl
   | 4, _ => exact part_at hx (i := 4) rfl
   | 5, _ => exact part_at hx (i := 5) rfl
   | i + 6, h => omega
  obtain ⟨r, hp⟩ := hpart
  have g := hg i hi
  rw [hp] at g
  have q := str_at Tryz.underlying9 g
  rw [Array.getElem?_toList] at q
  rw [World.var?_cell gAxes hv i]
  rwa [Nat.mul_one] at q
 exact ⟨key, World.block_lt_of_cell? W _ (key 0 (by decide))⟩
set_option maxRecDepth 100000 in
theorem consts_of {W : World} {cs : Array Value} {f : Nat} {p : List MemPlace} {enc : TypeId × Value → Unit} {spare : Nat → Bool} {held : Bool} {nm : String} {gid : Nat} {D : DataW Unit} (hD : D = .agg ((List.range 64).map fun i => .lit (.int .u32 (wn (kW i) : Int)))) (hn : Tryz.prog.globalNamed nm = some gid) (hv : W.var? Tryz.prog nm = some cs) (hd : DataW.trod enc Tryz.prog W 0 spare held f 155 cs.toList = some (D, p)) : KIn W gid := by
 subst hD
 obtain ⟨xs, m, _, hx, _, _, hg⟩ := DataW.trod_array Tryz.underlying155 hd
 have c1 : Tryz.prog.cellsOf 112 = 1 := by kernel_rfl
 rw [c1] at hg
 have key : ∀ i, i < 64 → W.cell? ⟨gid, i, none⟩ = some (.int .u32 (wn (kW i) : Int)) := by
  intro i hi
  obtain ⟨r, hp⟩ := part_at hx (i := i) (d := .lit (.int .u32 (wn (kW i) : Int))) (by simp [hi])
  have g := hg i hi
  rw [hp] at g
  have q := int_at Tryz.underlying112 g
  rw [Array.getElem?_toList] at q
  rw [World.var?_cell hn hv i]
  rwa [Nat.mul_one] at q
 exact ⟨key, World.block_lt_of_cell? W _ (key 0 (by decide))⟩
theorem datHash : (Rows.laid_voxel_hash_constants : DataW Unit) = .agg ((List.range 64).map fun i => .lit (.int .u32 (wn (kW i) : Int))) := by kernel_rfl
theorem datRef2 : (Rows.laid_voxel_voxelref02_constants : DataW Unit) = .agg ((List.range 64).map fun i => .lit (.int .u32 (wn (kW i) : Int))) := by kernel_rfl
theorem laid_of {W : World} (h : laidMetH Tryz.prog laidL W) : EnvI W := by
 rw [MakeChecks.laidMetH_plain _ _ _ (by kernel_rfl)] at h
 obtain ⟨ps, ⟨g0, t0, cs0, f0, p0, q0, hg0, ht0, hv0, hd0, ⟨g1, t1, cs1, f1, p1, q1, hg1, ht1, hv1, hd1, ⟨g2, t2, cs2, f2, p2, q2, hg2, ht2, hv2, hd2, ⟨g3, t3, cs3, f3, p3, q3, hg3, ht3, hv3, hd3, _, _⟩, _⟩, _⟩, _⟩, _, _⟩ := h
 obtain rfl := Option.some.inj (gAxes.symm.trans hg0)
 obtain rfl := Option.some.inj (gRef2.symm.trans hg1)
 obtain rfl := Option.some.inj (gHash.symm.trans hg2)
 obtain rfl := Option.some.inj (gRows.symm.trans hg3)
 obtain rfl := Option.some.inj ((show (Tryz.prog.globals[1]?).map (·.type) = some 148 by kernel_rfl).symm.trans ht0)
 obtain rfl := Option.some.inj ((show (Tryz.prog.globals[3]?).map (·.type) = some 155 by kernel_rfl).symm.trans ht1)
 obtain rfl := Option.some.inj ((show (Tryz.prog.globals[2]?).map (·.type) = some 155 by kernel_rfl).symm.trans ht2)
 obtain rfl := Option.some.inj ((show (Tryz.prog.globals[0]?).map (·.type) = some 80 by kernel_rfl).symm.trans ht3)
 exact ⟨axes_of hv0 hd0, (rows_of hv3 hd3).1, (rows_of hv3 hd3).2, consts_of datHash gHash hv2 hd2, consts_of datRef2 gRef2 hv1 hd1⟩
end Go.Proofs.YtlinhgannajfpaaGreatDoor

/- Symmetries, on the program's side: axis, Turn, TurnBox, Size. -/
namespace Go.Proofs.YtlinhgannajfpaaGreatDoor
open Go Go.RowKit

def axQ (q k : Int) : Int := (((axisL q.toNat)[k.toNat]?.getD 120).toNat : Int) - 120
def axI (s k : Int) : Int := axQ (s / 8) k
def ngI (s k : Int) : Bool := decide (s / 2 ^ k.toNat % 2 = 1)
def cdP (p : Pt) (a : Int) : Int := if a = 0 then p.x else if a = 1 then p.y else p.z
def isT (s : Int) : Bool := decide (0 ≤ s ∧ s < 48)
theorem axI_in (s k : Int) (hs : 0 ≤ s ∧ s < 48) (hk : 0 ≤ k ∧ k < 3) : 0 ≤ axI s k ∧ axI s k ≤ 2 := by
 have h : ∀ q, q < 6 → ∀ j, j < 3 → 0 ≤ axQ (q : Nat) (j : Nat) ∧ axQ (q : Nat) (j : Nat) ≤ 2 := by decide +kernel
 have h1 := h (s / 8).toNat (by omega) k.toNat (by omega)
 rw [Int.toNat_of_nonneg (by omega), Int.toNat_of_nonneg (by omega)] at h1
 exact h1
set_option maxHeartbeats 1000000 in
theorem isTurn_any (s : Int) (w : World) : Calls Tryz.prog 91 #[.int .i64 s] w fun e w' => e = .returned (.bool (isT s)) ∧ Ext w w' := by
 by_cases h1 : 0 ≤ s
 · go_enter Tryz.func91, Tryz.ntmps91
   go_wp2
   all_goals
    go_ret
    refine ⟨ret_bool ?_, Ext.refl _⟩
    rw [Bool.eq_iff_iff]
    simp [isT]
    try omega
 · go_enter Tryz.func91, Tryz.ntmps91
   go_wp2
   all_goals
    go_ret
    refine ⟨ret_bool ?_, Ext.refl _⟩
    rw [Bool.eq_iff_iff]
    simp [isT]
    try omega
theorem and1 {s k : Int} (x : Int) (hx : 0 ≤ x ∧ x < 48) (h : s / 2 ^ k.toNat = x) : (bits .and .i64 x 1 == 1) = ngI s k := by
 have h1 : ∀ n : Nat, n < 48 → (bits .and .i64 (n : Int) 1 == 1) = decide ((n : Int) % 2 = 1) := by decide +kernel
 have h2 := h1 x.toNat (by omega)
 rw [Int.toNat_of_nonneg hx.1] at h2
 unfold ngI
 rw [h, h2]
set_option maxRecDepth 100000 in
set_option maxHeartbeats 4000000 in
theorem axis_any (s k : Int) (hs : 0 ≤ s ∧ s < 48) (hk : 0 ≤ k ∧ k < 3) (w : World) (hA : AxesIn w) : Calls Tryz.prog 126 #[.int .i64 s, .int .i64 k] w fun e w' => e = .returned (.tuple #[.int .i64 (axI s k), .bool (ngI s k)]) ∧ Ext w w' := by
 have hq : s.tdiv 8 = s / 8 := Int.tdiv_eq_ediv_of_nonneg hs.1
 unfold axI
 obtain ⟨q, hq2⟩ : ∃ q, s / 8 = q := ⟨_, rfl⟩
 have hql : 0 ≤ q ∧ q < 6 := by omega
 have c0 := hA.at_ q.toNat (by omega)
 have hl := hA.lt
 rw [hq2] at hq ⊢
 obtain rfl | rfl | rfl : k = 0 ∨ k = 1 ∨ k = 2 := by omega
 · obtain rfl | rfl | rfl | rfl | rfl | rfl : q = 0 ∨ q = 1 ∨ q = 2 ∨ q = 3 ∨ q = 4 ∨ q = 5 := by omega
   · have c0 : w.cell? ⟨1, 0, none⟩ = some (strV [120, 121, 122]) := c0
     have hb := and1 (s := s) (k := 0) (s) (by omega) (by first | rfl | exact Int.ediv_one s)
     rw [← hb]
     clear hb
     go_enter Tryz.func126, Tryz.ntmps126
     go_upto_region 1 with fail
     go_region
     go_wp2_with fail
     exact bodyPost_ret (v := .tuple #[.int .i64 0, .bool (bits .and .i64 (s) 1 == 1)]) (by simp [results, Tryz.results126, go_sem]; rfl) rfl ⟨rfl, (Ext.refl _).drew⟩
   · have c0 : w.cell? ⟨1, 1, none⟩ = some (strV [120, 122, 121]) := c0
     have hb := and1 (s := s) (k := 0) (s) (by omega) (by first | rfl | exact Int.ediv_one s)
     rw [← hb]
     clear hb
     go_enter Tryz.func126, Tryz.ntmps126
     go_upto_region 1 with fail
     go_region
     go_wp2_with fail
     exact bodyPost_ret (v := .tuple #[.int .i64 0, .bool (bits .and .i64 (s) 1 == 1)]) (by simp [results, Tryz.results126, go_sem]; rfl) rfl ⟨rfl, (Ext.refl _).drew⟩
   · have c0 : w.cell? ⟨1, 2, none⟩ = some (strV [121, 120, 122]) := c0
     have hb := and1 (s := s) (k := 0) (s) (by omega) (by first | rfl | exact Int.ediv_one s)
     rw [← hb]
     clear hb
     go_enter Tryz.func126, Tryz.ntmps126
     go_upto_region 1 with fail
     go_region
     go_wp2_with fail
     exact bodyPost_ret (v := .tuple #[.int .i64 1, .bool (bits .and .i64 (s) 1 == 1)]) (by simp [results, Tryz.results126, go_sem]; rfl) rfl ⟨rfl, (Ext.refl _).drew⟩
   · have c0 : w.cell? ⟨1, 3, none⟩ = some (strV [121, 122, 120]) := c0
     have hb := and1 (s := s) (k := 0) (s) (by omega) (by first | rfl | exact Int.ediv_one s)
     rw [← hb]
     clear hb
     go_enter Tryz.func126, Tryz.ntmps126
     go_upto_region 1 with fail
     go_region
     go_wp2_with fail
     exact bodyPost_ret (v := .tuple #[.int .i64 1, .bool (bits .and .i64 (s) 1 == 1)]) (by simp [results, Tryz.results126, go_sem]; rfl) rfl ⟨rfl, (Ext.refl _).drew⟩
   · have c0 : w.cell? ⟨1, 4, none⟩ = some (strV [122, 120, 121]) := c0
     have hb := and1 (s := s) (k := 0) (s) (by omega) (by first | rfl | exact Int.ediv_one s)
     rw [← hb]
     clear hb
     go_enter Tryz.func126, Tryz.ntmps126
     go_upto_region 1 with fail
     go_region
     go_wp2_with fail
     exact bodyPost_ret (v := .tuple #[.int .i64 2, .bool (bits .and .i64 (s) 1 == 1)]) (by simp [results, Tryz.results126, go_sem]; rfl) rfl ⟨rfl, (Ext.refl _).drew⟩
   · have c0 : w.cell? ⟨1, 5, none⟩ = some (strV [122, 121, 120]) := c0
     have hb := and1 (s := s) (k := 0) (s) (by omega) (by first | rfl | exact Int.ediv_one s)
     rw [← hb]
     clear hb
     go_enter Tryz.func126, Tryz.ntmps126
     go_upto_region 1 with fail
     go_region
     go_wp2_with fail
     exact bodyPost_ret (v := .tuple #[.int .i64 2, .bool (bits .and .i64 (s) 1 == 1)]) (by simp [results, Tryz.results126, go_sem]; rfl) rfl ⟨rfl, (Ext.refl _).drew⟩
 · obtain rfl | rfl | rfl | rfl | rfl | rfl : q = 0 ∨ q = 1 ∨ q = 2 ∨ q = 3 ∨ q = 4 ∨ q = 5 := by omega
   · have c0 : w.cell? ⟨1, 0, none⟩ = some (strV [120, 121, 122]) := c0
     have hb := and1 (s := s) (k := 1) (s / 2) (by omega) (by first | rfl | exact Int.ediv_one s)
     rw [← hb]
     clear hb
     go_enter Tryz.func126, Tryz.ntmps126
     go_upto_region 1 with fail
     go_region
     go_wp2_with fail
     exact bodyPost_ret (v := .tuple #[.int .i64 1, .bool (bits .and .i64 (s / 2) 1 == 1)]) (by simp [results, Tryz.results126, go_sem]; rfl) rfl ⟨rfl, (Ext.refl _).drew⟩
   · have c0 : w.cell? ⟨1, 1, none⟩ = some (strV [120, 122, 121]) := c0
     have hb := and1 (s := s) (k := 1) (s / 2) (by omega) (by first | rfl | exact Int.ediv_one s)
     rw [← hb]
     clear hb
     go_enter Tryz.func126, Tryz.ntmps126
     go_upto_region 1 with fail
     go_region
     go_wp2_with fail
     exact bodyPost_ret (v := .tuple #[.int .i64 2, .bool (bits .and .i64 (s / 2) 1 == 1)]) (by simp [results, Tryz.results126, go_sem]; rfl) rfl ⟨rfl, (Ext.refl _).drew⟩
   · have c0 : w.cell? ⟨1, 2, none⟩ = some (strV [121, 120, 122]) := c0
     have hb := and1 (s := s) (k := 1) (s / 2) (by omega) (by first | rfl | exact Int.ediv_one s)
     rw [← hb]
     clear hb
     go_enter Tryz.func126, Tryz.ntmps126
     go_upto_region 1 with fail
     go_region
     go_wp2_with fail
     exact bodyPost_ret (v := .tuple #[.int .i64 0, .bool (bits .and .i64 (s / 2) 1 == 1)]) (by simp [results, Tryz.results126, go_sem]; rfl) rfl ⟨rfl, (Ext.refl _).drew⟩
   · have c0 : w.cell? ⟨1, 3, none⟩ = some (strV [121, 122, 120]) := c0
     have hb := and1 (s := s) (k := 1) (s / 2) (by omega) (by first | rfl | exact Int.ediv_one s)
     rw [← hb]
     clear hb
     go_enter Tryz.func126, Tryz.ntmps126
     go_upto_region 1 with fail
     go_region
     go_wp2_with fail
     exact bodyPost_ret (v := .tuple #[.int .i64 2, .bool (bits .and .i64 (s / 2) 1 == 1)]) (by simp [results, Tryz.results126, go_sem]; rfl) rfl ⟨rfl, (Ext.refl _).drew⟩
   · have c0 : w.cell? ⟨1, 4, none⟩ = some (strV [122, 120, 121]) := c0
     have hb := and1 (s := s) (k := 1) (s / 2) (by omega) (by first | rfl | exact Int.ediv_one s)
     rw [← hb]
     clear hb
     go_enter Tryz.func126, Tryz.ntmps126
     go_upto_region 1 with fail
     go_region
     go_wp2_with fail
     exact bodyPost_ret (v := .tuple #[.int .i64 0, .bool (bits .and .i64 (s / 2) 1 == 1)]) (by simp [results, Tryz.results126, go_sem]; rfl) rfl ⟨rfl, (Ext.refl _).drew⟩
   · have c0 : w.cell? ⟨1, 5, none⟩ = some (strV [122, 121, 120]) := c0
     have hb := and1 (s := s) (k := 1) (s / 2) (by omega) (by first | rfl | exact Int.ediv_one s)
     rw [← hb]
     clear hb
     go_enter Tryz.func126, Tryz.ntmps126
     go_upto_region 1 with fail
     go_region
     go_wp2_with fail
     exact bodyPost_ret (v := .tuple #[.int .i64 1, .bool (bits .and .i64 (s / 2) 1 == 1)]) (by simp [results, Tryz.results126, go_sem]; rfl) rfl ⟨rfl, (Ext.refl _).drew⟩
 · obtain rfl | rfl | rfl | rfl | rfl | rfl : q = 0 ∨ q = 1 ∨ q = 2 ∨ q = 3 ∨ q = 4 ∨ q = 5 := by omega
   · have c0 : w.cell? ⟨1, 0, none⟩ = some (strV [120, 121, 122]) := c0
     have hb := and1 (s := s) (k := 2) (s / 4) (by omega) (by first | rfl | exact Int.ediv_one s)
     rw [← hb]
     clear hb
     go_enter Tryz.func126, Tryz.ntmps126
     go_upto_region 1 with fail
     go_region
     go_wp2_with fail
     exact bodyPost_ret (v := .tuple #[.int .i64 2, .bool (bits .and .i64 (s / 4) 1 == 1)]) (by simp [results, Tryz.results126, go_sem]; rfl) rfl ⟨rfl, (Ext.refl _).drew⟩
   · have c0 : w.cell? ⟨1, 1, none⟩ = some (strV [120, 122, 121]) := c0
     have hb := and1 (s := s) (k := 2) (s / 4) (by omega) (by first | rfl | exact Int.ediv_one s)
     rw [← hb]
     clear hb
     go_enter Tryz.func126, Tryz.ntmps126
     go_upto_region 1 with fail
     go_region
     go_wp2_with fail
     exact bodyPost_ret (v := .tuple #[.int .i64 1, .bool (bits .and .i64 (s / 4) 1 == 1)]) (by simp [results, Tryz.results126, go_sem]; rfl) rfl ⟨rfl, (Ext.refl _).drew⟩
   · have c0 : w.cell? ⟨1, 2, none⟩ = some (strV [121, 120, 122]) := c0
     have hb := and1 (s := s) (k := 2) (s / 4) (by omega) (by first | rfl | exact Int.ediv_one s)
     rw [← hb]
     clear hb
     go_enter Tryz.func126, Tryz.ntmps126
     go_upto_region 1 with fail
     go_region
     go_wp2_with fail
     exact bodyPost_ret (v := .tuple #[.int .i64 2, .bool (bits .and .i64 (s / 4) 1 == 1)]) (by simp [results, Tryz.results126, go_sem]; rfl) rfl ⟨rfl, (Ext.refl _).drew⟩
   · have c0 : w.cell? ⟨1, 3, none⟩ = some (strV [121, 122, 120]) := c0
     have hb := and1 (s := s) (k := 2) (s / 4) (by omega) (by first | rfl | exact Int.ediv_one s)
     rw [← hb]
     clear hb
     go_enter Tryz.func126, Tryz.ntmps126
     go_upto_region 1 with fail
     go_region
     go_wp2_with fail
     exact bodyPost_ret (v := .tuple #[.int .i64 0, .bool (bits .and .i64 (s / 4) 1 == 1)]) (by simp [results, Tryz.results126, go_sem]; rfl) rfl ⟨rfl, (Ext.refl _).drew⟩
   · have c0 : w.cell? ⟨1, 4, none⟩ = some (strV [122, 120, 121]) := c0
     have hb := and1 (s := s) (k := 2) (s / 4) (by omega) (by first | rfl | exact Int.ediv_one s)
     rw [← hb]
     clear hb
     go_enter Tryz.func126, Tryz.ntmps126
     go_upto_region 1 with fail
     go_region
     go_wp2_with fail
     exact bodyPost_ret (v := .tuple #[.int .i64 1, .bool (bits .and .i64 (s / 4) 1 == 1)]) (by simp [results, Tryz.results126, go_sem]; rfl) rfl ⟨rfl, (Ext.refl _).drew⟩
   · have c0 : w.cell? ⟨1, 5, none⟩ = some (strV [122, 121, 120]) := c0
     have hb := and1 (s := s) (k := 2) (s / 4) (by omega) (by first | rfl | exact Int.ediv_one s)
     rw [← hb]
     clear hb
     go_enter Tryz.func126, Tryz.ntmps126
     go_upto_region 1 with fail
     go_region
     go_wp2_with fail
     exact bodyPost_ret (v := .tuple #[.int .i64 0, .bool (bits .and .i64 (s / 4) 1 == 1)]) (by simp [results, Tryz.results126, go_sem]; rfl) rfl ⟨rfl, (Ext.refl _).drew⟩
end Go.Proofs.YtlinhgannajfpaaGreatDoor
