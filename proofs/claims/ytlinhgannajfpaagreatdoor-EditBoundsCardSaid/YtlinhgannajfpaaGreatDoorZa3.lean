/- YtlinhgannajfpaaGreatDoorExD · YtlinhgannajfpaaGreatDoorCo · YtlinhgannajfpaaGreatDoorWr · YtlinhgannajfpaaGreatDoorVs · YtlinhgannajfpaaGreatDoorVk · YtlinhgannajfpaaGreatDoorVd · YtlinhgannajfpaaGreatDoorVc · YtlinhgannajfpaaGreatDoorVa · YtlinhgannajfpaaGreatDoorWi · YtlinhgannajfpaaGreatDoorWj · YtlinhgannajfpaaGreatDoorWk · YtlinhgannajfpaaGreatDoorVb -/
import Derived.Deep.DeepCutAuto
import Derived.Deep.Cut
import Derived.ChangeKeysEq
import Derived.Laws.BytesArg
import Derived.Laws.Bits64
import Derived.Test.YtlinhgannajfpaaGreatDoorZa2
/- Memory that grows and draws that are never taken back; regions of such operations; two variables made and stored in one region. -/
namespace Go.Proofs.YtlinhgannajfpaaGreatDoor
open Go Go.RowKit

structure ExtD (w w' : World) : Prop where
 ext : Ext w w'
 drawn : w.drawn ≤ w'.drawn
theorem ExtD.refl (w : World) : ExtD w w := ⟨Ext.refl w, Nat.le_refl _⟩
theorem ExtD.trans {a b c : World} (h : ExtD a b) (k : ExtD b c) : ExtD a c := ⟨h.ext.trans k.ext, Nat.le_trans h.drawn k.drawn⟩
theorem ExtD.drew {a w : World} (h : ExtD a w) : ExtD a w.drew := ⟨h.ext.drew, Nat.le_trans h.drawn (Nat.le_succ _)⟩
theorem ExtD.alloc {a w : World} (h : ExtD a w) (o : Obj) : ExtD a (w.alloc o) := ⟨h.ext.alloc o, h.drawn⟩
theorem ExtD.setCell {a w : World} (h : ExtD a w) {p : Addr} (hp : a.heap.size ≤ p.block) (u : Value) : ExtD a (w.setCell p u) := ⟨h.ext.setCell hp u, h.drawn⟩
theorem ExtD.setRow {a w : World} (h : ExtD a w) {g : Nat} (hg : a.heap.size ≤ g) (cs : Array Value) : ExtD a (w.setRow g cs) := ⟨h.ext.setRow hg cs, h.drawn⟩
theorem byXD {a w : World} (h : ExtD a w := by repeat (first | with_reducible exact ExtD.refl _ | with_reducible assumption | with_reducible refine ExtD.alloc ?_ _ | with_reducible refine ExtD.drew ?_ | (with_reducible refine ExtD.setCell ?_ ?_ _; rotate_left; focus (first | (simp; done) | (simp; omega) | omega)) | (with_reducible refine ExtD.setRow ?_ ?_ _; rotate_left; focus (first | (simp; done) | (simp; omega) | omega)) | with_reducible refine ExtD.trans ?_ (by with_reducible assumption))) : ExtD a w := h
theorem ExtD.same {a w w' : World} (h : ExtD a w) (e : w = w') : ExtD a w' := e ▸ h
section
variable {P : Program}
theorem wp_region_relD {Q : Exit → Act → World → Prop} {id : Nat} {a : Act} {w : World} {l : List Oper} (Good : Nat → Value → World → Prop) (hm : P.follows .mixedOrders = true) (hs : slotsB l.toArray = true) (hb : backB l.toArray = true) (hfit : ((List.range l.length).all fun j => match dstOf l.toArray j with | some d => decide (d < a.tmps.size) | none => true) = true)
    (hst : ∀ i v w1 w2, Ext w1 w2 → Good i v w1 → Good i v w2)
    (hstep : ∀ (i : Nat) (o : Oper), l[i]? = some o → ∀ (b : Act) (w1 : World), ExtD w w1 → (∀ d : Nat, missB l.toArray d = true → b.tmps[d]? = a.tmps[d]?) →
      (∀ j, waits o j = true → ∃ v, Good j v w1 ∧ ∀ d, dstOf l.toArray j = some d → b.tmps[d]? = some v) →
      ∀ K : Act → World → Prop, (∀ v w', ExtD w1 w' → Good i v w' → K (b.put o.dst v) w') → if Region.wanted o (yielded l.toArray b.tmps) = true then o.wp P b w1 K Q else K (b.put o.dst undef) w1)
    (hend : ∀ (V : Nat → Value) (w1 : World), ExtD w w1 → (∀ i, i < l.length → Good i (V i) w1) → Q .normal (fillAllN l.toArray V a l.length) w1) : (Code.region id l.toArray true).wp P Q a w := by
 have hS := slotsB_spec hs
 have hB := backB_spec hb
 refine wp_region_tabg (G := Nat → Value) (fun g => g) (fun w listed g w1 => ExtD w w1 ∧ ∀ i, i < l.length → listed.getD i true = true → Good i (g i) w1) (fun _ => undef) hm hS hB ?_ ?_ ?_
 · refine ⟨(ExtD.refl _).drew, fun i hi h => ?_⟩
   have : (Array.replicate l.length false).getD i true = false := by simp [Array.getD, hi]
   rw [this] at h
   cases h
 · intro listed g w1 i o ho hun hdep hR K hK
   have hil : i < l.length := (List.getElem?_eq_some_iff.1 ho).1
   refine hstep i o ho (fill l.toArray g listed a) w1 hR.1 (fun d hd => fill_miss (fun i hi _ => missB_spec hd i hi)) (fun j hj => ?_) K (fun v w' hx hg => ?_)
   · obtain ⟨e, he, rfl, hbd⟩ := waits_spec hj
     have h1 := getD_up (hdep e he hbd)
     have h2 : e.on < l.length := by have := hB i o (by simpa using ho) e he; omega
     refine ⟨g e.on, hR.2 _ h2 h1, fun d hd => fill_hit hS (by simpa using h2) h1 hd ?_⟩
     rw [List.all_eq_true] at hfit
     have h3 := hfit e.on (List.mem_range.2 h2)
     rw [hd] at h3
     simpa using h3
   · have h := hK (fun k => if k = i then v else g k) w' ⟨hR.1.trans hx, fun j hj hl => ?_⟩ (fun j hj hl => ?_)
     · simpa using h
     · by_cases hji : j = i
       · subst hji; simpa using hg
       · simp only [if_neg hji]
         rw [getD_set_ne true (Ne.symm hji)] at hl
         exact hst _ _ _ _ hx.ext (hR.2 j hj hl)
     · have hne : j ≠ i := fun e => by subst e; rw [hl] at hun; cases hun
       simp only [if_neg hne]
 · intro listed g w1 hall hR
   rw [fill_done hall]
   exact hend g w1 hR.1 (fun i hi => hR.2 i hi (hall i hi))


variable {o : Oper} {b : Act} {w1 : World} {K : Act → World → Prop} {Q : Exit → Act → World → Prop}
theorem op_callD {f : FuncId} {args : Array Operand} {ts : Array TypeId} {vs : Array Value} {G : Value → World → Prop} (ho : o.op = .call { callee := .value (.func f), args := args, argTypes := ts }) (ha : args.map b.eval = vs) (he : ∀ args w, (callFunc f args).run P w = .ok (.enter f args) w)
    (hc : Calls P f vs w1 fun e w' => ∃ v, e = .returned v ∧ ExtD w1 w' ∧ G v w') (h : ∀ v w', ExtD w1 w' → G v w' → K (b.put o.dst v) w') : o.wp P b w1 K Q := by
 have hr : (execOp b.eval o).run P w1 = .ok (.enter f vs) w1 := by
  unfold execOp
  simp [ho, resolve, invoke, Deferred.ofValue, Act.eval, ha, he]
 unfold Oper.wp
 rw [hr, Oper.upon_enter]
 refine hc.mono ?_
 rintro e w' ⟨v, rfl, hx, hg⟩
 exact h v w' hx hg

def nearD (w : World) (n : Nat) (os : Array Obj) : World := { w with heap := w.heap ++ os, drawn := w.drawn + n }
theorem nearD_old (w : World) (n : Nat) (os : Array Obj) (b o : Nat) (h : b < w.heap.size) : (nearD w n os).cell? ⟨b, o, none⟩ = w.cell? ⟨b, o, none⟩ := by
 simp only [World.cell?, nearD, Array.getElem?_append, h, if_true]
theorem nearD_drew (w : World) : w.drew = nearD w 1 #[] := by unfold nearD World.drew; rw [Array.append_empty]
theorem ExtD.of_nearD {w w' : World} (h : ∃ p : Near, w' = nearD w p.n p.os) : ExtD w w' := by
 obtain ⟨p, rfl⟩ := h
 have h1 : Ext w (near w (w.drawn + p.n) p.os) := Ext.of_near ⟨⟨_, p.os⟩, rfl⟩
 exact ⟨h1, Nat.le_add_right _ _⟩
theorem ExtD.nearD {w w' : World} (h : ExtD w w') : ∃ p : Near, w' = Go.Proofs.YtlinhgannajfpaaGreatDoor.nearD w p.n p.os := by
 obtain ⟨p, hp⟩ := h.ext.near
 have hd := h.drawn
 refine ⟨⟨w'.drawn - w.drawn, p.os⟩, ?_⟩
 rw [hp] at hd ⊢
 unfold Go.Proofs.YtlinhgannajfpaaGreatDoor.nearD Go.Proofs.YtlinhgannajfpaaGreatDoor.near at *
 simp only at hd ⊢
 congr 1
 omega
theorem wp_region_nearD_tail {id : Nat} {Q : Exit → Act → World → Prop} {a : Act} {w : World} {l : List Oper} (n : Nat) (hm : P.follows .mixedOrders = true) (hB : Region.lexTailB .any l.toArray n = true)
    (h : wpQuiet P l.toArray (fun w' => ∃ p : Near, w' = nearD w p.n p.os) (fun a' => ∀ w', (∃ p : Near, w' = nearD w p.n p.os) → wpList P l.toArray Q (l.drop n) a' w') (l.take n) a) : (Code.region id l.toArray true).wp P Q a w :=
 wp_region_head n hm hB ⟨⟨1, #[]⟩, nearD_drew w⟩ h
theorem nearD_same {f : FuncId} {args : Array Value} {w : World} {n : Nat} {os : Array Obj} {v : Value}
    (h : Calls P f args (nearD w n os) fun e w' => e = .returned v ∧ nearD w n os = w') : Calls P f args (nearD w n os) fun e w'' => e = .returned v ∧ ∃ p : Near, w'' = nearD w p.n p.os :=
 h.mono fun _ _ ⟨he, hx⟩ => ⟨he, ⟨⟨n, os⟩, hx.symm⟩⟩
theorem wpList_append_svD {ops : Array Oper} {rest : List Oper} {o : Oper} {a : Act} {w : World} {Q : Exit → Act → World → Prop} (hgd : o.guard = none) (s x : Operand) (t : TypeId)
    (ho : o.op = .call { callee := .builtin .append, args := #[s, x], argTypes := #[t, t] })
    (base : Nat) (e : TypeId) (i : TypeInfo) (z : Value) (size bytes : Nat) (ht : P.underlying t = some (.slice e)) (hi : P.info? e = some i) (hz : i.zero = some z)
    (hsize : i.size = size) (hby : i.bytes = bytes) (hzs : z.cells.size = size) (hsz : 0 < size)
    (v : Value) (n : Nat) (xs : List Value) (hs : a.eval s = v) (hown : w.ownsRow base e size v n xs)
    (B : Nat) (A : Option Addr) (m c : Nat) (news : List (List Value)) (hx : a.eval x = .slice A m c) (hr : Sv w B size A c news) (hm : news.length = m)
    (h63 : n + m ≤ maxLen) (hbytes : (n + m) * bytes ≤ 140737488355328) (hbase : base ≤ w.heap.size)
    (h : ∀ v' w', w'.ownsRow base e size v' (n + m) (xs ++ news.flatten) → w.grownBy w' v.ownBlock → (v'.ownBlock = v.ownBlock ∨ v'.ownBlock = some w.heap.size) → w.drawn ≤ w'.drawn → wpList P ops Q rest (a.put o.dst v') w') : wpList P ops Q (o :: rest) a w := by
 refine wpList_plain hgd fun K hK' => ?_
 obtain ⟨v', w', hrun, r1, r2, r3⟩ := run_append_sv (P := P) w base t o.type e i z size bytes ht hi hz hsize hby hzs hsz v n xs hown B A m c news hr hm h63 hbytes hbase
 have hd := Sem_run_drawn P _ _ _ _ hrun
 unfold Oper.wp
 simp [execOp, ho, resolve, invoke, builtin, hs, hx, hrun, Result.andThen]
 exact hK' _ _ (h v' w' r1 r2 r3 hd)
theorem ExtD.own {a w w' : World} {base n k : Nat} {e : TypeId} {v : Value} {zs : List Value} (h : ExtD a w) (ho : w.ownsRow base e k v n zs) (hg : w.grownBy w' v.ownBlock) (hd : w.drawn ≤ w'.drawn) (hb : a.heap.size ≤ base) : ExtD a w' := ⟨h.ext.own ho hg hb, Nat.le_trans h.drawn hd⟩

theorem noGuardD {l : List Oper} (h : (l.all fun o => o.guard.isNone) = true) : ∀ (i : Nat) (o : Oper), l[i]? = some o → o.guard = none := fun i o ho => by
 rw [List.all_eq_true] at h
 simpa using h o (List.mem_of_getElem? ho)
structure Box2 (T : TypeId) (n : Nat) (zs c0 c1 : List Value) (W : World) (listed : Array Bool) (g : Nat × Nat) (w : World) : Prop where
 ext : ExtD W w
 l0 : listed.getD n true = true → W.heap.size ≤ g.1 ∧ Arr w g.1 T (if listed.getD (n + 2) true = true then c0 else zs)
 l1 : listed.getD (n + 1) true = true → W.heap.size ≤ g.2 ∧ Arr w g.2 T (if listed.getD (n + 3) true = true then c1 else zs)
 ne : listed.getD n true = true → listed.getD (n + 1) true = true → g.1 ≠ g.2
 s0 : listed.getD (n + 2) true = true → listed.getD n true = true
 s1 : listed.getD (n + 3) true = true → listed.getD (n + 1) true = true
def box2V (V : Nat → Value) (n : Nat) (g : Nat × Nat) (i : Nat) : Value := if i < n then V i else if i = n then .pointer (some ⟨g.1, 0, none⟩) else if i = n + 1 then .pointer (some ⟨g.2, 0, none⟩) else undef
theorem Box2.keep {T n : Nat} {zs c0 c1 : List Value} {W w w' : World} {listed : Array Bool} {g : Nat × Nat} (h : Box2 T n zs c0 c1 W listed g w) {i : Nat} (hi : i < n) (hx : ExtD w w') : Box2 T n zs c0 c1 W (listed.setIfInBounds i true) g w' := by
 have h1 : ∀ k, n ≤ k → (listed.setIfInBounds i true).getD k true = listed.getD k true := fun k hk => getD_set_ne true (by omega)
 refine ⟨h.ext.trans hx, ?_, ?_, ?_, ?_, ?_⟩
 · rw [h1 n (Nat.le_refl _), h1 (n + 2) (by omega)]; intro h3; exact ⟨(h.l0 h3).1, (h.l0 h3).2.ext hx.ext⟩
 · rw [h1 (n + 1) (by omega), h1 (n + 3) (by omega)]; intro h3; exact ⟨(h.l1 h3).1, (h.l1 h3).2.ext hx.ext⟩
 · rw [h1 n (Nat.le_refl _), h1 (n + 1) (by omega)]; exact h.ne
 · rw [h1 n (Nat.le_refl _), h1 (n + 2) (by omega)]; exact h.s0
 · rw [h1 (n + 1) (by omega), h1 (n + 3) (by omega)]; exact h.s1
theorem wp_region_two {id : Nat} {Q : Exit → Act → World → Prop} {a : Act} {w : World} {l : List Oper} (V : Nat → Value) (n T d0 d1 sv0 sv1 iv0 iv1 : Nat) (zs c0 c1 : List Value) (hm : P.follows .mixedOrders = true) (hs : slotsB l.toArray = true) (hb : backB l.toArray = true)
    (hg : ∀ (i : Nat) (o : Oper), l[i]? = some o → o.guard = none) (hln : l.length = n + 4)
    (ha0 : ∃ o, l[n]? = some o ∧ o.op = .alloc T ∧ o.dst = some d0) (ha1 : ∃ o, l[n + 1]? = some o ∧ o.op = .alloc T ∧ o.dst = some d1)
    (hs0 : ∃ o, l[n + 2]? = some o ∧ o.op = .store T (.tmp d0) (.tmp sv0) ∧ o.dst = none ∧ waits o n = true ∧ waits o iv0 = true)
    (hs1 : ∃ o, l[n + 3]? = some o ∧ o.op = .store T (.tmp d1) (.tmp sv1) ∧ o.dst = none ∧ waits o (n + 1) = true ∧ waits o iv1 = true)
    (hi0 : iv0 < n) (hi1 : iv1 < n) (hv0 : dstOf l.toArray iv0 = some sv0) (hv1 : dstOf l.toArray iv1 = some sv1) (hb0 : sv0 < a.tmps.size) (hb1 : sv1 < a.tmps.size) (hd0 : d0 < a.tmps.size) (hd1 : d1 < a.tmps.size) (hV0 : V iv0 = .agg c0.toArray) (hV1 : V iv1 = .agg c1.toArray)
    (hz : ∃ i z, P.info? T = some i ∧ i.zero = some z ∧ z.cells.toList = zs) (hi : (P.info? T).map (·.size) = some zs.length) (hz0 : c0.length = zs.length) (hz1 : c1.length = zs.length) (ho0 : c0.all (·.oneCell') = true) (ho1 : c1.all (·.oneCell') = true)
    (hhead : ∀ (listed : Array Bool) (w1 : World) (i : Nat) (o : Oper), l[i]? = some o → i < n → (∀ e, e ∈ o.after → Region.binds .any e = true → listed.getD e.on false = true) → ExtD w w1 →
      ∀ (b : Act) (K : Act → World → Prop), (∀ d : Nat, missB l.toArray d = true → b.tmps[d]? = a.tmps[d]?) → (∀ j d, j < n → listed.getD j true = true → dstOf l.toArray j = some d → d < a.tmps.size → b.tmps[d]? = some (V j)) →
      (∀ w', ExtD w1 w' → K (b.put o.dst (V i)) w') → o.wp P b w1 K Q)
    (hend : ∀ (g : Nat × Nat) w1, ExtD w w1 → w.heap.size ≤ g.1 → w.heap.size ≤ g.2 → Arr w1 g.1 T c0 → Arr w1 g.2 T c1 → g.1 ≠ g.2 → Q .normal (fillAllN l.toArray (box2V V n g) a l.length) w1) : (Code.region id l.toArray true).wp P Q a w := by
 refine wp_region_slots (box2V V n) (Box2 T n zs c0 c1) (0, 0) hm hs hb hg ?_ ?_ ?_
 · have h0 : ∀ k, k < l.length → (Array.replicate l.length false).getD k true = false := fun k hk => by simp [Array.getD, hk]
   exact ⟨(ExtD.refl _).drew, fun h => (by rw [h0 n (by omega)] at h; cases h), fun h => (by rw [h0 (n + 1) (by omega)] at h; cases h), fun h => (by rw [h0 n (by omega)] at h; cases h), fun h => (by rw [h0 (n + 2) (by omega)] at h; cases h), fun h => (by rw [h0 (n + 3) (by omega)] at h; cases h)⟩
 · intro listed g w1 i o ho hun hdep hR b K E0 E1 hK
   have hil : i < l.length := (List.getElem?_eq_some_iff.1 ho).1
   obtain ⟨ie, z, hie, hzz, hzl2⟩ := hz
   have hzc : z.cells = zs.toArray := by rw [← hzl2]
   have hlist : ∀ k, k ≠ i → (listed.setIfInBounds i true).getD k true = listed.getD k true := fun k hk => getD_set_ne true (Ne.symm hk)
   have hset : (listed.setIfInBounds i true).getD i true = true := by
    by_cases h : i < listed.size <;> simp [Array.getD, h]
   have hwait : ∀ j, waits o j = true → listed.getD j true = true := fun j hj => by
    obtain ⟨e, he, rfl, hbd⟩ := waits_spec hj
    exact getD_up (hdep e he hbd)
   by_cases hin : i < n
   · refine hhead listed w1 i o ho hin hdep hR.ext b K E0 (fun j d hj hl hd hds => ?_) (fun w' hx => ?_)
     · have h := E1 j d (by omega) hl hd hds
       rw [h]; unfold box2V; rw [if_pos hj]
     · have h := hK g w' (hR.keep hin hx) (fun _ _ _ => rfl)
       unfold box2V at h
       rw [if_pos hin] at h
       exact h
   · rcases (show i = n ∨ i = n + 1 ∨ i = n + 2 ∨ i = n + 3 by omega) with rfl | rfl | rfl | rfl
     · obtain ⟨o2, ho2, hop, hdst⟩ := ha0
       rw [ho] at ho2; injection ho2 with ho2; subst ho2
       have hnext : listed.getD (i + 2) true = false := by
        cases hq : listed.getD (i + 2) true
        · rfl
        · have := hR.s0 hq; rw [this] at hun; cases hun
       have hK2 := hK (w1.heap.size, g.2) (w1.alloc (.cells zs.toArray T)) ⟨hR.ext.alloc _, fun _ => ⟨hR.ext.ext.size, by rw [hlist _ (by omega), hnext]; exact Arr.new w1 T zs⟩, fun h => (by
           rw [hlist _ (by omega)] at h
           rw [hlist _ (by omega)]
           exact ⟨(hR.l1 h).1, (hR.l1 h).2.alloc _⟩), fun _ h => (by
           rw [hlist _ (by omega)] at h
           have := (hR.l1 h).2.lt
           simp only
           omega), fun _ => hset, fun h => (by rw [hlist _ (by omega)] at h; rw [hlist _ (by omega)]; exact hR.s1 h)⟩ (fun j hj hl => by
           have hne : j ≠ i := fun e => by subst e; rw [hl] at hun; cases hun
           unfold box2V
           simp only [if_neg hne])
       have hbv : box2V V i (w1.heap.size, g.2) i = .pointer (some ⟨w1.heap.size, 0, none⟩) := by unfold box2V; simp
       rw [hbv] at hK2
       have hrun : (execOp b.eval o).run P w1 = .ok (.value (.pointer (some ⟨w1.heap.size, 0, none⟩))) (w1.alloc (.cells zs.toArray T)) := by
        unfold execOp
        simp only [hop]
        simp [Instr.alloc, zeroValue, typeInfo, hie, hzz, newVar, newRow, hzc]
       unfold Oper.wp
       rw [hrun]
       exact hK2
     · obtain ⟨o2, ho2, hop, hdst⟩ := ha1
       rw [ho] at ho2; injection ho2 with ho2; subst ho2
       have hnext : listed.getD (n + 3) true = false := by
        cases hq : listed.getD (n + 3) true
        · rfl
        · have := hR.s1 hq; rw [this] at hun; cases hun
       have hK2 := hK (g.1, w1.heap.size) (w1.alloc (.cells zs.toArray T)) ⟨hR.ext.alloc _, fun h => (by
           rw [hlist _ (by omega)] at h
           rw [hlist _ (by omega)]
           exact ⟨(hR.l0 h).1, (hR.l0 h).2.alloc _⟩), fun _ => ⟨hR.ext.ext.size, by rw [hlist _ (by omega), hnext]; exact Arr.new w1 T zs⟩, fun h _ => (by
           rw [hlist _ (by omega)] at h
           have := (hR.l0 h).2.lt
           simp only
           omega), fun h => (by rw [hlist _ (by omega)] at h; rw [hlist _ (by omega)]; exact hR.s0 h), fun _ => hset⟩ (fun j hj hl => by
           have hne : j ≠ n + 1 := fun e => by subst e; rw [hl] at hun; cases hun
           unfold box2V
           simp only [if_neg hne])
       have hbv : box2V V n (g.1, w1.heap.size) (n + 1) = .pointer (some ⟨w1.heap.size, 0, none⟩) := by unfold box2V; rw [if_neg (by omega), if_neg (by omega), if_pos rfl]
       rw [hbv] at hK2
       have hrun : (execOp b.eval o).run P w1 = .ok (.value (.pointer (some ⟨w1.heap.size, 0, none⟩))) (w1.alloc (.cells zs.toArray T)) := by
        unfold execOp
        simp only [hop]
        simp [Instr.alloc, zeroValue, typeInfo, hie, hzz, newVar, newRow, hzc]
       unfold Oper.wp
       rw [hrun]
       exact hK2
     · obtain ⟨o2, ho2, hop, hdst, hw1, hw2⟩ := hs0
       rw [ho] at ho2; injection ho2 with ho2; subst ho2
       have hl1 := hwait _ hw1
       have hl2 := hwait _ hw2
       obtain ⟨q1, q2⟩ := hR.l0 hl1
       rw [hun] at q2
       simp only [Bool.false_eq_true, if_false] at q2
       obtain ⟨oa, hoa, hopa, hdsta⟩ := ha0
       have hda : dstOf l.toArray n = some d0 := by simp [dstOf, hoa, hdsta]
       have t1 := E1 n d0 (by omega) hl1 hda hd0
       have t2 := E1 iv0 sv0 (by omega) hl2 hv0 hb0
       have bv1 : box2V V n g n = .pointer (some ⟨g.1, 0, none⟩) := by unfold box2V; simp
       have bv2 : box2V V n g iv0 = .agg c0.toArray := by unfold box2V; rw [if_pos hi0, hV0]
       rw [bv1] at t1
       rw [bv2] at t2
       have hK2 := hK g (w1.setRow g.1 c0.toArray) ⟨hR.ext.setRow q1 _, fun _ => ⟨q1, by rw [hset]; exact q2.setRow c0⟩, fun h => (by
           rw [hlist _ (by omega)] at h
           rw [hlist _ (by omega)]
           exact ⟨(hR.l1 h).1, (hR.l1 h).2.setRow_other (Ne.symm (hR.ne hl1 h)) _⟩), fun h k => (by rw [hlist _ (by omega)] at h k; exact hR.ne h k), fun _ => by rw [hlist n (by omega)]; exact hl1, fun h => (by rw [hlist _ (by omega)] at h; rw [hlist _ (by omega)]; exact hR.s1 h)⟩ (fun _ _ _ => rfl)
       have bv3 : box2V V n g (n + 2) = undef := by unfold box2V; rw [if_neg (by omega), if_neg (by omega), if_neg (by omega)]
       rw [bv3] at hK2
       exact wp_store_row T (.tmp d0) (.tmp sv0) hop g.1 c0.toArray (by simp [Act.eval, Array.getD_eq_getD_getElem?, t1]) (by simp [Act.eval, Array.getD_eq_getD_getElem?, t2]) T zs.toArray q2 (by rw [hi]; simp [hz0]) (by simp [hz0]) (by simpa using ho0) hK2
     · obtain ⟨o2, ho2, hop, hdst, hw1, hw2⟩ := hs1
       rw [ho] at ho2; injection ho2 with ho2; subst ho2
       have hl1 := hwait _ hw1
       have hl2 := hwait _ hw2
       obtain ⟨q1, q2⟩ := hR.l1 hl1
       rw [hun] at q2
       simp only [Bool.false_eq_true, if_false] at q2
       obtain ⟨oa, hoa, hopa, hdsta⟩ := ha1
       have hda : dstOf l.toArray (n + 1) = some d1 := by simp [dstOf, hoa, hdsta]
       have t1 := E1 (n + 1) d1 (by omega) hl1 hda hd1
       have t2 := E1 iv1 sv1 (by omega) hl2 hv1 hb1
       have bv1 : box2V V n g (n + 1) = .pointer (some ⟨g.2, 0, none⟩) := by unfold box2V; rw [if_neg (by omega), if_neg (by omega), if_pos rfl]
       have bv2 : box2V V n g iv1 = .agg c1.toArray := by unfold box2V; rw [if_pos hi1, hV1]
       rw [bv1] at t1
       rw [bv2] at t2
       have hK2 := hK g (w1.setRow g.2 c1.toArray) ⟨hR.ext.setRow q1 _, fun h => (by
           rw [hlist _ (by omega)] at h
           rw [hlist _ (by omega)]
           exact ⟨(hR.l0 h).1, (hR.l0 h).2.setRow_other (hR.ne h hl1) _⟩), fun _ => ⟨q1, by rw [hset]; exact q2.setRow c1⟩, fun h k => (by rw [hlist _ (by omega)] at h k; exact hR.ne h k), fun h => (by rw [hlist _ (by omega)] at h; rw [hlist _ (by omega)]; exact hR.s0 h), fun _ => by rw [hlist (n + 1) (by omega)]; exact hl1⟩ (fun _ _ _ => rfl)
       have bv3 : box2V V n g (n + 3) = undef := by unfold box2V; rw [if_neg (by omega), if_neg (by omega), if_neg (by omega)]
       rw [bv3] at hK2
       exact wp_store_row T (.tmp d1) (.tmp sv1) hop g.2 c1.toArray (by simp [Act.eval, Array.getD_eq_getD_getElem?, t1]) (by simp [Act.eval, Array.getD_eq_getD_getElem?, t2]) T zs.toArray q2 (by rw [hi]; simp [hz1]) (by simp [hz1]) (by simpa using ho1) hK2
 · intro listed g w1 hall hR
   rw [fill_done hall]
   obtain ⟨q1, q2⟩ := hR.l0 (hall n (by omega))
   obtain ⟨q3, q4⟩ := hR.l1 (hall (n + 1) (by omega))
   rw [if_pos (hall (n + 2) (by omega))] at q2
   rw [if_pos (hall (n + 3) (by omega))] at q4
   exact hend g w1 hR.ext q1 q3 q2 q4 (hR.ne (hall n (by omega)) (hall (n + 1) (by omega)))
end
end Go.Proofs.YtlinhgannajfpaaGreatDoor

/- edit.coordinates. -/
namespace Go.Proofs.YtlinhgannajfpaaGreatDoor
open Go Go.RowKit

theorem info_parts {i : Option TypeInfo} {z : Value} {n b : Nat} (h : i.map (fun i => (i.zero, i.size, i.bytes)) = some (some z, n, b)) : ∃ i0, i = some i0 ∧ i0.zero = some z ∧ i0.size = n ∧ i0.bytes = b := by
 cases i with
 | none => cases h
 | some i0 => simp at h; exact ⟨i0, rfl, h.1, h.2.1, h.2.2⟩
def coordsL (l : List Pt) : List Int := l.flatMap fun p => [p.x, p.y, p.z]
theorem coordsL_length (l : List Pt) : (coordsL l).length = 3 * l.length := by
 induction l with
 | nil => rfl
 | cons p l ih => simp only [coordsL, List.flatMap_cons, List.length_append, List.length_cons, List.length_nil] at ih ⊢; omega
theorem coordsL_snoc (l : List Pt) (p : Pt) : coordsL (l ++ [p]) = coordsL l ++ [p.x, p.y, p.z] := by simp [coordsL]
theorem rowsI_append (a b : List Int) : rowsI (a ++ b) = rowsI a ++ rowsI b := by simp [rowsI]
theorem rowsI_flat (l : List Int) : (rowsI l).flatten = l.map (Value.int .i64) := by
 induction l with
 | nil => rfl
 | cons x l ih => unfold rowsI at *; simp only [List.map_cons, List.flatten_cons]; rw [ih]; rfl
theorem sv_new (w : World) (l : List Int) (h : l.length ≤ 1000) : Sv (w.alloc (.cells (l.map (Value.int .i64)).toArray 3)) (w.alloc (.cells (l.map (Value.int .i64)).toArray 3)).heap.size 1 (some ⟨w.heap.size, 0, none⟩) l.length (rowsI l) :=
 ⟨by rw [rowsI_length]; exact Nat.le_refl _, by unfold maxLen; omega, rowsI_rwk _, fun _ => ⟨w.heap.size, 0, rfl, by simp, fun j u hu => by
   rw [Nat.zero_add, cell_of_row _ _ _ _ _ _ (heap_alloc_new w _)]
   rw [rowsI_flat] at hu
   simpa using hu⟩⟩
def RetI (l : List Int) (w : World) (en : Ending) (w' : World) : Prop :=
 ∃ v, en = .returned v ∧ w'.ownsRow w.heap.size 3 1 v l.length (rowsI l).flatten ∧ ExtD w w'
set_option maxRecDepth 100000 in
set_option maxHeartbeats 4000000 in
theorem coordinates_any (A : Option Addr) (c : Nat) (l : List Pt) (w : World) (hs : Sv w w.heap.size 3 A c (rowsP l)) (hb : l.length ≤ 1000) :
    Calls Tryz.prog 102 #[.slice A l.length c] w (RetI (coordsL l) w) := by
 obtain ⟨i0, hi, hz0, hz1, hz2⟩ := info_parts infoInt
 have HI := Lib.hid hi; have HZ := Lib.hid hz0; have HZ1 := Lib.hid hz1; have HZ2 := Lib.hid hz2; clear hi hz0 hz1 hz2
 have HS := Lib.hid hs; clear hs
 have hln : l.length ≤ 9223372036854775807 := by omega
 go_enter Tryz.func102, Tryz.ntmps102
 go_wp2
 go_loopw [3, 8] (fun ov i wr => ∃ k n3 : Nat, i = .int .i64 k ∧ n3 = 3 * k ∧ k ≤ l.length ∧ wr.ownsRow w.heap.size 3 1 ov n3 (rowsI (coordsL (l.take k))).flatten ∧ ExtD w wr) (fun _ i _ => l.length - (intOf i).toNat)
 case atStart => exact ⟨0, 0, rfl, rfl, Nat.zero_le _, World.ownsRow_nil _ _ _ _, ExtD.refl _⟩
 case round =>
  obtain ⟨k, n3, rfl, hn3, hk, ho, hx⟩ := hrel
  have HO := Lib.hid ho; have HX := Lib.hid hx; have HN := Lib.hid hn3
  obtain ⟨A1, c1, rfl, _⟩ := own_form ho
  clear ho hn3
  by_cases hlt : k < l.length
  · obtain ⟨p, hp⟩ : ∃ p, l[k]? = some p := ⟨_, List.getElem?_eq_getElem hlt⟩
    obtain ⟨b, off, rfl, hbl, r0, r1, r2⟩ := pt_row HS.out hp
    have r0 := (hx.ext.cell (p := ⟨b, off + k * 3, none⟩) hbl).trans r0
    have r1 := (hx.ext.cell (p := ⟨b, off + k * 3 + 1, none⟩) hbl).trans r1
    have r2 := (hx.ext.cell (p := ⟨b, off + k * 3 + 2, none⟩) hbl).trans r2
    have hbl := Nat.lt_of_lt_of_le hbl hx.ext.size
    have htk : l.take (k + 1) = l.take k ++ [p] := by obtain ⟨hi, rfl⟩ := List.getElem?_eq_some_iff.1 hp; exact List.take_succ_eq_append_getElem hi
    have HT := Lib.hid htk
    clear hp htk hx
    go_upto_region 5 with (first | (refine wpList_store_blk 25 (.tmp 5) (.tmp 11) rfl rfl (Arr.new wr 25 [.int .i64 0, .int .i64 0, .int .i64 0]) [.int .i64 p.x, .int .i64 p.y, .int .i64 p.z] rfl rfl (by kernel_rfl) rfl rfl ?_))
    have hB := (Arr.new wr 25 [.int .i64 0, .int .i64 0, .int .i64 0]).setRow [.int .i64 p.x, .int .i64 p.y, .int .i64 p.z]
    have hx1 : ExtD wr ((wr.alloc (.cells ([.int .i64 0, .int .i64 0, .int .i64 0] : List Value).toArray 25)).setRow wr.heap.size ([.int .i64 p.x, .int .i64 p.y, .int .i64 p.z] : List Value).toArray) := ((ExtD.refl wr).alloc _).setRow (Nat.le_refl _) _
    obtain ⟨bb, hbb⟩ : ∃ bb, bb = wr.heap.size := ⟨_, rfl⟩
    obtain ⟨W1, hW⟩ : ∃ W, W = (wr.alloc (.cells ([.int .i64 0, .int .i64 0, .int .i64 0] : List Value).toArray 25)).setRow wr.heap.size ([.int .i64 p.x, .int .i64 p.y, .int .i64 p.z] : List Value).toArray := ⟨_, rfl⟩
    have hW' : W1 = (wr.alloc (.cells #[.int .i64 0, .int .i64 0, .int .i64 0] 25)).setRow wr.heap.size #[.int .i64 p.x, .int .i64 p.y, .int .i64 p.z] := hW
    rw [← hW] at hB hx1
    rw [← hbb] at hB
    rw [← hW', ← hbb]
    have HX1 := Lib.hid hx1
    have d0 := hB.cell 0
    have d1 := hB.cell 1
    have d2 := hB.cell 2
    have db := hB.lt
    simp only [List.getElem?_cons_zero, List.getElem?_cons_succ] at d0 d1 d2
    clear hW hW' hbb hB hx1 r0 r1 r2 hbl
    have hx2 : ExtD W1 (W1.alloc (.cells (([p.x, p.y, p.z] : List Int).map (Value.int .i64)).toArray 3)) := (ExtD.refl W1).alloc _
    have HSN := Lib.hid (sv_new W1 [p.x, p.y, p.z] (by simp))
    have HON := Lib.hid (own_ext HO.out (HX1.out.trans hx2).ext)
    have HX2 := Lib.hid ((HX.out.trans HX1.out).trans hx2)
    clear hx2
    go_wp2_with (first
     | (refine wpList_buildRow rfl 83 3 19 rfl 1 (by decide) (by decide) ([.int .i64 p.x, .int .i64 p.y, .int .i64 p.z]) rfl rfl Tryz.underlying83 (by kernel_rfl) (by kernel_rfl) ?_)
     | (at_builtin; refine wpList_append_svD rfl (.tmp 12) (.tmp 19) 83 rfl w.heap.size 3 i0 (.int .i64 0) 1 8 Tryz.underlying83 HI.out HZ.out HZ1.out HZ2.out rfl (by decide) _ n3 _ rfl HON.out _ _ 3 3 (rowsI [p.x, p.y, p.z]) rfl HSN.out rfl (by have := HN.out; unfold maxLen; omega) (by have := HN.out; omega) HX2.out.ext.size ?_))
    intro v2 w2 g1 g2 _ g4
    have HO2 := Lib.hid (show w2.ownsRow w.heap.size 3 1 v2 (n3 + 3) (rowsI (coordsL (List.take (k + 1) l))).flatten from by rw [HT.out, coordsL_snoc, rowsI_append, List.flatten_append]; exact g1)
    have HX3 := Lib.hid (HX2.out.own HON.out g2 g4 (Nat.le_refl _))
    clear g1 g2 g4
    go_wp2
    go_roundw
    case rel => exact ⟨k + 1, n3 + 3, by go_num, by have := HN.out; omega, by omega, HO2.out, HX3.out⟩
    case measure => simp [intOf]; omega
  · obtain rfl : k = l.length := by omega
    clear hx
    go_wp2
    go_ret
    refine ⟨_, rfl, ?_, HX.out⟩
    have h := HO.out
    rw [List.take_length] at h
    have e := HN.out
    rw [← coordsL_length] at e
    rw [← e]
    exact h
end Go.Proofs.YtlinhgannajfpaaGreatDoor

/- Slices of bytes as rows; appends onto an owned row of bytes. -/
namespace Go.Proofs.YtlinhgannajfpaaGreatDoor
open Go Go.RowKit

def rowsB (l : List UInt8) : List (List Value) := l.map fun x => [.int .u8 (x.toNat : Int)]
theorem rowsB_length (l : List UInt8) : (rowsB l).length = l.length := by simp [rowsB]
theorem rowsB_append (a b : List UInt8) : rowsB (a ++ b) = rowsB a ++ rowsB b := by simp [rowsB]
theorem rowsB_rwk (l : List UInt8) : Rwk 1 (rowsB l) := fun x hx => by
 obtain ⟨p, _, rfl⟩ := List.mem_map.1 hx
 exact ⟨rfl, fun u hu => by simp at hu; subst hu; rfl⟩
theorem byte_row {w : World} {B c j : Nat} {A : Option Addr} {l : List UInt8} {v : UInt8} (h : Sv w B 1 A c (rowsB l)) (hp : l[j]? = some v) :
    ∃ b off, A = some ⟨b, off, none⟩ ∧ b < B ∧ w.cell? ⟨b, off + j, none⟩ = some (.int .u8 (v.toNat : Int)) := by
 obtain ⟨b, off, e, hb, hr⟩ := h.row (i := j) (x := [.int .u8 (v.toNat : Int)]) (by simp [rowsB, hp])
 have h0 := hr 0 _ rfl
 rw [Nat.mul_one, Nat.add_zero] at h0
 exact ⟨b, off, e, hb, h0⟩
theorem infoB : (Tryz.prog.info? 5).map (fun i => (i.zero, i.size, i.bytes)) = some (some (.int .u8 0), 1, 1) := by kernel_rfl
theorem svB_one (w : World) (b : UInt8) : Sv (w.alloc (.cells #[.int .u8 (b.toNat : Int)] 5)) (w.alloc (.cells #[.int .u8 (b.toNat : Int)] 5)).heap.size 1 (some ⟨w.heap.size, 0, none⟩) 1 (rowsB [b]) := by
 have h1 := Sv.lit w 5 1 (rowsB [b]) (rowsB_rwk _) (by rw [rowsB_length]; unfold maxLen; simp)
 rwa [rowsB_length] at h1
theorem own_sv_B {w : World} {base n c : Nat} {A : Option Addr} {xs : List UInt8} (h : w.ownsRow base 5 1 (.slice A n c) n (rowsB xs).flatten) (hn : xs.length = n) : Sv w w.heap.size 1 A c (rowsB xs) :=
 Sv.of_own h (rowsB_rwk _) (by rw [rowsB_length, hn])
set_option maxRecDepth 100000 in
theorem wpList_append_B {ops : Array Oper} {rest : List Oper} {o : Oper} {a : Act} {w : World} {Q : Exit → Act → World → Prop} (hgd : o.guard = none) (s x : Operand)
    (ho : o.op = .call { callee := .builtin .append, args := #[s, x], argTypes := #[42, 42] })
    (base : Nat) (v : Value) (xs : List UInt8) (hs : a.eval s = v) (hown : w.ownsRow base 5 1 v xs.length (rowsB xs).flatten)
    (A : Option Addr) (c m : Nat) (ys : List UInt8) (hx : a.eval x = .slice A m c) (hm : ys.length = m) (hr : Sv w w.heap.size 1 A c (rowsB ys)) (hlen : xs.length + m ≤ 140737488355328) (hbase : base ≤ w.heap.size)
    (zs : List UInt8) (hz : zs = xs ++ ys)
    (h : ∀ A' c' w', w'.ownsRow base 5 1 (.slice A' zs.length c') zs.length (rowsB zs).flatten → w.grownBy w' v.ownBlock → wpList Tryz.prog ops Q rest (a.put o.dst (.slice A' zs.length c')) w') : wpList Tryz.prog ops Q (o :: rest) a w := by
 subst hm hz
 obtain ⟨i0, hi, hz0, hz1, hz2⟩ := info_parts infoB
 refine wpList_append_sv _ hgd s x 42 ho base 5 i0 _ 1 1 Tryz.underlying42 hi hz0 hz1 hz2 rfl (by decide) v xs.length _ hs hown _ A ys.length c (rowsB ys) hx hr (rowsB_length _) (by unfold maxLen; omega) (by omega) hbase ?_
 intro v' w' h1 h2 _
 have h3 : w'.ownsRow base 5 1 v' (xs ++ ys).length (rowsB (xs ++ ys)).flatten := by rw [rowsB_append, List.flatten_append, List.length_append]; exact h1
 obtain ⟨A', c', rfl, _⟩ := own_form h3
 exact h A' c' w' h3 h2
def RetB (l : List UInt8) (w : World) (en : Ending) (w' : World) : Prop :=
 ∃ A c, en = .returned (.slice A l.length c) ∧ w'.ownsRow w.heap.size 5 1 (.slice A l.length c) l.length (rowsB l).flatten ∧ Ext w w'
end Go.Proofs.YtlinhgannajfpaaGreatDoor

/- hash.schedule. -/
namespace Go.Proofs.YtlinhgannajfpaaGreatDoor
open Go Go.RowKit

def pw (b : List UInt8) (t : Nat) : Nat → W32
 | 0 => 0
 | k + 1 => pw b t k <<< 8 ||| BitVec.ofNat 32 (b.getD (4 * t + k) 0).toNat
theorem wn_byte (c : UInt8) : wn (BitVec.ofNat 32 c.toNat) = c.toNat := by
 have := c.toNat_lt
 unfold wn
 rw [BitVec.toNat_ofNat]
 omega
theorem pw_step (x : W32) (c : UInt8) (h : wn x < 16777216) : wn (x <<< 8 ||| BitVec.ofNat 32 c.toNat) = wn x * 256 + c.toNat := by
 have hc := c.toNat_lt
 have hb := wn_byte c
 unfold wn at *
 rw [BitVec.toNat_or, BitVec.toNat_shiftLeft, hb, Nat.shiftLeft_eq]
 rw [nat_join 8 _ _ (by omega) (by omega)]
 omega
theorem pw_four (b : List UInt8) (t : Nat) : pw b t 4 = wd b t := by
 have h0 : wn (pw b t 0) = 0 := rfl
 have l0 := (b.getD (4 * t) 0).toNat_lt
 have l1 := (b.getD (4 * t + 1) 0).toNat_lt
 have l2 := (b.getD (4 * t + 2) 0).toNat_lt
 have l3 := (b.getD (4 * t + 3) 0).toNat_lt
 have h1 : wn (pw b t 1) = _ := pw_step (pw b t 0) (b.getD (4 * t) 0) (by omega)
 have h2 : wn (pw b t 2) = _ := pw_step (pw b t 1) (b.getD (4 * t + 1) 0) (by omega)
 have h3 : wn (pw b t 3) = _ := pw_step (pw b t 2) (b.getD (4 * t + 2) 0) (by omega)
 have h4 : wn (pw b t 4) = _ := pw_step (pw b t 3) (b.getD (4 * t + 3) 0) (by omega)
 apply BitVec.eq_of_toNat_eq
 show wn (pw b t 4) = wn (wd b t)
 rw [h4, h3, h2, h1, h0]
 unfold wd wn
 rw [BitVec.toNat_ofNat]
 omega
theorem infoW64 : (Tryz.prog.info? 155).map (·.size) = some 64 := by kernel_rfl
theorem wvs_one (l : List W32) : (wvs l).all (·.oneCell') = true := by
 rw [List.all_eq_true]
 intro v hv
 obtain ⟨x, _, rfl⟩ := List.mem_map.1 hv
 rfl
structure BlkB (w : World) (B g o : Nat) (l : List UInt8) : Prop where
 lt : g < B
 cell : ∀ (j : Nat) (v : UInt8), l[j]? = some v → w.cell? ⟨g, o + j, none⟩ = some (.int .u8 (v.toNat : Int))
theorem BlkB.ext {w w' : World} {B g o : Nat} {l : List UInt8} (h : BlkB w B g o l) (hB : B ≤ w.heap.size) (hx : Ext w w') : BlkB w' B g o l :=
 ⟨h.lt, fun j v hv => by rw [hx.below.cell (p := ⟨g, o + j, none⟩) (by have := h.lt; simp only; omega)]; exact h.cell j v hv⟩
theorem BlkB.more {w : World} {B B' g o : Nat} {l : List UInt8} (h : BlkB w B g o l) (hB : B ≤ B') : BlkB w B' g o l := ⟨by have := h.lt; omega, h.cell⟩
def schedC (b : List UInt8) (t : Nat) : List Value := wvs (schedL b t) ++ List.replicate (64 - t) (.int .u32 0)
theorem schedC_len (b : List UInt8) (t : Nat) (h : t ≤ 64) : (schedC b t).length = 64 := by
 unfold schedC
 rw [List.length_append, wvs_len, schedL_len, List.length_replicate]
 omega
theorem schedC_zero (b : List UInt8) : schedC b 0 = List.replicate 64 (.int .u32 0) := by unfold schedC; rw [schedL_zero]; rfl
theorem schedC_all (b : List UInt8) : schedC b 64 = wvs (schedL b 64) := by simp [schedC]
theorem schedC_get {b : List UInt8} {t j : Nat} (h : j < t) : (schedC b t)[j]? = some (.int .u32 (wn ((schedL b t).getD j 0) : Int)) := by
 unfold schedC
 rw [List.getElem?_append_left (by rw [wvs_len, schedL_len]; exact h)]
 apply wvs_get
 rw [List.getD_eq_getElem?_getD, List.getElem?_eq_getElem (by rw [schedL_len]; exact h)]
 rfl
theorem schedC_at {b : List UInt8} {t : Nat} (h : t < 64) : (schedC b t)[t]? = some (.int .u32 0) := by
 unfold schedC
 rw [List.getElem?_append_right (by rw [wvs_len, schedL_len]; omega), wvs_len, schedL_len, Nat.sub_self]
 rw [List.getElem?_replicate, if_pos (by omega)]
theorem schedC_step {b : List UInt8} {t : Nat} (h : t < 64) : (schedC b t).set t (.int .u32 (wn (nextW b t (schedL b t)) : Int)) = schedC b (t + 1) := by
 unfold schedC
 have e : 64 - t = (64 - (t + 1)) + 1 := by omega
 rw [List.set_append_right _ _ (by rw [wvs_len, schedL_len]; omega), wvs_len, schedL_len, Nat.sub_self, e, List.replicate_succ, List.set_cons_zero, schedL_succ]
 unfold wvs
 rw [List.map_append, List.append_assoc]
 rfl
set_option maxHeartbeats 8000000 in
set_option maxRecDepth 100000 in
theorem schedule_any (bl : List UInt8) (hl : bl.length = 64) (g o c : Nat) (w : World) (hc : 64 ≤ c) (hb : BlkB w w.heap.size g o bl) :
    Calls Tryz.prog 150 #[.slice (some ⟨g, o, none⟩) 64 c] w fun e w' => e = .returned (.agg (wvs (schedL bl 64)).toArray) ∧ Ext w w' := by
 have hm := mixed
 have HB := Lib.hid hb
 clear hb
 go_enter Tryz.func150, Tryz.ntmps150
 go_upto_region 3 with fail
 have z64 : (List.replicate 64 (Value.int .u32 0)).length = 64 := by simp
 go_loopw [11] (fun tv wr => ∃ t : Nat, t ≤ 64 ∧ tv = .int .i64 (t : Int) ∧ Arr wr w.heap.size 155 (List.replicate 64 (.int .u32 0)) ∧ Arr wr (w.heap.size + 1) 155 (schedC bl t) ∧ Ext w wr) (fun tv _ => 64 - (intOf tv).toNat)
 case atStart => exact ⟨0, by omega, rfl, (Arr.new w _ (List.replicate 64 (.int .u32 0))).alloc _, (by rw [schedC_zero]; exact Arr.new1 w _ _ (List.replicate 64 (.int .u32 0))), ((Ext.refl w).alloc _).alloc _⟩
 case round =>
  obtain ⟨t, ht, rfl, hR, hA, hx⟩ := hrel
  have HR := Lib.hid hR; have HA := Lib.hid hA; have HX := Lib.hid hx
  have hlen := schedC_len bl t ht
  clear hR hA hx
  by_cases h64 : t < 64
  · by_cases h16 : t < 16
    · go_upto_region 7 with fail
      rename World => wo
      go_loopw [24] (fun kv wr => ∃ k : Nat, k ≤ 4 ∧ kv = .int .i64 (k : Int) ∧ Arr wr w.heap.size 155 (List.replicate 64 (.int .u32 0)) ∧ Arr wr (w.heap.size + 1) 155 ((schedC bl t).set t (.int .u32 (wn (pw bl t k) : Int))) ∧ Ext w wr) (fun kv _ => 4 - (intOf kv).toNat)
      case atStart =>
       refine ⟨0, by omega, rfl, HR.out, ?_, HX.out⟩
       have e : (schedC bl t).set t (.int .u32 (wn (pw bl t 0) : Int)) = schedC bl t := by
        have h := schedC_at (b := bl) h64
        exact List.ext_getElem? fun j => by
         by_cases hj : t = j
         · subst hj
           rw [List.getElem?_set_self (by omega), h]
           rfl
         · rw [List.getElem?_set_ne hj]
       rw [e]
       exact HA.out
      case round =>
       obtain ⟨k, hk, rfl, hR, hA, hx⟩ := hrel
       have HR := Lib.hid hR; have HA := Lib.hid hA; have HX := Lib.hid hx
       have fA := hA.frozen (t : Nat); have cA := hA.cell t
       rw [List.getElem?_set_self (by omega)] at cA
       clear hR hA hx
       by_cases h4 : k < 4
       · have cB := ((HB.out).ext (Nat.le_refl _) HX.out).cell (4 * t + k) (bl.getD (4 * t + k) 0) (by rw [List.getD_eq_getElem?_getD, List.getElem?_eq_getElem (by omega)]; rfl)
         rw [← Nat.add_assoc] at cB
         have eB := wn_byte (bl.getD (4 * t + k) 0)
         have eV : bits .or .u32 ((wn (pw bl t k) : Int) * 256 % 4294967296) (((bl.getD (4 * t + k) 0).toNat : Int) % 4294967296) = (wn (pw bl t (k + 1)) : Int) := by
          have h1 := w_shl (pw bl t k) 8
          rw [show ((2 : Int) ^ 8) = 256 from rfl] at h1
          have h2 : (((bl.getD (4 * t + k) 0).toNat : Int) % 4294967296) = (wn (BitVec.ofNat 32 (bl.getD (4 * t + k) 0).toNat) : Int) := by
           rw [eB]
           have := (bl.getD (4 * t + k) 0).toNat_lt
           omega
          rw [h1, h2, w_or]
          rfl
         have HV := Lib.hid eV
         clear eV eB
         generalize bl.getD (4 * t + k) 0 = cb at cB HV
         go_wp2_with fail
         rw [HV.out]
         refine ⟨⟨k + 1, by omega, rfl, HR.out.other (by simp) _, ?_, HX.out.setCell (by simp) _⟩, by simp [intOf]; omega⟩
         have h := HA.out.set t (.int .u32 (wn (pw bl t (k + 1)) : Int))
         rwa [List.set_set] at h
       · obtain rfl : k = 4 := by omega
         have eN : (schedC bl t).set t (.int .u32 (wn (pw bl t 4) : Int)) = schedC bl (t + 1) := by
          rw [← schedC_step h64, pw_four]
          unfold nextW
          rw [if_pos h16]
         rw [eN] at HA
         go_wp2_with fail
         refine ⟨⟨t + 1, by omega, rfl, HR.out, HA.out, HX.out⟩, by simp [intOf]; omega⟩
    · have eN : nextW bl t (schedL bl t) = (schedL bl t).getD (t - 16) 0 + (rr ((schedL bl t).getD (t - 15) 0) 7 ^^^ rr ((schedL bl t).getD (t - 15) 0) 18 ^^^ ((schedL bl t).getD (t - 15) 0) >>> 3) + (schedL bl t).getD (t - 7) 0 + (rr ((schedL bl t).getD (t - 2) 0) 17 ^^^ rr ((schedL bl t).getD (t - 2) 0) 19 ^^^ ((schedL bl t).getD (t - 2) 0) >>> 10) := by
        unfold nextW
        rw [if_neg h16]
      have HN := Lib.hid (schedC_step (b := bl) h64)
      rw [eN] at HN
      have c15 := HA.out.cell (t - 15); have c2 := HA.out.cell (t - 2); have c16 := HA.out.cell (t - 16); have c7 := HA.out.cell (t - 7)
      rw [schedC_get (by omega)] at c15 c2 c16 c7
      have p15 : ((t - 15 : Nat) : Int) = (t : Int) - 15 := by omega
      have p2 : ((t - 2 : Nat) : Int) = (t : Int) - 2 := by omega
      generalize (schedL bl t).getD (t - 15) 0 = x15 at c15 HN
      generalize (schedL bl t).getD (t - 2) 0 = x2 at c2 HN
      generalize (schedL bl t).getD (t - 16) 0 = x16 at c16 HN
      generalize (schedL bl t).getD (t - 7) 0 = x7 at c7 HN
      clear eN
      have hG := near_old
      have lA := HA.out.lt
      go_upto_region 11 with fail
      refine wp_region_near (by assumption) (by kernel_rfl) ?_
      repeat (go_big_quiet_step (fail))
      refine wpQuiet_nil ?_
      intro w1 hw1
      have hy := Ext.of_near hw1
      clear hw1
      have HA1 := Lib.hid (HA.out.ext hy); have HR1 := Lib.hid (HR.out.ext hy); have HX1 := Lib.hid (HX.out.trans hy)
      have R7 : ∀ w, Calls Tryz.prog 156 #[.int .u32 (wn x15 : Int), .int .i64 (-7)] w fun e w' => e = .returned (.int .u32 (wn (rr x15 7) : Int)) ∧ w' = w := rotl_any x15 7 (by decide) (by decide)
      have R18 : ∀ w, Calls Tryz.prog 156 #[.int .u32 (wn x15 : Int), .int .i64 (-18)] w fun e w' => e = .returned (.int .u32 (wn (rr x15 18) : Int)) ∧ w' = w := rotl_any x15 18 (by decide) (by decide)
      have R17 : ∀ w, Calls Tryz.prog 156 #[.int .u32 (wn x2 : Int), .int .i64 (-17)] w fun e w' => e = .returned (.int .u32 (wn (rr x2 17) : Int)) ∧ w' = w := rotl_any x2 17 (by decide) (by decide)
      have R19 : ∀ w, Calls Tryz.prog 156 #[.int .u32 (wn x2 : Int), .int .i64 (-19)] w fun e w' => e = .returned (.int .u32 (wn (rr x2 19) : Int)) ∧ w' = w := rotl_any x2 19 (by decide) (by decide)
      have H7 := Lib.hid R7; have H18 := Lib.hid R18; have H17 := Lib.hid R17; have H19 := Lib.hid R19
      have s3 : (wn x15 : Int) / (8 : Int) = (wn (x15 >>> 3) : Int) := w_shr x15 3
      have s10 : (wn x2 : Int) / (1024 : Int) = (wn (x2 >>> 10) : Int) := w_shr x2 10
      clear R7 R18 R17 R19 c15 c2 hy
      go_upto_region 14 with (go_at_call 156; (first | (with_reducible refine (H7.out _).mono ?_) | (with_reducible refine (H18.out _).mono ?_) | (with_reducible refine (H17.out _).mono ?_) | (with_reducible refine (H19.out _).mono ?_)); (rintro e w2 ⟨rfl, rfl⟩))
      have d16 := HA1.out.cell (t - 16); have d7 := HA1.out.cell (t - 7)
      rw [HA.out.cell] at c16 c7
      rw [c16] at d16
      rw [c7] at d7
      have lA1 := HA1.out.lt
      clear c16 c7 s3 s10
      refine wp_region_near_tail 15 (by assumption) (by kernel_rfl) ?_
      simp only [List.take_succ_cons, List.take_zero, List.drop_succ_cons, List.drop_zero]
      repeat (go_big_quiet_step (fail))
      refine wpQuiet_nil ?_
      intro w1 hw1
      have hy := Ext.of_near hw1
      clear hw1
      have HA2 := Lib.hid (HA1.out.ext hy); have HR2 := Lib.hid (HR1.out.ext hy); have HX2 := Lib.hid (HX1.out.trans hy)
      have fA2 := HA2.out.frozen t; have cA2 := HA2.out.cell t; have lA2 := HA2.out.lt
      rw [schedC_at h64] at cA2
      clear hy d16 d7
      go_wp2_with fail
      refine ⟨⟨t + 1, by omega, rfl, HR2.out.other (by simp) _, ?_, HX2.out.setCell (by simp) _⟩, by simp [intOf]; omega⟩
      have h := HA2.out.set t (.int .u32 (wn (x16 + (rr x15 7 ^^^ rr x15 18 ^^^ x15 >>> 3) + x7 + (rr x2 17 ^^^ rr x2 19 ^^^ x2 >>> 10)) : Int))
      rw [HN.out] at h
      exact h
  · obtain rfl : t = 64 := by omega
    rw [schedC_all] at HA
    have l64 : (wvs (schedL bl 64)).length = 64 := by rw [wvs_len, schedL_len]
    have iA : (Tryz.prog.info? 155).map (·.size) = some (wvs (schedL bl 64)).length := by rw [l64]; exact infoW64
    have oA : (wvs (schedL bl 64)).all (·.oneCell') = true := wvs_one _
    have HiA := Lib.hid iA; have HoA := Lib.hid oA; have Hl64 := Lib.hid l64
    clear iA oA l64
    generalize hvs : wvs (schedL bl 64) = vs at HA HiA HoA Hl64
    have HVS := Lib.hid hvs
    clear hvs
    go_wp2_with (first | (refine wpList_load_blk 155 (.tmp 3) rfl rfl HA.out rfl _ Tryz.underlying155 rfl HiA.out ?_) | (refine wpList_store_blk 155 (.tmp 2) (.tmp 78) rfl rfl HR.out vs rfl rfl HiA.out (by rw [Hl64.out]; rfl) HoA.out ?_))
    refine bodyPost_ret (v := .agg vs.toArray) ?_ rfl ⟨by rw [HVS.out], HX.out.setRow (by simp) _⟩
    exact results_cell_row Tryz.results150 _ _ _ _ _ _ _ rfl (HR.out.setRow vs) Tryz.underlying155 rfl HiA.out
end Go.Proofs.YtlinhgannajfpaaGreatDoor

/- The constants of SHA-256 as laid variables; cells of a block loaded at once. -/
namespace Go.Proofs.YtlinhgannajfpaaGreatDoor
open Go Go.RowKit

/- A slice taken as an array: the walk's simp looks into it. -/
attribute [go_sem] Instr.arrayAt
structure KIn (w : World) (g : Nat) : Prop where
 at_ : ∀ i, i < 64 → w.cell? ⟨g, i, none⟩ = some (.int .u32 (wn (kW i) : Int))
 lt : g < w.heap.size
theorem KIn.ext {w w' : World} {g : Nat} (h : KIn w g) (hx : Ext w w') : KIn w' g := ⟨fun i hi => (hx.cell (p := ⟨g, i, none⟩) h.lt).trans (h.at_ i hi), Nat.lt_of_lt_of_le h.lt hx.size⟩
def kWs : List W32 := (List.range 64).map kW
theorem kWs_len : kWs.length = 64 := by simp [kWs]
theorem kWs_get {i : Nat} (h : i < 64) : (wvs kWs)[i]? = some (.int .u32 (wn (kW i) : Int)) := by
 apply wvs_get
 simp [kWs, h]
theorem wpList_load_cells {P : Program} {ops : Array Oper} {rest : List Oper} {o : Oper} {a : Act} {w : World} {Q : Exit → Act → World → Prop} (ty : TypeId) (x : Operand) (ho : o.op = .load ty x) (hw : Region.wanted o (yielded ops a.tmps) = true)
    (b off : Nat) (cs : List Value) (hcs : ∀ j v, cs[j]? = some v → w.cell? ⟨b, off + j, none⟩ = some v) (hx : a.eval x = .pointer (some ⟨b, off, none⟩)) (d : TypeDesc) (hu : P.underlying ty = some d)
    (hd : d.isRow = true) (hi : (P.info? ty).map (·.size) = some cs.length) (h : wpList P ops Q rest (a.put o.dst (.agg cs.toArray)) w) : wpList P ops Q (o :: rest) a w := by
 refine wpList_step fun K hK => ?_
 rw [if_pos hw]
 exact wp_load_mid ty x ho b off hx cs d hcs hu hd hi (hK _ _ h)
theorem op_loadcells {P : Program} {o : Oper} {b : Act} {w1 : World} {K : Act → World → Prop} {Q : Exit → Act → World → Prop} {t : TypeId} {x : Operand} (ho : o.op = .load t x) (bk off : Nat) (cs : List Value) (hx : b.eval x = .pointer (some ⟨bk, off, none⟩)) (hcs : ∀ j v, cs[j]? = some v → w1.cell? ⟨bk, off + j, none⟩ = some v) (d : TypeDesc) (hu : P.underlying t = some d)
    (hd : d.isRow = true) (hi : (P.info? t).map (·.size) = some cs.length) (h : K (b.put o.dst (.agg cs.toArray)) w1) : o.wp P b w1 K Q := wp_load_mid t x ho bk off hx cs d hcs hu hd hi h
theorem run_index_cell {P : Program} (t e : TypeId) (n : Nat) (cs : Array Value) (k : IntKind) (i : Nat) (v : Value) (w : World) (h : P.underlying t = some (.array n e)) (he : P.plainKey e = true) (hs : (P.info? e).map (·.size) = some 1) (hi : i < n) (hv : cs[i]? = some v) :
    (Instr.index t (.agg cs) (.int k (i : Int))).run P w = .ok v w := by
 have h1 : (0 : Int) ≤ (i : Int) ∧ (i : Int) < (n : Int) := by omega
 obtain ⟨inf, hinf, hsz⟩ := Option.map_eq_some_iff.1 hs
 have hp := run_part_plain (P := P) (w := w) he (xs := cs) (off := i) hv
 simpa [Instr.index, run_underlying h, asIntOf, h1, hi, go_sem, sizeOf, typeInfo, hinf, hsz, part, Result.andThen] using hp
theorem wpList_index_cell {P : Program} {ops : Array Oper} {rest : List Oper} {o : Oper} {a : Act} {w : World} {Q : Exit → Act → World → Prop} (t e : TypeId) (x y : Operand) (ho : o.op = .index t x y) (hw : Region.wanted o (yielded ops a.tmps) = true) (n : Nat) (cs : List Value) (k : IntKind) (i : Nat) (v : Value)
    (hx : a.eval x = .agg cs.toArray) (hy : a.eval y = .int k (i : Int)) (hu : P.underlying t = some (.array n e)) (he : P.plainKey e = true) (hs : (P.info? e).map (·.size) = some 1) (hi : i < n) (hv : cs[i]? = some v) (h : wpList P ops Q rest (a.put o.dst v) w) : wpList P ops Q (o :: rest) a w := by
 refine wpList_step fun K hK => ?_
 rw [if_pos hw]
 have hr := run_index_cell t e n cs.toArray k i v w hu he hs hi (by simpa using hv)
 exact op_run (by unfold execOp; simp only [ho, hx, hy]; simp [hr, Result.andThen]) (hK _ _ h)
theorem wpList_store_blk2 {P : Program} {ops : Array Oper} {rest : List Oper} {o : Oper} {a : Act} {w : World} {Q : Exit → Act → World → Prop} (ty : TypeId) (x y : Operand) (ho : o.op = .store ty x y) (hw : Region.wanted o (yielded ops a.tmps) = true)
    {b : Nat} {t : TypeId} {vs : List Value} (hB : Arr w b t vs) (cs : List Value) (hx : a.eval x = .pointer (some ⟨b, 0, none⟩)) (hy : a.eval y = .agg cs.toArray) (hi : (P.info? ty).map (·.size) = some cs.length)
    (hl : vs.length = cs.length) (h1 : cs.all (·.oneCell') = true) (hdst : o.dst = none) (h : ∀ W, W = w.setRow b cs.toArray → wpList P ops Q rest a W) : wpList P ops Q (o :: rest) a w :=
 wpList_store_blk ty x y ho hw hB cs hx hy hi hl h1 (by rw [hdst]; exact h _ rfl)
theorem KIn.cells {w : World} {g : Nat} (h : KIn w g) : ∀ j v, (wvs kWs)[j]? = some v → w.cell? ⟨g, 0 + j, none⟩ = some v := fun j v hv => by
 have hj : j < 64 := by
  have := (List.getElem?_eq_some_iff.1 hv).1
  rw [wvs_len, kWs_len] at this
  exact this
 rw [kWs_get hj] at hv
 injection hv with hv
 subst hv
 rw [Nat.zero_add]
 exact h.at_ j hj
end Go.Proofs.YtlinhgannajfpaaGreatDoor

/- A region in which two variables of one type are made and stored, edges that bind under another departure only let in. -/
namespace Go.Proofs.YtlinhgannajfpaaGreatDoor
open Go Go.RowKit

section
variable {P : Program}
theorem wp_region_slots2 {G : Type} {Q : Exit → Act → World → Prop} {id : Nat} {a : Act} {w : World} {l : List Oper} (V : G → Nat → Value) (R : World → Array Bool → G → World → Prop) (g0 : G) (hm : P.follows .mixedOrders = true) (hs : slotsB l.toArray = true) (hb : backB2 l.toArray = true)
    (hg : ∀ (i : Nat) (o : Oper), l[i]? = some o → o.guard = none) (h0 : R w (Array.replicate l.length false) g0 w.drew)
    (hstep : ∀ listed g w1 i o, l[i]? = some o → listed.getD i true = false → (∀ e, e ∈ o.after → Region.binds .any e = true → listed.getD e.on false = true) → R w listed g w1 →
      ∀ (b : Act) (K : Act → World → Prop), (∀ d : Nat, missB l.toArray d = true → b.tmps[d]? = a.tmps[d]?) → (∀ j d, j < l.length → listed.getD j true = true → dstOf l.toArray j = some d → d < a.tmps.size → b.tmps[d]? = some (V g j)) →
      (∀ g' w', R w (listed.setIfInBounds i true) g' w' → (∀ j, j < l.length → listed.getD j true = true → V g' j = V g j) → K (b.put o.dst (V g' i)) w') → o.wp P b w1 K Q)
    (hend : ∀ listed g w1, (∀ i, i < l.length → listed.getD i true = true) → R w listed g w1 → Q .normal (fill l.toArray (V g) listed a) w1) : (Code.region id l.toArray true).wp P Q a w :=
 wp_region_tabg2 V R g0 hm (slotsB_spec hs) (backB2_spec hb) h0
  (fun listed g w1 i o ho hun hdep hR K hK => want_none (hg i o ho) (hstep listed g w1 i o ho hun hdep hR (fill l.toArray (V g) listed a) K (fun d hd => fill_miss (fun i hi _ => missB_spec hd i hi)) (fun j d hj hl hd hds => fill_hit (slotsB_spec hs) (by simpa using hj) hl hd hds) hK)) hend
theorem wp_region_two2 {id : Nat} {Q : Exit → Act → World → Prop} {a : Act} {w : World} {l : List Oper} (V : Nat → Value) (n T d0 d1 sv0 sv1 iv0 iv1 : Nat) (zs c0 c1 : List Value) (hm : P.follows .mixedOrders = true) (hs : slotsB l.toArray = true) (hb : backB2 l.toArray = true)
    (hg : ∀ (i : Nat) (o : Oper), l[i]? = some o → o.guard = none) (hln : l.length = n + 4)
    (ha0 : ∃ o, l[n]? = some o ∧ o.op = .alloc T ∧ o.dst = some d0) (ha1 : ∃ o, l[n + 1]? = some o ∧ o.op = .alloc T ∧ o.dst = some d1)
    (hs0 : ∃ o, l[n + 2]? = some o ∧ o.op = .store T (.tmp d0) (.tmp sv0) ∧ o.dst = none ∧ waits o n = true ∧ waits o iv0 = true)
    (hs1 : ∃ o, l[n + 3]? = some o ∧ o.op = .store T (.tmp d1) (.tmp sv1) ∧ o.dst = none ∧ waits o (n + 1) = true ∧ waits o iv1 = true)
    (hi0 : iv0 < n) (hi1 : iv1 < n) (hv0 : dstOf l.toArray iv0 = some sv0) (hv1 : dstOf l.toArray iv1 = some sv1) (hb0 : sv0 < a.tmps.size) (hb1 : sv1 < a.tmps.size) (hd0 : d0 < a.tmps.size) (hd1 : d1 < a.tmps.size) (hV0 : V iv0 = .agg c0.toArray) (hV1 : V iv1 = .agg c1.toArray)
    (hz : ∃ i z, P.info? T = some i ∧ i.zero = some z ∧ z.cells.toList = zs) (hi : (P.info? T).map (·.size) = some zs.length) (hz0 : c0.length = zs.length) (hz1 : c1.length = zs.length) (ho0 : c0.all (·.oneCell') = true) (ho1 : c1.all (·.oneCell') = true)
    (hhead : ∀ (listed : Array Bool) (w1 : World) (i : Nat) (o : Oper), l[i]? = some o → i < n → (∀ e, e ∈ o.after → Region.binds .any e = true → listed.getD e.on false = true) → ExtD w w1 →
      ∀ (b : Act) (K : Act → World → Prop), (∀ d : Nat, missB l.toArray d = true → b.tmps[d]? = a.tmps[d]?) → (∀ j d, j < n → listed.getD j true = true → dstOf l.toArray j = some d → d < a.tmps.size → b.tmps[d]? = some (V j)) →
      (∀ w', ExtD w1 w' → K (b.put o.dst (V i)) w') → o.wp P b w1 K Q)
    (hend : ∀ (g : Nat × Nat) w1, ExtD w w1 → w.heap.size ≤ g.1 → w.heap.size ≤ g.2 → Arr w1 g.1 T c0 → Arr w1 g.2 T c1 → g.1 ≠ g.2 → Q .normal (fillAllN l.toArray (box2V V n g) a l.length) w1) : (Code.region id l.toArray true).wp P Q a w := by
 refine wp_region_slots2 (box2V V n) (Box2 T n zs c0 c1) (0, 0) hm hs hb hg ?_ ?_ ?_
 · have h0 : ∀ k, k < l.length → (Array.replicate l.length false).getD k true = false := fun k hk => by simp [Array.getD, hk]
   exact ⟨(ExtD.refl _).drew, fun h => (by rw [h0 n (by omega)] at h; cases h), fun h => (by rw [h0 (n + 1) (by omega)] at h; cases h), fun h => (by rw [h0 n (by omega)] at h; cases h), fun h => (by rw [h0 (n + 2) (by omega)] at h; cases h), fun h => (by rw [h0 (n + 3) (by omega)] at h; cases h)⟩
 · intro listed g w1 i o ho hun hdep hR b K E0 E1 hK
   have hil : i < l.length := (List.getElem?_eq_some_iff.1 ho).1
   obtain ⟨ie, z, hie, hzz, hzl2⟩ := hz
   have hzc : z.cells = zs.toArray := by rw [← hzl2]
   have hlist : ∀ k, k ≠ i → (listed.setIfInBounds i true).getD k true = listed.getD k true := fun k hk => getD_set_ne true (Ne.symm hk)
   have hset : (listed.setIfInBounds i true).getD i true = true := by
    by_cases h : i < listed.size <;> simp [Array.getD, h]
   have hwait : ∀ j, waits o j = true → listed.getD j true = true := fun j hj => by
    obtain ⟨e, he, rfl, hbd⟩ := waits_spec hj
    exact getD_up (hdep e he hbd)
   by_cases hin : i < n
   · refine hhead listed w1 i o ho hin hdep hR.ext b K E0 (fun j d hj hl hd hds => ?_) (fun w' hx => ?_)
     · have h := E1 j d (by omega) hl hd hds
       rw [h]; unfold box2V; rw [if_pos hj]
     · have h := hK g w' (hR.keep hin hx) (fun _ _ _ => rfl)
       unfold box2V at h
       rw [if_pos hin] at h
       exact h
   · rcases (show i = n ∨ i = n + 1 ∨ i = n + 2 ∨ i = n + 3 by omega) with rfl | rfl | rfl | rfl
     · obtain ⟨o2, ho2, hop, hdst⟩ := ha0
       rw [ho] at ho2; injection ho2 with ho2; subst ho2
       have hnext : listed.getD (i + 2) true = false := by
        cases hq : listed.getD (i + 2) true
        · rfl
        · have := hR.s0 hq; rw [this] at hun; cases hun
       have hK2 := hK (w1.heap.size, g.2) (w1.alloc (.cells zs.toArray T)) ⟨hR.ext.alloc _, fun _ => ⟨hR.ext.ext.size, by rw [hlist _ (by omega), hnext]; exact Arr.new w1 T zs⟩, fun h => (by
           rw [hlist _ (by omega)] at h
           rw [hlist _ (by omega)]
           exact ⟨(hR.l1 h).1, (hR.l1 h).2.alloc _⟩), fun _ h => (by
           rw [hlist _ (by omega)] at h
           have := (hR.l1 h).2.lt
           simp only
           omega), fun _ => hset, fun h => (by rw [hlist _ (by omega)] at h; rw [hlist _ (by omega)]; exact hR.s1 h)⟩ (fun j hj hl => by
           have hne : j ≠ i := fun e => by subst e; rw [hl] at hun; cases hun
           unfold box2V
           simp only [if_neg hne])
       have hbv : box2V V i (w1.heap.size, g.2) i = .pointer (some ⟨w1.heap.size, 0, none⟩) := by unfold box2V; simp
       rw [hbv] at hK2
       have hrun : (execOp b.eval o).run P w1 = .ok (.value (.pointer (some ⟨w1.heap.size, 0, none⟩))) (w1.alloc (.cells zs.toArray T)) := by
        unfold execOp
        simp only [hop]
        simp [Instr.alloc, zeroValue, typeInfo, hie, hzz, newVar, newRow, hzc]
       unfold Oper.wp
       rw [hrun]
       exact hK2
     · obtain ⟨o2, ho2, hop, hdst⟩ := ha1
       rw [ho] at ho2; injection ho2 with ho2; subst ho2
       have hnext : listed.getD (n + 3) true = false := by
        cases hq : listed.getD (n + 3) true
        · rfl
        · have := hR.s1 hq; rw [this] at hun; cases hun
       have hK2 := hK (g.1, w1.heap.size) (w1.alloc (.cells zs.toArray T)) ⟨hR.ext.alloc _, fun h => (by
           rw [hlist _ (by omega)] at h
           rw [hlist _ (by omega)]
           exact ⟨(hR.l0 h).1, (hR.l0 h).2.alloc _⟩), fun _ => ⟨hR.ext.ext.size, by rw [hlist _ (by omega), hnext]; exact Arr.new w1 T zs⟩, fun h _ => (by
           rw [hlist _ (by omega)] at h
           have := (hR.l0 h).2.lt
           simp only
           omega), fun h => (by rw [hlist _ (by omega)] at h; rw [hlist _ (by omega)]; exact hR.s0 h), fun _ => hset⟩ (fun j hj hl => by
           have hne : j ≠ n + 1 := fun e => by subst e; rw [hl] at hun; cases hun
           unfold box2V
           simp only [if_neg hne])
       have hbv : box2V V n (g.1, w1.heap.size) (n + 1) = .pointer (some ⟨w1.heap.size, 0, none⟩) := by unfold box2V; rw [if_neg (by omega), if_neg (by omega), if_pos rfl]
       rw [hbv] at hK2
       have hrun : (execOp b.eval o).run P w1 = .ok (.value (.pointer (some ⟨w1.heap.size, 0, none⟩))) (w1.alloc (.cells zs.toArray T)) := by
        unfold execOp
        simp only [hop]
        simp [Instr.alloc, zeroValue, typeInfo, hie, hzz, newVar, newRow, hzc]
       unfold Oper.wp
       rw [hrun]
       exact hK2
     · obtain ⟨o2, ho2, hop, hdst, hw1, hw2⟩ := hs0
       rw [ho] at ho2; injection ho2 with ho2; subst ho2
       have hl1 := hwait _ hw1
       have hl2 := hwait _ hw2
       obtain ⟨q1, q2⟩ := hR.l0 hl1
       rw [hun] at q2
       simp only [Bool.false_eq_true, if_false] at q2
       obtain ⟨oa, hoa, hopa, hdsta⟩ := ha0
       have hda : dstOf l.toArray n = some d0 := by simp [dstOf, hoa, hdsta]
       have t1 := E1 n d0 (by omega) hl1 hda hd0
       have t2 := E1 iv0 sv0 (by omega) hl2 hv0 hb0
       have bv1 : box2V V n g n = .pointer (some ⟨g.1, 0, none⟩) := by unfold box2V; simp
       have bv2 : box2V V n g iv0 = .agg c0.toArray := by unfold box2V; rw [if_pos hi0, hV0]
       rw [bv1] at t1
       rw [bv2] at t2
       have hK2 := hK g (w1.setRow g.1 c0.toArray) ⟨hR.ext.setRow q1 _, fun _ => ⟨q1, by rw [hset]; exact q2.setRow c0⟩, fun h => (by
           rw [hlist _ (by omega)] at h
           rw [hlist _ (by omega)]
           exact ⟨(hR.l1 h).1, (hR.l1 h).2.setRow_other (Ne.symm (hR.ne hl1 h)) _⟩), fun h k => (by rw [hlist _ (by omega)] at h k; exact hR.ne h k), fun _ => by rw [hlist n (by omega)]; exact hl1, fun h => (by rw [hlist _ (by omega)] at h; rw [hlist _ (by omega)]; exact hR.s1 h)⟩ (fun _ _ _ => rfl)
       have bv3 : box2V V n g (n + 2) = undef := by unfold box2V; rw [if_neg (by omega), if_neg (by omega), if_neg (by omega)]
       rw [bv3] at hK2
       exact wp_store_row T (.tmp d0) (.tmp sv0) hop g.1 c0.toArray (by simp [Act.eval, Array.getD_eq_getD_getElem?, t1]) (by simp [Act.eval, Array.getD_eq_getD_getElem?, t2]) T zs.toArray q2 (by rw [hi]; simp [hz0]) (by simp [hz0]) (by simpa using ho0) hK2
     · obtain ⟨o2, ho2, hop, hdst, hw1, hw2⟩ := hs1
       rw [ho] at ho2; injection ho2 with ho2; subst ho2
       have hl1 := hwait _ hw1
       have hl2 := hwait _ hw2
       obtain ⟨q1, q2⟩ := hR.l1 hl1
       rw [hun] at q2
       simp only [Bool.false_eq_true, if_false] at q2
       obtain ⟨oa, hoa, hopa, hdsta⟩ := ha1
       have hda : dstOf l.toArray (n + 1) = some d1 := by simp [dstOf, hoa, hdsta]
       have t1 := E1 (n + 1) d1 (by omega) hl1 hda hd1
       have t2 := E1 iv1 sv1 (by omega) hl2 hv1 hb1
       have bv1 : box2V V n g (n + 1) = .pointer (some ⟨g.2, 0, none⟩) := by unfold box2V; rw [if_neg (by omega), if_neg (by omega), if_pos rfl]
       have bv2 : box2V V n g iv1 = .agg c1.toArray := by unfold box2V; rw [if_pos hi1, hV1]
       rw [bv1] at t1
       rw [bv2] at t2
       have hK2 := hK g (w1.setRow g.2 c1.toArray) ⟨hR.ext.setRow q1 _, fun h => (by
           rw [hlist _ (by omega)] at h
           rw [hlist _ (by omega)]
           exact ⟨(hR.l0 h).1, (hR.l0 h).2.setRow_other (hR.ne h hl1) _⟩), fun _ => ⟨q1, by rw [hset]; exact q2.setRow c1⟩, fun h k => (by rw [hlist _ (by omega)] at h k; exact hR.ne h k), fun h => (by rw [hlist _ (by omega)] at h; rw [hlist _ (by omega)]; exact hR.s0 h), fun _ => by rw [hlist (n + 1) (by omega)]; exact hl1⟩ (fun _ _ _ => rfl)
       have bv3 : box2V V n g (n + 3) = undef := by unfold box2V; rw [if_neg (by omega), if_neg (by omega), if_neg (by omega)]
       rw [bv3] at hK2
       exact wp_store_row T (.tmp d1) (.tmp sv1) hop g.2 c1.toArray (by simp [Act.eval, Array.getD_eq_getD_getElem?, t1]) (by simp [Act.eval, Array.getD_eq_getD_getElem?, t2]) T zs.toArray q2 (by rw [hi]; simp [hz1]) (by simp [hz1]) (by simpa using ho1) hK2
 · intro listed g w1 hall hR
   rw [fill_done hall]
   obtain ⟨q1, q2⟩ := hR.l0 (hall n (by omega))
   obtain ⟨q3, q4⟩ := hR.l1 (hall (n + 1) (by omega))
   rw [if_pos (hall (n + 2) (by omega))] at q2
   rw [if_pos (hall (n + 3) (by omega))] at q4
   exact hend g w1 hR.ext q1 q3 q2 q4 (hR.ne (hall n (by omega)) (hall (n + 1) (by omega)))
end
end Go.Proofs.YtlinhgannajfpaaGreatDoor

/- hash.compress. -/
namespace Go.Proofs.YtlinhgannajfpaaGreatDoor
open Go Go.RowKit

def sumC (s v : S8) : Nat → List Value
 | 0 => [.int .u32 (wn s.a : Int), .int .u32 (wn s.b : Int), .int .u32 (wn s.c : Int), .int .u32 (wn s.d : Int), .int .u32 (wn s.e : Int), .int .u32 (wn s.f : Int), .int .u32 (wn s.g : Int), .int .u32 (wn s.h : Int)]
 | 1 => [.int .u32 (wn (s.a + v.a) : Int), .int .u32 (wn s.b : Int), .int .u32 (wn s.c : Int), .int .u32 (wn s.d : Int), .int .u32 (wn (s.e + v.e) : Int), .int .u32 (wn s.f : Int), .int .u32 (wn s.g : Int), .int .u32 (wn s.h : Int)]
 | 2 => [.int .u32 (wn (s.a + v.a) : Int), .int .u32 (wn (s.b + v.b) : Int), .int .u32 (wn s.c : Int), .int .u32 (wn s.d : Int), .int .u32 (wn (s.e + v.e) : Int), .int .u32 (wn (s.f + v.f) : Int), .int .u32 (wn s.g : Int), .int .u32 (wn s.h : Int)]
 | 3 => [.int .u32 (wn (s.a + v.a) : Int), .int .u32 (wn (s.b + v.b) : Int), .int .u32 (wn (s.c + v.c) : Int), .int .u32 (wn s.d : Int), .int .u32 (wn (s.e + v.e) : Int), .int .u32 (wn (s.f + v.f) : Int), .int .u32 (wn (s.g + v.g) : Int), .int .u32 (wn s.h : Int)]
 | _ => [.int .u32 (wn (s.a + v.a) : Int), .int .u32 (wn (s.b + v.b) : Int), .int .u32 (wn (s.c + v.c) : Int), .int .u32 (wn (s.d + v.d) : Int), .int .u32 (wn (s.e + v.e) : Int), .int .u32 (wn (s.f + v.f) : Int), .int .u32 (wn (s.g + v.g) : Int), .int .u32 (wn (s.h + v.h) : Int)]
theorem sum_four (s v : S8) : sumC s v 4 = [.int .u32 (wn (addS s v).a : Int), .int .u32 (wn (addS s v).b : Int), .int .u32 (wn (addS s v).c : Int), .int .u32 (wn (addS s v).d : Int), .int .u32 (wn (addS s v).e : Int), .int .u32 (wn (addS s v).f : Int), .int .u32 (wn (addS s v).g : Int), .int .u32 (wn (addS s v).h : Int)] := rfl
structure CompR (cs : List Value) (r : S8) (vs : List Value) (w : World) (nW g0 g1 : Nat) (wr : World) : Prop where
 S : Arr wr w.heap.size 113 cs
 R : Arr wr (w.heap.size + 1) 113 (List.replicate 8 (.int .u32 0))
 W : Arr wr nW 155 vs
 V : Arr wr g0 157 [.int .u32 (wn r.a : Int), .int .u32 (wn r.b : Int), .int .u32 (wn r.c : Int), .int .u32 (wn r.d : Int)]
 E : Arr wr g1 157 [.int .u32 (wn r.e : Int), .int .u32 (wn r.f : Int), .int .u32 (wn r.g : Int), .int .u32 (wn r.h : Int)]
 ext : Ext w wr
set_option maxHeartbeats 8000000 in
set_option maxRecDepth 100000 in
theorem compress_any (s : S8) (bl : List UInt8) (hl : bl.length = 64) (g o c : Nat) (w : World) (hc : 64 ≤ c) (hb : BlkB w w.heap.size g o bl) (hK : KIn w 2) :
    Calls Tryz.prog 141 #[.agg #[.int .u32 (wn s.a : Int), .int .u32 (wn s.b : Int), .int .u32 (wn s.c : Int), .int .u32 (wn s.d : Int), .int .u32 (wn s.e : Int), .int .u32 (wn s.f : Int), .int .u32 (wn s.g : Int), .int .u32 (wn s.h : Int)], .slice (some ⟨g, o, none⟩) 64 c] w fun e w' => e = .returned (.agg #[.int .u32 (wn (comp s bl).a : Int), .int .u32 (wn (comp s bl).b : Int), .int .u32 (wn (comp s bl).c : Int), .int .u32 (wn (comp s bl).d : Int), .int .u32 (wn (comp s bl).e : Int), .int .u32 (wn (comp s bl).f : Int), .int .u32 (wn (comp s bl).g : Int), .int .u32 (wn (comp s bl).h : Int)]) ∧ Ext w w' := by
 have hm := mixed
 have HB := Lib.hid hb; have HK := Lib.hid hK
 obtain ⟨W0, hW⟩ : ∃ W, W = (w.alloc (.cells #[.int .u32 (wn s.a : Int), .int .u32 (wn s.b : Int), .int .u32 (wn s.c : Int), .int .u32 (wn s.d : Int), .int .u32 (wn s.e : Int), .int .u32 (wn s.f : Int), .int .u32 (wn s.g : Int), .int .u32 (wn s.h : Int)] 113)).alloc (.cells (List.replicate 8 (.int .u32 0)).toArray 113) := ⟨_, rfl⟩
 have HX0 := Lib.hid (show Ext w W0 by rw [hW]; exact ((Ext.refl w).alloc _).alloc _)
 have HS0 := Lib.hid (show Arr W0 w.heap.size 113 [.int .u32 (wn s.a : Int), .int .u32 (wn s.b : Int), .int .u32 (wn s.c : Int), .int .u32 (wn s.d : Int), .int .u32 (wn s.e : Int), .int .u32 (wn s.f : Int), .int .u32 (wn s.g : Int), .int .u32 (wn s.h : Int)] by rw [hW]; exact (Arr.new w _ [.int .u32 (wn s.a : Int), .int .u32 (wn s.b : Int), .int .u32 (wn s.c : Int), .int .u32 (wn s.d : Int), .int .u32 (wn s.e : Int), .int .u32 (wn s.f : Int), .int .u32 (wn s.g : Int), .int .u32 (wn s.h : Int)]).alloc _)
 have HR0 := Lib.hid (show Arr W0 (w.heap.size + 1) 113 (List.replicate 8 (.int .u32 0)) by rw [hW]; exact Arr.new1 w _ _ _)
 obtain ⟨vs, hvs⟩ : ∃ vs, vs = wvs (schedL bl 64) := ⟨_, rfl⟩
 have hvl : vs.length = 64 := by rw [hvs, wvs_len, schedL_len]
 have HiA := Lib.hid (show (Tryz.prog.info? 155).map (·.size) = some vs.length by rw [hvl]; exact infoW64)
 have HoA := Lib.hid (show vs.all (·.oneCell') = true by rw [hvs]; exact wvs_one _)
 have HVL := Lib.hid hvl; have HVS := Lib.hid hvs
 have HC := Lib.hid (schedule_any bl hl g o c W0 hc ((HB.out.ext (Nat.le_refl _) HX0.out).more HX0.out.size))
 rw [← hvs] at HC
 clear hb hK hvs hvl
 have hzz : ∃ i z, Tryz.prog.info? 157 = some i ∧ i.zero = some z ∧ z.cells.toList = [.int .u32 0, .int .u32 0, .int .u32 0, .int .u32 0] := by
  have h : ((Tryz.prog.info? 157).map fun i => i.zero.map fun z => z.cells.toList) = some (some [.int .u32 0, .int .u32 0, .int .u32 0, .int .u32 0]) := by kernel_rfl
  cases hq : Tryz.prog.info? 157 with
  | none => rw [hq] at h; cases h
  | some i =>
    rw [hq] at h
    simp only [Option.map_some, Option.some.injEq] at h
    obtain ⟨z, h1, h2⟩ := Option.map_eq_some_iff.1 h
    exact ⟨i, z, rfl, h1, h2⟩
 have HZ := Lib.hid hzz
 clear hzz
 go_enter Tryz.func141, Tryz.ntmps141
 go_upto_region 1 with fail
 rw [show ((w.alloc (.cells #[.int .u32 (wn s.a : Int), .int .u32 (wn s.b : Int), .int .u32 (wn s.c : Int), .int .u32 (wn s.d : Int), .int .u32 (wn s.e : Int), .int .u32 (wn s.f : Int), .int .u32 (wn s.g : Int), .int .u32 (wn s.h : Int)] 113)).alloc (.cells #[.int .u32 0, .int .u32 0, .int .u32 0, .int .u32 0, .int .u32 0, .int .u32 0, .int .u32 0, .int .u32 0] 113)) = W0 from hW.symm]
 clear hW
 go_upto_region 2 with (first
  | (go_at_call 150; refine HC.out.mono ?_; rintro e w1 ⟨rfl, x1⟩; have HX1 := Lib.hid (HX0.out.trans x1); have HS1 := Lib.hid (HS0.out.ext x1); have HR1 := Lib.hid (HR0.out.ext x1); clear x1)
  | (refine wpList_store_blk2 155 (.tmp 5) (.tmp 14) rfl rfl (Arr.new w1 _ (List.replicate 64 (.int .u32 0))) vs rfl rfl HiA.out (by rw [HVL.out]; rfl) HoA.out rfl ?_; intro W1 hW;
     have HX2 := Lib.hid (show Ext w W1 by rw [hW]; exact (HX1.out.alloc _).setRow HX1.out.size _);
     have HA2 := Lib.hid (show Arr W1 w1.heap.size 155 vs by rw [hW]; exact (Arr.new w1 _ (List.replicate 64 (.int .u32 0))).setRow vs);
     have n1 := HS1.out.lt; have n2 := HR1.out.lt;
     have HS2 := Lib.hid (show Arr W1 w.heap.size 113 [.int .u32 (wn s.a : Int), .int .u32 (wn s.b : Int), .int .u32 (wn s.c : Int), .int .u32 (wn s.d : Int), .int .u32 (wn s.e : Int), .int .u32 (wn s.f : Int), .int .u32 (wn s.g : Int), .int .u32 (wn s.h : Int)] by rw [hW]; exact (HS1.out.alloc _).setRow_other (by omega) _);
     have HR2 := Lib.hid (show Arr W1 (w.heap.size + 1) 113 (List.replicate 8 (.int .u32 0)) by rw [hW]; exact (HR1.out.alloc _).setRow_other (by omega) _);
     clear hW))
 obtain ⟨nW, hnW⟩ : ∃ n, n = w1.heap.size := ⟨_, rfl⟩
 rw [← hnW] at HA2 ⊢
 have lA := HA2.out.lt
 rw [← hnW] at n1 n2
 clear HS1 HR1 HX1 HS0 HR0 HX0 HC hnW
 have cS := Lib.hid HS2.out.cell
 refine wp_region_two2 (w := W1) (fun i => match i with | 0 => .slice (some ⟨w.heap.size, 0, none⟩) 4 8 | 1 => .pointer (some ⟨w.heap.size, 0, none⟩) | 2 => .agg #[.int .u32 (wn s.a : Int), .int .u32 (wn s.b : Int), .int .u32 (wn s.c : Int), .int .u32 (wn s.d : Int)] | 3 => .slice (some ⟨w.heap.size, 4, none⟩) 4 4 | 4 => .pointer (some ⟨w.heap.size, 4, none⟩) | 5 => .agg #[.int .u32 (wn s.e : Int), .int .u32 (wn s.f : Int), .int .u32 (wn s.g : Int), .int .u32 (wn s.h : Int)] | _ => undef) 6 157 6 7 17 20 2 5 [.int .u32 0, .int .u32 0, .int .u32 0, .int .u32 0] [.int .u32 (wn s.a : Int), .int .u32 (wn s.b : Int), .int .u32 (wn s.c : Int), .int .u32 (wn s.d : Int)] [.int .u32 (wn s.e : Int), .int .u32 (wn s.f : Int), .int .u32 (wn s.g : Int), .int .u32 (wn s.h : Int)] hm (by kernel_rfl) (by kernel_rfl) (noGuardD (by kernel_rfl)) rfl ⟨_, rfl, rfl, rfl⟩ ⟨_, rfl, rfl, rfl⟩ ⟨_, rfl, rfl, rfl, rfl, rfl⟩ ⟨_, rfl, rfl, rfl, rfl, rfl⟩ (by decide) (by decide) rfl rfl (by simp) (by simp) (by simp) (by simp) rfl rfl HZ.out (by kernel_rfl) rfl rfl rfl rfl ?_ ?_
 · intro listed w2 i o ho hin hdep hx b K E0 E1 hK
   match i, ho with
   | 0, ho =>
     obtain rfl := Option.some.inj ho
     have e := E0 2 (by kernel_rfl)
     simp only [List.getElem?_toArray, List.getElem?_cons_zero, List.getElem?_cons_succ] at e
     exact op_run (by unfold execOp; simp [e, Act.eval, go_sem]) (hK w2 (ExtD.refl _))
   | 1, ho =>
     obtain rfl := Option.some.inj ho
     have e := E1 0 15 (by decide) (getD_up (hdep ⟨0, .data⟩ (by simp) rfl)) rfl (by simp)
     exact op_run (by unfold execOp; simp [e, Act.eval, go_sem]) (hK w2 (ExtD.refl _))
   | 2, ho =>
     obtain rfl := Option.some.inj ho
     have e := E1 1 16 (by decide) (getD_up (hdep ⟨1, .data⟩ (by simp) rfl)) rfl (by simp)
     refine op_loadcells rfl w.heap.size 0 [.int .u32 (wn s.a : Int), .int .u32 (wn s.b : Int), .int .u32 (wn s.c : Int), .int .u32 (wn s.d : Int)] (eval_of e) (fun j v hv => ?_) _ Tryz.underlying157 rfl (by kernel_rfl) (hK w2 (ExtD.refl _))
     rw [(HS2.out.ext hx.ext).cell, Nat.zero_add]
     match j, hv with
     | 0, hv => exact hv
     | 1, hv => exact hv
     | 2, hv => exact hv
     | 3, hv => exact hv
   | 3, ho =>
     obtain rfl := Option.some.inj ho
     have e := E0 2 (by kernel_rfl)
     simp only [List.getElem?_toArray, List.getElem?_cons_zero, List.getElem?_cons_succ] at e
     exact op_run (by unfold execOp; simp [e, Act.eval, go_sem]) (hK w2 (ExtD.refl _))
   | 4, ho =>
     obtain rfl := Option.some.inj ho
     have e := E1 3 18 (by decide) (getD_up (hdep ⟨3, .data⟩ (by simp) rfl)) rfl (by simp)
     exact op_run (by unfold execOp; simp [e, Act.eval, go_sem]) (hK w2 (ExtD.refl _))
   | 5, ho =>
     obtain rfl := Option.some.inj ho
     have e := E1 4 19 (by decide) (getD_up (hdep ⟨4, .data⟩ (by simp) rfl)) rfl (by simp)
     refine op_loadcells rfl w.heap.size 4 [.int .u32 (wn s.e : Int), .int .u32 (wn s.f : Int), .int .u32 (wn s.g : Int), .int .u32 (wn s.h : Int)] (eval_of e) (fun j v hv => ?_) _ Tryz.underlying157 rfl (by kernel_rfl) (hK w2 (ExtD.refl _))
     rw [(HS2.out.ext hx.ext).cell]
     match j, hv with
     | 0, hv => exact hv
     | 1, hv => exact hv
     | 2, hv => exact hv
     | 3, hv => exact hv
   | i + 6, ho => omega
 · rintro ⟨g0, g1⟩ W2 hx hl0 hl1 A0 A1 hne
   simp only [List.length_cons, List.length_nil, fillAllN, dstOf, Act.put, List.getElem?_toArray, List.getElem?_cons_zero, List.getElem?_cons_succ, Option.bind_some, List.setIfInBounds_toArray, List.set_cons_zero, List.set_cons_succ, box2V, Nat.lt_irrefl, if_false, if_true, Nat.reduceLT, Nat.reduceEqDiff, Nat.reduceAdd]
   have k1 : nW < g0 := by omega
   have k2 : nW < g1 := by omega
   have hne : g0 ≠ g1 := hne
   have HK2 := Lib.hid (HK.out.ext (HX2.out.trans hx.ext))
   obtain ⟨ks, hks⟩ : ∃ ks, ks = wvs kWs := ⟨_, rfl⟩
   have HKC := Lib.hid HK2.out.cells
   have HKG := Lib.hid (fun i (h : i < 64) => kWs_get h)
   have HiK := Lib.hid (show (Tryz.prog.info? 155).map (·.size) = some (wvs kWs).length by rw [wvs_len, kWs_len]; exact infoW64)
   rw [← hks] at HKC HKG HiK
   have HR0 := Lib.hid (CompR.mk (HS2.out.ext hx.ext) (HR2.out.ext hx.ext) (HA2.out.ext hx.ext) A0 A1 (HX2.out.trans hx.ext) : CompR [.int .u32 (wn s.a : Int), .int .u32 (wn s.b : Int), .int .u32 (wn s.c : Int), .int .u32 (wn s.d : Int), .int .u32 (wn s.e : Int), .int .u32 (wn s.f : Int), .int .u32 (wn s.g : Int), .int .u32 (wn s.h : Int)] s vs w nW g0 g1 W2)
   clear hks A0 A1 HS2 HR2 HA2 HX2 cS hx hl0 hl1 lA HZ
   go_upto_region 4 with (refine wpList_load_cells 155 (.global 2) rfl rfl 2 0 ks HKC.out rfl _ Tryz.underlying155 rfl HiK.out ?_)
   go_loopw [22] (fun tv wr => ∃ t : Nat, t ≤ 64 ∧ tv = .int .i64 (t : Int) ∧ CompR [.int .u32 (wn s.a : Int), .int .u32 (wn s.b : Int), .int .u32 (wn s.c : Int), .int .u32 (wn s.d : Int), .int .u32 (wn s.e : Int), .int .u32 (wn s.f : Int), .int .u32 (wn s.g : Int), .int .u32 (wn s.h : Int)] (rnds (schedL bl 64) s t) vs w nW g0 g1 wr) (fun tv _ => 64 - (intOf tv).toNat)
   case atStart => exact ⟨0, by omega, rfl, by rw [rnds_zero]; exact HR0.out⟩
   case round =>
    obtain ⟨t, ht, rfl, hR⟩ := hrel
    have HR := Lib.hid hR
    clear hR HR0
    by_cases h64 : t < 64
    · have HN := Lib.hid (rnds_succ (schedL bl 64) s t)
      have hkt := HKG.out t h64
      have hwt : vs[t]? = some (.int .u32 (wn ((schedL bl 64).getD t 0) : Int)) := by
       rw [HVS.out]
       apply wvs_get
       rw [List.getD_eq_getElem?_getD, List.getElem?_eq_getElem (by rw [schedL_len]; exact h64)]
       rfl
      generalize rnds (schedL bl 64) s t = r at HR HN
      generalize (schedL bl 64).getD t 0 = wt at hwt HN
      generalize kW t = kt at hkt HN
      have cW := HR.out.W.cell t
      rw [hwt] at cW
      have lW := HR.out.W.lt
      have cE := HR.out.E.cell; have lE := HR.out.E.lt
      clear hwt
      have M6 : ∀ w, Calls Tryz.prog 151 #[.int .u32 (wn r.e : Int), .int .i64 6, .int .i64 11, .int .i64 25] w fun e w' => e = .returned (.int .u32 (wn (mixW r.e 6 11 25) : Int)) ∧ w = w' := fun w => (mix_any r.e 6 11 25 (by decide) (by decide) (by decide) w).mono fun _ _ h => ⟨h.1, h.2.symm⟩
      have HM6 := Lib.hid M6
      clear M6
      have hG := near_old
      go_upto_region 6 with (refine wpList_index_cell 155 112 (.tmp 21) (.tmp 22) rfl rfl 64 ks .i64 t _ rfl rfl Tryz.underlying155 (by kernel_rfl) (by kernel_rfl) h64 hkt ?_)
      refine wp_region_near (by assumption) (by kernel_rfl) ?_
      repeat (go_big_quiet_step ((go_at_call 151; exact near_same (HM6.out _))))
      refine wpQuiet_nil ?_
      intro w1 hw1
      have hy := Ext.of_near hw1
      clear hw1
      have HS1 := Lib.hid (HR.out.S.ext hy); have HR1 := Lib.hid (HR.out.R.ext hy); have HW1 := Lib.hid (HR.out.W.ext hy); have HV1 := Lib.hid (HR.out.V.ext hy); have HE1 := Lib.hid (HR.out.E.ext hy); have HX1 := Lib.hid (HR.out.ext.trans hy)
      obtain ⟨xx, hxx⟩ : ∃ xx, xx = r.h + mixW r.e 6 11 25 + ((r.e &&& r.f) ^^^ (~~~r.e &&& r.g)) + kt + wt := ⟨_, rfl⟩
      rw [← hxx]
      have HXX := Lib.hid hxx
      have cV := HV1.out.cell; have lV := HV1.out.lt
      clear hy cE lE cW lW HM6 hxx HR
      have M7 : ∀ w, Calls Tryz.prog 151 #[.int .u32 (wn r.a : Int), .int .i64 2, .int .i64 13, .int .i64 22] w fun e w' => e = .returned (.int .u32 (wn (mixW r.a 2 13 22) : Int)) ∧ w = w' := fun w => (mix_any r.a 2 13 22 (by decide) (by decide) (by decide) w).mono fun _ _ h => ⟨h.1, h.2.symm⟩
      have HM7 := Lib.hid M7
      clear M7
      go_upto_region 7 with fail
      refine wp_region_near (by assumption) (by kernel_rfl) ?_
      repeat (go_big_quiet_step ((go_at_call 151; exact near_same (HM7.out _))))
      refine wpQuiet_nil ?_
      intro w1 hw1
      have hy := Ext.of_near hw1
      clear hw1
      have HS2 := Lib.hid (HS1.out.ext hy); have HR2 := Lib.hid (HR1.out.ext hy); have HW2 := Lib.hid (HW1.out.ext hy); have HV2 := Lib.hid (HV1.out.ext hy); have HE2 := Lib.hid (HE1.out.ext hy); have HX2 := Lib.hid (HX1.out.trans hy)
      obtain ⟨yy, hyy⟩ : ∃ yy, yy = mixW r.a 2 13 22 + ((r.a &&& r.b) ^^^ (r.a &&& r.c) ^^^ (r.b &&& r.c)) := ⟨_, rfl⟩
      rw [← hyy]
      have HYY := Lib.hid hyy
      have cV := HV2.out.cell; have cE := HE2.out.cell
      clear hy lV HM7 hyy HS1 HR1 HW1 HV1 HE1 HX1
      have fE := HE2.out.frozen; have lE := HE2.out.lt; have lV := HV2.out.lt
      go_upto_region 9 with
       (refine wpList_store_blk2 157 (.tmp 7) (.tmp 82) rfl rfl HE2.out [.int .u32 (wn (r.d + xx) : Int), .int .u32 (wn r.e : Int), .int .u32 (wn r.f : Int), .int .u32 (wn r.g : Int)] rfl rfl (by kernel_rfl) rfl rfl rfl ?_;
        intro W3 hW;
        have HE3 := Lib.hid (show Arr W3 g1 157 [.int .u32 (wn (r.d + xx) : Int), .int .u32 (wn r.e : Int), .int .u32 (wn r.f : Int), .int .u32 (wn r.g : Int)] by rw [hW]; exact HE2.out.setRow _);
        have HS3 := Lib.hid (show Arr W3 w.heap.size 113 [.int .u32 (wn s.a : Int), .int .u32 (wn s.b : Int), .int .u32 (wn s.c : Int), .int .u32 (wn s.d : Int), .int .u32 (wn s.e : Int), .int .u32 (wn s.f : Int), .int .u32 (wn s.g : Int), .int .u32 (wn s.h : Int)] by rw [hW]; exact HS2.out.setRow_other (by omega) _);
        have HR3 := Lib.hid (show Arr W3 (w.heap.size + 1) 113 (List.replicate 8 (.int .u32 0)) by rw [hW]; exact HR2.out.setRow_other (by omega) _);
        have HW3 := Lib.hid (show Arr W3 nW 155 vs by rw [hW]; exact HW2.out.setRow_other (by omega) _);
        have HV3 := Lib.hid (show Arr W3 g0 157 [.int .u32 (wn r.a : Int), .int .u32 (wn r.b : Int), .int .u32 (wn r.c : Int), .int .u32 (wn r.d : Int)] by rw [hW]; exact HV2.out.setRow_other hne _);
        have HX3 := Lib.hid (show Ext w W3 by rw [hW]; exact HX2.out.setRow (by omega) _);
        have cV3 := HV3.out.cell; have lV3 := HV3.out.lt;
        clear hW)
      clear cV cE fE lE lV HS2 HR2 HW2 HV2 HE2 HX2
      go_wp2_with
       (refine wpList_store_blk2 157 (.tmp 6) (.tmp 92) rfl rfl HV3.out [.int .u32 (wn (xx + yy) : Int), .int .u32 (wn r.a : Int), .int .u32 (wn r.b : Int), .int .u32 (wn r.c : Int)] rfl rfl (by kernel_rfl) rfl rfl rfl ?_;
        intro W4 hW;
        have HE4 := Lib.hid (show Arr W4 g1 157 [.int .u32 (wn (r.d + xx) : Int), .int .u32 (wn r.e : Int), .int .u32 (wn r.f : Int), .int .u32 (wn r.g : Int)] by rw [hW]; exact HE3.out.setRow_other (Ne.symm hne) _);
        have HS4 := Lib.hid (show Arr W4 w.heap.size 113 [.int .u32 (wn s.a : Int), .int .u32 (wn s.b : Int), .int .u32 (wn s.c : Int), .int .u32 (wn s.d : Int), .int .u32 (wn s.e : Int), .int .u32 (wn s.f : Int), .int .u32 (wn s.g : Int), .int .u32 (wn s.h : Int)] by rw [hW]; exact HS3.out.setRow_other (by omega) _);
        have HR4 := Lib.hid (show Arr W4 (w.heap.size + 1) 113 (List.replicate 8 (.int .u32 0)) by rw [hW]; exact HR3.out.setRow_other (by omega) _);
        have HW4 := Lib.hid (show Arr W4 nW 155 vs by rw [hW]; exact HW3.out.setRow_other (by omega) _);
        have HV4 := Lib.hid (show Arr W4 g0 157 [.int .u32 (wn (xx + yy) : Int), .int .u32 (wn r.a : Int), .int .u32 (wn r.b : Int), .int .u32 (wn r.c : Int)] by rw [hW]; exact HV3.out.setRow _);
        have HX4 := Lib.hid (show Ext w W4 by rw [hW]; exact HX3.out.setRow (by omega) _);
        clear hW)
      refine ⟨⟨t + 1, by omega, rfl, ?_⟩, by simp [intOf]; omega⟩
      have e : rnd r kt wt = ⟨xx + yy, r.a, r.b, r.c, r.d + xx, r.e, r.f, r.g⟩ := by rw [HXX.out, HYY.out]; rfl
      rw [HN.out, e]
      exact ⟨HS4.out, HR4.out, HW4.out, HV4.out, HE4.out, HX4.out⟩
    · obtain rfl : t = 64 := by omega
      have HF := Lib.hid (show comp s bl = addS s (rnds (schedL bl 64) s 64) from rfl)
      generalize rnds (schedL bl 64) s 64 = r at HR HF
      go_upto_region 12 with fail
      go_loopw [94] (fun iv wr => ∃ k : Nat, k ≤ 4 ∧ iv = .int .i64 (k : Int) ∧ CompR (sumC s r k) r vs w nW g0 g1 wr) (fun iv _ => 4 - (intOf iv).toNat)
      case atStart => exact ⟨0, by omega, rfl, HR.out⟩
      case round =>
      obtain ⟨k, hk, rfl, hR⟩ := hrel
      have HR := Lib.hid hR
      clear hR
      have hG := near_old
      have m2 := HR.out.W.lt
      obtain rfl | rfl | rfl | rfl | rfl : k = 0 ∨ k = 1 ∨ k = 2 ∨ k = 3 ∨ k = 4 := by omega
      · have cS := HR.out.S.cell; have cV := HR.out.V.cell; have lS := HR.out.S.lt; have lV := HR.out.V.lt
        simp only [sumC] at cS
        go_upto_region 14 with fail
        refine wp_region_near_tail 8 (by assumption) (by kernel_rfl) ?_
        simp only [List.take_succ_cons, List.take_zero, List.drop_succ_cons, List.drop_zero]
        repeat (go_big_quiet_step (fail))
        refine wpQuiet_nil ?_
        intro w1 hw1
        have hy := Ext.of_near hw1
        clear hw1
        have HS1 := Lib.hid (HR.out.S.ext hy); have HR1 := Lib.hid (HR.out.R.ext hy); have HW1 := Lib.hid (HR.out.W.ext hy); have HV1 := Lib.hid (HR.out.V.ext hy); have HE1 := Lib.hid (HR.out.E.ext hy); have HX1 := Lib.hid (HR.out.ext.trans hy)
        clear hy cS cV lS lV
        have cS := HS1.out.cell; have fS := HS1.out.frozen; have lS := HS1.out.lt
        simp only [sumC] at cS
        have m1 := HW1.out.lt
        have HS2 := Lib.hid (HS1.out.set 0 (.int .u32 (wn (s.a + r.a) : Int)))
        have HR2 := Lib.hid (HR1.out.other (p := ⟨w.heap.size, 0, none⟩) (by simp only; omega) (.int .u32 (wn (s.a + r.a) : Int)))
        have HW2 := Lib.hid (HW1.out.other (p := ⟨w.heap.size, 0, none⟩) (by simp only; omega) (.int .u32 (wn (s.a + r.a) : Int)))
        have HV2 := Lib.hid (HV1.out.other (p := ⟨w.heap.size, 0, none⟩) (by simp only; omega) (.int .u32 (wn (s.a + r.a) : Int)))
        have HE2 := Lib.hid (HE1.out.other (p := ⟨w.heap.size, 0, none⟩) (by simp only; omega) (.int .u32 (wn (s.a + r.a) : Int)))
        have HX2 := Lib.hid (HX1.out.setCell (p := ⟨w.heap.size, 0, none⟩) (Nat.le_refl _) (.int .u32 (wn (s.a + r.a) : Int)))
        go_upto_region 15 with fail
        clear cS fS lS m1 HS1 HR1 HW1 HV1 HE1 HX1
        generalize w1.setCell ⟨w.heap.size, 0, none⟩ (.int .u32 (wn (s.a + r.a) : Int)) = W3 at HS2 HR2 HW2 HV2 HE2 HX2 ⊢
        have cS := HS2.out.cell; have cE := HE2.out.cell; have lS := HS2.out.lt; have lE := HE2.out.lt
        simp only [sumC, List.set_cons_zero] at cS
        refine wp_region_near_tail 9 (by assumption) (by kernel_rfl) ?_
        simp only [List.take_succ_cons, List.take_zero, List.drop_succ_cons, List.drop_zero]
        repeat (go_big_quiet_step (fail))
        refine wpQuiet_nil ?_
        intro w1 hw1
        have hy := Ext.of_near hw1
        clear hw1
        have HS3 := Lib.hid (HS2.out.ext hy); have HR3 := Lib.hid (HR2.out.ext hy); have HW3 := Lib.hid (HW2.out.ext hy); have HV3 := Lib.hid (HV2.out.ext hy); have HE3 := Lib.hid (HE2.out.ext hy); have HX3 := Lib.hid (HX2.out.trans hy)
        clear hy cS cE lS lE
        have cS := HS3.out.cell; have fS := HS3.out.frozen; have lS := HS3.out.lt
        simp only [sumC, List.set_cons_zero] at cS
        go_wp2_with fail
        refine ⟨⟨1, by omega, rfl, ⟨HS3.out.set 4 (.int .u32 (wn (s.e + r.e) : Int)), HR3.out.other (by simp only; omega) _, HW3.out.other (by simp only; omega) _, HV3.out.other (by simp only; omega) _, HE3.out.other (by simp only; omega) _, HX3.out.setCell (Nat.le_refl _) _⟩⟩, by simp [intOf]⟩
      · have cS := HR.out.S.cell; have cV := HR.out.V.cell; have lS := HR.out.S.lt; have lV := HR.out.V.lt
        simp only [sumC] at cS
        go_upto_region 14 with fail
        refine wp_region_near_tail 8 (by assumption) (by kernel_rfl) ?_
        simp only [List.take_succ_cons, List.take_zero, List.drop_succ_cons, List.drop_zero]
        repeat (go_big_quiet_step (fail))
        refine wpQuiet_nil ?_
        intro w1 hw1
        have hy := Ext.of_near hw1
        clear hw1
        have HS1 := Lib.hid (HR.out.S.ext hy); have HR1 := Lib.hid (HR.out.R.ext hy); have HW1 := Lib.hid (HR.out.W.ext hy); have HV1 := Lib.hid (HR.out.V.ext hy); have HE1 := Lib.hid (HR.out.E.ext hy); have HX1 := Lib.hid (HR.out.ext.trans hy)
        clear hy cS cV lS lV
        have cS := HS1.out.cell; have fS := HS1.out.frozen; have lS := HS1.out.lt
        simp only [sumC] at cS
        have m1 := HW1.out.lt
        have HS2 := Lib.hid (HS1.out.set 1 (.int .u32 (wn (s.b + r.b) : Int)))
        have HR2 := Lib.hid (HR1.out.other (p := ⟨w.heap.size, 1, none⟩) (by simp only; omega) (.int .u32 (wn (s.b + r.b) : Int)))
        have HW2 := Lib.hid (HW1.out.other (p := ⟨w.heap.size, 1, none⟩) (by simp only; omega) (.int .u32 (wn (s.b + r.b) : Int)))
        have HV2 := Lib.hid (HV1.out.other (p := ⟨w.heap.size, 1, none⟩) (by simp only; omega) (.int .u32 (wn (s.b + r.b) : Int)))
        have HE2 := Lib.hid (HE1.out.other (p := ⟨w.heap.size, 1, none⟩) (by simp only; omega) (.int .u32 (wn (s.b + r.b) : Int)))
        have HX2 := Lib.hid (HX1.out.setCell (p := ⟨w.heap.size, 1, none⟩) (Nat.le_refl _) (.int .u32 (wn (s.b + r.b) : Int)))
        go_upto_region 15 with fail
        clear cS fS lS m1 HS1 HR1 HW1 HV1 HE1 HX1
        generalize w1.setCell ⟨w.heap.size, 1, none⟩ (.int .u32 (wn (s.b + r.b) : Int)) = W3 at HS2 HR2 HW2 HV2 HE2 HX2 ⊢
        have cS := HS2.out.cell; have cE := HE2.out.cell; have lS := HS2.out.lt; have lE := HE2.out.lt
        simp only [sumC, List.set_cons_zero, List.set_cons_succ] at cS
        refine wp_region_near_tail 9 (by assumption) (by kernel_rfl) ?_
        simp only [List.take_succ_cons, List.take_zero, List.drop_succ_cons, List.drop_zero]
        repeat (go_big_quiet_step (fail))
        refine wpQuiet_nil ?_
        intro w1 hw1
        have hy := Ext.of_near hw1
        clear hw1
        have HS3 := Lib.hid (HS2.out.ext hy); have HR3 := Lib.hid (HR2.out.ext hy); have HW3 := Lib.hid (HW2.out.ext hy); have HV3 := Lib.hid (HV2.out.ext hy); have HE3 := Lib.hid (HE2.out.ext hy); have HX3 := Lib.hid (HX2.out.trans hy)
        clear hy cS cE lS lE
        have cS := HS3.out.cell; have fS := HS3.out.frozen; have lS := HS3.out.lt
        simp only [sumC, List.set_cons_zero, List.set_cons_succ] at cS
        go_wp2_with fail
        refine ⟨⟨2, by omega, rfl, ⟨HS3.out.set 5 (.int .u32 (wn (s.f + r.f) : Int)), HR3.out.other (by simp only; omega) _, HW3.out.other (by simp only; omega) _, HV3.out.other (by simp only; omega) _, HE3.out.other (by simp only; omega) _, HX3.out.setCell (Nat.le_refl _) _⟩⟩, by simp [intOf]⟩
      · have cS := HR.out.S.cell; have cV := HR.out.V.cell; have lS := HR.out.S.lt; have lV := HR.out.V.lt
        simp only [sumC] at cS
        go_upto_region 14 with fail
        refine wp_region_near_tail 8 (by assumption) (by kernel_rfl) ?_
        simp only [List.take_succ_cons, List.take_zero, List.drop_succ_cons, List.drop_zero]
        repeat (go_big_quiet_step (fail))
        refine wpQuiet_nil ?_
        intro w1 hw1
        have hy := Ext.of_near hw1
        clear hw1
        have HS1 := Lib.hid (HR.out.S.ext hy); have HR1 := Lib.hid (HR.out.R.ext hy); have HW1 := Lib.hid (HR.out.W.ext hy); have HV1 := Lib.hid (HR.out.V.ext hy); have HE1 := Lib.hid (HR.out.E.ext hy); have HX1 := Lib.hid (HR.out.ext.trans hy)
        clear hy cS cV lS lV
        have cS := HS1.out.cell; have fS := HS1.out.frozen; have lS := HS1.out.lt
        simp only [sumC] at cS
        have m1 := HW1.out.lt
        have HS2 := Lib.hid (HS1.out.set 2 (.int .u32 (wn (s.c + r.c) : Int)))
        have HR2 := Lib.hid (HR1.out.other (p := ⟨w.heap.size, 2, none⟩) (by simp only; omega) (.int .u32 (wn (s.c + r.c) : Int)))
        have HW2 := Lib.hid (HW1.out.other (p := ⟨w.heap.size, 2, none⟩) (by simp only; omega) (.int .u32 (wn (s.c + r.c) : Int)))
        have HV2 := Lib.hid (HV1.out.other (p := ⟨w.heap.size, 2, none⟩) (by simp only; omega) (.int .u32 (wn (s.c + r.c) : Int)))
        have HE2 := Lib.hid (HE1.out.other (p := ⟨w.heap.size, 2, none⟩) (by simp only; omega) (.int .u32 (wn (s.c + r.c) : Int)))
        have HX2 := Lib.hid (HX1.out.setCell (p := ⟨w.heap.size, 2, none⟩) (Nat.le_refl _) (.int .u32 (wn (s.c + r.c) : Int)))
        go_upto_region 15 with fail
        clear cS fS lS m1 HS1 HR1 HW1 HV1 HE1 HX1
        generalize w1.setCell ⟨w.heap.size, 2, none⟩ (.int .u32 (wn (s.c + r.c) : Int)) = W3 at HS2 HR2 HW2 HV2 HE2 HX2 ⊢
        have cS := HS2.out.cell; have cE := HE2.out.cell; have lS := HS2.out.lt; have lE := HE2.out.lt
        simp only [sumC, List.set_cons_zero, List.set_cons_succ] at cS
        refine wp_region_near_tail 9 (by assumption) (by kernel_rfl) ?_
        simp only [List.take_succ_cons, List.take_zero, List.drop_succ_cons, List.drop_zero]
        repeat (go_big_quiet_step (fail))
        refine wpQuiet_nil ?_
        intro w1 hw1
        have hy := Ext.of_near hw1
        clear hw1
        have HS3 := Lib.hid (HS2.out.ext hy); have HR3 := Lib.hid (HR2.out.ext hy); have HW3 := Lib.hid (HW2.out.ext hy); have HV3 := Lib.hid (HV2.out.ext hy); have HE3 := Lib.hid (HE2.out.ext hy); have HX3 := Lib.hid (HX2.out.trans hy)
        clear hy cS cE lS lE
        have cS := HS3.out.cell; have fS := HS3.out.frozen; have lS := HS3.out.lt
        simp only [sumC, List.set_cons_zero, List.set_cons_succ] at cS
        go_wp2_with fail
        refine ⟨⟨3, by omega, rfl, ⟨HS3.out.set 6 (.int .u32 (wn (s.g + r.g) : Int)), HR3.out.other (by simp only; omega) _, HW3.out.other (by simp only; omega) _, HV3.out.other (by simp only; omega) _, HE3.out.other (by simp only; omega) _, HX3.out.setCell (Nat.le_refl _) _⟩⟩, by simp [intOf]⟩
      · have cS := HR.out.S.cell; have cV := HR.out.V.cell; have lS := HR.out.S.lt; have lV := HR.out.V.lt
        simp only [sumC] at cS
        go_upto_region 14 with fail
        refine wp_region_near_tail 8 (by assumption) (by kernel_rfl) ?_
        simp only [List.take_succ_cons, List.take_zero, List.drop_succ_cons, List.drop_zero]
        repeat (go_big_quiet_step (fail))
        refine wpQuiet_nil ?_
        intro w1 hw1
        have hy := Ext.of_near hw1
        clear hw1
        have HS1 := Lib.hid (HR.out.S.ext hy); have HR1 := Lib.hid (HR.out.R.ext hy); have HW1 := Lib.hid (HR.out.W.ext hy); have HV1 := Lib.hid (HR.out.V.ext hy); have HE1 := Lib.hid (HR.out.E.ext hy); have HX1 := Lib.hid (HR.out.ext.trans hy)
        clear hy cS cV lS lV
        have cS := HS1.out.cell; have fS := HS1.out.frozen; have lS := HS1.out.lt
        simp only [sumC] at cS
        have m1 := HW1.out.lt
        have HS2 := Lib.hid (HS1.out.set 3 (.int .u32 (wn (s.d + r.d) : Int)))
        have HR2 := Lib.hid (HR1.out.other (p := ⟨w.heap.size, 3, none⟩) (by simp only; omega) (.int .u32 (wn (s.d + r.d) : Int)))
        have HW2 := Lib.hid (HW1.out.other (p := ⟨w.heap.size, 3, none⟩) (by simp only; omega) (.int .u32 (wn (s.d + r.d) : Int)))
        have HV2 := Lib.hid (HV1.out.other (p := ⟨w.heap.size, 3, none⟩) (by simp only; omega) (.int .u32 (wn (s.d + r.d) : Int)))
        have HE2 := Lib.hid (HE1.out.other (p := ⟨w.heap.size, 3, none⟩) (by simp only; omega) (.int .u32 (wn (s.d + r.d) : Int)))
        have HX2 := Lib.hid (HX1.out.setCell (p := ⟨w.heap.size, 3, none⟩) (Nat.le_refl _) (.int .u32 (wn (s.d + r.d) : Int)))
        go_upto_region 15 with fail
        clear cS fS lS m1 HS1 HR1 HW1 HV1 HE1 HX1
        generalize w1.setCell ⟨w.heap.size, 3, none⟩ (.int .u32 (wn (s.d + r.d) : Int)) = W3 at HS2 HR2 HW2 HV2 HE2 HX2 ⊢
        have cS := HS2.out.cell; have cE := HE2.out.cell; have lS := HS2.out.lt; have lE := HE2.out.lt
        simp only [sumC, List.set_cons_zero, List.set_cons_succ] at cS
        refine wp_region_near_tail 9 (by assumption) (by kernel_rfl) ?_
        simp only [List.take_succ_cons, List.take_zero, List.drop_succ_cons, List.drop_zero]
        repeat (go_big_quiet_step (fail))
        refine wpQuiet_nil ?_
        intro w1 hw1
        have hy := Ext.of_near hw1
        clear hw1
        have HS3 := Lib.hid (HS2.out.ext hy); have HR3 := Lib.hid (HR2.out.ext hy); have HW3 := Lib.hid (HW2.out.ext hy); have HV3 := Lib.hid (HV2.out.ext hy); have HE3 := Lib.hid (HE2.out.ext hy); have HX3 := Lib.hid (HX2.out.trans hy)
        clear hy cS cE lS lE
        have cS := HS3.out.cell; have fS := HS3.out.frozen; have lS := HS3.out.lt
        simp only [sumC, List.set_cons_zero, List.set_cons_succ] at cS
        go_wp2_with fail
        refine ⟨⟨4, by omega, rfl, ⟨HS3.out.set 7 (.int .u32 (wn (s.h + r.h) : Int)), HR3.out.other (by simp only; omega) _, HW3.out.other (by simp only; omega) _, HV3.out.other (by simp only; omega) _, HE3.out.other (by simp only; omega) _, HX3.out.setCell (Nat.le_refl _) _⟩⟩, by simp [intOf]⟩
      · have hs := HR.out.S
        rw [sum_four, ← HF.out] at hs
        have HS := Lib.hid hs
        clear hs
        generalize hz : comp s bl = z at HS
        have HZ := Lib.hid hz
        clear hz
        have HRR := Lib.hid HR.out.R
        obtain ⟨zs, hzs⟩ : ∃ zs : List Value, zs = [.int .u32 (wn z.a : Int), .int .u32 (wn z.b : Int), .int .u32 (wn z.c : Int), .int .u32 (wn z.d : Int), .int .u32 (wn z.e : Int), .int .u32 (wn z.f : Int), .int .u32 (wn z.g : Int), .int .u32 (wn z.h : Int)] := ⟨_, rfl⟩
        have h8 : zs.length = 8 := by rw [hzs]; rfl
        have HiZ := Lib.hid (show (Tryz.prog.info? 113).map (·.size) = some zs.length by rw [h8]; kernel_rfl)
        have HoZ := Lib.hid (show zs.all (·.oneCell') = true by rw [hzs]; rfl)
        have H8 := Lib.hid h8
        have HZS := Lib.hid hzs
        rw [← hzs] at HS
        clear hzs h8
        go_wp2_with (first
         | (refine wpList_load_blk 113 (.tmp 2) rfl rfl HS.out rfl _ Tryz.underlying113 rfl HiZ.out ?_)
         | (refine wpList_store_blk 113 (.tmp 4) (.tmp 115) rfl rfl HRR.out zs rfl rfl HiZ.out (by rw [H8.out]; rfl) HoZ.out ?_))
        refine bodyPost_ret (v := .agg zs.toArray) ?_ rfl ⟨by rw [HZS.out, HZ.out], HR.out.ext.setRow (by omega) _⟩
        exact results_cell_row Tryz.results141 _ _ _ _ _ _ _ rfl (HRR.out.setRow zs) Tryz.underlying113 rfl HiZ.out
end Go.Proofs.YtlinhgannajfpaaGreatDoor

/- Strings: copied into a row, appended onto a row of bytes, made of a row. -/
namespace Go.Proofs.YtlinhgannajfpaaGreatDoor
open Go Go.RowKit

def bv (x : UInt8) : Value := .int .u8 (x.toNat : Int)
def bvs (l : List UInt8) : List Value := l.map bv
theorem bvs_len (l : List UInt8) : (bvs l).length = l.length := by simp [bvs]
theorem bvs_rows (l : List UInt8) : (rowsB l).flatten = bvs l := by
 unfold rowsB bvs
 induction l with
 | nil => rfl
 | cons x xs ih => simp only [List.map_cons, List.flatten_cons, ih]; rfl
theorem bvs_append (a b : List UInt8) : bvs (a ++ b) = bvs a ++ bvs b := by simp [bvs]
theorem bvs_one (l : List UInt8) : ∀ v ∈ bvs l, v.oneCell' = true := fun v hv => by
 obtain ⟨x, _, rfl⟩ := List.mem_map.1 hv
 rfl
abbrev strV (l : List UInt8) : Value := .string ⟨l.toArray⟩
section
variable {P : Program}
theorem first_str (w : World) (l : List UInt8) (n : Nat) : (Builtin.firstCells 1 n (strV l)).run P w = .ok (bvs (l.take n)).toArray w := by
 simp only [Builtin.firstCells, Sem.run_pure]
 congr 1
 rw [ByteArray.extract_mk]
 simp [bvs]
 rfl
theorem run_copy_str (w : World) (dT sT ty elem : TypeId) (g o dLen dCap : Nat) (l : List UInt8) (cur : Array Value) (t : TypeId) (k : Nat)
    (hu : P.underlying dT = some (.slice elem)) (hs : (P.info? elem).map (·.size) = some 1) (hg : w.heap[g]? = some (.cells cur t (0, 0))) (hk : k = Nat.min l.length dLen) (hfit : o + k ≤ cur.size) :
    (Builtin.copy_ #[dT, sT] ty #[.slice (some ⟨g, o, none⟩) dLen dCap, strV l]).run P w =
      .ok (goInt k) (w.setRow g (splice cur.toList o (bvs (l.take k))).toArray) := by
 have hkl : (bvs (l.take k)).length = k := by rw [bvs_len, List.length_take]; have : k ≤ l.length := by rw [hk]; exact Nat.min_le_left _ _
                                              omega
 have hst := run_storeCells_at P g o t (bvs (l.take k)) 0 cur w hg (by rw [hkl]; simpa using hfit) (bvs_one _)
 have hf := first_str (P := P) w l k
 have hsz : (⟨l.toArray⟩ : ByteArray).size = l.length := by simp [ByteArray.size]
 cases hq : P.info? elem with
 | none => simp [hq] at hs
 | some i =>
   have hi : i.size = 1 := by simpa [hq] using hs
   simp only [strV] at hf ⊢
   simp [Builtin.copy_, run_underlying hu, Builtin.lenOf, sizeOf, typeInfo, hq, hi, hsz, ← hk, hf, hst, splice, hkl, List.append_assoc]
theorem wpList_copy_str {w : World} {ops : Array Oper} {rest : List Oper} {o : Oper} {a : Act} {Q : Exit → Act → World → Prop} (hgd : o.guard = none) (d s : Operand) (dT sT : TypeId)
    (ho : o.op = .call { callee := .builtin .copy, args := #[d, s], argTypes := #[dT, sT] }) (elem : TypeId) (hu : P.underlying dT = some (.slice elem)) (hsz : (P.info? elem).map (·.size) = some 1)
    (g off dLen dCap : Nat) (l : List UInt8) (hd : a.eval d = .slice (some ⟨g, off, none⟩) dLen dCap) (hs : a.eval s = strV l) (k : Nat) (hk : k = Nat.min l.length dLen)
    {t : TypeId} {cs : List Value} (hB : Arr w g t cs) (hfit : off + k ≤ cs.length)
    (h : ∀ W, W = w.setRow g (splice cs off (bvs (l.take k))).toArray → wpList P ops Q rest (a.put o.dst (goInt k)) W) : wpList P ops Q (o :: rest) a w := by
 refine wpList_plain hgd fun K hK => ?_
 have hrun := run_copy_str (P := P) w dT sT o.type elem g off dLen dCap l cs.toArray t k hu hsz hB hk (by simpa using hfit)
 unfold Oper.wp
 simp only [strV] at hrun hs
 simp [execOp, ho, resolve, invoke, builtin, hd, hs, hrun, Result.andThen]
 exact hK _ _ (h _ rfl)
theorem run_append_str (w : World) (base : Nat) (t u ty e : TypeId) (i : TypeInfo) (z : Value) (ht : P.underlying t = some (.slice e)) (hu : P.underlying u = some .string) (hi : P.info? e = some i) (hz : i.zero = some z)
    (hsize : i.size = 1) (hby : i.bytes = 1) (hzs : z.cells.size = 1)
    (v : Value) (n : Nat) (xs : List Value) (hown : w.ownsRow base e 1 v n xs) (hn0 : 0 < n) (l : List UInt8) (hbytes : n + l.length ≤ 140737488355328) (hbase : base ≤ w.heap.size) :
    ∃ v' w', (Builtin.append_ #[t, u] ty #[v, strV l]).run P w = .ok v' w' ∧ w'.ownsRow base e 1 v' (n + l.length) (xs ++ bvs l) ∧ w.grownBy w' v.ownBlock := by
 have hlen : (xs ++ bvs l).length = (n + l.length) * 1 := by rw [List.length_append, hown.1, bvs_len]; omega
 have hsz : (⟨l.toArray⟩ : ByteArray).size = l.length := by simp [ByteArray.size]
 have hxs : xs.length = n := by have := hown.1; omega
 rcases hown.2 with ⟨rfl, rfl⟩ | ⟨g, cap, cur, rfl, hbg, hg, hnc, hcm, hcs, htake⟩
 · omega
 · have hf := fun w => first_str (P := P) w l l.length
   rw [List.take_length] at hf
   simp only [strV] at hf ⊢
   by_cases hroom : n + l.length ≤ cap
   · have hst := run_storeCells_at P g (n * 1) e (bvs l) 0 cur w hg (by rw [bvs_len]; omega) (bvs_one _)
     simp only [Nat.add_zero] at hst
     refine ⟨.slice (some ⟨g, 0, none⟩) (n + l.length) cap, _, ?_, ⟨hlen, .inr ⟨g, cap, _, rfl, hbg, setRow_heap w g cur (cur.toList.take (n * 1) ++ bvs l ++ cur.toList.drop (n * 1 + (bvs l).length)).toArray e _ hg, hroom, hcm, ?_, ?_⟩⟩, ⟨rfl, rfl, rfl, by simp, fun k _ hk => setRow_other w g k _ (fun e => hk (by simp [Value.ownBlock, e]))⟩⟩
     · have hst' := hst
       simp only [Nat.mul_one] at hst'
       simp [Builtin.append_, run_underlying ht, run_underlying hu, sizeOf, typeInfo, hi, hsize, Builtin.lenOf, hsz, hroom, hf, Addr.add_lit, hst']
     · simp only [List.size_toArray, List.length_append, List.length_take, List.length_drop, Array.length_toList, bvs_len]
       omega
     · simp only [htake]
       rw [← hlen]
       exact List.take_left
   · have holds : ∀ j u, xs[j]? = some u → w.drew.cell? ((⟨g, 0, none⟩ : Addr).add j) = some u := fun j u hj => by simpa using hown.cells (g := g) rfl j u hj
     have hfo := run_firstCells_some (P := P) w.drew 1 n ⟨g, 0, none⟩ n cap xs (by omega) holds
     have hge := grownCap_ge w (n + l.length) cap e
     have hcm2 : grownCap w (n + l.length) cap e ≤ maxLen := grownCap_le_maxLen w (n + l.length) cap e (by unfold maxLen; omega)
     have h63' : ¬ (9223372036854775807 < ((n : Int) + (l.length : Int))) := by omega
     have hfits := growslice_fits (need := n + l.length) (old := cap) (bytes := 1) (by omega) (by omega)
     have h48' : ¬ (281474976710656 < Builtin.nextslicecap (n + l.length) cap) := by omega
     refine ⟨.slice (some ⟨w.heap.size, 0, none⟩) (n + l.length) (grownCap w (n + l.length) cap e), w.drew.alloc (.cells (xs.toArray ++ (bvs l).toArray ++ Builtin.zeroCells z.cells (grownCap w (n + l.length) cap e - (n + l.length))) e), ?_, ⟨hlen, .inr ⟨w.heap.size, _, _, rfl, hbase, heap_alloc_new w.drew _, hge, hcm2, ?_, ?_⟩⟩, ⟨rfl, rfl, rfl, by simp, fun k hk _ => heap_alloc_old w.drew _ (by simpa using hk)⟩⟩
     · simp [Builtin.append_, run_underlying ht, run_underlying hu, sizeOf, typeInfo, zeroValue, hi, hz, hsize, hby, Builtin.lenOf, hsz, hroom, h63', h48', Question.forced, hf, hfo, newRow, grownCap]
       congr 2
       apply Array.ext'
       simp [List.append_assoc]
     · simp only [Array.size_append, List.size_toArray, size_zeroCells, hzs, bvs_len]
       omega
     · simp only [Array.toList_append, List.append_assoc]
       rw [← List.append_assoc, ← hlen]
       exact List.take_left
theorem wpList_append_str {w : World} {ops : Array Oper} {rest : List Oper} {o : Oper} {a : Act} {Q : Exit → Act → World → Prop} (hgd : o.guard = none) (s x : Operand) (t u : TypeId)
    (ho : o.op = .call { callee := .builtin .append, args := #[s, x], argTypes := #[t, u] }) (base : Nat) (e : TypeId) (ht : P.underlying t = some (.slice e)) (hu : P.underlying u = some .string)
    (hinf : (P.info? e).map (fun i => (i.zero, i.size, i.bytes)) = some (some (.int .u8 0), 1, 1)) (v : Value) (n : Nat) (xs : List UInt8) (hs : a.eval s = v) (hown : w.ownsRow base e 1 v n (rowsB xs).flatten) (hn0 : 0 < n) (l : List UInt8) (hx : a.eval x = strV l)
    (hbytes : n + l.length ≤ 140737488355328) (hbase : base ≤ w.heap.size) (zs : List UInt8) (hz : zs = xs ++ l)
    (h : ∀ A' c' w', w'.ownsRow base e 1 (.slice A' zs.length c') zs.length (rowsB zs).flatten → w.grownBy w' v.ownBlock → wpList P ops Q rest (a.put o.dst (.slice A' zs.length c')) w') : wpList P ops Q (o :: rest) a w := by
 subst hz
 obtain ⟨i0, hi, hz0, hz1, hz2⟩ := info_parts hinf
 have hxn : xs.length = n := by have := hown.1; rw [bvs_rows, bvs_len] at this; omega
 refine wpList_plain hgd fun K hK => ?_
 obtain ⟨v', w', hr, h2, h3⟩ := run_append_str (P := P) w base t u o.type e i0 _ ht hu hi hz0 hz1 hz2 rfl v n _ hown hn0 l hbytes hbase
 have h4 : w'.ownsRow base e 1 v' (xs ++ l).length (rowsB (xs ++ l)).flatten := by rw [bvs_rows, bvs_append, List.length_append, hxn, ← bvs_rows xs]; exact h2
 obtain ⟨A', c', rfl, _⟩ := own_form h4
 unfold Oper.wp execOp
 simp only [ho, resolve, invoke, builtin, Sem.run_bind, Sem.run_pure, Result.andThen_ok, List.map_toArray, List.map_cons, List.map_nil, hs, hx, hr]
 exact hK _ _ (h A' c' w' h4 h3)
end
end Go.Proofs.YtlinhgannajfpaaGreatDoor

/- wire.Int. -/
namespace Go.Proofs.YtlinhgannajfpaaGreatDoor
open Go Go.RowKit

theorem xor_ones {a : Nat} (h : a < 18446744073709551616) : a ^^^ 18446744073709551615 = 18446744073709551615 - a := by
 have h1 : (BitVec.ofNat 64 a ^^^ BitVec.allOnes 64) = ~~~ (BitVec.ofNat 64 a) := BitVec.xor_allOnes
 have h2 := congrArg BitVec.toNat h1
 rw [BitVec.toNat_xor, BitVec.toNat_not, BitVec.toNat_allOnes, BitVec.toNat_ofNat, Nat.mod_eq_of_lt (by simpa using h)] at h2
 simpa using h2
theorem zz_prog {n : Int} (h : fit64 n) : bits BinOp.xor IntKind.u64 (IntKind.u64.wrap (IntKind.u64.wrap n * 2)) (IntKind.u64.wrap (n / 9223372036854775808)) = (zz n : Int) := by
 obtain ⟨h1, h2⟩ := h
 by_cases h0 : 0 ≤ n
 · have e1 : IntKind.u64.wrap (IntKind.u64.wrap n * 2) = ((2 * n).toNat : Nat) := by rw [IntKind.wrap_u64, IntKind.wrap_u64]; omega
   have e2 : IntKind.u64.wrap (n / 9223372036854775808) = ((0 : Nat) : Int) := by rw [IntKind.wrap_u64]; omega
   rw [e1, e2, bits_xor_u64_nat _ _ (by omega) (by decide)]
   unfold zz
   rw [if_pos h0]
   simp
 · have e1 : IntKind.u64.wrap (IntKind.u64.wrap n * 2) = ((2 * n + 18446744073709551616).toNat : Nat) := by rw [IntKind.wrap_u64, IntKind.wrap_u64]; omega
   have e2 : IntKind.u64.wrap (n / 9223372036854775808) = ((18446744073709551615 : Nat) : Int) := by rw [IntKind.wrap_u64]; omega
   rw [e1, e2, bits_xor_u64_nat _ _ (by omega) (by decide), xor_ones (by omega)]
   unfold zz
   rw [if_neg h0]
   omega
theorem or8 : ∀ m : Fin 256, bits BinOp.or IntKind.u8 (m.val : Int) 128 = ((m.val % 128 + 128 : Nat) : Int) := by decide +kernel
theorem or8_nat (v : Nat) : bits BinOp.or IntKind.u8 ((v : Int) % 256) 128 = ((UInt8.ofNat (v % 128 + 128)).toNat : Int) := by
 have e1 : (v : Int) % 256 = ((v % 256 : Nat) : Int) := by omega
 have h := or8 ⟨v % 256, Nat.mod_lt _ (by decide)⟩
 rw [e1, h, u8_nat (by omega)]
 simp only
 omega
set_option maxRecDepth 100000 in
set_option maxHeartbeats 4000000 in
theorem wireInt_any (n : Int) (hn : fit64 n) (w : World) :
    Calls Tryz.prog 106 #[.int .i64 n] w (RetB (encI n) w) := by
 have hz := zz_prog hn
 have hlt := zz_lt hn
 have HL := Lib.hid (encI_len hn)
 go_enter Tryz.func106, Tryz.ntmps106
 go_upto_region 3 with fail
 clear hz
 obtain ⟨z0, hz0⟩ : ∃ z, z = zz n := ⟨_, rfl⟩
 rw [← hz0] at hlt ⊢
 have HZE := Lib.hid (show vint z0 = encI n by rw [hz0]; rfl)
 clear hz0
 go_loopw [3, 4] (fun zv ov wr => ∃ (v : Nat) (o : List UInt8), zv = .int .u64 (v : Int) ∧ v < 18446744073709551616 ∧ o ++ vint v = vint z0 ∧ wr.ownsRow w.heap.size 5 1 ov o.length (rowsB o).flatten ∧ Ext w wr) (fun zv _ _ => (intOf zv).toNat)
 case atStart => exact ⟨z0, [], rfl, hlt, rfl, World.ownsRow_nil _ _ _ _, Ext.refl _⟩
 case round =>
  obtain ⟨v, o, rfl, hv, ho, hw, hx⟩ := hrel
  have HO := Lib.hid hw; have HX := Lib.hid hx; have HE := Lib.hid ho
  obtain ⟨A1, c1, rfl, _⟩ := own_form hw
  have hol : o.length ≤ 10 := by have h1 := congrArg List.length ho; rw [HZE.out, List.length_append] at h1; have := HL.out; omega
  clear hw hx ho
  have h8 := or8_nat v
  by_cases hbig : (127 : Int) < (v : Int)
  · have HST := Lib.hid (show (o ++ [UInt8.ofNat (v % 128 + 128)]) ++ vint (v / 128) = vint z0 by rw [List.append_assoc, List.singleton_append, ← vint_big (by omega)]; exact HE.out)
    have e7 : (v : Int).fdiv (2 ^ min (Int.toNat 7) IntKind.u64.bits) = ((v / 128 : Nat) : Int) := by rw [show (2 : Int) ^ min (Int.toNat 7) IntKind.u64.bits = 128 from rfl, Int.fdiv_eq_ediv_of_nonneg _ (by decide)]; omega
    generalize UInt8.ofNat (v % 128 + 128) = b at h8 HST
    have HSN := Lib.hid (svB_one wr b)
    have HO3 := Lib.hid (own_ext HO.out ((Ext.refl wr).alloc (.cells #[.int .u8 (b.toNat : Int)] 5)))
    have HX3 := Lib.hid (HX.out.alloc (.cells #[.int .u8 (b.toNat : Int)] 5))
    go_wp2_with (at_builtin; refine wpList_append_B rfl (.tmp 16) (.tmp 20) rfl w.heap.size _ o rfl HO3.out _ 1 1 [b] rfl rfl HSN.out (by omega) HX3.out.size (o ++ [b]) rfl ?_; intro A2 c2 W2 ho2 hg2; have HO4 := Lib.hid ho2; have HX4 := Lib.hid (HX3.out.own HO3.out hg2 (Nat.le_refl _)); clear ho2 hg2)
    go_roundw
    case rel => exact ⟨v / 128, o ++ [b], by first | rfl | rw [e7] | go_num, by omega, HST.out, (by have h := HO4.out; simpa only [List.length_append, List.length_singleton] using h), HX4.out⟩
    case measure => simp [intOf]; omega
  · obtain ⟨b, hb⟩ : ∃ b : UInt8, v = b.toNat := ⟨UInt8.ofNat v, (u8_nat (by omega)).symm⟩
    subst hb
    have HST := Lib.hid (show o ++ [b] = vint z0 by rw [← u8_self b, ← vint_small (by omega)]; exact HE.out)
    clear h8
    have HSN := Lib.hid (svB_one wr b)
    have HO3 := Lib.hid (own_ext HO.out ((Ext.refl wr).alloc (.cells #[.int .u8 (b.toNat : Int)] 5)))
    have HX3 := Lib.hid (HX.out.alloc (.cells #[.int .u8 (b.toNat : Int)] 5))
    go_wp2_with (at_builtin; refine wpList_append_B rfl (.tmp 22) (.tmp 25) rfl w.heap.size _ o rfl HO3.out _ 1 1 [b] rfl rfl HSN.out (by omega) HX3.out.size (encI n) (by rw [HST.out, HZE.out]) ?_; intro A2 c2 W2 ho2 hg2; have HO4 := Lib.hid ho2; have HX4 := Lib.hid (HX3.out.own HO3.out hg2 (Nat.le_refl _)); clear ho2 hg2)
    go_ret
    exact ⟨A2, c2, rfl, HO4.out, HX4.out⟩
end Go.Proofs.YtlinhgannajfpaaGreatDoor

/- The reference's Int (wire). -/
namespace Go.Proofs.YtlinhgannajfpaaGreatDoor
open Go Go.RowKit

set_option maxRecDepth 100000 in
set_option maxHeartbeats 8000000 in
theorem refInt_any (n : Int) (hn : fit64 n) (w : World) :
    Calls Tryz.prog 107 #[.int .i64 n] w (RetB (encI n) w) := by
 have hlt := zz_lt hn
 have HL := Lib.hid (encI_len hn)
 have hfit := hn
 unfold fit64 at hfit
 obtain ⟨z0, hz0⟩ : ∃ z, z = zz n := ⟨_, rfl⟩
 rw [← hz0] at hlt
 have HZE := Lib.hid (show vint z0 = encI n by rw [hz0]; rfl)
 have HZ0 := Lib.hid hz0
 clear hz0
 go_enter Tryz.func107, Tryz.ntmps107
 by_cases hneg : n < 0
 · have e1 : IntKind.i64.wrap (-1 - n) = -1 - n := by rw [IntKind.wrap_i64]; omega
   go_upto_region 5 with fail
   rw [show (-1 - n) * 2 + 1 = (z0 : Int) by rw [HZ0.out]; unfold zz; rw [if_neg (by omega)]; omega]
   clear e1
   clear hneg hfit
   go_loopw [3, 4] (fun zv ov wr => ∃ (v : Nat) (o : List UInt8), zv = .int .u64 (v : Int) ∧ v < 18446744073709551616 ∧ o ++ vint v = vint z0 ∧ wr.ownsRow w.heap.size 5 1 ov o.length (rowsB o).flatten ∧ Ext w wr) (fun zv _ _ => (intOf zv).toNat)
   case atStart => exact ⟨z0, [], rfl, hlt, rfl, World.ownsRow_nil _ _ _ _, Ext.refl _⟩
   case round =>
    obtain ⟨v, o, rfl, hv, ho, hw, hx⟩ := hrel
    have HO := Lib.hid hw; have HX := Lib.hid hx; have HE := Lib.hid ho
    obtain ⟨A1, c1, rfl, _⟩ := own_form hw
    have hol : o.length ≤ 10 := by have h1 := congrArg List.length ho; rw [HZE.out, List.length_append] at h1; have := HL.out; omega
    clear hw hx ho
    by_cases hbig : (128 : Int) ≤ (v : Int)
    · have HST := Lib.hid (show (o ++ [UInt8.ofNat (v % 128 + 128)]) ++ vint (v / 128) = vint z0 by rw [List.append_assoc, List.singleton_append, ← vint_big (by omega)]; exact HE.out)
      have e7 : IntKind.u64.wrap ((v : Int).tdiv 128) = ((v / 128 : Nat) : Int) := by rw [Int.tdiv_eq_ediv_of_nonneg (by omega), IntKind.wrap_u64]; omega
      have e9 : (v : Int) % 128 + 128 = ((UInt8.ofNat (v % 128 + 128)).toNat : Int) := by rw [u8_nat (by omega)]; omega
      generalize UInt8.ofNat (v % 128 + 128) = b at e9 HST
      have HSN := Lib.hid (svB_one wr b)
      have HO3 := Lib.hid (own_ext HO.out ((Ext.refl wr).alloc (.cells #[.int .u8 (b.toNat : Int)] 5)))
      have HX3 := Lib.hid (HX.out.alloc (.cells #[.int .u8 (b.toNat : Int)] 5))
      go_wp2_with (at_builtin; refine wpList_append_B rfl (.tmp 17) (.tmp 22) rfl w.heap.size _ o rfl HO3.out _ 1 1 [b] rfl rfl HSN.out (by omega) HX3.out.size (o ++ [b]) rfl ?_; intro A2 c2 W2 ho2 hg2; have HO4 := Lib.hid ho2; have HX4 := Lib.hid (HX3.out.own HO3.out hg2 (Nat.le_refl _)); clear ho2 hg2)
      go_roundw
      case rel => exact ⟨v / 128, o ++ [b], by first | rfl | rw [e7] | go_num, by omega, HST.out, (by have h := HO4.out; simpa only [List.length_append, List.length_singleton] using h), HX4.out⟩
      case measure => simp [intOf]; omega
    · obtain ⟨b, hb⟩ : ∃ b : UInt8, v = b.toNat := ⟨UInt8.ofNat v, (u8_nat (by omega)).symm⟩
      subst hb
      have HST := Lib.hid (show o ++ [b] = vint z0 by rw [← u8_self b, ← vint_small (by omega)]; exact HE.out)
      have HSN := Lib.hid (svB_one wr b)
      have HO3 := Lib.hid (own_ext HO.out ((Ext.refl wr).alloc (.cells #[.int .u8 (b.toNat : Int)] 5)))
      have HX3 := Lib.hid (HX.out.alloc (.cells #[.int .u8 (b.toNat : Int)] 5))
      go_wp2_with (at_builtin; refine wpList_append_B rfl (.tmp 26) (.tmp 29) rfl w.heap.size _ o rfl HO3.out _ 1 1 [b] rfl rfl HSN.out (by omega) HX3.out.size (encI n) (by rw [HST.out, HZE.out]) ?_; intro A2 c2 W2 ho2 hg2; have HO4 := Lib.hid ho2; have HX4 := Lib.hid (HX3.out.own HO3.out hg2 (Nat.le_refl _)); clear ho2 hg2)
      go_ret
      exact ⟨A2, c2, rfl, HO4.out, HX4.out⟩
 · go_upto_region 5 with fail
   rw [show n * 2 = (z0 : Int) by rw [HZ0.out]; unfold zz; rw [if_pos (by omega)]; omega]
   clear hneg hfit
   go_loopw [3, 4] (fun zv ov wr => ∃ (v : Nat) (o : List UInt8), zv = .int .u64 (v : Int) ∧ v < 18446744073709551616 ∧ o ++ vint v = vint z0 ∧ wr.ownsRow w.heap.size 5 1 ov o.length (rowsB o).flatten ∧ Ext w wr) (fun zv _ _ => (intOf zv).toNat)
   case atStart => exact ⟨z0, [], rfl, hlt, rfl, World.ownsRow_nil _ _ _ _, Ext.refl _⟩
   case round =>
    obtain ⟨v, o, rfl, hv, ho, hw, hx⟩ := hrel
    have HO := Lib.hid hw; have HX := Lib.hid hx; have HE := Lib.hid ho
    obtain ⟨A1, c1, rfl, _⟩ := own_form hw
    have hol : o.length ≤ 10 := by have h1 := congrArg List.length ho; rw [HZE.out, List.length_append] at h1; have := HL.out; omega
    clear hw hx ho
    by_cases hbig : (128 : Int) ≤ (v : Int)
    · have HST := Lib.hid (show (o ++ [UInt8.ofNat (v % 128 + 128)]) ++ vint (v / 128) = vint z0 by rw [List.append_assoc, List.singleton_append, ← vint_big (by omega)]; exact HE.out)
      have e7 : IntKind.u64.wrap ((v : Int).tdiv 128) = ((v / 128 : Nat) : Int) := by rw [Int.tdiv_eq_ediv_of_nonneg (by omega), IntKind.wrap_u64]; omega
      have e9 : (v : Int) % 128 + 128 = ((UInt8.ofNat (v % 128 + 128)).toNat : Int) := by rw [u8_nat (by omega)]; omega
      generalize UInt8.ofNat (v % 128 + 128) = b at e9 HST
      have HSN := Lib.hid (svB_one wr b)
      have HO3 := Lib.hid (own_ext HO.out ((Ext.refl wr).alloc (.cells #[.int .u8 (b.toNat : Int)] 5)))
      have HX3 := Lib.hid (HX.out.alloc (.cells #[.int .u8 (b.toNat : Int)] 5))
      go_wp2_with (at_builtin; refine wpList_append_B rfl (.tmp 17) (.tmp 22) rfl w.heap.size _ o rfl HO3.out _ 1 1 [b] rfl rfl HSN.out (by omega) HX3.out.size (o ++ [b]) rfl ?_; intro A2 c2 W2 ho2 hg2; have HO4 := Lib.hid ho2; have HX4 := Lib.hid (HX3.out.own HO3.out hg2 (Nat.le_refl _)); clear ho2 hg2)
      go_roundw
      case rel => exact ⟨v / 128, o ++ [b], by first | rfl | rw [e7] | go_num, by omega, HST.out, (by have h := HO4.out; simpa only [List.length_append, List.length_singleton] using h), HX4.out⟩
      case measure => simp [intOf]; omega
    · obtain ⟨b, hb⟩ : ∃ b : UInt8, v = b.toNat := ⟨UInt8.ofNat v, (u8_nat (by omega)).symm⟩
      subst hb
      have HST := Lib.hid (show o ++ [b] = vint z0 by rw [← u8_self b, ← vint_small (by omega)]; exact HE.out)
      have HSN := Lib.hid (svB_one wr b)
      have HO3 := Lib.hid (own_ext HO.out ((Ext.refl wr).alloc (.cells #[.int .u8 (b.toNat : Int)] 5)))
      have HX3 := Lib.hid (HX.out.alloc (.cells #[.int .u8 (b.toNat : Int)] 5))
      go_wp2_with (at_builtin; refine wpList_append_B rfl (.tmp 26) (.tmp 29) rfl w.heap.size _ o rfl HO3.out _ 1 1 [b] rfl rfl HSN.out (by omega) HX3.out.size (encI n) (by rw [HST.out, HZE.out]) ?_; intro A2 c2 W2 ho2 hg2; have HO4 := Lib.hid ho2; have HX4 := Lib.hid (HX3.out.own HO3.out hg2 (Nat.le_refl _)); clear ho2 hg2)
      go_ret
      exact ⟨A2, c2, rfl, HO4.out, HX4.out⟩
end Go.Proofs.YtlinhgannajfpaaGreatDoor

/- The reference's Ints (wire). -/
namespace Go.Proofs.YtlinhgannajfpaaGreatDoor
open Go Go.RowKit

theorem take_snocW {α : Type} {l : List α} {k : Nat} {x : α} (hx : l[k]? = some x) : l.take (k + 1) = l.take k ++ [x] := by
 rw [List.take_add_one, hx]; rfl
def encP (l : List Int) (k : Nat) : List UInt8 := encI (l.length : Nat) ++ (l.take k).flatMap encI
theorem encP_all (l : List Int) : encP l l.length = encL l := by unfold encP encL; rw [List.take_length]
theorem encP_succ {l : List Int} {k : Nat} {x : Int} (hx : l[k]? = some x) : encP l (k + 1) = encP l k ++ encI x := by
 unfold encP
 rw [take_snocW hx, List.flatMap_append, List.append_assoc]
 simp
theorem encP_len {l : List Int} (h : ∀ n, n ∈ l → fit64 n) (hl : l.length ≤ 1000000) (k : Nat) : (encP l k).length ≤ 10 + 10 * l.length := by
 unfold encP
 rw [List.length_append]
 have h1 := encI_len (n := ((l.length : Nat) : Int)) ⟨by omega, by omega⟩
 have h2 := flat_len_le (l := l.take k) fun n hn => h n (List.mem_of_mem_take hn)
 rw [List.length_take] at h2
 omega
set_option maxRecDepth 100000 in
set_option maxHeartbeats 4000000 in
theorem refInts_any (A : Option Addr) (c : Nat) (l : List Int) (w : World) (hs : Sv w w.heap.size 1 A c (rowsI l)) (hf : ∀ n, n ∈ l → fit64 n) (hl : l.length ≤ 1000000) :
    Calls Tryz.prog 72 #[.slice A l.length c] w (RetB (encL l) w) := by
 have HS := Lib.hid hs; have HF := Lib.hid hf
 have HI0 := Lib.hid (refInt_any ((l.length : Nat) : Int) ⟨by omega, by omega⟩ w)
 clear hs hf
 go_enter Tryz.func72, Tryz.ntmps72
 go_upto_region 3 with (go_at_call 107; refine HI0.out.mono ?_; rintro e W1 ⟨A1, c1, rfl, ho1, hx1⟩)
 have HO1 := Lib.hid (show W1.ownsRow w.heap.size 5 1 (.slice A1 (encI ((l.length : Nat) : Int)).length c1) (encP l 0).length (rowsB (encP l 0)).flatten by unfold encP; simpa using ho1)
 have HX1 := Lib.hid hx1
 clear ho1 hx1
 go_loopw [3, 4] (fun ov kv wr => ∃ k : Nat, kv = .int .i64 k ∧ k ≤ l.length ∧ wr.ownsRow w.heap.size 5 1 ov (encP l k).length (rowsB (encP l k)).flatten ∧ Ext w wr) (fun _ kv _ => l.length - (intOf kv).toNat)
 case atStart => exact ⟨0, rfl, Nat.zero_le _, HO1.out, HX1.out⟩
 case round =>
  obtain ⟨k, rfl, hk, ho, hx⟩ := hrel
  have HO := Lib.hid ho; have HX := Lib.hid hx
  obtain ⟨A2, c2, rfl, _⟩ := own_form ho
  have HLN := Lib.hid (encP_len HF.out hl)
  clear ho hx
  by_cases hlt : k < l.length
  · obtain ⟨x, hxk⟩ : ∃ x, l[k]? = some x := ⟨_, List.getElem?_eq_getElem hlt⟩
    obtain ⟨b, off, rfl, hbl, r0⟩ := int_row (HS.out.ext HX.out) hxk
    have hfx := HF.out x (List.mem_of_getElem? hxk)
    have HI := Lib.hid (refInt_any x hfx wr)
    have HST := Lib.hid (encP_succ hxk)
    have hk1 : ¬ ((l.length : Int) ≤ (k : Int)) := by omega
    clear hxk
    generalize hep : encP l k = ep at HO HST
    have hepl : ep.length ≤ 10 + 10 * l.length := by rw [← hep]; exact HLN.out k
    clear hep
    have hxl := encI_len hfx
    clear hfx
    generalize encI x = ex at HI HST hxl
    go_wp2_with (first
     | (go_at_call 107; refine HI.out.mono ?_; rintro e W2 ⟨A3, c3, rfl, ho3, hx3⟩; have HS3 := Lib.hid (own_sv_B ho3 rfl); have HO3 := Lib.hid (own_ext HO.out hx3); have HX3 := Lib.hid (HX.out.trans hx3); clear ho3 hx3)
     | (at_builtin; refine wpList_append_B rfl (.tmp 14) (.tmp 19) rfl w.heap.size _ ep rfl HO3.out A3 c3 ex.length ex rfl rfl HS3.out (by omega) HX3.out.size (ep ++ ex) rfl ?_; intro A4 c4 W4 ho4 hg4; have HO4 := Lib.hid ho4; have HX4 := Lib.hid (HX3.out.own HO3.out hg4 (Nat.le_refl _)); clear ho4 hg4))
    go_roundw
    case rel => exact ⟨k + 1, by go_num, by omega, (by rw [HST.out]; have h := HO4.out; simpa only [List.length_append] using h), HX4.out⟩
    case measure => simp [intOf]; omega
  · obtain rfl : k = l.length := by omega
    have HE := Lib.hid (encP_all l)
    rw [HE.out] at HO
    rw [HE.out]
    go_wp2_with fail
    go_ret
    exact ⟨A2, c2, rfl, HO.out, HX.out⟩
end Go.Proofs.YtlinhgannajfpaaGreatDoor

/- wire.Bytes and the reference's Bytes. -/
namespace Go.Proofs.YtlinhgannajfpaaGreatDoor
open Go Go.RowKit

def bytesL (l : List UInt8) : List UInt8 := encI (l.length : Nat) ++ l
@[go_sem] theorem str_size (l : List UInt8) : (⟨l.toArray⟩ : ByteArray).size = l.length := by simp [ByteArray.size]
set_option maxHeartbeats 4000000 in
theorem wireBytes_any (l : List UInt8) (hl : l.length ≤ 100000000) (w : World) : Calls Tryz.prog 110 #[strV l] w (RetB (bytesL l) w) := by
 have HI0 := Lib.hid (wireInt_any ((l.length : Nat) : Int) ⟨by omega, by omega⟩ w)
 have HP := Lib.hid (encI_pos ((l.length : Nat) : Int))
 have HL := Lib.hid (encI_len (n := ((l.length : Nat) : Int)) ⟨by omega, by omega⟩)
 go_enter Tryz.func110, Tryz.ntmps110
 go_wp2_with (first
  | (go_at_call 106; refine HI0.out.mono ?_; rintro e W1 ⟨A1, c1, rfl, ho1, hx1⟩; have HO1 := Lib.hid ho1; have HX1 := Lib.hid hx1; clear ho1 hx1)
  | (at_builtin; refine wpList_append_str rfl (.tmp 5) (.tmp 6) 42 9 rfl w.heap.size 5 Tryz.underlying42 Tryz.underlying9 infoB _ _ (encI ((l.length : Nat) : Int)) rfl HO1.out HP.out l rfl (by have := HL.out; omega) HX1.out.size (bytesL l) rfl ?_; intro A2 c2 W2 ho2 hg2; have HO2 := Lib.hid ho2; have HX2 := Lib.hid (HX1.out.own HO1.out hg2 (Nat.le_refl _)); clear ho2 hg2))
 go_ret
 exact ⟨A2, c2, rfl, HO2.out, HX2.out⟩
set_option maxHeartbeats 4000000 in
theorem refBytes_any (l : List UInt8) (hl : l.length ≤ 100000000) (w : World) : Calls Tryz.prog 143 #[strV l] w (RetB (bytesL l) w) := by
 have HI0 := Lib.hid (refInt_any ((l.length : Nat) : Int) ⟨by omega, by omega⟩ w)
 have HP := Lib.hid (encI_pos ((l.length : Nat) : Int))
 have HL := Lib.hid (encI_len (n := ((l.length : Nat) : Int)) ⟨by omega, by omega⟩)
 go_enter Tryz.func143, Tryz.ntmps143
 go_wp2_with (first
  | (go_at_call 107; refine HI0.out.mono ?_; rintro e W1 ⟨A1, c1, rfl, ho1, hx1⟩; have HO1 := Lib.hid ho1; have HX1 := Lib.hid hx1; clear ho1 hx1)
  | (at_builtin; refine wpList_append_str rfl (.tmp 5) (.tmp 6) 42 9 rfl w.heap.size 5 Tryz.underlying42 Tryz.underlying9 infoB _ _ (encI ((l.length : Nat) : Int)) rfl HO1.out HP.out l rfl (by have := HL.out; omega) HX1.out.size (bytesL l) rfl ?_; intro A2 c2 W2 ho2 hg2; have HO2 := Lib.hid ho2; have HX2 := Lib.hid (HX1.out.own HO1.out hg2 (Nat.le_refl _)); clear ho2 hg2))
 go_ret
 exact ⟨A2, c2, rfl, HO2.out, HX2.out⟩
end Go.Proofs.YtlinhgannajfpaaGreatDoor
