/- YtcfebfblmmbeaaaDoorMk · YtcfebfblmmbeaaaDoorEdS · YtcfebfblmmbeaaaDoorRdh · YtcfebfblmmbeaaaDoorLdh · YtcfebfblmmbeaaaDoorHc · YtcfebfblmmbeaaaDoorHd · YtcfebfblmmbeaaaDoorHe · YtcfebfblmmbeaaaDoorBox · YtcfebfblmmbeaaaDoorIn · YtcfebfblmmbeaaaDoorCpE · YtcfebfblmmbeaaaDoorCpN · YtcfebfblmmbeaaaDoorCm -/
import Derived.OwnWalk
import Derived.MapKept
import Derived.Test.YtcfebfblmmbeaaaDoorRows
import Derived.LaidMore
import Derived.Stop.Joined
import Derived.Lay
import Derived.RangeFuncNested
import Derived.RangeFuncBound
import Derived.RangeFuncCalls
import Derived.RangeFuncLeaves
import Derived.OwnWalkIn
import Derived.TacticsInMore
import Derived.LoopNIn
import Derived.LoopIn
import Derived.Deep.DeepCutAuto
import Derived.Test.YtcfebfblmmbeaaaDoorZa2
/- Maps whose keys are structs: what a block that is a map says of each key. For every program. -/
namespace Go.Proofs.YtcfebfblmmbeaaaDoor
open Go Go.RowKit

theorem own_keep {w w' : World} {base n k : Nat} {e : TypeId} {v : Value} {zs : List Value} (h : w.ownsRow base e k v n zs) {row : Option Nat} (hg : w.grownBy w' row) (hr : ∀ b, row = some b → v.ownBlock ≠ some b) : w'.ownsRow base e k v n zs :=
  h.kept hg (by
    cases hv : v.ownBlock with
    | none => exact .inl rfl
    | some x => exact .inr (fun e => hr x e.symm hv))
theorem own_low_mono {w : World} {base base' n k : Nat} {e : TypeId} {v : Value} {zs : List Value} (hb : base' ≤ base) (h : w.ownsRow base e k v n zs) : w.ownsRow base' e k v n zs := by
  refine ⟨h.1, ?_⟩
  rcases h.2 with h1 | ⟨g, cap, cur, h1, h2, h3⟩
  · exact .inl h1
  · exact .inr ⟨g, cap, cur, h1, Nat.le_trans hb h2, h3⟩
section
variable {P : Program} {K : Type} [DecidableEq K] {t T e : TypeId} {enc : K → Value}
/-- The type t is a struct whose values enc x are compared as the x are. -/
structure KeyT (P : Program) (t : TypeId) (enc : K → Value) : Prop where
  agg : ∀ x, ∃ cs, enc x = .agg cs
  kind : ∃ fs, P.underlying t = some (.struct fs)
  eq : ∀ x y w, (Op.equal t (enc x) (enc y)).run P w = .ok (decide (x = y)) w
  chk : ∀ b x w, (Instr.checkKey b 10000 t (enc x)).run P w = .ok () w
  same : ∀ x, Instr.sameBits 10000 (enc x) (enc x) = true
  inj : ∀ x y, enc x = enc y → x = y

def findI (q : K) : List (K × Value) → Nat → Option (Nat × Value)
  | [], _ => none
  | e :: es, i => if q = e.1 then some (i, e.2) else findI q es (i + 1)
def lookK (ents : List (K × Value)) (q : K) : Option Value := (findI q ents 0).map (·.2)
theorem findI_shift (q : K) : ∀ (ents : List (K × Value)) (i : Nat), findI q ents (i + 1) = (findI q ents i).map fun x => (x.1 + 1, x.2)
  | [], _ => rfl
  | e :: es, i => by
    unfold findI
    split
    · rfl
    · exact findI_shift q es (i + 1)
theorem lookK_cons (x : K × Value) (ents : List (K × Value)) (q : K) : lookK (x :: ents) q = if q = x.1 then some x.2 else lookK ents q := by
  unfold lookK
  rw [findI]
  split
  · rfl
  · rw [findI_shift]; simp [Option.map_map, Function.comp_def]
theorem lookK_nil (q : K) : lookK ([] : List (K × Value)) q = none := rfl
theorem lookK_snoc (ents : List (K × Value)) (q r : K) (v : Value) (h : lookK ents q = none) : lookK (ents ++ [(q, v)]) r = if r = q then some v else lookK ents r := by
  induction ents with
  | nil => rw [List.nil_append, lookK_cons, lookK_nil]
  | cons x xs ih =>
    rw [lookK_cons] at h
    have hq : q ≠ x.1 := by intro hq; rw [if_pos hq] at h; cases h
    rw [if_neg hq] at h
    rw [List.cons_append, lookK_cons, lookK_cons, ih h]
    by_cases hr : r = x.1
    · rw [if_pos hr, if_pos hr, if_neg (by rw [hr]; exact fun h => hq h.symm)]
    · rw [if_neg hr, if_neg hr]
theorem findI_some {q : K} : ∀ {ents : List (K × Value)} {i : Nat} {v : Value}, findI q ents 0 = some (i, v) → ents[i]? = some (q, v)
  | [], _, _, h => by cases h
  | x :: xs, i, v, h => by
    unfold findI at h
    split at h
    · rename_i hq
      injection h with h; injection h with h1 h2
      subst h1 h2 hq
      rfl
    · rw [findI_shift] at h
      obtain ⟨⟨j, u⟩, hj, he⟩ := Option.map_eq_some_iff.1 h
      injection he with h1 h2
      subst h1 h2
      exact findI_some (ents := xs) hj
theorem findI_none {q : K} {ents : List (K × Value)} {i : Nat} (h : findI q ents i = none) : lookK ents q = none := by
  unfold lookK
  have : ∀ (l : List (K × Value)) (i j : Nat), findI q l i = none → findI q l j = none := by
    intro l
    induction l with
    | nil => intros; rfl
    | cons x xs ih =>
      intro i j h
      unfold findI at h ⊢
      split at h
      · cases h
      · rename_i hq; rw [if_neg hq]; exact ih _ _ h
  rw [this ents i 0 h]; rfl
theorem lookK_modify (q r : K) (v : Value) : ∀ (ents : List (K × Value)) (i : Nat) (u : Value), findI q ents 0 = some (i, u) → lookK (ents.modify i fun _ => (q, v)) r = if r = q then some v else lookK ents r
  | [], _, _, h => by cases h
  | x :: xs, i, u, h => by
    unfold findI at h
    split at h
    · rename_i hq
      injection h with h; injection h with h1 h2
      subst h1
      rw [List.modify_zero_cons, lookK_cons, lookK_cons, ← hq]
      split <;> rfl
    · rename_i hq
      rw [findI_shift] at h
      obtain ⟨⟨j, u'⟩, hj, he⟩ := Option.map_eq_some_iff.1 h
      injection he with h1 h2
      subst h1
      rw [List.modify_succ_cons, lookK_cons, lookK_cons, lookK_modify q r v xs j u' hj]
      by_cases hr : r = x.1
      · rw [if_pos hr, if_pos hr, if_neg (by rw [hr]; exact fun h => hq h.symm)]
      · rw [if_neg hr, if_neg hr]
theorem lookK_mem {ents : List (K × Value)} {q : K} (h : q ∉ ents.map (·.1)) : lookK ents q = none := by
  induction ents with
  | nil => rfl
  | cons x xs ih =>
    simp only [List.map_cons, List.mem_cons, not_or] at h
    rw [lookK_cons, if_neg h.1]
    exact ih h.2
theorem lookK_erase (q r : K) : ∀ (ents : List (K × Value)) (i : Nat) (u : Value), (ents.map (·.1)).Nodup → findI q ents 0 = some (i, u) → lookK (ents.eraseIdx i) r = if r = q then none else lookK ents r
  | [], _, _, _, h => by cases h
  | x :: xs, i, u, hn, h => by
    simp only [List.map_cons, List.nodup_cons] at hn
    unfold findI at h
    split at h
    · rename_i hq
      injection h with h; injection h with h1 h2
      subst h1
      rw [List.eraseIdx_cons_zero, lookK_cons, ← hq]
      by_cases hr : r = q
      · rw [if_pos hr, hr, hq]; exact lookK_mem hn.1
      · rw [if_neg hr, if_neg hr]
    · rename_i hq
      rw [findI_shift] at h
      obtain ⟨⟨j, u'⟩, hj, he⟩ := Option.map_eq_some_iff.1 h
      injection he with h1 h2
      subst h1
      rw [List.eraseIdx_cons_succ, lookK_cons, lookK_cons, lookK_erase q r xs j u' hn.2 hj]
      by_cases hr : r = x.1
      · rw [if_pos hr, if_pos hr, if_neg (by rw [hr]; exact fun h => hq h.symm)]
      · rw [if_neg hr, if_neg hr]

theorem run_findAsking (kt : KeyT P t enc) (q : K) (w : World) : ∀ (es : List MapEntry) (ents : List (K × Value)) (i : Nat), es.map (fun e => (e.key, e.val)) = ents.map (fun e => (enc e.1, e.2)) →
    (Instr.findAsking t (enc q) es i).run P w = .ok (findI q ents i) w
  | [], [], _, _ => rfl
  | [], _ :: _, _, h => by simp at h
  | _ :: _, [], _, h => by simp at h
  | x :: xs, y :: ys, i, h => by
    simp only [List.map_cons, List.cons.injEq, Prod.mk.injEq] at h
    obtain ⟨⟨hk, hv⟩, ht⟩ := h
    have heq := kt.eq q y.1 w
    have ih := run_findAsking kt q w xs ys (i + 1) ht
    unfold Instr.findAsking findI
    rw [hk]
    by_cases hq : q = y.1
    · rw [decide_eq_true hq] at heq
      simp [hq, hv] at *
      simp [heq]
    · rw [decide_eq_false hq] at heq
      simp [heq, hq, ih]
theorem run_findKey (kt : KeyT P t enc) (q : K) (w : World) (es : List MapEntry) (ents : List (K × Value)) (h : es.map (fun e => (e.key, e.val)) = ents.map (fun e => (enc e.1, e.2))) :
    (Instr.findKey t (enc q) es).run P w = .ok (findI q ents 0) w := by
  have h1 := run_findAsking kt q w es ents 0 h
  obtain ⟨fs, hk⟩ := kt.kind
  unfold Instr.findKey
  cases es with
  | nil =>
    cases ents with
    | nil => simp [run_underlying hk, Instr.findNow, findI]
    | cons => simp at h
  | cons x xs => simp [run_underlying hk, Instr.findNow, Instr.sameNow, h1]

/-- Block b is a map that says m of its keys. -/
def MapF (enc : K → Value) (w : World) (b : Nat) (m : K → Option Value) : Prop :=
  ∃ es clock, ∃ ents : List (K × Value), w.heap[b]? = some (.map es clock) ∧ es.toList.map (fun e => (e.key, e.val)) = ents.map (fun e => (enc e.1, e.2)) ∧ (ents.map (·.1)).Nodup ∧ (∀ q, lookK ents q = m q) ∧ (∀ x, x ∈ es.toList → x.born < clock) ∧ (es.toList.map (·.born)).Nodup
theorem MapF.lt {w : World} {b : Nat} {m : K → Option Value} (h : MapF enc w b m) : b < w.heap.size := by
  obtain ⟨es, clock, ents, hb, _⟩ := h
  exact (Array.getElem?_eq_some_iff.1 hb).1
theorem MapF.kept {w w' : World} {b : Nat} {m : K → Option Value} {row : Option Nat} (h : MapF enc w b m) (hg : w.grownBy w' row) (hne : row ≠ some b) : MapF enc w' b m := by
  have hl := h.lt
  obtain ⟨es, clock, ents, hb, h2⟩ := h
  exact ⟨es, clock, ents, (hg.block b hl (fun h => hne h.symm)).trans hb, h2⟩
theorem MapF.ext {w w' : World} {b : Nat} {m : K → Option Value} (h : MapF enc w b m) (hx : Ext w w') : MapF enc w' b m := h.kept (hx.by_ none) (by simp)
theorem MapF.alloc {w : World} {b : Nat} {m : K → Option Value} (h : MapF enc w b m) (o : Obj) : MapF enc (w.alloc o) b m := h.ext ((Ext.refl w).alloc o)
theorem MapF.setCell {w : World} {b : Nat} {m : K → Option Value} (h : MapF enc w b m) {p : Addr} (hp : b ≠ p.block) (u : Value) : MapF enc (w.setCell p u) b m := by
  obtain ⟨es, clock, ents, hb, h2⟩ := h
  exact ⟨es, clock, ents, (heap_setCell_other w p b u hp).trans hb, h2⟩
theorem MapF.cong {w : World} {b : Nat} {m m' : K → Option Value} (h : MapF enc w b m) (hm : ∀ q, m q = m' q) : MapF enc w b m' := by
  obtain ⟨es, clock, ents, h1, h2, h3, h4, h5⟩ := h
  exact ⟨es, clock, ents, h1, h2, h3, fun q => (h4 q).trans (hm q), h5⟩
theorem MapF.made (w : World) : MapF enc (w.alloc (.map #[] 0)) w.heap.size (fun _ : K => none) :=
  ⟨#[], 0, [], heap_alloc_new w _, rfl, List.nodup_nil, fun _ => rfl, fun x hx => by simp at hx, List.nodup_nil⟩
theorem MapF.look {w : World} {b : Nat} {m : K → Option Value} (h : MapF enc w b m) (kt : KeyT P t enc) (ht : P.underlying T = some (.map t e)) {z : Value} (hz : (zeroValue e).run P w = .ok z w) (q : K) (c : Bool) :
    (Instr.lookup T (.map (some b)) (enc q) c).run P w = .ok (if c then .tuple #[(m q).getD z, .bool (m q).isSome] else (m q).getD z) w := by
  obtain ⟨es, clock, ents, hb, hes, _, hm, _⟩ := h
  have h1 := run_findKey kt q w es.toList ents hes
  have h2 := kt.chk es.isEmpty q w
  have h3 := hm q
  unfold lookK at h3
  unfold Instr.lookup
  cases hf : findI q ents 0 with
  | none =>
    rw [hf] at h1 h3
    simp only [Option.map_none] at h3
    simp [run_underlying ht, MapKept.run_getObj_map hb, h2, h1, hz, ← h3]
  | some x =>
    rw [hf] at h1 h3
    simp only [Option.map_some] at h3
    simp [run_underlying ht, MapKept.run_getObj_map hb, h2, h1, ← h3]
theorem run_keyStays (kt : KeyT P t enc) (q : K) (w : World) : (Instr.keyThatStays (enc q) (enc q)).run P w = .ok (enc q) w := by
  unfold Instr.keyThatStays
  simp [kt.same q]
theorem grown_setObj (w : World) (b : Nat) (o : Obj) : w.grownBy { w with heap := w.heap.setIfInBounds b o } (some b) :=
  ⟨rfl, rfl, rfl, by simp, fun k _ hne => by
    simp only [Array.getElem?_setIfInBounds]
    rw [if_neg (by rintro rfl; exact hne rfl)]⟩
theorem MapF.update {w : World} {b : Nat} {m : K → Option Value} (h : MapF enc w b m) (kt : KeyT P t enc) (ht : P.underlying T = some (.map t e)) (q : K) (v : Value) :
    ∃ w', (Instr.mapUpdate T (.map (some b)) (enc q) v).run P w = .ok () w' ∧ MapF enc w' b (fun r => if r = q then some v else m r) ∧ w.grownBy w' (some b) := by
  have hl := h.lt
  obtain ⟨es, clock, ents, hb, hes, hnd, hm, hbo, hbn⟩ := h
  have h1 := run_findKey kt q w es.toList ents hes
  have h2 := kt.chk false q w
  cases hf : findI q ents 0 with
  | none =>
    rw [hf] at h1
    have hno := findI_none hf
    refine ⟨{ w with heap := w.heap.setIfInBounds b (.map (es.push { key := enc q, val := v, born := clock }) (clock + 1)) }, ?_, ⟨es.push { key := enc q, val := v, born := clock }, clock + 1, ents ++ [(q, v)], ?_, ?_, ?_, ?_, ?_, ?_⟩, grown_setObj _ _ _⟩
    · unfold Instr.mapUpdate
      simp [run_underlying ht, MapKept.run_getObj_map hb, MapKept.run_setObj_map _ hb, h2, h1]
    · simp [hl]
    · simp [hes]
    · rw [List.map_append, List.nodup_append]
      refine ⟨hnd, by simp, ?_⟩
      intro a ha c hc
      simp at hc
      subst hc
      rintro rfl
      have : lookK ents a ≠ none := by
        clear hno h1 hes hm hf hnd
        induction ents with
        | nil => simp at ha
        | cons x xs ih =>
          rw [lookK_cons]
          split
          · simp
          · rename_i hne
            simp only [List.map_cons, List.mem_cons] at ha
            exact ih (ha.resolve_left hne)
      exact this hno
    · intro r
      rw [lookK_snoc _ _ _ _ hno, hm r]
    · intro x hx
      simp only [Array.toList_push, List.mem_append, List.mem_singleton] at hx
      rcases hx with hx | rfl
      · have := hbo x hx; omega
      · simp
    · rw [Array.toList_push, List.map_append, List.nodup_append]
      refine ⟨hbn, by simp, ?_⟩
      intro a ha c hc
      simp at hc
      subst hc
      obtain ⟨x, hx, rfl⟩ := List.mem_map.1 ha
      have := hbo x hx
      omega
  | some x =>
    obtain ⟨i, u⟩ := x
    rw [hf] at h1
    have hat := findI_some hf
    have hkey : es.toList[i]?.map (fun e => (e.key, e.val)) = some (enc q, u) := by
      have := congrArg (fun l => l[i]?) hes
      simp only [List.getElem?_map, hat, Option.map_some] at this
      exact this
    obtain ⟨me, hme, hmk⟩ := Option.map_eq_some_iff.1 hkey
    injection hmk with hmk hmv
    have hme2 : es[i]? = some me := by simpa using hme
    have h3 := run_keyStays kt q w
    refine ⟨{ w with heap := w.heap.setIfInBounds b (.map (es.modify i fun e => { e with key := enc q, val := v }) clock) }, ?_, ⟨es.modify i fun e => { e with key := enc q, val := v }, clock, ents.modify i (fun _ => (q, v)), ?_, ?_, ?_, ?_, ?_, ?_⟩, grown_setObj _ _ _⟩
    · unfold Instr.mapUpdate
      simp [run_underlying ht, MapKept.run_getObj_map hb, MapKept.run_setObj_map _ hb, h2, h1, hme2, hmk, h3]
    · simp [hl]
    · apply List.ext_getElem?
      intro j
      have h5 := congrArg (fun l => l[j]?) hes
      simp only [List.getElem?_map, Array.getElem?_toList] at h5
      simp only [List.getElem?_map, Array.getElem?_toList, List.getElem?_modify, Array.getElem?_modify]
      by_cases hij : i = j
      · subst hij
        simp [hme2, hat]
      · simp [hij, h5]
    · have : (ents.modify i (fun _ => (q, v))).map (·.1) = ents.map (·.1) := by
        apply List.ext_getElem?
        intro j
        simp only [List.getElem?_map, List.getElem?_modify]
        by_cases hij : i = j
        · subst hij; simp [hat]
        · simp [hij]
      rw [this]; exact hnd
    · intro r
      rw [lookK_modify q r v ents i u hf, hm r]
    · intro x hx
      obtain ⟨j, hj⟩ := List.getElem?_of_mem hx
      rw [Array.getElem?_toList, Array.getElem?_modify] at hj
      split at hj
      · obtain ⟨y, hy, rfl⟩ := Option.map_eq_some_iff.1 hj
        exact hbo y (by rw [← Array.getElem?_toList] at hy; exact List.mem_of_getElem? hy)
      · exact hbo x (by rw [← Array.getElem?_toList] at hj; exact List.mem_of_getElem? hj)
    · have : (es.modify i fun e => { e with key := enc q, val := v }).toList.map (·.born) = es.toList.map (·.born) := by
        apply List.ext_getElem?
        intro j
        simp only [List.getElem?_map, Array.getElem?_toList, Array.getElem?_modify]
        by_cases hij : i = j
        · subst hij; simp [hme2]
        · simp [hij]
      rw [this]; exact hbn
theorem wpList_mapUpdate_F {w : World} {ops : Array Oper} {rest : List Oper} {o : Oper} {a : Act} {Q : Exit → Act → World → Prop} (hg : o.guard = none) (mo x y : Operand) (hop : o.op = .mapUpdate T mo x y)
    {b : Nat} {m : K → Option Value} (h : MapF enc w b m) (kt : KeyT P t enc) (ht : P.underlying T = some (.map t e)) (q : K) (v : Value) (hm : a.eval mo = .map (some b)) (hx : a.eval x = enc q) (hv : a.eval y = v)
    (hK : ∀ w', MapF enc w' b (fun r => if r = q then some v else m r) → w.grownBy w' (some b) → wpList P ops Q rest (a.put o.dst undef) w') : wpList P ops Q (o :: rest) a w := by
  refine wpList_plain hg fun K' hK' => ?_
  obtain ⟨w', hrun, r1, r2⟩ := h.update kt ht q v
  unfold Oper.wp
  simp [execOp, hop, hm, hx, hv, hrun, Result.andThen]
  exact hK' _ _ (hK w' r1 r2)
theorem wpList_insert_F {w : World} {ops : Array Oper} {rest : List Oper} {o : Oper} {a : Act} {Q : Exit → Act → World → Prop} (hg : o.guard = none) (mo x y : Operand) (hop : o.op = .insert T mo x y)
    {b : Nat} {m : K → Option Value} (h : MapF enc w b m) (kt : KeyT P t enc) (ht : P.underlying T = some (.map t e)) (q : K) (v : Value) (hm : a.eval mo = .map (some b)) (hx : a.eval x = enc q) (hv : a.eval y = v)
    (hK : ∀ w', MapF enc w' b (fun r => if r = q then some v else m r) → w.grownBy w' (some b) → wpList P ops Q rest (a.put o.dst undef) w') : wpList P ops Q (o :: rest) a w := by
  refine wpList_plain hg fun K' hK' => ?_
  obtain ⟨w', hrun, r1, r2⟩ := h.update kt ht q v
  unfold Oper.wp
  simp [execOp, hop, hm, hx, hv, hrun, Result.andThen]
  exact hK' _ _ (hK w' r1 r2)
theorem map_eraseIdx_ {α β : Type} (f : α → β) : ∀ (l : List α) (i : Nat), (l.eraseIdx i).map f = (l.map f).eraseIdx i
  | [], _ => rfl
  | _ :: _, 0 => rfl
  | x :: xs, i + 1 => by simp [map_eraseIdx_ f xs i]
theorem MapF.delete {w : World} {b : Nat} {m : K → Option Value} (h : MapF enc w b m) (kt : KeyT P t enc) (ht : P.underlying T = some (.map t e)) (q : K) (ty : TypeId) :
    ∃ w', (Builtin.delete_ #[T, t] ty #[.map (some b), enc q]).run P w = .ok (.tuple #[]) w' ∧ MapF enc w' b (fun r => if r = q then none else m r) ∧ w.grownBy w' (some b) := by
  have hl := h.lt
  obtain ⟨es, clock, ents, hb, hes, hnd, hm, hbo, hbn⟩ := h
  have h1 := run_findKey kt q w es.toList ents hes
  have h2 := kt.chk es.isEmpty q w
  cases hf : findI q ents 0 with
  | none =>
    rw [hf] at h1
    have hno := findI_none hf
    refine ⟨{ w with heap := w.heap.setIfInBounds b (.map es clock) }, ?_, ⟨es, clock, ents, ?_, hes, hnd, ?_, hbo, hbn⟩, grown_setObj _ _ _⟩
    · unfold Builtin.delete_
      simp [run_underlying ht, MapKept.run_getObj_map hb, MapKept.run_setObj_map _ hb, h2, h1]
    · simp [hl]
    · intro r
      show lookK ents r = if r = q then none else m r
      by_cases hr : r = q
      · rw [if_pos hr, hr]; exact hno
      · rw [if_neg hr]; exact hm r
  | some x =>
    obtain ⟨i, u⟩ := x
    rw [hf] at h1
    have hat := findI_some hf
    refine ⟨{ w with heap := w.heap.setIfInBounds b (.map (es.eraseIdxIfInBounds i) clock) }, ?_, ⟨es.eraseIdxIfInBounds i, clock, ents.eraseIdx i, ?_, ?_, ?_, ?_, ?_, ?_⟩, grown_setObj _ _ _⟩
    · unfold Builtin.delete_
      simp [run_underlying ht, MapKept.run_getObj_map hb, MapKept.run_setObj_map _ hb, h2, h1]
    · simp [hl]
    · rw [Array.toList_eraseIdxIfInBounds, map_eraseIdx_, map_eraseIdx_, hes]
    · rw [map_eraseIdx_]
      exact hnd.sublist (List.eraseIdx_sublist ..)
    · intro r
      rw [lookK_erase q r ents i u hnd hf, hm r]
    · intro x hx
      rw [Array.toList_eraseIdxIfInBounds] at hx
      exact hbo x ((List.eraseIdx_sublist ..).mem hx)
    · rw [Array.toList_eraseIdxIfInBounds, map_eraseIdx_]
      exact hbn.sublist (List.eraseIdx_sublist ..)
theorem wpList_delete_F {w : World} {ops : Array Oper} {rest : List Oper} {o : Oper} {a : Act} {Q : Exit → Act → World → Prop} (hg : o.guard = none) (mo x : Operand) (hop : o.op = .call { callee := .builtin .delete, args := #[mo, x], argTypes := #[T, t] })
    {b : Nat} {m : K → Option Value} (h : MapF enc w b m) (kt : KeyT P t enc) (ht : P.underlying T = some (.map t e)) (q : K) (hm : a.eval mo = .map (some b)) (hx : a.eval x = enc q)
    (hK : ∀ w', MapF enc w' b (fun r => if r = q then none else m r) → w.grownBy w' (some b) → wpList P ops Q rest (a.put o.dst (.tuple #[])) w') : wpList P ops Q (o :: rest) a w := by
  refine wpList_plain hg fun K' hK' => ?_
  obtain ⟨w', hrun, r1, r2⟩ := h.delete kt ht q o.type
  unfold Oper.wp
  simp [execOp, hop, resolve, invoke, builtin, hm, hx, hrun, Result.andThen]
  exact hK' _ _ (hK w' r1 r2)
end
end Go.Proofs.YtcfebfblmmbeaaaDoor

/- Slices of edits, slices of names; '==' at both. -/
namespace Go.Proofs.YtcfebfblmmbeaaaDoor
open Go Go.RowKit

def Ed.cells (x : Ed) : List Value := [.int .i64 x.st.tick, .int .i64 x.st.clock, .int .i64 x.st.site, .int .i64 x.st.seq, .int .i64 x.kind, .int .i64 x.box.lo.x, .int .i64 x.box.lo.y, .int .i64 x.box.lo.z, .int .i64 x.box.hi.x, .int .i64 x.box.hi.y, .int .i64 x.box.hi.z, .int .i64 x.at_.x, .int .i64 x.at_.y, .int .i64 x.at_.z, .int .i64 x.turn, .int .i64 x.cell, .int .i64 x.size]
def Nm.cells (x : Nm) : List Value := [.int .i64 x.site, .int .i64 x.seq]
def rowsE (l : List Ed) : List (List Value) := l.map Ed.cells
def rowsN (l : List Nm) : List (List Value) := l.map Nm.cells
theorem rowsE_length (l : List Ed) : (rowsE l).length = l.length := by simp [rowsE]
theorem rowsN_length (l : List Nm) : (rowsN l).length = l.length := by simp [rowsN]
theorem Ed.one (x : Ed) : ∀ u, u ∈ x.cells → u.oneCell' = true := fun u hu => by
  simp only [Ed.cells, List.mem_cons, List.not_mem_nil, or_false] at hu
  rcases hu with rfl | rfl | rfl | rfl | rfl | rfl | rfl | rfl | rfl | rfl | rfl | rfl | rfl | rfl | rfl | rfl | rfl <;> rfl
theorem Nm.one (x : Nm) : ∀ u, u ∈ x.cells → u.oneCell' = true := fun u hu => by
  simp only [Nm.cells, List.mem_cons, List.not_mem_nil, or_false] at hu
  rcases hu with rfl | rfl <;> rfl
theorem rowsE_rwk (l : List Ed) : Rwk 17 (rowsE l) := fun x hx => by
  obtain ⟨p, _, rfl⟩ := List.mem_map.1 hx
  exact ⟨rfl, p.one⟩
theorem rowsN_rwk (l : List Nm) : Rwk 2 (rowsN l) := fun x hx => by
  obtain ⟨p, _, rfl⟩ := List.mem_map.1 hx
  exact ⟨rfl, p.one⟩
theorem rowsE_take (l : List Ed) (i : Nat) : rowsE (l.take i) = (rowsE l).take i := by simp [rowsE, List.map_take]
theorem rowsN_take (l : List Nm) (i : Nat) : rowsN (l.take i) = (rowsN l).take i := by simp [rowsN, List.map_take]
theorem rowsE_set (l : List Ed) (i : Nat) (x : Ed) : rowsE (l.set i x) = (rowsE l).set i x.cells := by simp [rowsE, List.map_set]
theorem rowsN_set (l : List Nm) (i : Nat) (x : Nm) : rowsN (l.set i x) = (rowsN l).set i x.cells := by simp [rowsN, List.map_set]
theorem rowsE_append (a b : List Ed) : rowsE (a ++ b) = rowsE a ++ rowsE b := by simp [rowsE]
theorem rowsN_append (a b : List Nm) : rowsN (a ++ b) = rowsN a ++ rowsN b := by simp [rowsN]
theorem ed_row {w : World} {B c j : Nat} {A : Option Addr} {l : List Ed} {p : Ed} (h : Sv w B 17 A c (rowsE l)) (hp : l[j]? = some p) :
    ∃ b off, A = some ⟨b, off, none⟩ ∧ b < B ∧ w.rangeAt b (off + j * 17) p.cells := h.row (by simp [rowsE, hp])
theorem nm_row {w : World} {B c j : Nat} {A : Option Addr} {l : List Nm} {p : Nm} (h : Sv w B 2 A c (rowsN l)) (hp : l[j]? = some p) :
    ∃ b off, A = some ⟨b, off, none⟩ ∧ b < B ∧ w.cell? ⟨b, off + j * 2, none⟩ = some (.int .i64 p.site) ∧ w.cell? ⟨b, off + j * 2 + 1, none⟩ = some (.int .i64 p.seq) := by
  obtain ⟨b, off, e, hb, hr⟩ := h.row (i := j) (x := p.cells) (by simp [rowsN, hp])
  exact ⟨b, off, e, hb, hr 0 _ rfl, hr 1 _ rfl⟩
theorem zeroEdV (w : World) : (zeroValue 32).run Tryd.prog w = .ok (.agg #[.int .i64 0, .int .i64 0, .int .i64 0, .int .i64 0, .int .i64 0, .int .i64 0, .int .i64 0, .int .i64 0, .int .i64 0, .int .i64 0, .int .i64 0, .int .i64 0, .int .i64 0, .int .i64 0, .int .i64 0, .int .i64 0, .int .i64 0]) w := by kernel_rfl
theorem zeroNmV (w : World) : (zeroValue 24).run Tryd.prog w = .ok (.agg #[.int .i64 0, .int .i64 0]) w := by kernel_rfl
theorem infoEd : (Tryd.prog.info? 32).map (fun i => (i.zero, i.size, i.bytes)) = some (some (.agg #[.int .i64 0, .int .i64 0, .int .i64 0, .int .i64 0, .int .i64 0, .int .i64 0, .int .i64 0, .int .i64 0, .int .i64 0, .int .i64 0, .int .i64 0, .int .i64 0, .int .i64 0, .int .i64 0, .int .i64 0, .int .i64 0, .int .i64 0]), 17, 136) := by kernel_rfl
theorem infoNm : (Tryd.prog.info? 24).map (fun i => (i.zero, i.size, i.bytes)) = some (some (.agg #[.int .i64 0, .int .i64 0]), 2, 16) := by kernel_rfl
set_option maxHeartbeats 4000000 in
theorem eqEd_run (a b : Ed) (w : World) : (binOp .eql 32 (.agg a.cells.toArray) (.agg b.cells.toArray)).run Tryd.prog w = .ok (.bool (decide (a = b))) w := by
  unfold Ed.cells
  obtain ⟨⟨a1, a2, a3, a4⟩, a5, ⟨⟨a6, a7, a8⟩, ⟨a9, a10, a11⟩⟩, ⟨a12, a13, a14⟩, a15, a16, a17⟩ := a
  obtain ⟨⟨b1, b2, b3, b4⟩, b5, ⟨⟨b6, b7, b8⟩, ⟨b9, b10, b11⟩⟩, ⟨b12, b13, b14⟩, b15, b16, b17⟩ := b
  simp [go_sem]
  by_cases h1 : a1 = b1
  · subst h1
    by_cases h2 : a2 = b2
    · subst h2
      by_cases h3 : a3 = b3
      · subst h3
        by_cases h4 : a4 = b4
        · subst h4
          by_cases h5 : a5 = b5
          · subst h5
            by_cases h6 : a6 = b6
            · subst h6
              by_cases h7 : a7 = b7
              · subst h7
                by_cases h8 : a8 = b8
                · subst h8
                  by_cases h9 : a9 = b9
                  · subst h9
                    by_cases h10 : a10 = b10
                    · subst h10
                      by_cases h11 : a11 = b11
                      · subst h11
                        by_cases h12 : a12 = b12
                        · subst h12
                          by_cases h13 : a13 = b13
                          · subst h13
                            by_cases h14 : a14 = b14
                            · subst h14
                              by_cases h15 : a15 = b15
                              · subst h15
                                by_cases h16 : a16 = b16
                                · subst h16
                                  by_cases h17 : a17 = b17
                                  · simp [h17]
                                  · simp [h17]
                                · simp [h16]
                              · simp [h15]
                            · simp [h14]
                          · simp [h13]
                        · simp [h12]
                      · simp [h11]
                    · simp [h10]
                  · simp [h9]
                · simp [h8]
              · simp [h7]
            · simp [h6]
          · simp [h5]
        · simp [h4]
      · simp [h3]
    · simp [h2]
  · simp [h1]
set_option maxHeartbeats 4000000 in
theorem neqEd_run (a b : Ed) (w : World) : (binOp .neq 32 (.agg a.cells.toArray) (.agg b.cells.toArray)).run Tryd.prog w = .ok (.bool (decide (a ≠ b))) w := by
  unfold Ed.cells
  obtain ⟨⟨a1, a2, a3, a4⟩, a5, ⟨⟨a6, a7, a8⟩, ⟨a9, a10, a11⟩⟩, ⟨a12, a13, a14⟩, a15, a16, a17⟩ := a
  obtain ⟨⟨b1, b2, b3, b4⟩, b5, ⟨⟨b6, b7, b8⟩, ⟨b9, b10, b11⟩⟩, ⟨b12, b13, b14⟩, b15, b16, b17⟩ := b
  simp [go_sem]
  by_cases h1 : a1 = b1
  · subst h1
    by_cases h2 : a2 = b2
    · subst h2
      by_cases h3 : a3 = b3
      · subst h3
        by_cases h4 : a4 = b4
        · subst h4
          by_cases h5 : a5 = b5
          · subst h5
            by_cases h6 : a6 = b6
            · subst h6
              by_cases h7 : a7 = b7
              · subst h7
                by_cases h8 : a8 = b8
                · subst h8
                  by_cases h9 : a9 = b9
                  · subst h9
                    by_cases h10 : a10 = b10
                    · subst h10
                      by_cases h11 : a11 = b11
                      · subst h11
                        by_cases h12 : a12 = b12
                        · subst h12
                          by_cases h13 : a13 = b13
                          · subst h13
                            by_cases h14 : a14 = b14
                            · subst h14
                              by_cases h15 : a15 = b15
                              · subst h15
                                by_cases h16 : a16 = b16
                                · subst h16
                                  by_cases h17 : a17 = b17
                                  · simp [h17]
                                  · simp [h17]
                                · simp [h16]
                              · simp [h15]
                            · simp [h14]
                          · simp [h13]
                        · simp [h12]
                      · simp [h11]
                    · simp [h10]
                  · simp [h9]
                · simp [h8]
              · simp [h7]
            · simp [h6]
          · simp [h5]
        · simp [h4]
      · simp [h3]
    · simp [h2]
  · simp [h1]
set_option maxHeartbeats 4000000 in
theorem eqNm_run (a b : Nm) (w : World) : (binOp .eql 24 (.agg a.cells.toArray) (.agg b.cells.toArray)).run Tryd.prog w = .ok (.bool (decide (a = b))) w := by
  unfold Nm.cells
  obtain ⟨a1, a2⟩ := a
  obtain ⟨b1, b2⟩ := b
  simp [go_sem]
  by_cases h1 : a1 = b1
  · subst h1
    by_cases h2 : a2 = b2
    · simp [h2]
    · simp [h2]
  · simp [h1]
set_option maxHeartbeats 4000000 in
theorem neqNm_run (a b : Nm) (w : World) : (binOp .neq 24 (.agg a.cells.toArray) (.agg b.cells.toArray)).run Tryd.prog w = .ok (.bool (decide (a ≠ b))) w := by
  unfold Nm.cells
  obtain ⟨a1, a2⟩ := a
  obtain ⟨b1, b2⟩ := b
  simp [go_sem]
  by_cases h1 : a1 = b1
  · subst h1
    by_cases h2 : a2 = b2
    · simp [h2]
    · simp [h2]
  · simp [h1]
end Go.Proofs.YtcfebfblmmbeaaaDoor

/- Reading of arguments: structs of ints and slices of them. -/
namespace Go.Proofs.YtcfebfblmmbeaaaDoor
open Go Go.RowKit Go.ChangeShapes Go.WideShapes Go.ChangeAt

def coverB (P : Program) (fs : Array Field) (n : Nat) : Bool := (List.range n).all fun j => (List.range fs.size).any fun i => match fs[i]? with | some f => decide (f.offset ≤ j) && decide (j < f.offset + P.cellsOf f.type) | none => false
theorem cover_of {P : Program} {fs : Array Field} {n : Nat} (h : coverB P fs n = true) : ∀ j, j < n → ∃ (i : Nat) (f : Field), fs[i]? = some f ∧ f.offset ≤ j ∧ j < f.offset + P.cellsOf f.type := fun j hj => by
  unfold coverB at h
  rw [List.all_eq_true] at h
  have h1 := h j (List.mem_range.2 hj)
  rw [List.any_eq_true] at h1
  obtain ⟨i, hi, h2⟩ := h1
  cases hf : fs[i]? with
  | none => rw [hf] at h2; cases h2
  | some f =>
    rw [hf] at h2
    simp only [Bool.and_eq_true, decide_eq_true_eq] at h2
    exact ⟨i, f, hf, h2.1, h2.2⟩
theorem own_ : ownKnob Tryd.prog.godebug = none := by kernel_rfl
theorem laidOut_ : laidOutB Tryd.prog = true := by kernel_rfl
theorem cells_int : Tryd.prog.cellsOf 3 = 1 := by kernel_rfl
theorem cells_St : Tryd.prog.cellsOf 26 = 4 := by kernel_rfl
theorem cells_Pt : Tryd.prog.cellsOf 28 = 3 := by kernel_rfl
theorem cells_Bx : Tryd.prog.cellsOf 30 = 6 := by kernel_rfl
theorem cells_Ed : Tryd.prog.cellsOf 32 = 17 := by kernel_rfl
theorem cells_Nm : Tryd.prog.cellsOf 24 = 2 := by kernel_rfl
theorem ints_int_ : IntsT Tryd.prog 3 := ints_int Tryd.underlying3 (by kernel_rfl)
theorem ints_St : IntsT Tryd.prog 26 := by
  refine ints_struct Tryd.underlying26 (fun i f h => ?_) (fun j hj => ?_)
  · match i, h with
    | 0, h => injection h with h; subst h; exact ints_int_
    | 1, h => injection h with h; subst h; exact ints_int_
    | 2, h => injection h with h; subst h; exact ints_int_
    | 3, h => injection h with h; subst h; exact ints_int_
    | i + 4, h => simp at h
  · exact cover_of (by kernel_rfl) j hj
theorem ints_Pt : IntsT Tryd.prog 28 := by
  refine ints_struct Tryd.underlying28 (fun i f h => ?_) (fun j hj => ?_)
  · match i, h with
    | 0, h => injection h with h; subst h; exact ints_int_
    | 1, h => injection h with h; subst h; exact ints_int_
    | 2, h => injection h with h; subst h; exact ints_int_
    | i + 3, h => simp at h
  · exact cover_of (by kernel_rfl) j hj
theorem ints_Bx : IntsT Tryd.prog 30 := by
  refine ints_struct Tryd.underlying30 (fun i f h => ?_) (fun j hj => ?_)
  · match i, h with
    | 0, h => injection h with h; subst h; exact ints_Pt
    | 1, h => injection h with h; subst h; exact ints_Pt
    | i + 2, h => simp at h
  · exact cover_of (by kernel_rfl) j hj
theorem ints_Ed : IntsT Tryd.prog 32 := by
  refine ints_struct Tryd.underlying32 (fun i f h => ?_) (fun j hj => ?_)
  · match i, h with
    | 0, h => injection h with h; subst h; exact ints_St
    | 1, h => injection h with h; subst h; exact ints_int_
    | 2, h => injection h with h; subst h; exact ints_Bx
    | 3, h => injection h with h; subst h; exact ints_Pt
    | 4, h => injection h with h; subst h; exact ints_int_
    | 5, h => injection h with h; subst h; exact ints_int_
    | 6, h => injection h with h; subst h; exact ints_int_
    | i + 7, h => simp at h
  · exact cover_of (by kernel_rfl) j hj
theorem ints_Nm : IntsT Tryd.prog 24 := by
  refine ints_struct Tryd.underlying24 (fun i f h => ?_) (fun j hj => ?_)
  · match i, h with
    | 0, h => injection h with h; subst h; exact ints_int_
    | 1, h => injection h with h; subst h; exact ints_int_
    | i + 2, h => simp at h
  · exact cover_of (by kernel_rfl) j hj
def Ed.ints (x : Ed) : List Int := [x.st.tick, x.st.clock, x.st.site, x.st.seq, x.kind, x.box.lo.x, x.box.lo.y, x.box.lo.z, x.box.hi.x, x.box.hi.y, x.box.hi.z, x.at_.x, x.at_.y, x.at_.z, x.turn, x.cell, x.size]
def Nm.ints (x : Nm) : List Int := [x.site, x.seq]
set_option maxRecDepth 100000 in
theorem read_Eds {H : Type} {enc : TypeId × Value → H} {W : World} {base : Nat} {r : Reach} {v : Value} {d : DataW H} {ps : List MemPlace}
    (hv : Value.okWide Tryd.prog W r base 22 v) (h : DataW.Trod enc Tryd.prog W 0 (fun _ => true) true 22 v d ps) :
    ∃ (A : Option Addr) (c : Nat) (l : List Ed), v = .slice A l.length c ∧ Sv W W.heap.size 17 A c (rowsE l) ∧ ∀ y, y ∈ l → ∀ n, n ∈ y.ints → (Lit.int .i64 n).wf = true := by
  obtain ⟨A, c, ls, rfl, hs, hl⟩ := read_rows Tryd.underlying22 cells_Ed (by decide) ints_Ed hv h
  obtain ⟨l, hll, hfit⟩ : ∃ l : List Ed, ls.map (fun l => l.map (Value.int .i64)) = rowsE l ∧ ∀ y, y ∈ l → ∀ n, n ∈ y.ints → (Lit.int .i64 n).wf = true := by
    clear hs hv h
    induction ls with
    | nil => exact ⟨[], rfl, by simp⟩
    | cons x xs ih =>
      obtain ⟨l, hl', hfit⟩ := ih (fun y hy => hl y (List.mem_cons_of_mem _ hy))
      obtain ⟨h3, h4⟩ := hl x (List.mem_cons_self ..)
      match x, h3, h4 with
      | [a0, a1, a2, a3, a4, a5, a6, a7, a8, a9, a10, a11, a12, a13, a14, a15, a16], _, h4 => exact ⟨⟨⟨a0, a1, a2, a3⟩, a4, ⟨⟨a5, a6, a7⟩, ⟨a8, a9, a10⟩⟩, ⟨a11, a12, a13⟩, a14, a15, a16⟩ :: l, by unfold rowsE at hl' ⊢; simp only [List.map_cons, hl']; rfl, fun y hy => by
        rcases List.mem_cons.1 hy with rfl | hy
        · exact h4
        · exact hfit y hy⟩
  rw [hll] at hs
  have hlen := congrArg List.length hll
  unfold rowsE at hlen
  simp only [List.length_map] at hlen
  exact ⟨A, c, l, by rw [hlen], hs.sv, hfit⟩
set_option maxRecDepth 100000 in
theorem read_Ed {H : Type} {enc : TypeId × Value → H} {W : World} {base : Nat} {r : Reach} {v : Value} {d : DataW H} {ps : List MemPlace}
    (hv : Value.okWide Tryd.prog W r base 32 v) (h : DataW.Trod enc Tryd.prog W 0 (fun _ => true) true 32 v d ps) : ∃ x : Ed, v = .agg (x.ints.map (Value.int .i64)).toArray ∧ ∀ n, n ∈ x.ints → (Lit.int .i64 n).wf = true := by
  obtain ⟨l, rfl, hl, hw⟩ := read_struct Tryd.underlying32 ints_Ed hv h
  rw [cells_Ed] at hl
  match l, hl, hw with
  | [a0, a1, a2, a3, a4, a5, a6, a7, a8, a9, a10, a11, a12, a13, a14, a15, a16], _, hw => exact ⟨⟨⟨a0, a1, a2, a3⟩, a4, ⟨⟨a5, a6, a7⟩, ⟨a8, a9, a10⟩⟩, ⟨a11, a12, a13⟩, a14, a15, a16⟩, rfl, hw⟩
set_option maxRecDepth 100000 in
theorem read_Nm {H : Type} {enc : TypeId × Value → H} {W : World} {base : Nat} {r : Reach} {v : Value} {d : DataW H} {ps : List MemPlace}
    (hv : Value.okWide Tryd.prog W r base 24 v) (h : DataW.Trod enc Tryd.prog W 0 (fun _ => true) true 24 v d ps) : ∃ x : Nm, v = .agg (x.ints.map (Value.int .i64)).toArray ∧ ∀ n, n ∈ x.ints → (Lit.int .i64 n).wf = true := by
  obtain ⟨l, rfl, hl, hw⟩ := read_struct Tryd.underlying24 ints_Nm hv h
  rw [cells_Nm] at hl
  match l, hl, hw with
  | [a0, a1], _, hw => exact ⟨⟨a0, a1⟩, rfl, hw⟩
end Go.Proofs.YtcfebfblmmbeaaaDoor

/- What the laid variable gives: the table of the kinds is there. -/
namespace Go.Proofs.YtcfebfblmmbeaaaDoor
open Go Go.RowKit Go.ChangeShapes Go.WideShapes Go.ChangeAt

section
variable {P : Program} {H : Type} {enc : TypeId × Value → H} {w : World} {spare : Nat → Bool} {held : Bool} {n : Nat}
theorem int_at {t : TypeId} (ht : P.underlying t = some (.int .i64)) {cs : List Value} {off : Nat} {v : Int} {p : List MemPlace} (h : DataW.trod enc P w 0 spare held n t ((cs.drop off).take 1) = some (.lit (.int .i64 v), p)) : cs[off]? = some (.int .i64 v) := by
  obtain ⟨k, e1, e2, _⟩ := DataW.trod_int ht h
  injection e2 with e2 _
  injection e2 with e2
  injection e2 with _ e2
  subst e2
  have h1 : ((cs.drop off).take 1)[0]? = some (.int .i64 v) := by rw [e1]; rfl
  rw [List.getElem?_take, if_pos (by decide), List.getElem?_drop] at h1
  exact h1
theorem part_at {ds : List (DataW H)} {xs : List (DataW H × List MemPlace)} {p : List MemPlace} {q : List MemPlace} (hx : ((DataW.agg ds, p) : DataW H × List MemPlace) = (.agg (xs.map (·.1)), q)) {i : Nat} {d : DataW H} (hd : ds[i]? = some d) : ∃ r, xs[i]? = some (d, r) := by
  injection hx with hx _
  injection hx with hx
  subst hx
  rw [List.getElem?_map] at hd
  obtain ⟨x, hx, rfl⟩ := Option.map_eq_some_iff.1 hd
  exact ⟨x.2, hx⟩
end
theorem gRows : Tryd.prog.globalNamed "voxel/edit.rows" = some 0 := by kernel_rfl
def laidL : List (String × DataW Unit) := [("voxel/edit.rows", Rows.laid_voxel_edit_rows)]
set_option maxRecDepth 100000 in
theorem rows_of {W : World} {cs : Array Value} {f : Nat} {p : List MemPlace} {enc : TypeId × Value → Unit} {spare : Nat → Bool} {held : Bool} (hv : W.var? Tryd.prog "voxel/edit.rows" = some cs) (hd : DataW.trod enc Tryd.prog W 0 spare held f 86 cs.toList = some (Rows.laid_voxel_edit_rows, p)) : RowsIn W := by
  obtain ⟨xs, m, _, hx, _, _, hg⟩ := DataW.trod_array Tryd.underlying86 hd
  have c2 : Tryd.prog.cellsOf 85 = 2 := by kernel_rfl
  have c1 : Tryd.prog.cellsOf 3 = 1 := by kernel_rfl
  rw [c2] at hg
  have key : ∀ i, i < 9 → W.cell? ⟨0, 2 * i + 1, none⟩ = some (.int .i64 (rowF i)) := by
    intro i hi
    have hpart : ∃ s r, xs[i]? = some (.agg [.lit (.string s), .lit (.int .i64 (rowF i))], r) := by
      match i, hi with
      | 0, _ => exact ⟨_, part_at hx (i := 0) rfl⟩
      | 1, _ => exact ⟨_, part_at hx (i := 1) rfl⟩
      | 2, _ => exact ⟨_, part_at hx (i := 2) rfl⟩
      | 3, _ => exact ⟨_, part_at hx (i := 3) rfl⟩
      | 4, _ => exact ⟨_, part_at hx (i := 4) rfl⟩
      | 5, _ => exact ⟨_, part_at hx (i := 5) rfl⟩
      | 6, _ => exact ⟨_, part_at hx (i := 6) rfl⟩
      | 7, _ => exact ⟨_, part_at hx (i := 7) rfl⟩
      | 8, _ => exact ⟨_, part_at hx (i := 8) rfl⟩
      | i + 9, h => omega
    obtain ⟨s, r, hp⟩ := hpart
    have g := hg i hi
    rw [hp] at g
    obtain ⟨ys, k, _, hy, _, _, hf⟩ := DataW.trod_struct Tryd.underlying85 g
    obtain ⟨r1, h1⟩ := part_at hy (i := 1) rfl
    have f1 : DataW.trod enc Tryd.prog W 0 spare held k 3 ((((cs.toList.drop (i * 2)).take 2).drop 1).take (Tryd.prog.cellsOf 3)) = ys[1]? := hf 1 _ rfl
    rw [h1, c1] at f1
    have q := int_at Tryd.underlying3 f1
    rw [List.getElem?_take, if_pos (by decide), List.getElem?_drop, Array.getElem?_toList] at q
    rw [World.var?_cell gRows hv (2 * i + 1), show 2 * i + 1 = i * 2 + 1 by omega]
    exact q
  exact ⟨key, World.block_lt_of_cell? W _ (key 0 (by decide))⟩
theorem laid_of {W : World} (h : laidMetH Tryd.prog laidL W) : RowsIn W := by
  rw [MakeChecks.laidMetH_plain _ _ _ (by kernel_rfl)] at h
  obtain ⟨ps, ⟨g0, t0, cs0, f0, p0, q0, hg0, ht0, hv0, hd0, _, _⟩, _, _⟩ := h
  obtain rfl := Option.some.inj (gRows.symm.trans hg0)
  obtain rfl := Option.some.inj ((show (Tryd.prog.globals[0]?).map (·.type) = some 86 by kernel_rfl).symm.trans ht0)
  exact rows_of hv0 hd0
end Go.Proofs.YtcfebfblmmbeaaaDoor

/- History, plainly: a list put in order; a list turned with repetitions; sets of parts. -/
namespace Go.Proofs.YtcfebfblmmbeaaaDoor
open Go Go.RowKit

/-- x goes at place k of the list in order. -/
structure AtE (o : List Ed) (x : Ed) (k : Nat) : Prop where
  le : k ≤ o.length
  hi : ∀ (i : Nat) (y : Ed), k ≤ i → o[i]? = some y → befE x y = true
theorem AtE.start (o : List Ed) (x : Ed) : AtE o x o.length := ⟨Nat.le_refl _, fun i y hi hy => by have := (List.getElem?_eq_some_iff.1 hy).1; omega⟩
theorem AtE.down {o : List Ed} {x y : Ed} {k : Nat} (h : AtE o x (k + 1)) (hy : o[k]? = some y) (hb : befE x y = true) : AtE o x k :=
  ⟨by have := h.le; omega, fun i z hi hz => by
    rcases Nat.lt_or_ge k i with h1 | h1
    · exact h.hi i z h1 hz
    · have : i = k := by omega
      subst this
      rw [hy] at hz; injection hz with hz; rw [← hz]; exact hb⟩
theorem Srt.take_lt {α : Type} {r : α → α → Bool} {o : List α} (hs : Srt r o) {i j : Nat} {x y : α} (hx : o[i]? = some x) (hy : o[j]? = some y) (hij : i < j) : r x y = true := by
  obtain ⟨h1, rfl⟩ := List.getElem?_eq_some_iff.1 hx
  obtain ⟨h2, rfl⟩ := List.getElem?_eq_some_iff.1 hy
  exact List.pairwise_iff_getElem.1 hs i j h1 h2 hij
theorem AtE.put {o : List Ed} {x : Ed} {k : Nat} (h : AtE o x k) (hs : Srt befE o) (hlo : ∀ y, 0 < k → o[k - 1]? = some y → befE y x = true) : Srt befE (o.take k ++ (x :: o.drop k)) := by
  unfold Srt
  rw [List.pairwise_append, List.pairwise_cons]
  have hd : ∀ y, y ∈ o.drop k → befE x y = true := fun y hy => by
    obtain ⟨i, hi⟩ := List.getElem?_of_mem hy
    rw [List.getElem?_drop] at hi
    exact h.hi _ y (by omega) hi
  have ht : ∀ y, y ∈ o.take k → befE y x = true := fun y hy => by
    obtain ⟨i, hi⟩ := List.getElem?_of_mem hy
    rw [List.getElem?_take] at hi
    split at hi
    · rename_i hik
      have hk1 : k - 1 < o.length := by have := h.le; omega
      have h1 := hlo o[k - 1] (by omega) (List.getElem?_eq_getElem hk1)
      rcases Nat.lt_or_ge i (k - 1) with h2 | h2
      · exact ordE.tr (hs.take_lt hi (List.getElem?_eq_getElem hk1) h2) h1
      · have : i = k - 1 := by omega
        subst this
        rw [List.getElem?_eq_getElem hk1] at hi
        injection hi with hi
        rw [← hi]; exact h1
    · cases hi
  exact ⟨hs.sublist (List.take_sublist ..), ⟨hd, hs.sublist (List.drop_sublist ..)⟩, fun a ha b hb => by
    rcases List.mem_cons.1 hb with rfl | hb
    · exact ht a ha
    · exact ordE.tr (ht a ha) (hd b hb)⟩
theorem put_mem (o : List Ed) (x : Ed) (k : Nat) (q : Ed) : q ∈ o.take k ++ (x :: o.drop k) ↔ q = x ∨ q ∈ o := by
  have : q ∈ o ↔ q ∈ o.take k ∨ q ∈ o.drop k := by conv => lhs; rw [← List.take_append_drop k o, List.mem_append]
  rw [List.mem_append, List.mem_cons, this]
  constructor
  · rintro (h | h | h)
    · exact .inr (.inl h)
    · exact .inl h
    · exact .inr (.inr h)
  · rintro (h | h | h)
    · exact .inr (.inl h)
    · exact .inl h
    · exact .inr (.inr h)
/-- Where the search stops: the element there is x, or x is new. -/
theorem AtE.seen {o : List Ed} {x y : Ed} {k : Nat} (_hy : o[k]? = some y) (hb : befE x y = false) : y = x ∨ befE y x = true := by
  cases h : befE y x
  · exact .inl (ordE.tot h hb)
  · exact .inr rfl
/-- A list in order, each once. -/
structure IsOrd (l m : List Ed) : Prop where
  srt : Srt befE m
  mem : ∀ q, q ∈ m ↔ q ∈ l
theorem IsOrd.uniq {l m m' : List Ed} (h : IsOrd l m) (k : IsOrd l m') : m = m' := h.srt.eq ordE k.srt fun x => (h.mem x).trans (k.mem x).symm
theorem nodup_le {α : Type} [DecidableEq α] : ∀ {l m : List α}, l.Nodup → (∀ x, x ∈ l → x ∈ m) → l.length ≤ m.length
  | [], _, _, _ => Nat.zero_le _
  | x :: xs, m, hd, hs => by
    rw [List.nodup_cons] at hd
    have hx := hs x (List.mem_cons_self ..)
    have ih := nodup_le (l := xs) (m := m.erase x) hd.2 (fun y hy => by
      have hne : y ≠ x := by rintro rfl; exact hd.1 hy
      exact (List.mem_erase_of_ne hne).2 (hs y (List.mem_cons_of_mem _ hy)))
    rw [List.length_erase_of_mem hx] at ih
    have := List.length_pos_of_mem hx
    simp only [List.length_cons]
    omega
theorem IsOrd.len {l m : List Ed} (h : IsOrd l m) : m.length ≤ l.length := nodup_le (h.srt.nodup ordE) (fun x hx => (h.mem x).1 hx)
theorem IsSet.len {l s : List Ed} (h : IsSet l s) : s.length ≤ l.length := nodup_le (h.srt.nodup ordE) (fun x hx => ((h.mem x).1 hx).1)
theorem IsAct.len {l s : List Ed} (h : IsAct l s) : s.length ≤ l.length := nodup_le (h.srt.nodup ordE) (fun x hx => ((h.mem x).1 hx).1.1)
/-- Turned: each place of the list is met. -/
theorem turn_all {n t j : Nat} (hj : j < n) : ∃ i, i < n ∧ (n - 1 - i + t) % n = j := by
  have hn : 0 < n := by omega
  refine ⟨(n - 1 + t + (n - j)) % n, Nat.mod_lt _ hn, ?_⟩
  have h1 := Nat.mod_lt (n - 1 + t + (n - j)) hn
  generalize hr : (n - 1 + t + (n - j)) % n = r at h1
  have h2 := Nat.div_add_mod (n - 1 + t + (n - j)) n
  rw [hr] at h2
  generalize (n - 1 + t + (n - j)) / n = q at h2
  -- n * q + r = n - 1 + t + (n - j)
  have h3 : n - 1 - r + t + (n - j) + (n - (n - j)) = n - 1 - r + t + n := by omega
  have h4 : n - 1 - r + t + n = n * q + j := by omega
  have h5 : (n - 1 - r + t) % n = (n - 1 - r + t + n) % n := by rw [Nat.add_mod_right]
  rw [h5, h4, Nat.mul_add_mod]
  exact Nat.mod_eq_of_lt hj
/-- What the longer list of FillsIsOwn.. says: the sites. -/
theorem IsForks.own {l : List Ed} {x : Ed} {f g : List Nm} (hf : IsForks l f) (hg : IsForks (l ++ [x]) g) : (f.filter fun n => decide (n.site ≠ x.st.site)) = g.filter fun n => decide (n.site ≠ x.st.site) :=
  (hf.srt.filter _).eq ordN (hg.srt.filter _) fun n => by
    simp only [List.mem_filter, decide_eq_true_eq]
    constructor
    · rintro ⟨h1, h2⟩; exact ⟨(hg.mem n).2 ((Forked.own h2).2 ((hf.mem n).1 h1)), h2⟩
    · rintro ⟨h1, h2⟩; exact ⟨(hf.mem n).2 ((Forked.own h2).1 ((hg.mem n).1 h1)), h2⟩
theorem IsAct.own {l : List Ed} {x y : Ed} {a b : List Ed} (ha : IsAct l a) (hb : IsAct (l ++ [x]) b) (hy : y.st.site ≠ x.st.site) : y ∈ a ↔ y ∈ b := by
  rw [ha.mem, hb.mem, ActP.own hy]
/-- Two different formed edits with one name, alone: forked. -/
theorem two_forks {a b : Ed} (hne : a ≠ b) (hn : nmE a = nmE b) (ha : formedE a = true) (hb : formedE b = true) {f : List Nm} (hf : IsForks [a, b] f) : f = [nmE a] := by
  refine hf.srt.eq ordN (List.pairwise_singleton ..) fun n => ?_
  rw [hf.mem, List.mem_singleton]
  constructor
  · rintro ⟨x, y, ⟨h1, _, h3⟩, _⟩
    simp only [List.mem_cons, List.not_mem_nil, or_false] at h1
    rcases h1 with rfl | rfl
    · exact h3.symm
    · rw [hn]; exact h3.symm
  · rintro rfl
    exact ⟨a, b, ⟨by simp, ha, rfl⟩, ⟨by simp, hb, hn.symm⟩, hne⟩
/-- The effective edits after an undo and its undo: one more. -/
theorem NewUndo.count {l : List Ed} {x u v : Ed} (h : NewUndo l x u) (hf : formedE v = true) (hk : v.kind = 6) (hs : v.st.site = x.st.site) (hz : v.size = u.st.seq) (hq : v.st.seq = u.st.seq + 1) {a c : List Ed} (ha : IsAct l a) (hc : IsAct ((l ++ [u]) ++ [v]) c) :
    v ∉ a ∧ c.length = a.length + 1 ∧ ∀ y, y ∈ c ↔ y ∈ a ∨ y = v := by
  have hm : ∀ y, y ∈ c ↔ y ∈ a ∨ y = v := fun y => by rw [hc.mem, h.back hf hk hs hz hq, ha.mem]
  have hva : v ∉ a := fun hv => by
    have h1 := ((ha.mem v).1 hv).1.1
    have := h.top v h1 hs
    omega
  refine ⟨hva, ?_, hm⟩
  have hnd : (a ++ [v]).Nodup := List.nodup_append.2 ⟨ha.srt.nodup ordE, by simp, fun y hy z hz e => by
    simp at hz; subst e hz; exact hva hy⟩
  have h1 := nodup_le (l := a ++ [v]) (m := c) hnd fun y hy => (hm y).2 (by simpa using hy)
  have h2 := nodup_le (l := c) (m := a ++ [v]) (hc.srt.nodup ordE) fun y hy => by simpa using (hm y).1 hy
  simp at h1 h2
  omega
end Go.Proofs.YtcfebfblmmbeaaaDoor

/- History, plainly: what the program's two passes hold. -/
namespace Go.Proofs.YtcfebfblmmbeaaaDoor
open Go Go.RowKit

def updK {β : Type} (F : Nm → Option β) (n : Nm) (x : β) (q : Nm) : Option β := if q = n then some x else F q
/-- The first pass: the last formed edit of each name, and the names that were found forked. -/
structure BN (l : List Ed) (F : Nm → Option Ed) (fk : List Nm) : Prop where
  val : ∀ n x, F n = some x → x ∈ l ∧ formedE x = true ∧ nmE x = n
  has : ∀ x, x ∈ l → formedE x = true → F (nmE x) ≠ none
  frk : ∀ n, n ∈ fk ↔ Forked l n
theorem BN.start : BN [] (fun _ => none) [] := ⟨fun _ _ h => (by cases h), fun _ h => (by cases h), fun n => ⟨fun h => (by cases h), fun ⟨x, _, h, _⟩ => (by cases h.1)⟩⟩
section
variable {l : List Ed} {F : Nm → Option Ed} {fk : List Nm} {x y : Ed}
theorem BN.skip (h : BN l F fk) (hx : formedE x = false) : BN (l ++ [x]) F fk where
  val n y hy := by have := h.val n y hy; exact ⟨List.mem_append_left _ this.1, this.2⟩
  has y hy hf := by
    rcases List.mem_append.1 hy with h1 | h1
    · exact h.has y h1 hf
    · rw [List.mem_singleton] at h1; subst h1; rw [hx] at hf; cases hf
  frk n := by
    rw [h.frk]
    refine ⟨Forked.mono fun y hy => List.mem_append_left _ hy, ?_⟩
    have key : ∀ y, y ∈ l ++ [x] → formedE y = true → y ∈ l := fun y hy hf => by
      rcases List.mem_append.1 hy with h1 | h1
      · exact h1
      · rw [List.mem_singleton] at h1; subst h1; rw [hx] at hf; cases hf
    rintro ⟨a, b, ⟨a1, a2, a3⟩, ⟨b1, b2, b3⟩, hab⟩
    exact ⟨a, b, ⟨key a a1 a2, a2, a3⟩, ⟨key b b1 b2, b2, b3⟩, hab⟩
theorem BN.put_ (h : BN l F fk) (hx : formedE x = true) {fk' : List Nm} (hfk : ∀ n, n ∈ fk' ↔ Forked (l ++ [x]) n) : BN (l ++ [x]) (updK F (nmE x) x) fk' where
  val n y hy := by
    unfold updK at hy
    split at hy
    · rename_i hn
      injection hy with hy
      subst hy
      exact ⟨by simp, hx, hn.symm⟩
    · have := h.val n y hy
      exact ⟨List.mem_append_left _ this.1, this.2⟩
  has y hy hf := by
    unfold updK
    split
    · simp
    · rename_i hn
      rcases List.mem_append.1 hy with h1 | h1
      · exact h.has y h1 hf
      · rw [List.mem_singleton] at h1; subst h1; exact absurd rfl hn
  frk := hfk
theorem BN.new (h : BN l F fk) (hx : formedE x = true) (hF : F (nmE x) = none) : BN (l ++ [x]) (updK F (nmE x) x) fk := h.put_ hx fun n => by
  rw [h.frk]
  refine ⟨Forked.mono fun y hy => List.mem_append_left _ hy, ?_⟩
  have key : ∀ y, y ∈ l ++ [x] → formedE y = true → y = x ∨ (y ∈ l ∧ nmE y ≠ nmE x) := fun y hy hf => by
    rcases List.mem_append.1 hy with h1 | h1
    · exact .inr ⟨h1, fun e => h.has y h1 hf (by rw [e]; exact hF)⟩
    · exact .inl (List.mem_singleton.1 h1)
  rintro ⟨a, b, ⟨a1, a2, a3⟩, ⟨b1, b2, b3⟩, hab⟩
  rcases key a a1 a2 with rfl | ⟨ha, hna⟩ <;> rcases key b b1 b2 with rfl | ⟨hb, hnb⟩
  · exact absurd rfl hab
  · exact absurd (b3.trans a3.symm) hnb
  · exact absurd (a3.trans b3.symm) hna
  · exact ⟨a, b, ⟨ha, a2, a3⟩, ⟨hb, b2, b3⟩, hab⟩
theorem BN.again (h : BN l F fk) (hF : F (nmE x) = some x) : BN (l ++ [x]) (updK F (nmE x) x) fk := h.put_ (h.val _ _ hF).2.1 fun n => by
  have hx := (h.val _ _ hF).1
  rw [h.frk, Forked.cong (l := l) (m := l ++ [x])]
  intro y
  rw [List.mem_append, List.mem_singleton]
  exact ⟨.inl, fun h => h.elim id fun e => e ▸ hx⟩
theorem BN.fork (h : BN l F fk) (hx : formedE x = true) (hF : F (nmE x) = some y) (hne : y ≠ x) : BN (l ++ [x]) (updK F (nmE x) x) (fk ++ [nmE x]) := h.put_ hx fun n => by
  have hy := h.val _ _ hF
  rw [List.mem_append, List.mem_singleton, h.frk]
  constructor
  · rintro (h1 | rfl)
    · exact h1.mono fun z hz => List.mem_append_left _ hz
    · exact ⟨y, x, ⟨List.mem_append_left _ hy.1, hy.2⟩, ⟨by simp, hx, rfl⟩, hne⟩
  · rintro ⟨a, b, ⟨a1, a2, a3⟩, ⟨b1, b2, b3⟩, hab⟩
    rcases List.mem_append.1 a1 with h1 | h1
    · rcases List.mem_append.1 b1 with h2 | h2
      · exact .inl ⟨a, b, ⟨h1, a2, a3⟩, ⟨h2, b2, b3⟩, hab⟩
      · rw [List.mem_singleton] at h2; subst h2; exact .inr b3.symm
    · rw [List.mem_singleton] at h1; subst h1; exact .inr a3.symm
end
/-- The map says the set: a name's edit. -/
def SaysM (M : Ed → Prop) (F : Nm → Option Ed) : Prop := ∀ n x, F n = some x ↔ M x ∧ nmE x = n
theorem BN.set {l : List Ed} {F : Nm → Option Ed} {fk : List Nm} (h : BN l F fk) : SaysM (SetP l) (fun n => if n ∈ fk then none else F n) := fun n x => by
  constructor
  · intro hx
    simp only at hx
    split at hx
    · cases hx
    · rename_i hn
      have := h.val n x hx
      exact ⟨⟨this.1, this.2.1, fun k => hn ((h.frk n).2 (this.2.2 ▸ k))⟩, this.2.2⟩
  · rintro ⟨hx, rfl⟩
    show (if nmE x ∈ fk then none else F (nmE x)) = some x
    rw [if_neg (fun k => hx.2.2 ((h.frk _).1 k))]
    cases hF : F (nmE x) with
    | none => exact absurd hF (h.has x hx.1 hx.2.1)
    | some y =>
      have hy := h.val _ _ hF
      by_cases e : y = x
      · rw [e]
      · exact absurd ⟨y, x, hy, ⟨hx.1, hx.2.1, rfl⟩, e⟩ hx.2.2
/-- Names of the set are the names of its edits, one each. -/
structure GoodM (M : Ed → Prop) : Prop where
  name : ∀ {x y}, M x → M y → nmE x = nmE y → x = y
  frm : ∀ {x}, M x → formedE x = true
theorem goodSet (l : List Ed) : GoodM (SetP l) := ⟨fun hx hy h => hx.name hy h, fun h => h.2.1⟩
/-- The second pass: undos by falling names; G: what is undone so far, and by whom. -/
structure UN (M : Ed → Prop) (done : Nm → Prop) (G : Nm → Option Int) : Prop where
  val : ∀ t v, G t = some v → ∃ x u, M x ∧ nmE x = t ∧ (Eff M x u ∧ done (nmE u)) ∧ u.st.seq = v ∧ ∀ u', Eff M x u' → done (nmE u') → u'.st.seq ≤ v
  has : ∀ x u, M x → Eff M x u → done (nmE u) → G (nmE x) ≠ none
theorem UN.start (M : Ed → Prop) : UN M (fun _ => False) (fun _ => none) := ⟨fun _ _ h => (by cases h), fun _ _ _ _ h => False.elim h⟩
section
variable {M : Ed → Prop} {done : Nm → Prop} {G : Nm → Option Int} {u : Ed}
theorem UN.pos (g : GoodM M) (h : UN M done G) {t : Nm} {v : Int} (hv : G t = some v) : 1 ≤ v ∧ v ≤ 1000 := by
  obtain ⟨x, u, _, _, ⟨h1, _⟩, h2, _⟩ := h.val t v hv
  have := (formed_st (g.frm h1.1.1)).2.2.2
  omega
/-- Whether an undo whose greater ones are done is undone itself. -/
theorem UN.eff (h : UN M done G) (hu : M u) (hd : ∀ w, M w → w.kind = 6 → befN (nmE u) (nmE w) = true → done (nmE w)) (g : GoodM M) : G (nmE u) = none ↔ ¬ Und M u := by
  constructor
  · intro hg hU
    obtain ⟨w, hw⟩ := Und_eff.1 hU
    refine h.has u w hu hw (hd w hw.1.1 hw.1.2.1.1 ?_) hg
    rw [befN_iff]
    exact .inr ⟨hw.1.2.1.2.1.symm, hw.1.2.1.2.2.1⟩
  · intro hU
    cases hG : G (nmE u) with
    | none => rfl
    | some v =>
      exfalso
      obtain ⟨x, w, hx, hn, ⟨hw, _⟩, _⟩ := h.val _ _ hG
      obtain rfl := g.name hx hu hn
      exact hU (Und_eff.2 ⟨w, hw⟩)
theorem UN.hit (g : GoodM M) (h : UN M done G) (hu : M u) (hk : u.kind = 6) (hU : ¬ Und M u) {x : Ed} (hx : M x) (ht : nmE x = ⟨u.st.site, u.size⟩) (hlt : u.size < u.st.seq) (hG : G (nmE x) = none) :
    UN M (fun n => n = nmE u ∨ done n) (updK G (nmE x) u.st.seq) := by
  have hx1 : x.st.site = u.st.site := by unfold nmE at ht; injection ht
  have hx2 : x.st.seq = u.size := by unfold nmE at ht; injection ht
  have heff : Eff M x u := ⟨⟨hu, ⟨hk, hx1.symm, by omega, hx2.symm⟩, (formed_st (g.frm hu)).2.2.2.2⟩, hU⟩
  constructor
  · intro t v hv
    unfold updK at hv
    split at hv
    · rename_i htx
      subst htx
      injection hv with hv
      subst hv
      refine ⟨x, u, hx, rfl, ⟨heff, .inl rfl⟩, rfl, fun u' h1 h2 => ?_⟩
      rcases h2 with h2 | h2
      · rw [g.name h1.1.1 hu h2]; exact Int.le_refl _
      · exact absurd hG (h.has x u' hx h1 h2)
    · rename_i htx
      obtain ⟨z, w, a1, a2, ⟨a3, a4⟩, a5, a6⟩ := h.val t v hv
      refine ⟨z, w, a1, a2, ⟨a3, .inr a4⟩, a5, fun u' h1 h2 => ?_⟩
      rcases h2 with h2 | h2
      · exfalso
        have := g.name h1.1.1 hu h2
        subst this
        refine htx (a2 ▸ ?_)
        rw [nmE_iff]
        exact ⟨h1.1.2.1.2.1.symm.trans hx1.symm, h1.1.2.1.2.2.2.symm.trans hx2.symm⟩
      · exact a6 u' h1 h2
  · intro z w hz hw hd
    unfold updK
    split
    · simp
    · rename_i hzx
      rcases hd with hd | hd
      · exfalso
        have := g.name hw.1.1 hu hd
        subst this
        refine hzx ?_
        rw [nmE_iff]
        exact ⟨hw.1.2.1.2.1.symm.trans hx1.symm, hw.1.2.1.2.2.2.symm.trans hx2.symm⟩
      · exact h.has z w hz hw hd
theorem UN.miss (g : GoodM M) (h : UN M done G) (hu : M u) (hgt : ∀ w, M w → done (nmE w) → befN (nmE u) (nmE w) = true)
    (hno : Und M u ∨ ¬ u.size < u.st.seq ∨ G ⟨u.st.site, u.size⟩ ≠ none ∨ ∀ x, M x → nmE x ≠ ⟨u.st.site, u.size⟩) : UN M (fun n => n = nmE u ∨ done n) G := by
  have key : ∀ x, M x → Eff M x u → G (nmE x) ≠ none := fun x hx hw => by
    have hn : nmE x = ⟨u.st.site, u.size⟩ := by unfold nmE; rw [hw.1.2.1.2.1, hw.1.2.1.2.2.2]
    rcases hno with h1 | h1 | h1 | h1
    · exact absurd h1 hw.2
    · have := hw.1.2.1.2.2; omega
    · rw [hn]; exact h1
    · exact absurd hn (h1 x hx)
  constructor
  · intro t v hv
    obtain ⟨z, w, a1, a2, ⟨a3, a4⟩, a5, a6⟩ := h.val t v hv
    refine ⟨z, w, a1, a2, ⟨a3, .inr a4⟩, a5, fun u' h1 h2 => ?_⟩
    rcases h2 with h2 | h2
    · have := g.name h1.1.1 hu h2
      subst this
      have h3 := hgt w a3.1.1 a4
      rw [befN_iff] at h3
      have h4 := a3.1.2.1.2.1
      have h5 := h1.1.2.1.2.1
      simp only [nmE] at h3
      omega
    · exact a6 u' h1 h2
  · intro z w hz hw hd
    rcases hd with hd | hd
    · have := g.name hw.1.1 hu hd
      subst this
      exact key z hz hw
    · exact h.has z w hz hw hd
/-- At the end each edit's undoer is said. -/
theorem UN.fin (g : GoodM M) (h : UN M done G) (hall : ∀ w, M w → w.kind = 6 → done (nmE w)) {x : Ed} (hx : M x) : ByIs M x ((G (nmE x)).getD 0) := by
  cases hG : G (nmE x) with
  | none =>
    refine .inl ⟨rfl, fun hU => ?_⟩
    obtain ⟨w, hw⟩ := Und_eff.1 hU
    exact h.has x w hx hw (hall w hw.1.1 hw.1.2.1.1) hG
  | some v =>
    obtain ⟨z, w, a1, a2, ⟨a3, _⟩, a5, a6⟩ := h.val _ _ hG
    obtain rfl := g.name a1 hx a2
    exact .inr ⟨w, a3, a5, fun u' h1 => a6 u' h1 (hall u' h1.1.1 h1.1.2.1.1)⟩
theorem UN.act (g : GoodM M) (h : UN M done G) (hall : ∀ w, M w → w.kind = 6 → done (nmE w)) {F : Nm → Option Ed} (hF : SaysM M F) : SaysM (fun x => M x ∧ ¬ Und M x) (fun n => if (G n).isSome then none else F n) := fun n x => by
  have hb : ∀ x, M x → ((G (nmE x)).isSome = true ↔ Und M x) := fun x hx => by
    constructor
    · intro hs
      obtain ⟨v, hv⟩ := Option.isSome_iff_exists.1 hs
      obtain ⟨z, w, a1, a2, ⟨a3, _⟩, _⟩ := h.val _ _ hv
      obtain rfl := g.name a1 hx a2
      exact Und_eff.2 ⟨w, a3⟩
    · intro hU
      obtain ⟨w, hw⟩ := Und_eff.1 hU
      cases hG : G (nmE x) with
      | none => exact absurd hG (h.has x w hx hw (hall w hw.1.1 hw.1.2.1.1))
      | some v => rfl
  constructor
  · intro hx
    simp only at hx
    split at hx
    · cases hx
    · rename_i hn
      have := (hF n x).1 hx
      obtain ⟨h1, rfl⟩ := this
      exact ⟨⟨h1, fun k => hn ((hb x h1).2 k)⟩, rfl⟩
  · rintro ⟨⟨h1, h2⟩, rfl⟩
    simp only
    rw [if_neg (fun k => h2 ((hb x h1).1 k))]
    exact (hF _ _).2 ⟨h1, rfl⟩
end
end Go.Proofs.YtcfebfblmmbeaaaDoor

/- History, plainly: forks, sets, effects reckoned; the reference's undoer. -/
namespace Go.Proofs.YtcfebfblmmbeaaaDoor
open Go Go.RowKit

def forkB (l : List Ed) (n : Nm) : Bool := l.any fun x => formedE x && (decide (nmE x = n) && l.any fun y => formedE y && (decide (nmE y = n) && decide (x ≠ y)))
theorem forkB_iff (l : List Ed) (n : Nm) : forkB l n = true ↔ Forked l n := by
  unfold forkB Forked
  simp only [List.any_eq_true, Bool.and_eq_true, decide_eq_true_eq]
  constructor
  · rintro ⟨x, h1, h2, h3, y, h4, h5, h6, h7⟩; exact ⟨x, y, ⟨h1, h2, h3⟩, ⟨h4, h5, h6⟩, h7⟩
  · rintro ⟨x, y, ⟨h1, h2, h3⟩, ⟨h4, h5, h6⟩, h7⟩; exact ⟨x, h1, h2, h3, y, h4, h5, h6, h7⟩
theorem forkB_no (l : List Ed) (n : Nm) : forkB l n = false ↔ ¬ Forked l n := by rw [← forkB_iff]; simp
def setB (l : List Ed) (x : Ed) : Bool := decide (x ∈ l) && (formedE x && !forkB l (nmE x))
theorem setB_iff (l : List Ed) (x : Ed) : setB l x = true ↔ SetP l x := by
  unfold setB SetP
  simp only [Bool.and_eq_true, decide_eq_true_eq, Bool.not_eq_true', forkB_no]
theorem isSet_of {l m : List Ed} (h : IsOrd (l.filter formedE) m) : IsSet l (m.filter fun x => !forkB l (nmE x)) :=
  ⟨h.srt.filter _, fun x => by
    rw [List.mem_filter, h.mem, List.mem_filter, Bool.not_eq_true', forkB_no]
    unfold SetP
    rw [and_assoc]⟩
theorem isAct_of {l s : List Ed} (h : IsSet l s) {p : Ed → Bool} (hp : ∀ x, x ∈ s → (p x = true ↔ ¬ Und (SetP l) x)) : IsAct l (s.filter p) :=
  ⟨h.srt.filter _, fun x => by
    rw [List.mem_filter]
    unfold ActP
    rw [← h.mem]
    constructor
    · rintro ⟨h1, h2⟩; exact ⟨h1, (hp x h1).1 h2⟩
    · rintro ⟨h1, h2⟩; exact ⟨h1, (hp x h1).2 h2⟩⟩
/-- The reference's undoer: the greatest number of the effective undos among those seen. -/
def ByT (M : Ed → Prop) (x : Ed) (t : List Ed) (v : Int) : Prop := (v = 0 ∧ ∀ u, u ∈ t → ¬ Eff M x u) ∨ (∃ u, u ∈ t ∧ Eff M x u ∧ u.st.seq = v ∧ 1 ≤ v ∧ ∀ u', u' ∈ t → Eff M x u' → u'.st.seq ≤ v)
section
variable {M : Ed → Prop} {x u : Ed} {t : List Ed} {v : Int}
theorem ByT.start : ByT M x [] 0 := .inl ⟨rfl, fun _ h => (by cases h)⟩
theorem ByT.skip (h : ByT M x t v) (hu : ¬ Eff M x u) : ByT M x (t ++ [u]) v := by
  rcases h with ⟨rfl, h⟩ | ⟨y, h1, h2, h3, h4, h5⟩
  · refine .inl ⟨rfl, fun z hz => ?_⟩
    rcases List.mem_append.1 hz with h6 | h6
    · exact h z h6
    · rw [List.mem_singleton] at h6; subst h6; exact hu
  · refine .inr ⟨y, List.mem_append_left _ h1, h2, h3, h4, fun z hz he => ?_⟩
    rcases List.mem_append.1 hz with h6 | h6
    · exact h5 z h6 he
    · rw [List.mem_singleton] at h6; subst h6; exact absurd he hu
theorem ByT.hit (h : ByT M x t v) (hu : Eff M x u) (h1 : 1 ≤ u.st.seq) : ByT M x (t ++ [u]) (max v u.st.seq) := by
  rcases h with ⟨rfl, h⟩ | ⟨y, g1, g2, g3, g4, g5⟩
  · refine .inr ⟨u, by simp, hu, by omega, by omega, fun z hz he => ?_⟩
    rcases List.mem_append.1 hz with h6 | h6
    · exact absurd he (h z h6)
    · rw [List.mem_singleton] at h6; subst h6; omega
  · rcases Int.le_total u.st.seq v with hv | hv
    · refine .inr ⟨y, List.mem_append_left _ g1, g2, by omega, by omega, fun z hz he => ?_⟩
      rcases List.mem_append.1 hz with h6 | h6
      · have := g5 z h6 he; omega
      · rw [List.mem_singleton] at h6; subst h6; omega
    · refine .inr ⟨u, by simp, hu, by omega, by omega, fun z hz he => ?_⟩
      rcases List.mem_append.1 hz with h6 | h6
      · have := g5 z h6 he; omega
      · rw [List.mem_singleton] at h6; subst h6; omega
theorem ByT.all (h : ByT M x t v) (hM : ∀ u, M u → u ∈ t) : ByIs M x v := by
  rcases h with ⟨rfl, h⟩ | ⟨y, h1, h2, h3, h4, h5⟩
  · refine .inl ⟨rfl, fun hU => ?_⟩
    obtain ⟨u, hu⟩ := Und_eff.1 hU
    exact h u (hM u hu.1.1) hu
  · exact .inr ⟨y, h2, h3, fun u' hu' => h5 u' (hM u' hu'.1.1) hu'⟩
theorem ByT.range (h : ByT M x t v) (hM : ∀ u, M u → u.st.seq ≤ 1000) : 0 ≤ v ∧ v ≤ 1000 := by
  rcases h with ⟨rfl, h⟩ | ⟨y, h1, h2, h3, h4, h5⟩
  · omega
  · have := hM y h2.1.1; omega
end
/-! Examples reckoned. -/
def undB (s : List Ed) : Nat → Ed → Bool
  | 0, _ => false
  | n + 1, x => s.any fun u => decide (Aims u x) && (decide (u.st.seq ≤ 1000) && !undB s n u)
theorem undB_iff (s : List Ed) : ∀ (n : Nat) (x : Ed), (1000 - x.st.seq).toNat ≤ n → (undB s n x = true ↔ Und (fun y => y ∈ s) x)
  | 0, x, hn => by
    rw [Und_iff]
    constructor
    · intro h; cases h
    · rintro ⟨u, ⟨_, ha, hb⟩, _⟩; have := ha.2.2.1; omega
  | n + 1, x, hn => by
    rw [Und_iff]
    unfold undB
    simp only [List.any_eq_true, Bool.and_eq_true, decide_eq_true_eq, Bool.not_eq_true']
    constructor
    · rintro ⟨u, h1, h2, h3, h4⟩
      have hlt := h2.2.2.1
      exact ⟨u, ⟨h1, h2, h3⟩, fun k => by rw [(undB_iff s n u (by omega)).2 k] at h4; cases h4⟩
    · rintro ⟨u, ⟨h1, h2, h3⟩, h4⟩
      have hlt := h2.2.2.1
      refine ⟨u, h1, h2, h3, ?_⟩
      cases h : undB s n u
      · rfl
      · exact absurd ((undB_iff s n u (by omega)).1 h) h4
/-- m is l's set; checked. -/
def setOk (l m : List Ed) : Bool := decide (m.Pairwise fun a b => befE a b = true) && (m.all (setB l) && l.all fun x => !setB l x || decide (x ∈ m))
theorem setOk_spec {l m : List Ed} (h : setOk l m = true) : IsSet l m := by
  unfold setOk at h
  simp only [Bool.and_eq_true, decide_eq_true_eq, List.all_eq_true, Bool.or_eq_true, Bool.not_eq_true'] at h
  refine ⟨h.1, fun x => ⟨fun hx => (setB_iff l x).1 (h.2.1 x hx), fun hx => ?_⟩⟩
  rcases h.2.2 x hx.1 with k | k
  · rw [(setB_iff l x).2 hx] at k; cases k
  · exact k
/-- a is what of the set m of l is effective; checked. -/
def actOk (l m a : List Ed) : Bool := setOk l m && decide (a = m.filter fun x => !undB m 1000 x)
theorem actOk_spec {l m a : List Ed} (h : actOk l m a = true) : IsAct l a := by
  unfold actOk at h
  rw [Bool.and_eq_true, decide_eq_true_eq] at h
  have hs := setOk_spec h.1
  rw [h.2]
  refine isAct_of hs fun x hx => ?_
  have hf := formed_st ((hs.mem x).1 hx).2.1
  have hM : (fun y => y ∈ m) = SetP l := by funext y; exact propext (hs.mem y)
  rw [Bool.not_eq_true', ← hM, ← undB_iff m 1000 x (by omega)]
  simp
def forksOk (l : List Ed) (f : List Nm) : Bool := decide (f.Pairwise fun a b => befN a b = true) && (f.all (forkB l) && l.all fun x => !forkB l (nmE x) || decide (nmE x ∈ f))
theorem forksOk_spec {l : List Ed} {f : List Nm} (h : forksOk l f = true) : IsForks l f := by
  unfold forksOk at h
  simp only [Bool.and_eq_true, decide_eq_true_eq, List.all_eq_true, Bool.or_eq_true, Bool.not_eq_true'] at h
  refine ⟨h.1, fun n => ⟨fun hn => (forkB_iff l n).1 (h.2.1 n hn), fun hn => ?_⟩⟩
  obtain ⟨x, _, ⟨h1, _, h3⟩, _⟩ := id hn
  rcases h.2.2 x h1 with k | k
  · rw [h3, (forkB_iff l n).2 hn] at k; cases k
  · rw [h3] at k; exact k
end Go.Proofs.YtcfebfblmmbeaaaDoor

/- A region that draws its order: quiet operations, a new variable made somewhere among them, and its store at the end. -/
namespace Go.Proofs.YtcfebfblmmbeaaaDoor
open Go Go.RowKit

section
variable {P : Program}
structure BoxR (T : TypeId) (n : Nat) (zs cs : List Value) (W : World) (listed : Array Bool) (g : Nat) (w : World) : Prop where
  ext : Ext W w
  laid : listed.getD n true = true → W.heap.size ≤ g ∧ Arr w g T (if listed.getD (n + 1) true = true then cs else zs)
  st : listed.getD (n + 1) true = true → listed.getD n true = true
def boxV (V : Nat → Value) (n : Nat) (g i : Nat) : Value := if i < n then V i else if i = n then .pointer (some ⟨g, 0, none⟩) else undef

theorem BoxR.keep {T n : Nat} {zs cs : List Value} {W w w' : World} {listed : Array Bool} {g : Nat} (h : BoxR T n zs cs W listed g w) {i : Nat} (hi : i < n) (hx : Ext w w') : BoxR T n zs cs W (listed.setIfInBounds i true) g w' := by
  have h1 : (listed.setIfInBounds i true).getD n true = listed.getD n true := getD_set_ne true (by omega)
  have h2 : (listed.setIfInBounds i true).getD (n + 1) true = listed.getD (n + 1) true := getD_set_ne true (by omega)
  refine ⟨h.ext.trans hx, ?_, ?_⟩
  · rw [h1, h2]
    intro h3
    obtain ⟨h4, h5⟩ := h.laid h3
    exact ⟨h4, h5.ext hx⟩
  · rw [h1, h2]; exact h.st

/-- The law. The list's operation n makes the variable, operation n + 1 (the last) stores slot sv's value into it. -/
theorem wp_region_box {id : Nat} {Q : Exit → Act → World → Prop} {a : Act} {w : World} {l : List Oper} (V : Nat → Value) (n T d sv iv : Nat) (zs cs : List Value) (hm : P.follows .mixedOrders = true) (hs : slotsB l.toArray = true) (hb : backB l.toArray = true)
    (hg : ∀ (i : Nat) (o : Oper), l[i]? = some o → o.guard = none) (hln : l.length = n + 2)
    (halloc : ∃ o, l[n]? = some o ∧ o.op = .alloc T ∧ o.dst = some d) (hstore : ∃ o, l[n + 1]? = some o ∧ o.op = .store T (.tmp d) (.tmp sv) ∧ o.dst = none ∧ (∃ e, e ∈ o.after ∧ e.on = n ∧ Region.binds .any e = true) ∧ (∃ e, e ∈ o.after ∧ e.on = iv ∧ Region.binds .any e = true))
    (hiv : iv < n) (hdv : dstOf l.toArray iv = some sv) (hds : sv < a.tmps.size) (hdd : d < a.tmps.size) (hV : V iv = .agg cs.toArray)
    (hz : ∃ i z, P.info? T = some i ∧ i.zero = some z ∧ z.cells.toList = zs) (hi : (P.info? T).map (·.size) = some cs.length) (hzl : zs.length = cs.length) (hone : cs.all (·.oneCell') = true)
    (hhead : ∀ (listed : Array Bool) (w1 : World) (i : Nat) (o : Oper), l[i]? = some o → i < n → (∀ e, e ∈ o.after → Region.binds .any e = true → listed.getD e.on false = true) → Ext w w1 →
      ∀ (b : Act) (K : Act → World → Prop), (∀ d : Nat, missB l.toArray d = true → b.tmps[d]? = a.tmps[d]?) → (∀ j d, j < n → listed.getD j true = true → dstOf l.toArray j = some d → d < a.tmps.size → b.tmps[d]? = some (V j)) →
      (∀ w', Ext w1 w' → K (b.put o.dst (V i)) w') → o.wp P b w1 K Q)
    (hend : ∀ g w1, Ext w w1 → w.heap.size ≤ g → Arr w1 g T cs → Q .normal (fillAllN l.toArray (boxV V n g) a l.length) w1) : (Code.region id l.toArray true).wp P Q a w := by
  refine wp_region_slots (boxV V n) (BoxR T n zs cs) 0 hm hs hb hg ?_ ?_ ?_
  · have h0 : ∀ k, k < l.length → (Array.replicate l.length false).getD k true = false := fun k hk => by simp [Array.getD, hk]
    exact ⟨(Ext.refl _).drew, fun h => (by rw [h0 n (by omega)] at h; cases h), fun h => (by rw [h0 (n + 1) (by omega)] at h; cases h)⟩
  · intro listed g w1 i o ho hun hdep hR b K E0 E1 hK
    have hil : i < l.length := (List.getElem?_eq_some_iff.1 ho).1
    by_cases hin : i < n
    · refine hhead listed w1 i o ho hin hdep hR.ext b K E0 (fun j d hj hl hd hds => ?_) (fun w' hx => ?_)
      · have h := E1 j d (by omega) hl hd hds
        rw [h]; unfold boxV; rw [if_pos hj]
      · have h := hK g w' (hR.keep hin hx) (fun _ _ _ => rfl)
        unfold boxV at h
        rw [if_pos hin] at h
        exact h
    · by_cases hie : i = n
      · subst hie
        obtain ⟨o2, ho2, hop, hdst⟩ := halloc
        rw [ho] at ho2
        injection ho2 with ho2
        subst ho2
        obtain ⟨ie, z, hie, hzz, hzl2⟩ := hz
        have hlist : ∀ k, k ≠ i → (listed.setIfInBounds i true).getD k true = listed.getD k true := fun k hk => getD_set_ne true (Ne.symm hk)
        have hnext : listed.getD (i + 1) true = false := by
          cases hq : listed.getD (i + 1) true
          · rfl
          · have := hR.st hq; rw [this] at hun; cases hun
        have hK2 := hK w1.heap.size (w1.alloc (.cells zs.toArray T)) ⟨hR.ext.alloc _, fun _ => ⟨hR.ext.size, by
            rw [hlist _ (by omega), hnext]
            exact Arr.new w1 T zs⟩, fun h => (by rw [hlist _ (by omega), hnext] at h; cases h)⟩ (fun j hj hl => by
            have hne : j ≠ i := fun e => by subst e; rw [hl] at hun; cases hun
            unfold boxV
            simp only [if_neg hne])
        have hbv : boxV V i w1.heap.size i = .pointer (some ⟨w1.heap.size, 0, none⟩) := by unfold boxV; simp
        rw [hbv] at hK2
        have hzc : z.cells = zs.toArray := by rw [← hzl2]
        have hrun : (execOp b.eval o).run P w1 = .ok (.value (.pointer (some ⟨w1.heap.size, 0, none⟩))) (w1.alloc (.cells zs.toArray T)) := by
          unfold execOp
          simp only [hop]
          simp [Instr.alloc, zeroValue, typeInfo, hie, hzz, newVar, newRow, hzc]
        unfold Oper.wp
        rw [hrun]
        exact hK2
      · have hie2 : i = n + 1 := by omega
        subst hie2
        obtain ⟨o2, ho2, hop, hdst, ⟨e1, he1, hon1, hbd1⟩, ⟨e2, he2, hon2, hbd2⟩⟩ := hstore
        rw [ho] at ho2
        injection ho2 with ho2
        subst ho2
        have hl1 := getD_up (hon1 ▸ hdep e1 he1 hbd1)
        have hl2 := getD_up (hon2 ▸ hdep e2 he2 hbd2)
        obtain ⟨q1, q2⟩ := hR.laid hl1
        rw [hun] at q2
        simp only [Bool.false_eq_true, if_false] at q2
        obtain ⟨oa, hoa, hopa, hdsta⟩ := halloc
        have hda : dstOf l.toArray n = some d := by simp [dstOf, hoa, hdsta]
        have t1 := E1 n d (by omega) hl1 hda hdd
        have t2 := E1 iv sv (by omega) hl2 hdv hds
        have bv1 : boxV V n g n = .pointer (some ⟨g, 0, none⟩) := by unfold boxV; simp
        have bv2 : boxV V n g iv = .agg cs.toArray := by unfold boxV; rw [if_pos hiv, hV]
        rw [bv1] at t1
        rw [bv2] at t2
        have hlist : ∀ k, k ≠ n + 1 → (listed.setIfInBounds (n + 1) true).getD k true = listed.getD k true := fun k hk => getD_set_ne true (Ne.symm hk)
        have hset : (listed.setIfInBounds (n + 1) true).getD (n + 1) true = true := by
          by_cases h : n + 1 < listed.size
          · simp [Array.getD, h]
          · simp [Array.getD, h]
        have hK2 := hK g (w1.setRow g cs.toArray) ⟨hR.ext.setRow q1 _, fun _ => ⟨q1, by rw [hset]; exact q2.setRow cs⟩, fun _ => by rw [hlist n (by omega)]; exact hl1⟩ (fun _ _ _ => rfl)
        have bv3 : boxV V n g (n + 1) = undef := by unfold boxV; rw [if_neg (by omega), if_neg (by omega)]
        rw [bv3] at hK2
        exact wp_store_row T (.tmp d) (.tmp sv) hop g cs.toArray (by simp [Act.eval, Array.getD_eq_getD_getElem?, t1]) (by simp [Act.eval, Array.getD_eq_getD_getElem?, t2]) T zs.toArray q2 (by simpa using hi) (by simpa using hzl) (by simpa using hone) hK2
  · intro listed g w1 hall hR
    rw [fill_done hall]
    obtain ⟨q1, q2⟩ := hR.laid (hall n (by omega))
    rw [if_pos (hall (n + 1) (by omega))] at q2
    exact hend g w1 hR.ext q1 q2
end
end Go.Proofs.YtcfebfblmmbeaaaDoor

/- What is shown of a list of operations by the plain walk holds within a round of a loop over an iterator, too; and the law for a drawn region that makes one variable. -/
namespace Go.Proofs.YtcfebfblmmbeaaaDoor
open Go Go.RowKit

def noDefer (l : List Oper) : Bool := l.all fun o => match o.op with | .defer _ => false | _ => true
theorem noDefer_op {o : Oper} (h : (match o.op with | .defer _ => false | _ => true) = true) : ∀ c, o.op ≠ .defer c := fun c e => by rw [e] at h; cases h
theorem noGuard_ {l : List Oper} (h : (l.all fun o => o.guard.isNone) = true) : ∀ (i : Nat) (o : Oper), l[i]? = some o → o.guard = none := fun i o ho => by
  rw [List.all_eq_true] at h
  simpa using h o (List.mem_of_getElem? ho)
section
variable {P : Program} {l0 n : Nat}
theorem operIn_of {o : Oper} {a : Act} {w : World} {next : Act → World → Prop} {Q : Exit → Act → World → Prop} (h : ∀ c, o.op ≠ .defer c) (hw : o.wp P a w next Q) : o.wpIn (Fence.wide.inRound l0) n P a w next Q := by
  unfold Oper.wpIn
  unfold Oper.wp at hw
  rw [Oper.semAt_eq _ _ _ h]
  refine ⟨fun _ _ => trivial, ?_⟩
  generalize (execOp a.eval o).run P w = r at *
  cases r with
  | ok x w' =>
    cases x <;> simp only [Oper.upon, Oper.uponIn] at hw ⊢
    all_goals first
      | exact hw
      | exact ⟨fun h => (by cases h), CallsIn.inRound l0 (callsIn_wide.2 hw)⟩
      | exact ⟨fun h => (by cases h), fun c cs _ => let ⟨v, w', r, s⟩ := hw c cs; ⟨v, w', r, stepsIn_wide.2 s⟩⟩
  | halt x w' => cases x <;> simp only [Oper.upon, Oper.uponIn] at hw ⊢ <;> exact hw
theorem listIn_of {ops : Array Oper} {Q : Exit → Act → World → Prop} (hout : ¬ LetsOut Q) : ∀ (l : List Oper) (a : Act) (w : World), noDefer l = true → wpList P ops Q l a w → wpListIn (Fence.wide.inRound l0) n P ops Q l a w
  | [], _, _, _, h => h
  | o :: l, a, w, hn, h => by
    unfold noDefer at hn
    rw [List.all_cons, Bool.and_eq_true] at hn
    unfold wpList at h
    unfold wpListIn
    split
    · rename_i hw
      rw [if_pos hw] at h
      rcases h with h | h
      · exact Oper.wpIn_mono (fun a w h' => listIn_of hout l a w hn.2 h') (operIn_of (noDefer_op hn.1) h)
      · exact absurd h.2 hout
    · rename_i hw
      rw [if_neg hw] at h
      exact ⟨fun _ _ => trivial, listIn_of hout l _ w hn.2 h⟩
theorem anyIn_of {md : Region.Mode} {ops : Array Oper} {Q : Exit → Act → World → Prop} (hout : ¬ LetsOut Q) (hnd : noDefer ops.toList = true) : ∀ (fuel : Nat) (listed : Array Bool) (a : Act) (w : World), wpAny P md ops Q fuel listed a w → wpAnyIn (Fence.wide.inRound l0) n P md ops Q fuel listed a w
  | 0, _, _, _, h => h
  | fuel + 1, listed, a, w, h => ⟨h.1, fun i hi => by
    have h1 := h.2 i hi
    unfold wpOp at h1
    unfold wpOpIn
    split
    · rename_i ho
      rw [ho] at h1
      exact anyIn_of hout hnd fuel _ a w h1
    · rename_i o ho
      rw [ho] at h1
      have hn : ∀ c, o.op ≠ .defer c := noDefer_op (by
        unfold noDefer at hnd
        rw [List.all_eq_true] at hnd
        exact hnd o (by rw [Array.getElem?_eq_some_iff] at ho; obtain ⟨hi, rfl⟩ := ho; simp))
      simp only at h1
      split
      · rename_i hw
        rw [if_pos hw] at h1
        rcases h1 with h1 | h1
        · exact Oper.wpIn_mono (fun a w h' => anyIn_of hout hnd fuel _ a w h') (operIn_of hn h1)
        · exact absurd h1.2 hout
      · rename_i hw
        rw [if_neg hw] at h1
        exact ⟨fun _ _ => trivial, anyIn_of hout hnd fuel _ _ w h1⟩⟩
/-- A region in one order, within a round, by the plain walk. -/
theorem regionIn {id : Nat} {l : List Oper} {Q : Exit → Act → World → Prop} {a : Act} {w : World} (hnd : noDefer l = true) (hout : ¬ LetsOut Q) (h : wpList P l.toArray Q l a w) : (Code.region id l.toArray false).wpIn (Fence.wide.inRound l0) n P Q a w :=
  wpIn_region_lit (listIn_of hout l a w hnd h)
end
section
variable {P : Program} {Q : Exit → Act → World → Prop}
theorem wpIn_region_any_ {id l0 n0 : Nat} {a : Act} {w : World} {l : List Oper} (hnd : noDefer l = true) (hout : ¬ LetsOut Q) (hm : P.follows .mixedOrders = true)
    (h : wpAny P .any l.toArray Q l.toArray.size (Array.replicate l.toArray.size false) a { w with drawn := w.drawn + 1 }) : (Code.region id l.toArray true).wpIn (Fence.wide.inRound l0) n0 P Q a w :=
  wpIn_region_any hm (anyIn_of hout (by simpa using hnd) _ _ _ _ h)
theorem wpIn_region_inv_ {id l0 n0 : Nat} {a : Act} {w : World} {l : List Oper} (I : Array Bool → Act → World → Prop) (hnd : noDefer l = true) (hout : ¬ LetsOut Q) (hm : P.follows .mixedOrders = true)
    (h0 : I (Array.replicate l.length false) a w.drew)
    (hstep : ∀ listed a w i, I listed a w → i ∈ Region.ready .any l.toArray listed → wpOp P l.toArray Q i (I (listed.setIfInBounds i true)) a w)
    (hend : ∀ listed a w, I listed a w → Region.ready .any l.toArray listed = [] → Q .normal a w) : (Code.region id l.toArray true).wpIn (Fence.wide.inRound l0) n0 P Q a w := by
  refine wpIn_region_any_ hnd hout hm ?_
  exact wpAny_inv hstep hend _ _ _ _ (undone_le _) (by simpa using h0)
theorem wpIn_region_tab_ {G : Type} {id l0 n0 : Nat} {a : Act} {w : World} {l : List Oper} (V : G → Nat → Value) (R : World → Array Bool → G → World → Prop) (g0 : G) (hnd : noDefer l = true) (hout : ¬ LetsOut Q) (hm : P.follows .mixedOrders = true) (hs : Slots l.toArray) (hb : Back l.toArray)
    (hg : ∀ (i : Nat) (o : Oper), l[i]? = some o → o.guard = none) (h0 : R w (Array.replicate l.length false) g0 w.drew)
    (hstep : ∀ listed g w1 i o, l[i]? = some o → listed.getD i true = false → (∀ e, e ∈ o.after → Region.binds .any e = true → listed.getD e.on false = true) → R w listed g w1 →
      ∀ K : Act → World → Prop, (∀ g' w', R w (listed.setIfInBounds i true) g' w' → (∀ j, j < l.length → listed.getD j true = true → V g' j = V g j) → K ((fill l.toArray (V g) listed a).put o.dst (V g' i)) w') → o.wp P (fill l.toArray (V g) listed a) w1 K Q)
    (hend : ∀ listed g w1, (∀ i, i < l.length → listed.getD i true = true) → R w listed g w1 → Q .normal (fill l.toArray (V g) listed a) w1) : (Code.region id l.toArray true).wpIn (Fence.wide.inRound l0) n0 P Q a w := by
  refine wpIn_region_inv_ (fun listed b w1 => ∃ g, b = fill l.toArray (V g) listed a ∧ R w listed g w1) hnd hout hm ⟨g0, ?_, h0⟩ ?_ ?_
  · have : ∀ n, fillN l.toArray (V g0) (Array.replicate l.length false) a n = a ∨ l.length < n := by
      intro n
      induction n with
      | zero => exact .inl rfl
      | succ n ih =>
        by_cases hn : l.length < n + 1
        · exact .inr hn
        · rcases ih with ih | ih
          · refine .inl ?_
            unfold fillN
            rw [if_neg (by simp [Array.getD]; omega), ih]
          · omega
    rcases this l.toArray.size with h | h
    · exact h.symm
    · simp at h
  · rintro listed b w1 i ⟨g, rfl, hR⟩ hi
    obtain ⟨hun, o, ho, hdeps⟩ := mem_ready.1 hi
    have ho' : l[i]? = some o := by simpa using ho
    have hi2 : i < l.toArray.size := (Array.getElem?_eq_some_iff.1 ho).1
    refine wpOp_step ho fun K hK => ?_
    rw [if_pos (by simp [Region.wanted, hg i o ho'])]
    refine hstep listed g w1 i o ho' hun hdeps hR K fun g' w' hR' hV => ?_
    refine hK _ _ ⟨g', ?_, hR'⟩
    have hd : dstOf l.toArray i = o.dst := by simp [dstOf, ho']
    rw [← hd, fill_congr (V' := V g') (fun j hl hj => (hV j (by simpa using hj) hl).symm), fill_put hs hi2 hun]
  · rintro listed b w1 ⟨g, rfl, hR⟩ hr
    exact hend listed g w1 (fun i hi => all_done hb hr i (by simpa using hi)) hR
theorem wpIn_region_slots_ {G : Type} {id l0 n0 : Nat} {a : Act} {w : World} {l : List Oper} (V : G → Nat → Value) (R : World → Array Bool → G → World → Prop) (g0 : G) (hnd : noDefer l = true) (hout : ¬ LetsOut Q) (hm : P.follows .mixedOrders = true) (hs : slotsB l.toArray = true) (hb : backB l.toArray = true)
    (hg : ∀ (i : Nat) (o : Oper), l[i]? = some o → o.guard = none) (h0 : R w (Array.replicate l.length false) g0 w.drew)
    (hstep : ∀ listed g w1 i o, l[i]? = some o → listed.getD i true = false → (∀ e, e ∈ o.after → Region.binds .any e = true → listed.getD e.on false = true) → R w listed g w1 →
      ∀ (b : Act) (K : Act → World → Prop), (∀ d : Nat, missB l.toArray d = true → b.tmps[d]? = a.tmps[d]?) → (∀ j d, j < l.length → listed.getD j true = true → dstOf l.toArray j = some d → d < a.tmps.size → b.tmps[d]? = some (V g j)) →
      (∀ g' w', R w (listed.setIfInBounds i true) g' w' → (∀ j, j < l.length → listed.getD j true = true → V g' j = V g j) → K (b.put o.dst (V g' i)) w') → o.wp P b w1 K Q)
    (hend : ∀ listed g w1, (∀ i, i < l.length → listed.getD i true = true) → R w listed g w1 → Q .normal (fill l.toArray (V g) listed a) w1) : (Code.region id l.toArray true).wpIn (Fence.wide.inRound l0) n0 P Q a w :=
  wpIn_region_tab_ V R g0 hnd hout hm (slotsB_spec hs) (backB_spec hb) hg h0
    (fun listed g w1 i o ho hun hdep hR K hK => hstep listed g w1 i o ho hun hdep hR (fill l.toArray (V g) listed a) K (fun d hd => fill_miss (fun i hi _ => missB_spec hd i hi)) (fun j d hj hl hd hds => fill_hit (slotsB_spec hs) (by simpa using hj) hl hd hds) hK) hend
theorem wpIn_region_box_ {id l0 n0 : Nat} {Q : Exit → Act → World → Prop} {a : Act} {w : World} {l : List Oper} (V : Nat → Value) (n T d sv iv : Nat) (zs cs : List Value) (hnd : noDefer l = true) (hout : ¬ LetsOut Q) (hm : P.follows .mixedOrders = true) (hs : slotsB l.toArray = true) (hb : backB l.toArray = true)
    (hg : ∀ (i : Nat) (o : Oper), l[i]? = some o → o.guard = none) (hln : l.length = n + 2)
    (halloc : ∃ o, l[n]? = some o ∧ o.op = .alloc T ∧ o.dst = some d) (hstore : ∃ o, l[n + 1]? = some o ∧ o.op = .store T (.tmp d) (.tmp sv) ∧ o.dst = none ∧ (∃ e, e ∈ o.after ∧ e.on = n ∧ Region.binds .any e = true) ∧ (∃ e, e ∈ o.after ∧ e.on = iv ∧ Region.binds .any e = true))
    (hiv : iv < n) (hdv : dstOf l.toArray iv = some sv) (hds : sv < a.tmps.size) (hdd : d < a.tmps.size) (hV : V iv = .agg cs.toArray)
    (hz : ∃ i z, P.info? T = some i ∧ i.zero = some z ∧ z.cells.toList = zs) (hi : (P.info? T).map (·.size) = some cs.length) (hzl : zs.length = cs.length) (hone : cs.all (·.oneCell') = true)
    (hhead : ∀ (listed : Array Bool) (w1 : World) (i : Nat) (o : Oper), l[i]? = some o → i < n → (∀ e, e ∈ o.after → Region.binds .any e = true → listed.getD e.on false = true) → Ext w w1 →
      ∀ (b : Act) (K : Act → World → Prop), (∀ d : Nat, missB l.toArray d = true → b.tmps[d]? = a.tmps[d]?) → (∀ j d, j < n → listed.getD j true = true → dstOf l.toArray j = some d → d < a.tmps.size → b.tmps[d]? = some (V j)) →
      (∀ w', Ext w1 w' → K (b.put o.dst (V i)) w') → o.wp P b w1 K Q)
    (hend : ∀ g w1, Ext w w1 → w.heap.size ≤ g → Arr w1 g T cs → Q .normal (fillAllN l.toArray (boxV V n g) a l.length) w1) : (Code.region id l.toArray true).wpIn (Fence.wide.inRound l0) n0 P Q a w := by
  refine wpIn_region_slots_ (boxV V n) (BoxR T n zs cs) 0 hnd hout hm hs hb hg ?_ ?_ ?_
  · have h0 : ∀ k, k < l.length → (Array.replicate l.length false).getD k true = false := fun k hk => by simp [Array.getD, hk]
    exact ⟨(Ext.refl _).drew, fun h => (by rw [h0 n (by omega)] at h; cases h), fun h => (by rw [h0 (n + 1) (by omega)] at h; cases h)⟩
  · intro listed g w1 i o ho hun hdep hR b K E0 E1 hK
    have hil : i < l.length := (List.getElem?_eq_some_iff.1 ho).1
    by_cases hin : i < n
    · refine hhead listed w1 i o ho hin hdep hR.ext b K E0 (fun j d hj hl hd hds => ?_) (fun w' hx => ?_)
      · have h := E1 j d (by omega) hl hd hds
        rw [h]; unfold boxV; rw [if_pos hj]
      · have h := hK g w' (hR.keep hin hx) (fun _ _ _ => rfl)
        unfold boxV at h
        rw [if_pos hin] at h
        exact h
    · by_cases hie : i = n
      · subst hie
        obtain ⟨o2, ho2, hop, hdst⟩ := halloc
        rw [ho] at ho2
        injection ho2 with ho2
        subst ho2
        obtain ⟨ie, z, hie, hzz, hzl2⟩ := hz
        have hlist : ∀ k, k ≠ i → (listed.setIfInBounds i true).getD k true = listed.getD k true := fun k hk => getD_set_ne true (Ne.symm hk)
        have hnext : listed.getD (i + 1) true = false := by
          cases hq : listed.getD (i + 1) true
          · rfl
          · have := hR.st hq; rw [this] at hun; cases hun
        have hK2 := hK w1.heap.size (w1.alloc (.cells zs.toArray T)) ⟨hR.ext.alloc _, fun _ => ⟨hR.ext.size, by
            rw [hlist _ (by omega), hnext]
            exact Arr.new w1 T zs⟩, fun h => (by rw [hlist _ (by omega), hnext] at h; cases h)⟩ (fun j hj hl => by
            have hne : j ≠ i := fun e => by subst e; rw [hl] at hun; cases hun
            unfold boxV
            simp only [if_neg hne])
        have hbv : boxV V i w1.heap.size i = .pointer (some ⟨w1.heap.size, 0, none⟩) := by unfold boxV; simp
        rw [hbv] at hK2
        have hzc : z.cells = zs.toArray := by rw [← hzl2]
        have hrun : (execOp b.eval o).run P w1 = .ok (.value (.pointer (some ⟨w1.heap.size, 0, none⟩))) (w1.alloc (.cells zs.toArray T)) := by
          unfold execOp
          simp only [hop]
          simp [Instr.alloc, zeroValue, typeInfo, hie, hzz, newVar, newRow, hzc]
        unfold Oper.wp
        rw [hrun]
        exact hK2
      · have hie2 : i = n + 1 := by omega
        subst hie2
        obtain ⟨o2, ho2, hop, hdst, ⟨e1, he1, hon1, hbd1⟩, ⟨e2, he2, hon2, hbd2⟩⟩ := hstore
        rw [ho] at ho2
        injection ho2 with ho2
        subst ho2
        have hl1 := getD_up (hon1 ▸ hdep e1 he1 hbd1)
        have hl2 := getD_up (hon2 ▸ hdep e2 he2 hbd2)
        obtain ⟨q1, q2⟩ := hR.laid hl1
        rw [hun] at q2
        simp only [Bool.false_eq_true, if_false] at q2
        obtain ⟨oa, hoa, hopa, hdsta⟩ := halloc
        have hda : dstOf l.toArray n = some d := by simp [dstOf, hoa, hdsta]
        have t1 := E1 n d (by omega) hl1 hda hdd
        have t2 := E1 iv sv (by omega) hl2 hdv hds
        have bv1 : boxV V n g n = .pointer (some ⟨g, 0, none⟩) := by unfold boxV; simp
        have bv2 : boxV V n g iv = .agg cs.toArray := by unfold boxV; rw [if_pos hiv, hV]
        rw [bv1] at t1
        rw [bv2] at t2
        have hlist : ∀ k, k ≠ n + 1 → (listed.setIfInBounds (n + 1) true).getD k true = listed.getD k true := fun k hk => getD_set_ne true (Ne.symm hk)
        have hset : (listed.setIfInBounds (n + 1) true).getD (n + 1) true = true := by
          by_cases h : n + 1 < listed.size
          · simp [Array.getD, h]
          · simp [Array.getD, h]
        have hK2 := hK g (w1.setRow g cs.toArray) ⟨hR.ext.setRow q1 _, fun _ => ⟨q1, by rw [hset]; exact q2.setRow cs⟩, fun _ => by rw [hlist n (by omega)]; exact hl1⟩ (fun _ _ _ => rfl)
        have bv3 : boxV V n g (n + 1) = undef := by unfold boxV; rw [if_neg (by omega), if_neg (by omega)]
        rw [bv3] at hK2
        exact wp_store_row T (.tmp d) (.tmp sv) hop g cs.toArray (by simp [Act.eval, Array.getD_eq_getD_getElem?, t1]) (by simp [Act.eval, Array.getD_eq_getD_getElem?, t2]) T zs.toArray q2 (by simpa using hi) (by simpa using hzl) (by simpa using hone) hK2
  · intro listed g w1 hall hR
    rw [fill_done hall]
    obtain ⟨q1, q2⟩ := hR.laid (hall n (by omega))
    rw [if_pos (hall (n + 1) (by omega))] at q2
    exact hend g w1 hR.ext q1 q2
end
end Go.Proofs.YtcfebfblmmbeaaaDoor

/- slices.Compact at Ed, on a row of the call's own that is in order. -/
namespace Go.Proofs.YtcfebfblmmbeaaaDoor
open Go Go.RowKit

/-- It hands back the first rows of the same block: the list without repetitions; only this block has turned. -/
def RetCEd (g c base : Nat) (l : List Ed) (w : World) (en : Ending) (w' : World) : Prop :=
  ∃ m : List Ed, Srt befE m ∧ (∀ q, q ∈ m ↔ q ∈ l) ∧ en = .returned (.slice (some ⟨g, 0, none⟩) m.length c) ∧ w'.ownsRow base 32 17 (.slice (some ⟨g, 0, none⟩) m.length c) m.length (rowsE m).flatten ∧ w.grownBy w' (some g)
theorem CompactEd_none (w : World) :
    Calls Tryd.prog 63 #[.slice none 0 0] w fun e w' => e = .returned (.slice none 0 0) ∧ w' = w := by
  go_enter Tryd.func63, Tryd.ntmps63
  go_wp2
  go_ret
  exact ⟨rfl, rfl⟩
set_option maxRecDepth 100000 in
set_option maxHeartbeats 8000000 in
theorem CompactEd_own (g c base : Nat) (l : List Ed) (w : World) (ho : w.ownsRow base 32 17 (.slice (some ⟨g, 0, none⟩) l.length c) l.length (rowsE l).flatten) (hl : LeR befE l) (hb : l.length ≤ 1034834473200) :
    Calls Tryd.prog 63 #[.slice (some ⟨g, 0, none⟩) l.length c] w (RetCEd g c base l w) := by
  have hm := mixed
  obtain ⟨cur0, hbg, hcur0, hnc, hcm, _⟩ := own_cur ho
  have hgl := (Array.getElem?_eq_some_iff.1 hcur0).1
  unfold maxLen at hcm
  have HO := Lib.hid ho; have HL := Lib.hid hl
  clear ho hl hcur0
  by_cases h2 : l.length < 2
  · have HS := Lib.hid (Srt.short (r := befE) h2)
    go_enter Tryd.func63, Tryd.ntmps63
    go_wp2
    go_ret
    exact ⟨l, HS.out, fun q => Iff.rfl, rfl, HO.out, grown_refl _ _⟩
  · go_enter Tryd.func63, Tryd.ntmps63
    go_wp2
    go_loopw [3] (fun i wr => ∃ k : Nat, k + 1 ≤ l.length ∧ i = .int .i64 (k + 1 : Nat) ∧ Srt befE (l.take (k + 1)) ∧ Ext w wr) (fun i _ => l.length - (intOf i).toNat)
    case atStart => exact ⟨0, by omega, rfl, Srt.short (by rw [List.length_take]; omega), Ext.refl _⟩
    case round =>
      obtain ⟨k, hk, rfl, hsr, hx⟩ := hrel
      have HSR := Lib.hid hsr; have HX := Lib.hid hx
      have hgl1 := Nat.lt_of_lt_of_le hgl hx.size
      clear hsr
      by_cases hlt : k + 1 < l.length
      · obtain ⟨p, hp⟩ : ∃ p, l[k]? = some p := ⟨_, List.getElem?_eq_getElem (by omega)⟩
        obtain ⟨q, hq⟩ : ∃ q, l[k + 1]? = some q := ⟨_, List.getElem?_eq_getElem hlt⟩
        have HRP := Lib.hid (own_range (own_ext HO.out hx) (rowsE_rwk l) (rowsE_length l) (j := k) (x := p.cells) (by simp [rowsE, hp]))
        have HRQ := Lib.hid (own_range (own_ext HO.out hx) (rowsE_rwk l) (rowsE_length l) (j := k + 1) (x := q.cells) (by simp [rowsE, hq]))
        have hn := eqEd_run q p
        have hwk : IntKind.i64.wrap (k : Int) = (k : Int) := by rw [IntKind.wrap_i64]; omega
        have hi0 : 0 ≤ (k : Int) + 1 := by omega
        have hi1 : ¬ ((l.length : Int) ≤ (k : Int) + 1) := by omega
        have hkl : k < l.length := by omega
        have HP := Lib.hid hp; have HQ := Lib.hid hq
        have HSUB := Lib.hid (hn)
        clear hp hq hx
        generalize hbb : decide (q = p) = bb at hn
        have HBB := Lib.hid hbb
        clear hbb HSUB
        go_upto_region 6 with fail
        refine wp_region_relD (w := wr) (fun i v w' => match i with
            | 0 => v = .slice (some ⟨g, 0, none⟩) l.length c
            | 1 => v = .int .i64 ((k + 1 : Nat) : Int)
            | 2 => v = .pointer (some ⟨g, (k + 1) * 17, none⟩)
            | 3 => v = .agg q.cells.toArray
            | 4 => v = .slice (some ⟨g, 0, none⟩) l.length c
            | 5 => v = .int .i64 ((k + 1 : Nat) : Int)
            | 6 => v = .int .i64 (k : Nat)
            | 7 => v = .pointer (some ⟨g, k * 17, none⟩)
            | 8 => v = .agg p.cells.toArray
            | 9 => v = .bool bb
            | _ => True) hm (by kernel_rfl) (by kernel_rfl) rfl ?_ ?_ ?_
        · intro i v w1 w2 hx h
          match i, h with
          | 0, h => exact h
          | 1, h => exact h
          | 2, h => exact h
          | 3, h => exact h
          | 4, h => exact h
          | 5, h => exact h
          | 6, h => exact h
          | 7, h => exact h
          | 8, h => exact h
          | 9, h => exact h
          | i + 10, h => exact trivial
        · intro i o ho b w1 hx hmiss hdep K hK
          match i, ho with
          | 0, ho =>
            obtain rfl := Option.some.inj ho
            refine want_none rfl ?_
            have e0 : b.tmps[0]? = some (.slice (some ⟨g, 0, none⟩) l.length c) := hmiss 0 rfl
            exact op_move rfl (eval_of e0) (hK _ w1 (ExtD.refl _) rfl)
          | 1, ho =>
            obtain rfl := Option.some.inj ho
            refine want_none rfl ?_
            have e3 : b.tmps[3]? = some (.int .i64 ((k + 1 : Nat) : Int)) := hmiss 3 rfl
            exact op_move rfl (eval_of e3) (hK _ w1 (ExtD.refl _) rfl)
          | 2, ho =>
            obtain rfl := Option.some.inj ho
            refine want_none rfl ?_
            obtain ⟨v16, g16, e16⟩ := hdep 0 rfl
            have g16 : v16 = .slice (some ⟨g, 0, none⟩) l.length c := g16
            subst g16
            have e16 := e16 16 rfl
            obtain ⟨v17, g17, e17⟩ := hdep 1 rfl
            have g17 : v17 = .int .i64 ((k + 1 : Nat) : Int) := g17
            subst g17
            have e17 := e17 17 rfl
            exact op_run (by unfold execOp; simp [e16, e17, Act.eval, go_sem, hi0, hi1]) (hK _ w1 (ExtD.refl _) rfl)
          | 3, ho =>
            obtain rfl := Option.some.inj ho
            refine want_none rfl ?_
            obtain ⟨v18, g18, e18⟩ := hdep 2 rfl
            have g18 : v18 = .pointer (some ⟨g, (k + 1) * 17, none⟩) := g18
            subst g18
            have e18 := e18 18 rfl
            exact wp_load_mid 32 (.tmp 18) rfl g ((k + 1) * 17) (eval_of e18) q.cells _ (rangeAt_ext HRQ.out hgl1 hx.ext) Tryd.underlying32 rfl (by kernel_rfl) (hK _ w1 (ExtD.refl _) rfl)
          | 4, ho =>
            obtain rfl := Option.some.inj ho
            refine want_none rfl ?_
            have e0 : b.tmps[0]? = some (.slice (some ⟨g, 0, none⟩) l.length c) := hmiss 0 rfl
            exact op_move rfl (eval_of e0) (hK _ w1 (ExtD.refl _) rfl)
          | 5, ho =>
            obtain rfl := Option.some.inj ho
            refine want_none rfl ?_
            have e3 : b.tmps[3]? = some (.int .i64 ((k + 1 : Nat) : Int)) := hmiss 3 rfl
            exact op_move rfl (eval_of e3) (hK _ w1 (ExtD.refl _) rfl)
          | 6, ho =>
            obtain rfl := Option.some.inj ho
            refine want_none rfl ?_
            obtain ⟨v21, g21, e21⟩ := hdep 5 rfl
            have g21 : v21 = .int .i64 ((k + 1 : Nat) : Int) := g21
            subst g21
            have e21 := e21 21 rfl
            exact op_run (by unfold execOp; simp [e21, Act.eval, go_sem, hwk]) (hK _ w1 (ExtD.refl _) rfl)
          | 7, ho =>
            obtain rfl := Option.some.inj ho
            refine want_none rfl ?_
            obtain ⟨v20, g20, e20⟩ := hdep 4 rfl
            have g20 : v20 = .slice (some ⟨g, 0, none⟩) l.length c := g20
            subst g20
            have e20 := e20 20 rfl
            obtain ⟨v22, g22, e22⟩ := hdep 6 rfl
            have g22 : v22 = .int .i64 (k : Nat) := g22
            subst g22
            have e22 := e22 22 rfl
            exact op_run (by unfold execOp; simp [e20, e22, Act.eval, go_sem, hkl]) (hK _ w1 (ExtD.refl _) rfl)
          | 8, ho =>
            obtain rfl := Option.some.inj ho
            refine want_none rfl ?_
            obtain ⟨v23, g23, e23⟩ := hdep 7 rfl
            have g23 : v23 = .pointer (some ⟨g, k * 17, none⟩) := g23
            subst g23
            have e23 := e23 23 rfl
            exact wp_load_mid 32 (.tmp 23) rfl g (k * 17) (eval_of e23) p.cells _ (rangeAt_ext HRP.out hgl1 hx.ext) Tryd.underlying32 rfl (by kernel_rfl) (hK _ w1 (ExtD.refl _) rfl)
          | 9, ho =>
            obtain rfl := Option.some.inj ho
            refine want_none rfl ?_
            obtain ⟨v19, g19, e19⟩ := hdep 3 rfl
            have g19 : v19 = .agg q.cells.toArray := g19
            subst g19
            have e19 := e19 19 rfl
            obtain ⟨v24, g24, e24⟩ := hdep 8 rfl
            have g24 : v24 = .agg p.cells.toArray := g24
            subst g24
            have e24 := e24 24 rfl
            exact op_run (by unfold execOp; simp [e19, e24, Act.eval, go_sem, hn]) (hK _ w1 (ExtD.refl _) rfl)
          | i + 10, ho => cases ho
        · intro V W6 hx hg
          have q0 : V 9 = .bool bb := hg 9 (by decide)
          simp only [List.length_cons, List.length_nil, fillAllN, dstOf, Act.put, List.getElem?_toArray, List.getElem?_cons_zero, List.getElem?_cons_succ, Option.bind_some, List.setIfInBounds_toArray, List.set_cons_zero, List.set_cons_succ, q0]
          have HX1 := Lib.hid (HX.out.trans hx.ext)
          clear hg q0 hx hn
          have hck : ¬ c = k + 1 := by omega
          have hck2 : k + 1 ≤ c := by omega
          cases bb
          · have hqp : q ≠ p := by simpa using HBB.out
            have HSR2 := Lib.hid (HL.out.step ordE HSR.out HP.out HQ.out hqp)
            clear hqp
            go_wp2
            go_roundw
            case rel => exact ⟨k + 1, by omega, by go_num, HSR2.out, HX1.out⟩
            case measure => simp [intOf]; omega
          · have hqp : q = p := by simpa using HBB.out
            have HM := Lib.hid (CMidR.start (r := befE) (k := k) HSR.out HP.out (hqp ▸ HQ.out))
            clear hqp
            go_wp2_with fail
            go_loopw [3, 5] (fun i j wv => ∃ (i' d : Nat) (ys : List Ed), i = .int .i64 (i' + 1 : Nat) ∧ j = .int .i64 (d + 1 : Nat) ∧ CMidR befE l ys i' (k + 1 + d) ∧ wv.ownsRow base 32 17 (.slice (some ⟨g, 0, none⟩) l.length c) l.length (rowsE ys).flatten ∧ w.grownBy wv (some g)) (fun _ j _ => l.length - (intOf j).toNat)
            case atStart => exact ⟨k, 0, l, by go_num, by go_num, HM.out, own_ext HO.out HX1.out, HX1.out.by_ _⟩
            case round =>
              obtain ⟨i, d, ys, rfl, rfl, hM, hO, hW⟩ := hrel
              have hij := hM.ij
              have hjn := hM.jn
              have hyl := hM.len
              have hgl2 := Nat.lt_of_lt_of_le hgl hW.size
              have HMM := Lib.hid hM; have HOO := Lib.hid hO; have HWW := Lib.hid hW; have HYL := Lib.hid hyl
              by_cases hlt2 : k + 1 + d + 1 < l.length
              · obtain ⟨p', hp'⟩ : ∃ p, l[k + 1 + d]? = some p := ⟨_, List.getElem?_eq_getElem (by omega)⟩
                obtain ⟨q', hq'⟩ : ∃ q, l[k + 1 + d + 1]? = some q := ⟨_, List.getElem?_eq_getElem hlt2⟩
                have hrp := own_range hO (rowsE_rwk ys) ((rowsE_length ys).trans hyl) (j := k + 1 + d) (x := p'.cells) (by simp [rowsE, (hM.tail _ (Nat.le_refl _)).trans hp'])
                have hrq := own_range hO (rowsE_rwk ys) ((rowsE_length ys).trans hyl) (j := k + 1 + d + 1) (x := q'.cells) (by simp [rowsE, (hM.tail _ (by omega)).trans hq'])
                rw [show (k + 1 + d) * 17 = (k + 1) * 17 + d * 17 by omega] at hrp
                rw [show (k + 1 + d + 1) * 17 = (k + 1) * 17 + (d + 1) * 17 by omega] at hrq
                have HRP2 := Lib.hid hrp; have HRQ2 := Lib.hid hrq
                have hn := neqEd_run q' p'
                have HP' := Lib.hid hp'; have HQ' := Lib.hid hq'
                have hlt3 : d + 1 < l.length - (k + 1) := by omega
                have hdl : d < l.length - (k + 1) := by omega
                have hwd : IntKind.i64.wrap (d : Int) = (d : Int) := by rw [IntKind.wrap_i64]; omega
                have hi2 : 0 ≤ (d : Int) + 1 := by omega
                have hi3 : ¬ (((l.length - (k + 1) : Nat) : Int) ≤ (d : Int) + 1) := by omega
                clear hM hO hW hyl hp' hq' hrp hrq
                generalize hbb : decide (q' ≠ p') = bb2 at hn
                have HBB2 := Lib.hid hbb
                clear hbb
                go_upto_region 11 with fail
                refine wp_region_relD (w := wr) (fun i v w' => match i with
                    | 0 => v = .slice (some ⟨g, (k + 1) * 17, none⟩) (l.length - (k + 1)) (c - (k + 1))
                    | 1 => v = .int .i64 ((d + 1 : Nat) : Int)
                    | 2 => v = .pointer (some ⟨g, (k + 1) * 17 + (d + 1) * 17, none⟩)
                    | 3 => v = .agg q'.cells.toArray
                    | 4 => v = .slice (some ⟨g, (k + 1) * 17, none⟩) (l.length - (k + 1)) (c - (k + 1))
                    | 5 => v = .int .i64 ((d + 1 : Nat) : Int)
                    | 6 => v = .int .i64 (d : Nat)
                    | 7 => v = .pointer (some ⟨g, (k + 1) * 17 + d * 17, none⟩)
                    | 8 => v = .agg p'.cells.toArray
                    | 9 => v = .bool bb2
                    | _ => True) hm (by kernel_rfl) (by kernel_rfl) rfl ?_ ?_ ?_
                · intro i v w1 w2 hx h
                  match i, h with
                  | 0, h => exact h
                  | 1, h => exact h
                  | 2, h => exact h
                  | 3, h => exact h
                  | 4, h => exact h
                  | 5, h => exact h
                  | 6, h => exact h
                  | 7, h => exact h
                  | 8, h => exact h
                  | 9, h => exact h
                  | i + 10, h => exact trivial
                · intro i o ho b w1 hx hmiss hdep K hK
                  match i, ho with
                  | 0, ho =>
                    obtain rfl := Option.some.inj ho
                    refine want_none rfl ?_
                    have e4 : b.tmps[4]? = some (.slice (some ⟨g, (k + 1) * 17, none⟩) (l.length - (k + 1)) (c - (k + 1))) := hmiss 4 rfl
                    exact op_move rfl (eval_of e4) (hK _ w1 (ExtD.refl _) rfl)
                  | 1, ho =>
                    obtain rfl := Option.some.inj ho
                    refine want_none rfl ?_
                    have e5 : b.tmps[5]? = some (.int .i64 ((d + 1 : Nat) : Int)) := hmiss 5 rfl
                    exact op_move rfl (eval_of e5) (hK _ w1 (ExtD.refl _) rfl)
                  | 2, ho =>
                    obtain rfl := Option.some.inj ho
                    refine want_none rfl ?_
                    obtain ⟨v35, g35, e35⟩ := hdep 0 rfl
                    have g35 : v35 = .slice (some ⟨g, (k + 1) * 17, none⟩) (l.length - (k + 1)) (c - (k + 1)) := g35
                    subst g35
                    have e35 := e35 35 rfl
                    obtain ⟨v36, g36, e36⟩ := hdep 1 rfl
                    have g36 : v36 = .int .i64 ((d + 1 : Nat) : Int) := g36
                    subst g36
                    have e36 := e36 36 rfl
                    exact op_run (by unfold execOp; simp [e35, e36, Act.eval, go_sem, hi2, hi3]) (hK _ w1 (ExtD.refl _) rfl)
                  | 3, ho =>
                    obtain rfl := Option.some.inj ho
                    refine want_none rfl ?_
                    obtain ⟨v37, g37, e37⟩ := hdep 2 rfl
                    have g37 : v37 = .pointer (some ⟨g, (k + 1) * 17 + (d + 1) * 17, none⟩) := g37
                    subst g37
                    have e37 := e37 37 rfl
                    exact wp_load_mid 32 (.tmp 37) rfl g ((k + 1) * 17 + (d + 1) * 17) (eval_of e37) q'.cells _ (rangeAt_ext HRQ2.out hgl2 hx.ext) Tryd.underlying32 rfl (by kernel_rfl) (hK _ w1 (ExtD.refl _) rfl)
                  | 4, ho =>
                    obtain rfl := Option.some.inj ho
                    refine want_none rfl ?_
                    have e4 : b.tmps[4]? = some (.slice (some ⟨g, (k + 1) * 17, none⟩) (l.length - (k + 1)) (c - (k + 1))) := hmiss 4 rfl
                    exact op_move rfl (eval_of e4) (hK _ w1 (ExtD.refl _) rfl)
                  | 5, ho =>
                    obtain rfl := Option.some.inj ho
                    refine want_none rfl ?_
                    have e5 : b.tmps[5]? = some (.int .i64 ((d + 1 : Nat) : Int)) := hmiss 5 rfl
                    exact op_move rfl (eval_of e5) (hK _ w1 (ExtD.refl _) rfl)
                  | 6, ho =>
                    obtain rfl := Option.some.inj ho
                    refine want_none rfl ?_
                    obtain ⟨v40, g40, e40⟩ := hdep 5 rfl
                    have g40 : v40 = .int .i64 ((d + 1 : Nat) : Int) := g40
                    subst g40
                    have e40 := e40 40 rfl
                    exact op_run (by unfold execOp; simp [e40, Act.eval, go_sem, hwd]) (hK _ w1 (ExtD.refl _) rfl)
                  | 7, ho =>
                    obtain rfl := Option.some.inj ho
                    refine want_none rfl ?_
                    obtain ⟨v39, g39, e39⟩ := hdep 4 rfl
                    have g39 : v39 = .slice (some ⟨g, (k + 1) * 17, none⟩) (l.length - (k + 1)) (c - (k + 1)) := g39
                    subst g39
                    have e39 := e39 39 rfl
                    obtain ⟨v41, g41, e41⟩ := hdep 6 rfl
                    have g41 : v41 = .int .i64 (d : Nat) := g41
                    subst g41
                    have e41 := e41 41 rfl
                    exact op_run (by unfold execOp; simp [e39, e41, Act.eval, go_sem, hdl]) (hK _ w1 (ExtD.refl _) rfl)
                  | 8, ho =>
                    obtain rfl := Option.some.inj ho
                    refine want_none rfl ?_
                    obtain ⟨v42, g42, e42⟩ := hdep 7 rfl
                    have g42 : v42 = .pointer (some ⟨g, (k + 1) * 17 + d * 17, none⟩) := g42
                    subst g42
                    have e42 := e42 42 rfl
                    exact wp_load_mid 32 (.tmp 42) rfl g ((k + 1) * 17 + d * 17) (eval_of e42) p'.cells _ (rangeAt_ext HRP2.out hgl2 hx.ext) Tryd.underlying32 rfl (by kernel_rfl) (hK _ w1 (ExtD.refl _) rfl)
                  | 9, ho =>
                    obtain rfl := Option.some.inj ho
                    refine want_none rfl ?_
                    obtain ⟨v38, g38, e38⟩ := hdep 3 rfl
                    have g38 : v38 = .agg q'.cells.toArray := g38
                    subst g38
                    have e38 := e38 38 rfl
                    obtain ⟨v43, g43, e43⟩ := hdep 8 rfl
                    have g43 : v43 = .agg p'.cells.toArray := g43
                    subst g43
                    have e43 := e43 43 rfl
                    exact op_run (by unfold execOp; simp [e38, e43, Act.eval, go_sem, hn]) (hK _ w1 (ExtD.refl _) rfl)
                  | i + 10, ho => cases ho
                · intro V W11 hx hg
                  have q0 : V 9 = .bool bb2 := hg 9 (by decide)
                  simp only [List.length_cons, List.length_nil, fillAllN, dstOf, Act.put, List.getElem?_toArray, List.getElem?_cons_zero, List.getElem?_cons_succ, Option.bind_some, List.setIfInBounds_toArray, List.set_cons_zero, List.set_cons_succ, q0]
                  have HY := Lib.hid hx.ext
                  have hgl3 := Nat.lt_of_lt_of_le hgl2 hx.ext.size
                  have HRQ3 := Lib.hid (rangeAt_ext HRQ2.out hgl2 hx.ext)
                  clear hg q0 hx hn
                  cases bb2
                  · have hqp : q' = p' := by simpa using HBB2.out
                    have HM2 := Lib.hid (HMM.out.skip (hqp ▸ HP'.out) HQ'.out)
                    clear hqp
                    go_wp2
                    go_roundw
                    case rel => exact ⟨i, d + 1, ys, rfl, by go_num, HM2.out, own_ext HOO.out HY.out, grown_ext HWW.out HY.out⟩
                    case measure => simp [intOf]; omega
                  · have hqp : q' ≠ p' := by simpa using HBB2.out
                    have HM2 := Lib.hid (HMM.out.put ordE HL.out HP'.out HQ'.out hqp)
                    clear hqp
                    have HO2 := Lib.hid (own_ext HOO.out HY.out)
                    have hlt4 : i + 1 < l.length := by omega
                    have HTH := Lib.hid (show W11.there g ((i + 1) * 17) q'.cells.toArray.size from own_there HO2.out (o := (i + 1) * 17) (m := 17) (by omega))
                    have hset := own_setCells q'.cells ((i + 1) * 17) W11 (rowsE ys).flatten (by rw [flatten_length _ (rowsE_rwk ys).len, rowsE_length, HYL.out]; show (i + 1) * 17 + 17 ≤ l.length * 17; omega) HO2.out
                    have hfl := set_flatten (rowsE ys) (i + 1) q'.cells (rowsE_rwk ys).len rfl (by rw [rowsE_length, HYL.out]; omega)
                    rw [← hfl, ← rowsE_set] at hset
                    have HSET := Lib.hid hset
                    clear hset hfl
                    go_wp2_with (first
                      | (with_reducible refine wpList_load_mid rfl 32 (.tmp 49) rfl g ((k + 1) * 17 + (d + 1) * 17) rfl q'.cells _ HRQ3.out Tryd.underlying32 rfl (by kernel_rfl) ?_)
                      | (with_reducible refine wpList_store_mid rfl 32 (.tmp 51) (.tmp 50) rfl g ((i + 1) * 17) q'.cells.toArray rfl rfl HTH.out (by kernel_rfl) (by rw [List.all_toArray, List.all_eq_true]; exact q'.one) ?_))
                    go_roundw
                    case rel => exact ⟨i + 1, d + 1, ys.set (i + 1) q', by go_num, by go_num, HM2.out, HSET.out.1, grown_trans (grown_ext HWW.out HY.out) HSET.out.2.1⟩
                    case measure => simp [intOf]; omega
              · have hj : k + 1 + d + 1 = l.length := by omega
                have HRES := Lib.hid (show Srt befE (ys.take (i + 1)) ∧ ∀ q, q ∈ ys.take (i + 1) ↔ q ∈ l from ⟨HMM.out.srt, fun q => by rw [HMM.out.mem, hj, List.take_length]⟩)
                obtain ⟨cur, hbg2, hcur, hnc2, hcm2, hcl, htk⟩ := own_cur hO
                have HT := Lib.hid htk
                have HCL := Lib.hid hcl
                have HC := Lib.hid hcur
                obtain ⟨dd, hd⟩ : ∃ dd, l.length - (i + 1) = dd + 1 := ⟨l.length - (i + 1) - 1, by omega⟩
                have HD := Lib.hid hd
                have hic : ¬ c = i + 1 := by omega
                have hic2 : i + 1 ≤ l.length := by omega
                have hic3 : i + 1 ≤ c := by omega
                have hlt3 : ¬ (d + 1 < l.length - (k + 1)) := by omega
                clear hM hO hW hyl htk hcl hcur hd
                go_wp2_with (with_reducible refine wpList_clear_rows (n := dd) rfl (.tmp 56) 22 rfl 32 17 (.agg #[.int .i64 0, .int .i64 0, .int .i64 0, .int .i64 0, .int .i64 0, .int .i64 0, .int .i64 0, .int .i64 0, .int .i64 0, .int .i64 0, .int .i64 0, .int .i64 0, .int .i64 0, .int .i64 0, .int .i64 0, .int .i64 0, .int .i64 0]) Tryd.underlying22 zeroEdV rfl ?h1 g ((i + 1) * 17) (c - (i + 1)) ?h2 cur 32 HC.out ?h3 ?_)
                case h1 => exact zeros_one _ _ (by decide) (by decide)
                case h2 => simp [go_sem, HD.out]
                case h3 => have := HCL.out; have := HD.out; omega
                have hil : i + 1 = (ys.take (i + 1)).length := by rw [List.length_take, HYL.out]; omega
                have HIL := Lib.hid hil; clear hil
                go_ret
                have hD := HD.out
                have hz : (Builtin.zeroCells #[.int .i64 0, .int .i64 0, .int .i64 0, .int .i64 0, .int .i64 0, .int .i64 0, .int .i64 0, .int .i64 0, .int .i64 0, .int .i64 0, .int .i64 0, .int .i64 0, .int .i64 0, .int .i64 0, .int .i64 0, .int .i64 0, .int .i64 0] (dd + 1)).toList.length = (dd + 1) * 17 := by rw [Array.length_toList, size_zeroCells]; rfl
                refine ⟨ys.take (i + 1), HRES.out.1, HRES.out.2, by rw [← HIL.out]; rfl, ?_, grown_row HWW.out _⟩
                rw [← HIL.out, rowsE_take, flatten_take (rowsE ys) (i + 1) (rowsE_rwk ys).len (by rw [rowsE_length, HYL.out]; omega)]
                refine own_of_cur hbg2 (setRow_heap wr g _ _ _ _ HC.out) (by omega) hcm2 (by rw [length_splice _ _ _ (by rw [hz, HCL.out]; omega)]; exact HCL.out) ?_
                rw [splice_take _ _ _ (by rw [HCL.out]; omega), ← HT.out, List.take_take]
                congr 1; omega
      · obtain hkl : k + 1 = l.length := by omega
        have HK := Lib.hid hkl
        go_wp2
        go_ret
        exact ⟨l, by have h := HSR.out; rw [HK.out, List.take_length] at h; exact h, fun q => Iff.rfl, rfl, own_ext HO.out HX.out, HX.out.by_ _⟩
end Go.Proofs.YtcfebfblmmbeaaaDoor

/- slices.Compact at Nm, on a row of the call's own that is in order. -/
namespace Go.Proofs.YtcfebfblmmbeaaaDoor
open Go Go.RowKit

/-- It hands back the first rows of the same block: the list without repetitions; only this block has turned. -/
def RetCNm (g c base : Nat) (l : List Nm) (w : World) (en : Ending) (w' : World) : Prop :=
  ∃ m : List Nm, Srt befN m ∧ (∀ q, q ∈ m ↔ q ∈ l) ∧ en = .returned (.slice (some ⟨g, 0, none⟩) m.length c) ∧ w'.ownsRow base 24 2 (.slice (some ⟨g, 0, none⟩) m.length c) m.length (rowsN m).flatten ∧ w.grownBy w' (some g)
theorem CompactNm_none (w : World) :
    Calls Tryd.prog 46 #[.slice none 0 0] w fun e w' => e = .returned (.slice none 0 0) ∧ w' = w := by
  go_enter Tryd.func46, Tryd.ntmps46
  go_wp2
  go_ret
  exact ⟨rfl, rfl⟩
set_option maxRecDepth 100000 in
set_option maxHeartbeats 8000000 in
theorem CompactNm_own (g c base : Nat) (l : List Nm) (w : World) (ho : w.ownsRow base 24 2 (.slice (some ⟨g, 0, none⟩) l.length c) l.length (rowsN l).flatten) (hl : LeR befN l) (hb : l.length ≤ 1034834473200) :
    Calls Tryd.prog 46 #[.slice (some ⟨g, 0, none⟩) l.length c] w (RetCNm g c base l w) := by
  have hm := mixed
  obtain ⟨cur0, hbg, hcur0, hnc, hcm, _⟩ := own_cur ho
  have hgl := (Array.getElem?_eq_some_iff.1 hcur0).1
  unfold maxLen at hcm
  have HO := Lib.hid ho; have HL := Lib.hid hl
  clear ho hl hcur0
  by_cases h2 : l.length < 2
  · have HS := Lib.hid (Srt.short (r := befN) h2)
    go_enter Tryd.func46, Tryd.ntmps46
    go_wp2
    go_ret
    exact ⟨l, HS.out, fun q => Iff.rfl, rfl, HO.out, grown_refl _ _⟩
  · go_enter Tryd.func46, Tryd.ntmps46
    go_wp2
    go_loopw [3] (fun i wr => ∃ k : Nat, k + 1 ≤ l.length ∧ i = .int .i64 (k + 1 : Nat) ∧ Srt befN (l.take (k + 1)) ∧ Ext w wr) (fun i _ => l.length - (intOf i).toNat)
    case atStart => exact ⟨0, by omega, rfl, Srt.short (by rw [List.length_take]; omega), Ext.refl _⟩
    case round =>
      obtain ⟨k, hk, rfl, hsr, hx⟩ := hrel
      have HSR := Lib.hid hsr; have HX := Lib.hid hx
      have hgl1 := Nat.lt_of_lt_of_le hgl hx.size
      clear hsr
      by_cases hlt : k + 1 < l.length
      · obtain ⟨p, hp⟩ : ∃ p, l[k]? = some p := ⟨_, List.getElem?_eq_getElem (by omega)⟩
        obtain ⟨q, hq⟩ : ∃ q, l[k + 1]? = some q := ⟨_, List.getElem?_eq_getElem hlt⟩
        have HRP := Lib.hid (own_range (own_ext HO.out hx) (rowsN_rwk l) (rowsN_length l) (j := k) (x := p.cells) (by simp [rowsN, hp]))
        have HRQ := Lib.hid (own_range (own_ext HO.out hx) (rowsN_rwk l) (rowsN_length l) (j := k + 1) (x := q.cells) (by simp [rowsN, hq]))
        have hn := eqNm_run q p
        have hwk : IntKind.i64.wrap (k : Int) = (k : Int) := by rw [IntKind.wrap_i64]; omega
        have hi0 : 0 ≤ (k : Int) + 1 := by omega
        have hi1 : ¬ ((l.length : Int) ≤ (k : Int) + 1) := by omega
        have hkl : k < l.length := by omega
        have HP := Lib.hid hp; have HQ := Lib.hid hq
        have HSUB := Lib.hid (hn)
        clear hp hq hx
        generalize hbb : decide (q = p) = bb at hn
        have HBB := Lib.hid hbb
        clear hbb HSUB
        go_upto_region 6 with fail
        refine wp_region_relD (w := wr) (fun i v w' => match i with
            | 0 => v = .slice (some ⟨g, 0, none⟩) l.length c
            | 1 => v = .int .i64 ((k + 1 : Nat) : Int)
            | 2 => v = .pointer (some ⟨g, (k + 1) * 2, none⟩)
            | 3 => v = .agg q.cells.toArray
            | 4 => v = .slice (some ⟨g, 0, none⟩) l.length c
            | 5 => v = .int .i64 ((k + 1 : Nat) : Int)
            | 6 => v = .int .i64 (k : Nat)
            | 7 => v = .pointer (some ⟨g, k * 2, none⟩)
            | 8 => v = .agg p.cells.toArray
            | 9 => v = .bool bb
            | _ => True) hm (by kernel_rfl) (by kernel_rfl) rfl ?_ ?_ ?_
        · intro i v w1 w2 hx h
          match i, h with
          | 0, h => exact h
          | 1, h => exact h
          | 2, h => exact h
          | 3, h => exact h
          | 4, h => exact h
          | 5, h => exact h
          | 6, h => exact h
          | 7, h => exact h
          | 8, h => exact h
          | 9, h => exact h
          | i + 10, h => exact trivial
        · intro i o ho b w1 hx hmiss hdep K hK
          match i, ho with
          | 0, ho =>
            obtain rfl := Option.some.inj ho
            refine want_none rfl ?_
            have e0 : b.tmps[0]? = some (.slice (some ⟨g, 0, none⟩) l.length c) := hmiss 0 rfl
            exact op_move rfl (eval_of e0) (hK _ w1 (ExtD.refl _) rfl)
          | 1, ho =>
            obtain rfl := Option.some.inj ho
            refine want_none rfl ?_
            have e3 : b.tmps[3]? = some (.int .i64 ((k + 1 : Nat) : Int)) := hmiss 3 rfl
            exact op_move rfl (eval_of e3) (hK _ w1 (ExtD.refl _) rfl)
          | 2, ho =>
            obtain rfl := Option.some.inj ho
            refine want_none rfl ?_
            obtain ⟨v16, g16, e16⟩ := hdep 0 rfl
            have g16 : v16 = .slice (some ⟨g, 0, none⟩) l.length c := g16
            subst g16
            have e16 := e16 16 rfl
            obtain ⟨v17, g17, e17⟩ := hdep 1 rfl
            have g17 : v17 = .int .i64 ((k + 1 : Nat) : Int) := g17
            subst g17
            have e17 := e17 17 rfl
            exact op_run (by unfold execOp; simp [e16, e17, Act.eval, go_sem, hi0, hi1]) (hK _ w1 (ExtD.refl _) rfl)
          | 3, ho =>
            obtain rfl := Option.some.inj ho
            refine want_none rfl ?_
            obtain ⟨v18, g18, e18⟩ := hdep 2 rfl
            have g18 : v18 = .pointer (some ⟨g, (k + 1) * 2, none⟩) := g18
            subst g18
            have e18 := e18 18 rfl
            exact wp_load_mid 24 (.tmp 18) rfl g ((k + 1) * 2) (eval_of e18) q.cells _ (rangeAt_ext HRQ.out hgl1 hx.ext) Tryd.underlying24 rfl (by kernel_rfl) (hK _ w1 (ExtD.refl _) rfl)
          | 4, ho =>
            obtain rfl := Option.some.inj ho
            refine want_none rfl ?_
            have e0 : b.tmps[0]? = some (.slice (some ⟨g, 0, none⟩) l.length c) := hmiss 0 rfl
            exact op_move rfl (eval_of e0) (hK _ w1 (ExtD.refl _) rfl)
          | 5, ho =>
            obtain rfl := Option.some.inj ho
            refine want_none rfl ?_
            have e3 : b.tmps[3]? = some (.int .i64 ((k + 1 : Nat) : Int)) := hmiss 3 rfl
            exact op_move rfl (eval_of e3) (hK _ w1 (ExtD.refl _) rfl)
          | 6, ho =>
            obtain rfl := Option.some.inj ho
            refine want_none rfl ?_
            obtain ⟨v21, g21, e21⟩ := hdep 5 rfl
            have g21 : v21 = .int .i64 ((k + 1 : Nat) : Int) := g21
            subst g21
            have e21 := e21 21 rfl
            exact op_run (by unfold execOp; simp [e21, Act.eval, go_sem, hwk]) (hK _ w1 (ExtD.refl _) rfl)
          | 7, ho =>
            obtain rfl := Option.some.inj ho
            refine want_none rfl ?_
            obtain ⟨v20, g20, e20⟩ := hdep 4 rfl
            have g20 : v20 = .slice (some ⟨g, 0, none⟩) l.length c := g20
            subst g20
            have e20 := e20 20 rfl
            obtain ⟨v22, g22, e22⟩ := hdep 6 rfl
            have g22 : v22 = .int .i64 (k : Nat) := g22
            subst g22
            have e22 := e22 22 rfl
            exact op_run (by unfold execOp; simp [e20, e22, Act.eval, go_sem, hkl]) (hK _ w1 (ExtD.refl _) rfl)
          | 8, ho =>
            obtain rfl := Option.some.inj ho
            refine want_none rfl ?_
            obtain ⟨v23, g23, e23⟩ := hdep 7 rfl
            have g23 : v23 = .pointer (some ⟨g, k * 2, none⟩) := g23
            subst g23
            have e23 := e23 23 rfl
            exact wp_load_mid 24 (.tmp 23) rfl g (k * 2) (eval_of e23) p.cells _ (rangeAt_ext HRP.out hgl1 hx.ext) Tryd.underlying24 rfl (by kernel_rfl) (hK _ w1 (ExtD.refl _) rfl)
          | 9, ho =>
            obtain rfl := Option.some.inj ho
            refine want_none rfl ?_
            obtain ⟨v19, g19, e19⟩ := hdep 3 rfl
            have g19 : v19 = .agg q.cells.toArray := g19
            subst g19
            have e19 := e19 19 rfl
            obtain ⟨v24, g24, e24⟩ := hdep 8 rfl
            have g24 : v24 = .agg p.cells.toArray := g24
            subst g24
            have e24 := e24 24 rfl
            exact op_run (by unfold execOp; simp [e19, e24, Act.eval, go_sem, hn]) (hK _ w1 (ExtD.refl _) rfl)
          | i + 10, ho => cases ho
        · intro V W6 hx hg
          have q0 : V 9 = .bool bb := hg 9 (by decide)
          simp only [List.length_cons, List.length_nil, fillAllN, dstOf, Act.put, List.getElem?_toArray, List.getElem?_cons_zero, List.getElem?_cons_succ, Option.bind_some, List.setIfInBounds_toArray, List.set_cons_zero, List.set_cons_succ, q0]
          have HX1 := Lib.hid (HX.out.trans hx.ext)
          clear hg q0 hx hn
          have hck : ¬ c = k + 1 := by omega
          have hck2 : k + 1 ≤ c := by omega
          cases bb
          · have hqp : q ≠ p := by simpa using HBB.out
            have HSR2 := Lib.hid (HL.out.step ordN HSR.out HP.out HQ.out hqp)
            clear hqp
            go_wp2
            go_roundw
            case rel => exact ⟨k + 1, by omega, by go_num, HSR2.out, HX1.out⟩
            case measure => simp [intOf]; omega
          · have hqp : q = p := by simpa using HBB.out
            have HM := Lib.hid (CMidR.start (r := befN) (k := k) HSR.out HP.out (hqp ▸ HQ.out))
            clear hqp
            go_wp2_with fail
            go_loopw [3, 5] (fun i j wv => ∃ (i' d : Nat) (ys : List Nm), i = .int .i64 (i' + 1 : Nat) ∧ j = .int .i64 (d + 1 : Nat) ∧ CMidR befN l ys i' (k + 1 + d) ∧ wv.ownsRow base 24 2 (.slice (some ⟨g, 0, none⟩) l.length c) l.length (rowsN ys).flatten ∧ w.grownBy wv (some g)) (fun _ j _ => l.length - (intOf j).toNat)
            case atStart => exact ⟨k, 0, l, by go_num, by go_num, HM.out, own_ext HO.out HX1.out, HX1.out.by_ _⟩
            case round =>
              obtain ⟨i, d, ys, rfl, rfl, hM, hO, hW⟩ := hrel
              have hij := hM.ij
              have hjn := hM.jn
              have hyl := hM.len
              have hgl2 := Nat.lt_of_lt_of_le hgl hW.size
              have HMM := Lib.hid hM; have HOO := Lib.hid hO; have HWW := Lib.hid hW; have HYL := Lib.hid hyl
              by_cases hlt2 : k + 1 + d + 1 < l.length
              · obtain ⟨p', hp'⟩ : ∃ p, l[k + 1 + d]? = some p := ⟨_, List.getElem?_eq_getElem (by omega)⟩
                obtain ⟨q', hq'⟩ : ∃ q, l[k + 1 + d + 1]? = some q := ⟨_, List.getElem?_eq_getElem hlt2⟩
                have hrp := own_range hO (rowsN_rwk ys) ((rowsN_length ys).trans hyl) (j := k + 1 + d) (x := p'.cells) (by simp [rowsN, (hM.tail _ (Nat.le_refl _)).trans hp'])
                have hrq := own_range hO (rowsN_rwk ys) ((rowsN_length ys).trans hyl) (j := k + 1 + d + 1) (x := q'.cells) (by simp [rowsN, (hM.tail _ (by omega)).trans hq'])
                rw [show (k + 1 + d) * 2 = (k + 1) * 2 + d * 2 by omega] at hrp
                rw [show (k + 1 + d + 1) * 2 = (k + 1) * 2 + (d + 1) * 2 by omega] at hrq
                have HRP2 := Lib.hid hrp; have HRQ2 := Lib.hid hrq
                have hn := neqNm_run q' p'
                have HP' := Lib.hid hp'; have HQ' := Lib.hid hq'
                have hlt3 : d + 1 < l.length - (k + 1) := by omega
                have hdl : d < l.length - (k + 1) := by omega
                have hwd : IntKind.i64.wrap (d : Int) = (d : Int) := by rw [IntKind.wrap_i64]; omega
                have hi2 : 0 ≤ (d : Int) + 1 := by omega
                have hi3 : ¬ (((l.length - (k + 1) : Nat) : Int) ≤ (d : Int) + 1) := by omega
                clear hM hO hW hyl hp' hq' hrp hrq
                generalize hbb : decide (q' ≠ p') = bb2 at hn
                have HBB2 := Lib.hid hbb
                clear hbb
                go_upto_region 11 with fail
                refine wp_region_relD (w := wr) (fun i v w' => match i with
                    | 0 => v = .slice (some ⟨g, (k + 1) * 2, none⟩) (l.length - (k + 1)) (c - (k + 1))
                    | 1 => v = .int .i64 ((d + 1 : Nat) : Int)
                    | 2 => v = .pointer (some ⟨g, (k + 1) * 2 + (d + 1) * 2, none⟩)
                    | 3 => v = .agg q'.cells.toArray
                    | 4 => v = .slice (some ⟨g, (k + 1) * 2, none⟩) (l.length - (k + 1)) (c - (k + 1))
                    | 5 => v = .int .i64 ((d + 1 : Nat) : Int)
                    | 6 => v = .int .i64 (d : Nat)
                    | 7 => v = .pointer (some ⟨g, (k + 1) * 2 + d * 2, none⟩)
                    | 8 => v = .agg p'.cells.toArray
                    | 9 => v = .bool bb2
                    | _ => True) hm (by kernel_rfl) (by kernel_rfl) rfl ?_ ?_ ?_
                · intro i v w1 w2 hx h
                  match i, h with
                  | 0, h => exact h
                  | 1, h => exact h
                  | 2, h => exact h
                  | 3, h => exact h
                  | 4, h => exact h
                  | 5, h => exact h
                  | 6, h => exact h
                  | 7, h => exact h
                  | 8, h => exact h
                  | 9, h => exact h
                  | i + 10, h => exact trivial
                · intro i o ho b w1 hx hmiss hdep K hK
                  match i, ho with
                  | 0, ho =>
                    obtain rfl := Option.some.inj ho
                    refine want_none rfl ?_
                    have e4 : b.tmps[4]? = some (.slice (some ⟨g, (k + 1) * 2, none⟩) (l.length - (k + 1)) (c - (k + 1))) := hmiss 4 rfl
                    exact op_move rfl (eval_of e4) (hK _ w1 (ExtD.refl _) rfl)
                  | 1, ho =>
                    obtain rfl := Option.some.inj ho
                    refine want_none rfl ?_
                    have e5 : b.tmps[5]? = some (.int .i64 ((d + 1 : Nat) : Int)) := hmiss 5 rfl
                    exact op_move rfl (eval_of e5) (hK _ w1 (ExtD.refl _) rfl)
                  | 2, ho =>
                    obtain rfl := Option.some.inj ho
                    refine want_none rfl ?_
                    obtain ⟨v35, g35, e35⟩ := hdep 0 rfl
                    have g35 : v35 = .slice (some ⟨g, (k + 1) * 2, none⟩) (l.length - (k + 1)) (c - (k + 1)) := g35
                    subst g35
                    have e35 := e35 35 rfl
                    obtain ⟨v36, g36, e36⟩ := hdep 1 rfl
                    have g36 : v36 = .int .i64 ((d + 1 : Nat) : Int) := g36
                    subst g36
                    have e36 := e36 36 rfl
                    exact op_run (by unfold execOp; simp [e35, e36, Act.eval, go_sem, hi2, hi3]) (hK _ w1 (ExtD.refl _) rfl)
                  | 3, ho =>
                    obtain rfl := Option.some.inj ho
                    refine want_none rfl ?_
                    obtain ⟨v37, g37, e37⟩ := hdep 2 rfl
                    have g37 : v37 = .pointer (some ⟨g, (k + 1) * 2 + (d + 1) * 2, none⟩) := g37
                    subst g37
                    have e37 := e37 37 rfl
                    exact wp_load_mid 24 (.tmp 37) rfl g ((k + 1) * 2 + (d + 1) * 2) (eval_of e37) q'.cells _ (rangeAt_ext HRQ2.out hgl2 hx.ext) Tryd.underlying24 rfl (by kernel_rfl) (hK _ w1 (ExtD.refl _) rfl)
                  | 4, ho =>
                    obtain rfl := Option.some.inj ho
                    refine want_none rfl ?_
                    have e4 : b.tmps[4]? = some (.slice (some ⟨g, (k + 1) * 2, none⟩) (l.length - (k + 1)) (c - (k + 1))) := hmiss 4 rfl
                    exact op_move rfl (eval_of e4) (hK _ w1 (ExtD.refl _) rfl)
                  | 5, ho =>
                    obtain rfl := Option.some.inj ho
                    refine want_none rfl ?_
                    have e5 : b.tmps[5]? = some (.int .i64 ((d + 1 : Nat) : Int)) := hmiss 5 rfl
                    exact op_move rfl (eval_of e5) (hK _ w1 (ExtD.refl _) rfl)
                  | 6, ho =>
                    obtain rfl := Option.some.inj ho
                    refine want_none rfl ?_
                    obtain ⟨v40, g40, e40⟩ := hdep 5 rfl
                    have g40 : v40 = .int .i64 ((d + 1 : Nat) : Int) := g40
                    subst g40
                    have e40 := e40 40 rfl
                    exact op_run (by unfold execOp; simp [e40, Act.eval, go_sem, hwd]) (hK _ w1 (ExtD.refl _) rfl)
                  | 7, ho =>
                    obtain rfl := Option.some.inj ho
                    refine want_none rfl ?_
                    obtain ⟨v39, g39, e39⟩ := hdep 4 rfl
                    have g39 : v39 = .slice (some ⟨g, (k + 1) * 2, none⟩) (l.length - (k + 1)) (c - (k + 1)) := g39
                    subst g39
                    have e39 := e39 39 rfl
                    obtain ⟨v41, g41, e41⟩ := hdep 6 rfl
                    have g41 : v41 = .int .i64 (d : Nat) := g41
                    subst g41
                    have e41 := e41 41 rfl
                    exact op_run (by unfold execOp; simp [e39, e41, Act.eval, go_sem, hdl]) (hK _ w1 (ExtD.refl _) rfl)
                  | 8, ho =>
                    obtain rfl := Option.some.inj ho
                    refine want_none rfl ?_
                    obtain ⟨v42, g42, e42⟩ := hdep 7 rfl
                    have g42 : v42 = .pointer (some ⟨g, (k + 1) * 2 + d * 2, none⟩) := g42
                    subst g42
                    have e42 := e42 42 rfl
                    exact wp_load_mid 24 (.tmp 42) rfl g ((k + 1) * 2 + d * 2) (eval_of e42) p'.cells _ (rangeAt_ext HRP2.out hgl2 hx.ext) Tryd.underlying24 rfl (by kernel_rfl) (hK _ w1 (ExtD.refl _) rfl)
                  | 9, ho =>
                    obtain rfl := Option.some.inj ho
                    refine want_none rfl ?_
                    obtain ⟨v38, g38, e38⟩ := hdep 3 rfl
                    have g38 : v38 = .agg q'.cells.toArray := g38
                    subst g38
                    have e38 := e38 38 rfl
                    obtain ⟨v43, g43, e43⟩ := hdep 8 rfl
                    have g43 : v43 = .agg p'.cells.toArray := g43
                    subst g43
                    have e43 := e43 43 rfl
                    exact op_run (by unfold execOp; simp [e38, e43, Act.eval, go_sem, hn]) (hK _ w1 (ExtD.refl _) rfl)
                  | i + 10, ho => cases ho
                · intro V W11 hx hg
                  have q0 : V 9 = .bool bb2 := hg 9 (by decide)
                  simp only [List.length_cons, List.length_nil, fillAllN, dstOf, Act.put, List.getElem?_toArray, List.getElem?_cons_zero, List.getElem?_cons_succ, Option.bind_some, List.setIfInBounds_toArray, List.set_cons_zero, List.set_cons_succ, q0]
                  have HY := Lib.hid hx.ext
                  have hgl3 := Nat.lt_of_lt_of_le hgl2 hx.ext.size
                  have HRQ3 := Lib.hid (rangeAt_ext HRQ2.out hgl2 hx.ext)
                  clear hg q0 hx hn
                  cases bb2
                  · have hqp : q' = p' := by simpa using HBB2.out
                    have HM2 := Lib.hid (HMM.out.skip (hqp ▸ HP'.out) HQ'.out)
                    clear hqp
                    go_wp2
                    go_roundw
                    case rel => exact ⟨i, d + 1, ys, rfl, by go_num, HM2.out, own_ext HOO.out HY.out, grown_ext HWW.out HY.out⟩
                    case measure => simp [intOf]; omega
                  · have hqp : q' ≠ p' := by simpa using HBB2.out
                    have HM2 := Lib.hid (HMM.out.put ordN HL.out HP'.out HQ'.out hqp)
                    clear hqp
                    have HO2 := Lib.hid (own_ext HOO.out HY.out)
                    have hlt4 : i + 1 < l.length := by omega
                    have HTH := Lib.hid (show W11.there g ((i + 1) * 2) q'.cells.toArray.size from own_there HO2.out (o := (i + 1) * 2) (m := 2) (by omega))
                    have hset := own_setCells q'.cells ((i + 1) * 2) W11 (rowsN ys).flatten (by rw [flatten_length _ (rowsN_rwk ys).len, rowsN_length, HYL.out]; show (i + 1) * 2 + 2 ≤ l.length * 2; omega) HO2.out
                    have hfl := set_flatten (rowsN ys) (i + 1) q'.cells (rowsN_rwk ys).len rfl (by rw [rowsN_length, HYL.out]; omega)
                    rw [← hfl, ← rowsN_set] at hset
                    have HSET := Lib.hid hset
                    clear hset hfl
                    go_wp2_with (first
                      | (with_reducible refine wpList_load_mid rfl 24 (.tmp 49) rfl g ((k + 1) * 2 + (d + 1) * 2) rfl q'.cells _ HRQ3.out Tryd.underlying24 rfl (by kernel_rfl) ?_)
                      | (with_reducible refine wpList_store_mid rfl 24 (.tmp 51) (.tmp 50) rfl g ((i + 1) * 2) q'.cells.toArray rfl rfl HTH.out (by kernel_rfl) (by rw [List.all_toArray, List.all_eq_true]; exact q'.one) ?_))
                    go_roundw
                    case rel => exact ⟨i + 1, d + 1, ys.set (i + 1) q', by go_num, by go_num, HM2.out, HSET.out.1, grown_trans (grown_ext HWW.out HY.out) HSET.out.2.1⟩
                    case measure => simp [intOf]; omega
              · have hj : k + 1 + d + 1 = l.length := by omega
                have HRES := Lib.hid (show Srt befN (ys.take (i + 1)) ∧ ∀ q, q ∈ ys.take (i + 1) ↔ q ∈ l from ⟨HMM.out.srt, fun q => by rw [HMM.out.mem, hj, List.take_length]⟩)
                obtain ⟨cur, hbg2, hcur, hnc2, hcm2, hcl, htk⟩ := own_cur hO
                have HT := Lib.hid htk
                have HCL := Lib.hid hcl
                have HC := Lib.hid hcur
                obtain ⟨dd, hd⟩ : ∃ dd, l.length - (i + 1) = dd + 1 := ⟨l.length - (i + 1) - 1, by omega⟩
                have HD := Lib.hid hd
                have hic : ¬ c = i + 1 := by omega
                have hic2 : i + 1 ≤ l.length := by omega
                have hic3 : i + 1 ≤ c := by omega
                have hlt3 : ¬ (d + 1 < l.length - (k + 1)) := by omega
                clear hM hO hW hyl htk hcl hcur hd
                go_wp2_with (with_reducible refine wpList_clear_rows (n := dd) rfl (.tmp 56) 41 rfl 24 2 (.agg #[.int .i64 0, .int .i64 0]) Tryd.underlying41 zeroNmV rfl ?h1 g ((i + 1) * 2) (c - (i + 1)) ?h2 cur 24 HC.out ?h3 ?_)
                case h1 => exact zeros_one _ _ (by decide) (by decide)
                case h2 => simp [go_sem, HD.out]
                case h3 => have := HCL.out; have := HD.out; omega
                have hil : i + 1 = (ys.take (i + 1)).length := by rw [List.length_take, HYL.out]; omega
                have HIL := Lib.hid hil; clear hil
                go_ret
                have hD := HD.out
                have hz : (Builtin.zeroCells #[.int .i64 0, .int .i64 0] (dd + 1)).toList.length = (dd + 1) * 2 := by rw [Array.length_toList, size_zeroCells]; rfl
                refine ⟨ys.take (i + 1), HRES.out.1, HRES.out.2, by rw [← HIL.out]; rfl, ?_, grown_row HWW.out _⟩
                rw [← HIL.out, rowsN_take, flatten_take (rowsN ys) (i + 1) (rowsN_rwk ys).len (by rw [rowsN_length, HYL.out]; omega)]
                refine own_of_cur hbg2 (setRow_heap wr g _ _ _ _ HC.out) (by omega) hcm2 (by rw [length_splice _ _ _ (by rw [hz, HCL.out]; omega)]; exact HCL.out) ?_
                rw [splice_take _ _ _ (by rw [HCL.out]; omega), ← HT.out, List.take_take]
                congr 1; omega
      · obtain hkl : k + 1 = l.length := by omega
        have HK := Lib.hid hkl
        go_wp2
        go_ret
        exact ⟨l, by have h := HSR.out; rw [HK.out, List.take_length] at h; exact h, fun q => Iff.rfl, rfl, own_ext HO.out HX.out, HX.out.by_ _⟩
end Go.Proofs.YtcfebfblmmbeaaaDoor

/- Contracts of cmp at ints. -/
namespace Go.Proofs.YtcfebfblmmbeaaaDoor
open Go Go.RowKit

set_option maxHeartbeats 400000 in
theorem isNaN_any (a : Int) (w : World) :
    Calls Tryd.prog 76 #[.int .i64 a] w fun e w' => e = .returned (.bool false) ∧ w = w' := by
  go_enter Tryd.func76, Tryd.ntmps76
  go_wp2
  go_ret
  exact ⟨rfl, rfl⟩

def cmpI (a b : Int) : Int := if a < b then -1 else if b < a then 1 else 0

set_option maxHeartbeats 400000 in
theorem Compare_any (a b : Int) (w : World) :
    Calls Tryd.prog 58 #[.int .i64 a, .int .i64 b] w fun e w' => e = .returned (.int .i64 (cmpI a b)) ∧ w = w' := by
  go_enter Tryd.func58, Tryd.ntmps58
  go_wp2_with (go_at_call 76; refine (isNaN_any _ _).mono ?_; rintro e w' ⟨rfl, rfl⟩)
  all_goals (go_ret; exact ⟨ret_int (by unfold cmpI; split <;> (try split) <;> omega), rfl⟩)

def orI (a b : Int) : Int := if a = 0 then b else a

set_option maxHeartbeats 400000 in
theorem Or_two (a b : Int) (g : Nat) (w : World) (h0 : w.cell? ⟨g, 0, none⟩ = some (.int .i64 a)) (h1 : w.cell? ⟨g, 1, none⟩ = some (.int .i64 b)) :
    Calls Tryd.prog 57 #[.slice (some ⟨g, 0, none⟩) 2 2] w fun e w' => e = .returned (.int .i64 (orI a b)) ∧ w = w' := by
  go_enter Tryd.func57, Tryd.ntmps57
  go_wp2
  go_loop [8] (fun i => ∃ k : Nat, k ≤ 2 ∧ i = .int .i64 k ∧ (0 < k → a = 0) ∧ (1 < k → b = 0)) (fun i => 2 - (intOf i).toNat)
  case atStart => exact ⟨0, by omega, rfl, by omega, by omega⟩
  case round =>
    obtain ⟨k, hk, rfl, g0, g1⟩ := hrel
    obtain rfl | rfl | rfl : k = 0 ∨ k = 1 ∨ k = 2 := by omega
    · by_cases ha : a = 0
      · subst ha
        go_wp2
        go_round
        case rel => exact ⟨1, by omega, rfl, fun _ => trivial, by omega⟩
        case measure => simp [intOf]
      · have hb : (a != 0) = true := by simpa using ha
        go_wp2
        go_ret
        exact ⟨ret_int (by unfold orI; rw [if_neg ha]), rfl⟩
    · obtain rfl := g0 (by omega)
      by_cases ha : b = 0
      · subst ha
        go_wp2
        go_round
        case rel => exact ⟨2, by omega, rfl, fun _ => trivial, fun _ => trivial⟩
        case measure => simp [intOf]
      · have hb : (b != 0) = true := by simpa using ha
        go_wp2
        go_ret
        exact ⟨ret_int (by unfold orI; simp), rfl⟩
    · go_wp2
      go_ret
      exact ⟨ret_int (by unfold orI; split <;> omega), rfl⟩

end Go.Proofs.YtcfebfblmmbeaaaDoor
