/- YtlinhgannajfpaaGreatDoorCpP · YtlinhgannajfpaaGreatDoorMk · YtlinhgannajfpaaGreatDoorEdS · YtlinhgannajfpaaGreatDoorRet · YtlinhgannajfpaaGreatDoorEe · YtlinhgannajfpaaGreatDoorEf · YtlinhgannajfpaaGreatDoorRf -/
import Derived.OwnWalk
import Derived.MapKept
import Derived.Deep.DeepCutAuto
import Derived.Test.YtlinhgannajfpaaGreatDoorZa5
/- Plain: repetitions struck from a list in order, in place. Rows of one's own, one element written. -/
namespace Go.Proofs.YtlinhgannajfpaaGreatDoor
open Go Go.RowKit

section
variable {α : Type} {r : α → α → Bool}
def LeR (r : α → α → Bool) (l : List α) : Prop := l.Pairwise fun x y => r y x = false
theorem LeR.at_ {l : List α} (h : LeR r l) {i j : Nat} {x y : α} (hx : l[i]? = some x) (hy : l[j]? = some y) (hij : i < j) : r y x = false := by
 obtain ⟨h1, rfl⟩ := List.getElem?_eq_some_iff.1 hx
 obtain ⟨h2, rfl⟩ := List.getElem?_eq_some_iff.1 hy
 exact List.pairwise_iff_getElem.1 h i j h1 h2 hij
theorem Ord.lt (o : Ord r) {a b : α} (h : r b a = false) (hne : b ≠ a) : r a b = true := by
 cases k : r a b
 · exact absurd (o.tot h k) hne
 · rfl
theorem take_snocR {l : List α} {i : Nat} {p : α} (h : l[i]? = some p) : l.take (i + 1) = l.take i ++ [p] := by
 obtain ⟨hi, rfl⟩ := List.getElem?_eq_some_iff.1 h
 exact List.take_succ_eq_append_getElem hi
theorem Srt.last {l : List α} {i : Nat} {p q : α} (h : Srt r (l.take (i + 1))) (hp : l[i]? = some p) (hq : q ∈ l.take (i + 1)) : q = p ∨ r q p = true := by
 rw [take_snocR hp] at h hq
 rcases List.mem_append.1 hq with hq | hq
 · unfold Srt at h
   rw [List.pairwise_append] at h
   exact .inr (h.2.2 q hq p (by simp))
 · simp at hq; exact .inl hq
structure CMidR (r : α → α → Bool) (l ys : List α) (i j : Nat) : Prop where
 len : ys.length = l.length
 srt : Srt r (ys.take (i + 1))
 mem : ∀ q, q ∈ ys.take (i + 1) ↔ q ∈ l.take (j + 1)
 last : ys[i]? = l[j]?
 tail : ∀ m, j ≤ m → ys[m]? = l[m]?
 ij : i < j
 jn : j < l.length
theorem CMidR.start {l : List α} {k : Nat} {p : α} (hs : Srt r (l.take (k + 1))) (h1 : l[k]? = some p) (h2 : l[k + 1]? = some p) : CMidR r l l k (k + 1) where
 len := rfl
 srt := hs
 mem q := by
  rw [take_snocR h2, List.mem_append]
  constructor
  · exact .inl
  · rintro (h | h)
    · exact h
    · simp at h; subst h
      rw [take_snocR h1]; simp
 last := by rw [h1, h2]
 tail m _ := rfl
 ij := by omega
 jn := (List.getElem?_eq_some_iff.1 h2).1
theorem CMidR.skip {l ys : List α} {i j : Nat} {p : α} (h : CMidR r l ys i j) (h1 : l[j]? = some p) (h2 : l[j + 1]? = some p) : CMidR r l ys i (j + 1) where
 len := h.len
 srt := h.srt
 mem q := by
  rw [h.mem, take_snocR h2, List.mem_append]
  constructor
  · exact .inl
  · rintro (hq | hq)
    · exact hq
    · simp at hq; subst hq
      rw [take_snocR h1]; simp
 last := by rw [h.last, h1, h2]
 tail m hm := h.tail m (by omega)
 ij := by have := h.ij; omega
 jn := (List.getElem?_eq_some_iff.1 h2).1
theorem CMidR.put (o : Ord r) {l ys : List α} {i j : Nat} {p q : α} (h : CMidR r l ys i j) (hl : LeR r l) (h1 : l[j]? = some p) (h2 : l[j + 1]? = some q) (hne : q ≠ p) : CMidR r l (ys.set (i + 1) q) (i + 1) (j + 1) := by
 have hij := h.ij
 have hjn := h.jn
 have hlen := h.len
 have hb : r p q = true := o.lt (hl.at_ h1 h2 (by omega)) hne
 have hi : ys[i]? = some p := by rw [h.last, h1]
 have e : (ys.set (i + 1) q).take (i + 1 + 1) = ys.take (i + 1) ++ [q] := by
  rw [take_snocR (p := q) (by rw [List.getElem?_set_self (by omega)]), List.take_set_of_le (by omega)]
 refine ⟨by simpa using h.len, ?_, fun x => ?_, ?_, fun m hm => ?_, by omega, (List.getElem?_eq_some_iff.1 h2).1⟩
 · rw [e]
   exact h.srt.snoc fun x hx => by
    rcases h.srt.last hi hx with rfl | hx
    · exact hb
    · exact o.tr hx hb
 · rw [e, take_snocR h2, List.mem_append, List.mem_append, h.mem]
 · rw [List.getElem?_set_self (by omega), h2]
 · rw [List.getElem?_set_ne (by omega)]
   exact h.tail m (by omega)
theorem LeR.step (o : Ord r) {l : List α} {k : Nat} {p q : α} (hl : LeR r l) (hs : Srt r (l.take (k + 1))) (hp : l[k]? = some p) (hq : l[k + 1]? = some q) (hne : q ≠ p) : Srt r (l.take (k + 1 + 1)) := by
 rw [take_snocR hq]
 have hb : r p q = true := o.lt (hl.at_ hp hq (by omega)) hne
 exact hs.snoc fun x hx => by
  rcases hs.last hp hx with rfl | hx
  · exact hb
  · exact o.tr hx hb
theorem Srt.short {l : List α} (h : l.length < 2) : Srt r l := by
 match l, h with
 | [], _ => exact List.Pairwise.nil
 | [x], _ => exact List.pairwise_singleton ..
 | x :: y :: r, h => simp at h; omega
end
theorem rangeAt_ext {w w' : World} {b o : Nat} {cs : List Value} (h : w.rangeAt b o cs) (hb : b < w.heap.size) (hx : Ext w w') : w'.rangeAt b o cs := fun j v hv => (hx.cell (p := ⟨b, o + j, none⟩) hb).trans (h j v hv)
theorem own_setCells {base n c g k : Nat} {e : TypeId} : ∀ (vs : List Value) (o : Nat) (w : World) (xs : List Value), o + vs.length ≤ xs.length → w.ownsRow base e k (.slice (some ⟨g, 0, none⟩) n c) n xs → (w.setCells g o vs).ownsRow base e k (.slice (some ⟨g, 0, none⟩) n c) n (splice xs o vs) ∧ w.grownBy (w.setCells g o vs) (some g) ∧ (w.setCells g o vs).drawn = w.drawn
 | [], o, w, xs, _, h => by rw [splice_nil]; exact ⟨h, grown_refl _ _, rfl⟩
 | v :: vs, o, w, xs, hl, h => by
   simp only [List.length_cons] at hl
   have h1 := h.stored o v
   have h2 := own_setCells vs (o + 1) (w.setCell ⟨g, o, none⟩ v) (xs.set o v) (by rw [List.length_set]; omega) h1.1
   rw [splice_step _ _ _ _ (by omega)] at h2
   exact ⟨h2.1, grown_trans h1.2 h2.2.1, h2.2.2⟩
theorem own_there {w : World} {base n c g k : Nat} {e : TypeId} {zs : List Value} (h : w.ownsRow base e k (.slice (some ⟨g, 0, none⟩) n c) n zs) {o m : Nat} (hm : o + m ≤ n * k) : w.there g o m := fun j hj => by
 obtain ⟨v, hv⟩ := own_slot h (o + j) (by omega)
 exact ⟨by rw [hv]; rfl, h.frozenAt (o + j)⟩
theorem own_range {w : World} {base n c g k : Nat} {e : TypeId} {ys : List (List Value)} (h : w.ownsRow base e k (.slice (some ⟨g, 0, none⟩) n c) n ys.flatten) (hr : Rwk k ys) (hn : ys.length = n) {j : Nat} {x : List Value} (hx : ys[j]? = some x) : w.rangeAt g (j * k) x := by
 obtain ⟨b, off, e2, _, hh⟩ := (Sv.of_own h hr hn).row hx
 injection e2 with e2
 injection e2 with e3 e4
 subst e3 e4
 simpa using hh
end Go.Proofs.YtlinhgannajfpaaGreatDoor

/- Maps whose keys are structs: what a block that is a map says of each key. For every program. -/
namespace Go.Proofs.YtlinhgannajfpaaGreatDoor
open Go Go.RowKit

theorem own_keep {w w' : World} {base n k : Nat} {e : TypeId} {v : Value} {zs : List Value} (h : w.ownsRow base e k v n zs) {row : Option Nat} (hg : w.grownBy w' row) (hr : ∀ b, row = some b → v.ownBlock ≠ some b) : w'.ownsRow base e k v n zs :=
 h.kept hg (by
  cases hv : v.ownBlock with
  | none => exact .inl rfl
  | some x => exact .inr (fun e => hr x e.symm hv))
theorem own_low_mono {w : World} {base base' n k : Nat} {e : TypeId} {v : Value} {zs : List Value} (hb : base' ≤ base) (h : w.ownsRow base e k v n zs) : w.ownsRow base' e k v n zs := by
 refine ⟨h.1, ?_⟩
 rcases h.2 with h1 | ⟨g, cap, cur, h1, h2, h3⟩
 · exact .inl h1
 · exact .inr ⟨g, cap, cur, h1, Nat.le_trans hb h2, h3⟩
section
variable {P : Program} {K : Type} [DecidableEq K] {t T e : TypeId} {enc : K → Value}
structure KeyT (P : Program) (t : TypeId) (enc : K → Value) : Prop where
 agg : ∀ x, ∃ cs, enc x = .agg cs
 kind : ∃ fs, P.underlying t = some (.struct fs)
 eq : ∀ x y w, (Op.equal t (enc x) (enc y)).run P w = .ok (decide (x = y)) w
 chk : ∀ b x w, (Instr.checkKey b 10000 t (enc x)).run P w = .ok () w
 same : ∀ x, Instr.sameBits 10000 (enc x) (enc x) = true
 inj : ∀ x y, enc x = enc y → x = y

def findI (q : K) : List (K × Value) → Nat → Option (Nat × Value)
 | [], _ => none
 | e :: es, i => if q = e.1 then some (i, e.2) else findI q es (i + 1)
def lookK (ents : List (K × Value)) (q : K) : Option Value := (findI q ents 0).map (·.2)
theorem findI_shift (q : K) : ∀ (ents : List (K × Value)) (i : Nat), findI q ents (i + 1) = (findI q ents i).map fun x => (x.1 + 1, x.2)
 | [], _ => rfl
 | e :: es, i => by
   unfold findI
   split
   · rfl
   · exact findI_shift q es (i + 1)
theorem lookK_cons (x : K × Value) (ents : List (K × Value)) (q : K) : lookK (x :: ents) q = if q = x.1 then some x.2 else lookK ents q := by
 unfold lookK
 rw [findI]
 split
 · rfl
 · rw [findI_shift]; simp [Option.map_map, Function.comp_def]
theorem lookK_nil (q : K) : lookK ([] : List (K × Value)) q = none := rfl
theorem lookK_snoc (ents : List (K × Value)) (q r : K) (v : Value) (h : lookK ents q = none) : lookK (ents ++ [(q, v)]) r = if r = q then some v else lookK ents r := by
 induction ents with
 | nil => rw [List.nil_append, lookK_cons, lookK_nil]
 | cons x xs ih =>
   rw [lookK_cons] at h
   have hq : q ≠ x.1 := by intro hq; rw [if_pos hq] at h; cases h
   rw [if_neg hq] at h
   rw [List.cons_append, lookK_cons, lookK_cons, ih h]
   by_cases hr : r = x.1
   · rw [if_pos hr, if_pos hr, if_neg (by rw [hr]; exact fun h => hq h.symm)]
   · rw [if_neg hr, if_neg hr]
theorem findI_some {q : K} : ∀ {ents : List (K × Value)} {i : Nat} {v : Value}, findI q ents 0 = some (i, v) → ents[i]? = some (q, v)
 | [], _, _, h => by cases h
 | x :: xs, i, v, h => by
   unfold findI at h
   split at h
   · rename_i hq
     injection h with h; injection h with h1 h2
     subst h1 h2 hq
     rfl
   · rw [findI_shift] at h
     obtain ⟨⟨j, u⟩, hj, he⟩ := Option.map_eq_some_iff.1 h
     injection he with h1 h2
     subst h1 h2
     exact findI_some (ents := xs) hj
theorem findI_none {q : K} {ents : List (K × Value)} {i : Nat} (h : findI q ents i = none) : lookK ents q = none := by
 unfold lookK
 have : ∀ (l : List (K × Value)) (i j : Nat), findI q l i = none → findI q l j = none := by
  intro l
  induction l with
  | nil => intros; rfl
  | cons x xs ih =>
    intro i j h
    unfold findI at h ⊢
    split at h
    · cases h
    · rename_i hq; rw [if_neg hq]; exact ih _ _ h
 rw [this ents i 0 h]; rfl
theorem lookK_modify (q r : K) (v : Value) : ∀ (ents : List (K × Value)) (i : Nat) (u : Value), findI q ents 0 = some (i, u) → lookK (ents.modify i fun _ => (q, v)) r = if r = q then some v else lookK ents r
 | [], _, _, h => by cases h
 | x :: xs, i, u, h => by
   unfold findI at h
   split at h
   · rename_i hq
     injection h with h; injection h with h1 h2
     subst h1
     rw [List.modify_zero_cons, lookK_cons, lookK_cons, ← hq]
     split <;> rfl
   · rename_i hq
     rw [findI_shift] at h
     obtain ⟨⟨j, u'⟩, hj, he⟩ := Option.map_eq_some_iff.1 h
     injection he with h1 h2
     subst h1
     rw [List.modify_succ_cons, lookK_cons, lookK_cons, lookK_modify q r v xs j u' hj]
     by_cases hr : r = x.1
     · rw [if_pos hr, if_pos hr, if_neg (by rw [hr]; exact fun h => hq h.symm)]
     · rw [if_neg hr, if_neg hr]
theorem lookK_mem {ents : List (K × Value)} {q : K} (h : q ∉ ents.map (·.1)) : lookK ents q = none := by
 induction ents with
 | nil => rfl
 | cons x xs ih =>
   simp only [List.map_cons, List.mem_cons, not_or] at h
   rw [lookK_cons, if_neg h.1]
   exact ih h.2
theorem lookK_erase (q r : K) : ∀ (ents : List (K × Value)) (i : Nat) (u : Value), (ents.map (·.1)).Nodup → findI q ents 0 = some (i, u) → lookK (ents.eraseIdx i) r = if r = q then none else lookK ents r
 | [], _, _, _, h => by cases h
 | x :: xs, i, u, hn, h => by
   simp only [List.map_cons, List.nodup_cons] at hn
   unfold findI at h
   split at h
   · rename_i hq
     injection h with h; injection h with h1 h2
     subst h1
     rw [List.eraseIdx_cons_zero, lookK_cons, ← hq]
     by_cases hr : r = q
     · rw [if_pos hr, hr, hq]; exact lookK_mem hn.1
     · rw [if_neg hr, if_neg hr]
   · rename_i hq
     rw [findI_shift] at h
     obtain ⟨⟨j, u'⟩, hj, he⟩ := Option.map_eq_some_iff.1 h
     injection he with h1 h2
     subst h1
     rw [List.eraseIdx_cons_succ, lookK_cons, lookK_cons, lookK_erase q r xs j u' hn.2 hj]
     by_cases hr : r = x.1
     · rw [if_pos hr, if_pos hr, if_neg (by rw [hr]; exact fun h => hq h.symm)]
     · rw [if_neg hr, if_neg hr]

theorem run_findAsking (kt : KeyT P t enc) (q : K) (w : World) : ∀ (es : List MapEntry) (ents : List (K × Value)) (i : Nat), es.map (fun e => (e.key, e.val)) = ents.map (fun e => (enc e.1, e.2)) →
    (Instr.findAsking t (enc q) es i).run P w = .ok (findI q ents i) w
 | [], [], _, _ => rfl
 | [], _ :: _, _, h => by simp at h
 | _ :: _, [], _, h => by simp at h
 | x :: xs, y :: ys, i, h => by
   simp only [List.map_cons, List.cons.injEq, Prod.mk.injEq] at h
   obtain ⟨⟨hk, hv⟩, ht⟩ := h
   have heq := kt.eq q y.1 w
   have ih := run_findAsking kt q w xs ys (i + 1) ht
   unfold Instr.findAsking findI
   rw [hk]
   by_cases hq : q = y.1
   · rw [decide_eq_true hq] at heq
     simp [hq, hv] at *
     simp [heq]
   · rw [decide_eq_false hq] at heq
     simp [heq, hq, ih]
theorem run_findKey (kt : KeyT P t enc) (q : K) (w : World) (es : List MapEntry) (ents : List (K × Value)) (h : es.map (fun e => (e.key, e.val)) = ents.map (fun e => (enc e.1, e.2))) :
    (Instr.findKey t (enc q) es).run P w = .ok (findI q ents 0) w := by
 have h1 := run_findAsking kt q w es ents 0 h
 obtain ⟨fs, hk⟩ := kt.kind
 unfold Instr.findKey
 cases es with
 | nil =>
   cases ents with
   | nil => simp [run_underlying hk, Instr.findNow, findI]
   | cons => simp at h
 | cons x xs => simp [run_underlying hk, Instr.findNow, Instr.sameNow, h1]

def MapF (enc : K → Value) (w : World) (b : Nat) (m : K → Option Value) : Prop :=
 ∃ es clock, ∃ ents : List (K × Value), w.heap[b]? = some (.map es clock) ∧ es.toList.map (fun e => (e.key, e.val)) = ents.map (fun e => (enc e.1, e.2)) ∧ (ents.map (·.1)).Nodup ∧ (∀ q, lookK ents q = m q) ∧ (∀ x, x ∈ es.toList → x.born < clock) ∧ (es.toList.map (·.born)).Nodup
theorem MapF.lt {w : World} {b : Nat} {m : K → Option Value} (h : MapF enc w b m) : b < w.heap.size := by
 obtain ⟨es, clock, ents, hb, _⟩ := h
 exact (Array.getElem?_eq_some_iff.1 hb).1
theorem MapF.kept {w w' : World} {b : Nat} {m : K → Option Value} {row : Option Nat} (h : MapF enc w b m) (hg : w.grownBy w' row) (hne : row ≠ some b) : MapF enc w' b m := by
 have hl := h.lt
 obtain ⟨es, clock, ents, hb, h2⟩ := h
 exact ⟨es, clock, ents, (hg.block b hl (fun h => hne h.symm)).trans hb, h2⟩
theorem MapF.ext {w w' : World} {b : Nat} {m : K → Option Value} (h : MapF enc w b m) (hx : Ext w w') : MapF enc w' b m := h.kept (hx.by_ none) (by simp)
theorem MapF.alloc {w : World} {b : Nat} {m : K → Option Value} (h : MapF enc w b m) (o : Obj) : MapF enc (w.alloc o) b m := h.ext ((Ext.refl w).alloc o)
theorem MapF.setCell {w : World} {b : Nat} {m : K → Option Value} (h : MapF enc w b m) {p : Addr} (hp : b ≠ p.block) (u : Value) : MapF enc (w.setCell p u) b m := by
 obtain ⟨es, clock, ents, hb, h2⟩ := h
 exact ⟨es, clock, ents, (heap_setCell_other w p b u hp).trans hb, h2⟩
theorem MapF.cong {w : World} {b : Nat} {m m' : K → Option Value} (h : MapF enc w b m) (hm : ∀ q, m q = m' q) : MapF enc w b m' := by
 obtain ⟨es, clock, ents, h1, h2, h3, h4, h5⟩ := h
 exact ⟨es, clock, ents, h1, h2, h3, fun q => (h4 q).trans (hm q), h5⟩
theorem MapF.made (w : World) : MapF enc (w.alloc (.map #[] 0)) w.heap.size (fun _ : K => none) :=
 ⟨#[], 0, [], heap_alloc_new w _, rfl, List.nodup_nil, fun _ => rfl, fun x hx => by simp at hx, List.nodup_nil⟩
theorem MapF.look {w : World} {b : Nat} {m : K → Option Value} (h : MapF enc w b m) (kt : KeyT P t enc) (ht : P.underlying T = some (.map t e)) {z : Value} (hz : (zeroValue e).run P w = .ok z w) (q : K) (c : Bool) :
    (Instr.lookup T (.map (some b)) (enc q) c).run P w = .ok (if c then .tuple #[(m q).getD z, .bool (m q).isSome] else (m q).getD z) w := by
 obtain ⟨es, clock, ents, hb, hes, _, hm, _⟩ := h
 have h1 := run_findKey kt q w es.toList ents hes
 have h2 := kt.chk es.isEmpty q w
 have h3 := hm q
 unfold lookK at h3
 unfold Instr.lookup
 cases hf : findI q ents 0 with
 | none =>
   rw [hf] at h1 h3
   simp only [Option.map_none] at h3
   simp [run_underlying ht, MapKept.run_getObj_map hb, h2, h1, hz, ← h3]
 | some x =>
   rw [hf] at h1 h3
   simp only [Option.map_some] at h3
   simp [run_underlying ht, MapKept.run_getObj_map hb, h2, h1, ← h3]
theorem run_keyStays (kt : KeyT P t enc) (q : K) (w : World) : (Instr.keyThatStays (enc q) (enc q)).run P w = .ok (enc q) w := by
 unfold Instr.keyThatStays
 simp [kt.same q]
theorem grown_setObj (w : World) (b : Nat) (o : Obj) : w.grownBy { w with heap := w.heap.setIfInBounds b o } (some b) :=
 ⟨rfl, rfl, rfl, by simp, fun k _ hne => by
   simp only [Array.getElem?_setIfInBounds]
   rw [if_neg (by rintro rfl; exact hne rfl)]⟩
theorem MapF.update {w : World} {b : Nat} {m : K → Option Value} (h : MapF enc w b m) (kt : KeyT P t enc) (ht : P.underlying T = some (.map t e)) (q : K) (v : Value) :
    ∃ w', (Instr.mapUpdate T (.map (some b)) (enc q) v).run P w = .ok () w' ∧ MapF enc w' b (fun r => if r = q then some v else m r) ∧ w.grownBy w' (some b) := by
 have hl := h.lt
 obtain ⟨es, clock, ents, hb, hes, hnd, hm, hbo, hbn⟩ := h
 have h1 := run_findKey kt q w es.toList ents hes
 have h2 := kt.chk false q w
 cases hf : findI q ents 0 with
 | none =>
   rw [hf] at h1
   have hno := findI_none hf
   refine ⟨{ w with heap := w.heap.setIfInBounds b (.map (es.push { key := enc q, val := v, born := clock }) (clock + 1)) }, ?_, ⟨es.push { key := enc q, val := v, born := clock }, clock + 1, ents ++ [(q, v)], ?_, ?_, ?_, ?_, ?_, ?_⟩, grown_setObj _ _ _⟩
   · unfold Instr.mapUpdate
     simp [run_underlying ht, MapKept.run_getObj_map hb, MapKept.run_setObj_map _ hb, h2, h1]
   · simp [hl]
   · simp [hes]
   · rw [List.map_append, List.nodup_append]
     refine ⟨hnd, by simp, ?_⟩
     intro a ha c hc
     simp at hc
     subst hc
     rintro rfl
     have : lookK ents a ≠ none := by
      clear hno h1 hes hm hf hnd
      induction ents with
      | nil => simp at ha
      | cons x xs ih =>
        rw [lookK_cons]
        split
        · simp
        · rename_i hne
          simp only [List.map_cons, List.mem_cons] at ha
          exact ih (ha.resolve_left hne)
     exact this hno
   · intro r
     rw [lookK_snoc _ _ _ _ hno, hm r]
   · intro x hx
     simp only [Array.toList_push, List.mem_append, List.mem_singleton] at hx
     rcases hx with hx | rfl
     · have := hbo x hx; omega
     · simp
   · rw [Array.toList_push, List.map_append, List.nodup_append]
     refine ⟨hbn, by simp, ?_⟩
     intro a ha c hc
     simp at hc
     subst hc
     obtain ⟨x, hx, rfl⟩ := List.mem_map.1 ha
     have := hbo x hx
     omega
 | some x =>
   obtain ⟨i, u⟩ := x
   rw [hf] at h1
   have hat := findI_some hf
   have hkey : es.toList[i]?.map (fun e => (e.key, e.val)) = some (enc q, u) := by
    have := congrArg (fun l => l[i]?) hes
    simp only [List.getElem?_map, hat, Option.map_some] at this
    exact this
   obtain ⟨me, hme, hmk⟩ := Option.map_eq_some_iff.1 hkey
   injection hmk with hmk hmv
   have hme2 : es[i]? = some me := by simpa using hme
   have h3 := run_keyStays kt q w
   refine ⟨{ w with heap := w.heap.setIfInBounds b (.map (es.modify i fun e => { e with key := enc q, val := v }) clock) }, ?_, ⟨es.modify i fun e => { e with key := enc q, val := v }, clock, ents.modify i (fun _ => (q, v)), ?_, ?_, ?_, ?_, ?_, ?_⟩, grown_setObj _ _ _⟩
   · unfold Instr.mapUpdate
     simp [run_underlying ht, MapKept.run_getObj_map hb, MapKept.run_setObj_map _ hb, h2, h1, hme2, hmk, h3]
   · simp [hl]
   · apply List.ext_getElem?
     intro j
     have h5 := congrArg (fun l => l[j]?) hes
     simp only [List.getElem?_map, Array.getElem?_toList] at h5
     simp only [List.getElem?_map, Array.getElem?_toList, List.getElem?_modify, Array.getElem?_modify]
     by_cases hij : i = j
     · subst hij
       simp [hme2, hat]
     · simp [hij, h5]
   · have : (ents.modify i (fun _ => (q, v))).map (·.1) = ents.map (·.1) := by
       apply List.ext_getElem?
       intro j
       simp only [List.getElem?_map, List.getElem?_modify]
       by_cases hij : i = j
       · subst hij; simp [hat]
       · simp [hij]
     rw [this]; exact hnd
   · intro r
     rw [lookK_modify q r v ents i u hf, hm r]
   · intro x hx
     obtain ⟨j, hj⟩ := List.getElem?_of_mem hx
     rw [Array.getElem?_toList, Array.getElem?_modify] at hj
     split at hj
     · obtain ⟨y, hy, rfl⟩ := Option.map_eq_some_iff.1 hj
       exact hbo y (by rw [← Array.getElem?_toList] at hy; exact List.mem_of_getElem? hy)
     · exact hbo x (by rw [← Array.getElem?_toList] at hj; exact List.mem_of_getElem? hj)
   · have : (es.modify i fun e => { e with key := enc q, val := v }).toList.map (·.born) = es.toList.map (·.born) := by
       apply List.ext_getElem?
       intro j
       simp only [List.getElem?_map, Array.getElem?_toList, Array.getElem?_modify]
       by_cases hij : i = j
       · subst hij; simp [hme2]
       · simp [hij]
     rw [this]; exact hbn
theorem wpList_mapUpdate_F {w : World} {ops : Array Oper} {rest : List Oper} {o : Oper} {a : Act} {Q : Exit → Act → World → Prop} (hg : o.guard = none) (mo x y : Operand) (hop : o.op = .mapUpdate T mo x y)
    {b : Nat} {m : K → Option Value} (h : MapF enc w b m) (kt : KeyT P t enc) (ht : P.underlying T = some (.map t e)) (q : K) (v : Value) (hm : a.eval mo = .map (some b)) (hx : a.eval x = enc q) (hv : a.eval y = v)
    (hK : ∀ w', MapF enc w' b (fun r => if r = q then some v else m r) → w.grownBy w' (some b) → wpList P ops Q rest (a.put o.dst undef) w') : wpList P ops Q (o :: rest) a w := by
 refine wpList_plain hg fun K' hK' => ?_
 obtain ⟨w', hrun, r1, r2⟩ := h.update kt ht q v
 unfold Oper.wp
 simp [execOp, hop, hm, hx, hv, hrun, Result.andThen]
 exact hK' _ _ (hK w' r1 r2)
theorem wpList_insert_F {w : World} {ops : Array Oper} {rest : List Oper} {o : Oper} {a : Act} {Q : Exit → Act → World → Prop} (hg : o.guard = none) (mo x y : Operand) (hop : o.op = .insert T mo x y)
    {b : Nat} {m : K → Option Value} (h : MapF enc w b m) (kt : KeyT P t enc) (ht : P.underlying T = some (.map t e)) (q : K) (v : Value) (hm : a.eval mo = .map (some b)) (hx : a.eval x = enc q) (hv : a.eval y = v)
    (hK : ∀ w', MapF enc w' b (fun r => if r = q then some v else m r) → w.grownBy w' (some b) → wpList P ops Q rest (a.put o.dst undef) w') : wpList P ops Q (o :: rest) a w := by
 refine wpList_plain hg fun K' hK' => ?_
 obtain ⟨w', hrun, r1, r2⟩ := h.update kt ht q v
 unfold Oper.wp
 simp [execOp, hop, hm, hx, hv, hrun, Result.andThen]
 exact hK' _ _ (hK w' r1 r2)
theorem map_eraseIdx_ {α β : Type} (f : α → β) : ∀ (l : List α) (i : Nat), (l.eraseIdx i).map f = (l.map f).eraseIdx i
 | [], _ => rfl
 | _ :: _, 0 => rfl
 | x :: xs, i + 1 => by simp [map_eraseIdx_ f xs i]
theorem MapF.delete {w : World} {b : Nat} {m : K → Option Value} (h : MapF enc w b m) (kt : KeyT P t enc) (ht : P.underlying T = some (.map t e)) (q : K) (ty : TypeId) :
    ∃ w', (Builtin.delete_ #[T, t] ty #[.map (some b), enc q]).run P w = .ok (.tuple #[]) w' ∧ MapF enc w' b (fun r => if r = q then none else m r) ∧ w.grownBy w' (some b) := by
 have hl := h.lt
 obtain ⟨es, clock, ents, hb, hes, hnd, hm, hbo, hbn⟩ := h
 have h1 := run_findKey kt q w es.toList ents hes
 have h2 := kt.chk es.isEmpty q w
 cases hf : findI q ents 0 with
 | none =>
   rw [hf] at h1
   have hno := findI_none hf
   refine ⟨{ w with heap := w.heap.setIfInBounds b (.map es clock) }, ?_, ⟨es, clock, ents, ?_, hes, hnd, ?_, hbo, hbn⟩, grown_setObj _ _ _⟩
   · unfold Builtin.delete_
     simp [run_underlying ht, MapKept.run_getObj_map hb, MapKept.run_setObj_map _ hb, h2, h1]
   · simp [hl]
   · intro r
     show lookK ents r = if r = q then none else m r
     by_cases hr : r = q
     · rw [if_pos hr, hr]; exact hno
     · rw [if_neg hr]; exact hm r
 | some x =>
   obtain ⟨i, u⟩ := x
   rw [hf] at h1
   have hat := findI_some hf
   refine ⟨{ w with heap := w.heap.setIfInBounds b (.map (es.eraseIdxIfInBounds i) clock) }, ?_, ⟨es.eraseIdxIfInBounds i, clock, ents.eraseIdx i, ?_, ?_, ?_, ?_, ?_, ?_⟩, grown_setObj _ _ _⟩
   · unfold Builtin.delete_
     simp [run_underlying ht, MapKept.run_getObj_map hb, MapKept.run_setObj_map _ hb, h2, h1]
   · simp [hl]
   · rw [Array.toList_eraseIdxIfInBounds, map_eraseIdx_, map_eraseIdx_, hes]
   · rw [map_eraseIdx_]
     exact hnd.sublist (List.eraseIdx_sublist ..)
   · intro r
     rw [lookK_erase q r ents i u hnd hf, hm r]
   · intro x hx
     rw [Array.toList_eraseIdxIfInBounds] at hx
     exact hbo x ((List.eraseIdx_sublist ..).mem hx)
   · rw [Array.toList_eraseIdxIfInBounds, map_eraseIdx_]
     exact hbn.sublist (List.eraseIdx_sublist ..)
theorem wpList_delete_F {w : World} {ops : Array Oper} {rest : List Oper} {o : Oper} {a : Act} {Q : Exit → Act → World → Prop} (hg : o.guard = none) (mo x : Operand) (hop : o.op = .call { callee := .builtin .delete, args := #[mo, x], argTypes := #[T, t] })
    {b : Nat} {m : K → Option Value} (h : MapF enc w b m) (kt : KeyT P t enc) (ht : P.underlying T = some (.map t e)) (q : K) (hm : a.eval mo = .map (some b)) (hx : a.eval x = enc q)
    (hK : ∀ w', MapF enc w' b (fun r => if r = q then none else m r) → w.grownBy w' (some b) → wpList P ops Q rest (a.put o.dst (.tuple #[])) w') : wpList P ops Q (o :: rest) a w := by
 refine wpList_plain hg fun K' hK' => ?_
 obtain ⟨w', hrun, r1, r2⟩ := h.delete kt ht q o.type
 unfold Oper.wp
 simp [execOp, hop, resolve, invoke, builtin, hm, hx, hrun, Result.andThen]
 exact hK' _ _ (hK w' r1 r2)
end
end Go.Proofs.YtlinhgannajfpaaGreatDoor

/- Slices of edits, slices of names; '==' at both. -/
namespace Go.Proofs.YtlinhgannajfpaaGreatDoor
open Go Go.RowKit

def Ed.cells (x : Ed) : List Value := [.int .i64 x.st.tick, .int .i64 x.st.clock, .int .i64 x.st.site, .int .i64 x.st.seq, .int .i64 x.kind, .int .i64 x.box.lo.x, .int .i64 x.box.lo.y, .int .i64 x.box.lo.z, .int .i64 x.box.hi.x, .int .i64 x.box.hi.y, .int .i64 x.box.hi.z, .int .i64 x.at_.x, .int .i64 x.at_.y, .int .i64 x.at_.z, .int .i64 x.turn, .int .i64 x.cell, .int .i64 x.size]
def Nm.cells (x : Nm) : List Value := [.int .i64 x.site, .int .i64 x.seq]
def rowsE (l : List Ed) : List (List Value) := l.map Ed.cells
def rowsN (l : List Nm) : List (List Value) := l.map Nm.cells
theorem rowsE_length (l : List Ed) : (rowsE l).length = l.length := by simp [rowsE]
theorem rowsN_length (l : List Nm) : (rowsN l).length = l.length := by simp [rowsN]
theorem Ed.one (x : Ed) : ∀ u, u ∈ x.cells → u.oneCell' = true := fun u hu => by
 simp only [Ed.cells, List.mem_cons, List.not_mem_nil, or_false] at hu
 rcases hu with rfl | rfl | rfl | rfl | rfl | rfl | rfl | rfl | rfl | rfl | rfl | rfl | rfl | rfl | rfl | rfl | rfl <;> rfl
theorem Nm.one (x : Nm) : ∀ u, u ∈ x.cells → u.oneCell' = true := fun u hu => by
 simp only [Nm.cells, List.mem_cons, List.not_mem_nil, or_false] at hu
 rcases hu with rfl | rfl <;> rfl
theorem rowsE_rwk (l : List Ed) : Rwk 17 (rowsE l) := fun x hx => by
 obtain ⟨p, _, rfl⟩ := List.mem_map.1 hx
 exact ⟨rfl, p.one⟩
theorem rowsN_rwk (l : List Nm) : Rwk 2 (rowsN l) := fun x hx => by
 obtain ⟨p, _, rfl⟩ := List.mem_map.1 hx
 exact ⟨rfl, p.one⟩
theorem rowsE_take (l : List Ed) (i : Nat) : rowsE (l.take i) = (rowsE l).take i := by simp [rowsE, List.map_take]
theorem rowsN_take (l : List Nm) (i : Nat) : rowsN (l.take i) = (rowsN l).take i := by simp [rowsN, List.map_take]
theorem rowsE_set (l : List Ed) (i : Nat) (x : Ed) : rowsE (l.set i x) = (rowsE l).set i x.cells := by simp [rowsE, List.map_set]
theorem rowsN_set (l : List Nm) (i : Nat) (x : Nm) : rowsN (l.set i x) = (rowsN l).set i x.cells := by simp [rowsN, List.map_set]
theorem rowsE_append (a b : List Ed) : rowsE (a ++ b) = rowsE a ++ rowsE b := by simp [rowsE]
theorem rowsN_append (a b : List Nm) : rowsN (a ++ b) = rowsN a ++ rowsN b := by simp [rowsN]
theorem ed_row {w : World} {B c j : Nat} {A : Option Addr} {l : List Ed} {p : Ed} (h : Sv w B 17 A c (rowsE l)) (hp : l[j]? = some p) :
    ∃ b off, A = some ⟨b, off, none⟩ ∧ b < B ∧ w.rangeAt b (off + j * 17) p.cells := h.row (by simp [rowsE, hp])
theorem nm_row {w : World} {B c j : Nat} {A : Option Addr} {l : List Nm} {p : Nm} (h : Sv w B 2 A c (rowsN l)) (hp : l[j]? = some p) :
    ∃ b off, A = some ⟨b, off, none⟩ ∧ b < B ∧ w.cell? ⟨b, off + j * 2, none⟩ = some (.int .i64 p.site) ∧ w.cell? ⟨b, off + j * 2 + 1, none⟩ = some (.int .i64 p.seq) := by
 obtain ⟨b, off, e, hb, hr⟩ := h.row (i := j) (x := p.cells) (by simp [rowsN, hp])
 exact ⟨b, off, e, hb, hr 0 _ rfl, hr 1 _ rfl⟩
theorem zeroEdV (w : World) : (zeroValue 29).run Tryz.prog w = .ok (.agg #[.int .i64 0, .int .i64 0, .int .i64 0, .int .i64 0, .int .i64 0, .int .i64 0, .int .i64 0, .int .i64 0, .int .i64 0, .int .i64 0, .int .i64 0, .int .i64 0, .int .i64 0, .int .i64 0, .int .i64 0, .int .i64 0, .int .i64 0]) w := by kernel_rfl
theorem infoEd : (Tryz.prog.info? 29).map (fun i => (i.zero, i.size, i.bytes)) = some (some (.agg #[.int .i64 0, .int .i64 0, .int .i64 0, .int .i64 0, .int .i64 0, .int .i64 0, .int .i64 0, .int .i64 0, .int .i64 0, .int .i64 0, .int .i64 0, .int .i64 0, .int .i64 0, .int .i64 0, .int .i64 0, .int .i64 0, .int .i64 0]), 17, 136) := by kernel_rfl
set_option maxHeartbeats 4000000 in
theorem eqEd_run (a b : Ed) (w : World) : (binOp .eql 29 (.agg a.cells.toArray) (.agg b.cells.toArray)).run Tryz.prog w = .ok (.bool (decide (a = b))) w := by
 unfold Ed.cells
 obtain ⟨⟨a1, a2, a3, a4⟩, a5, ⟨⟨a6, a7, a8⟩, ⟨a9, a10, a11⟩⟩, ⟨a12, a13, a14⟩, a15, a16, a17⟩ := a
 obtain ⟨⟨b1, b2, b3, b4⟩, b5, ⟨⟨b6, b7, b8⟩, ⟨b9, b10, b11⟩⟩, ⟨b12, b13, b14⟩, b15, b16, b17⟩ := b
 simp [go_sem]
 by_cases h1 : a1 = b1
 · subst h1
   by_cases h2 : a2 = b2
   · subst h2
     by_cases h3 : a3 = b3
     · subst h3
       by_cases h4 : a4 = b4
       · subst h4
         by_cases h5 : a5 = b5
         · subst h5
           by_cases h6 : a6 = b6
           · subst h6
             by_cases h7 : a7 = b7
             · subst h7
               by_cases h8 : a8 = b8
               · subst h8
                 by_cases h9 : a9 = b9
                 · subst h9
                   by_cases h10 : a10 = b10
                   · subst h10
                     by_cases h11 : a11 = b11
                     · subst h11
                       by_cases h12 : a12 = b12
                       · subst h12
                         by_cases h13 : a13 = b13
                         · subst h13
                           by_cases h14 : a14 = b14
                           · subst h14
                             by_cases h15 : a15 = b15
                             · subst h15
                               by_cases h16 : a16 = b16
                               · subst h16
                                 by_cases h17 : a17 = b17
                                 · simp [h17]
                                 · simp [h17]
                               · simp [h16]
                             · simp [h15]
                           · simp [h14]
                         · simp [h13]
                       · simp [h12]
                     · simp [h11]
                   · simp [h10]
                 · simp [h9]
               · simp [h8]
             · simp [h7]
           · simp [h6]
         · simp [h5]
       · simp [h4]
     · simp [h3]
   · simp [h2]
 · simp [h1]
set_option maxHeartbeats 4000000 in
theorem neqEd_run (a b : Ed) (w : World) : (binOp .neq 29 (.agg a.cells.toArray) (.agg b.cells.toArray)).run Tryz.prog w = .ok (.bool (decide (a ≠ b))) w := by
 unfold Ed.cells
 obtain ⟨⟨a1, a2, a3, a4⟩, a5, ⟨⟨a6, a7, a8⟩, ⟨a9, a10, a11⟩⟩, ⟨a12, a13, a14⟩, a15, a16, a17⟩ := a
 obtain ⟨⟨b1, b2, b3, b4⟩, b5, ⟨⟨b6, b7, b8⟩, ⟨b9, b10, b11⟩⟩, ⟨b12, b13, b14⟩, b15, b16, b17⟩ := b
 simp [go_sem]
 by_cases h1 : a1 = b1
 · subst h1
   by_cases h2 : a2 = b2
   · subst h2
     by_cases h3 : a3 = b3
     · subst h3
       by_cases h4 : a4 = b4
       · subst h4
         by_cases h5 : a5 = b5
         · subst h5
           by_cases h6 : a6 = b6
           · subst h6
             by_cases h7 : a7 = b7
             · subst h7
               by_cases h8 : a8 = b8
               · subst h8
                 by_cases h9 : a9 = b9
                 · subst h9
                   by_cases h10 : a10 = b10
                   · subst h10
                     by_cases h11 : a11 = b11
                     · subst h11
                       by_cases h12 : a12 = b12
                       · subst h12
                         by_cases h13 : a13 = b13
                         · subst h13
                           by_cases h14 : a14 = b14
                           · subst h14
                             by_cases h15 : a15 = b15
                             · subst h15
                               by_cases h16 : a16 = b16
                               · subst h16
                                 by_cases h17 : a17 = b17
                                 · simp [h17]
                                 · simp [h17]
                               · simp [h16]
                             · simp [h15]
                           · simp [h14]
                         · simp [h13]
                       · simp [h12]
                     · simp [h11]
                   · simp [h10]
                 · simp [h9]
               · simp [h8]
             · simp [h7]
           · simp [h6]
         · simp [h5]
       · simp [h4]
     · simp [h3]
   · simp [h2]
 · simp [h1]
end Go.Proofs.YtlinhgannajfpaaGreatDoor

/- What calls hand back: slices of edits, of names. -/
namespace Go.Proofs.YtlinhgannajfpaaGreatDoor
open Go Go.RowKit

def lenV : Value → Nat
 | .slice _ n _ => n
 | _ => 0
def RetE (l : List Ed) (w : World) (en : Ending) (w' : World) : Prop :=
 ∃ A c, en = .returned (.slice A l.length c) ∧ Sv w' w'.heap.size 17 A c (rowsE l) ∧ Ext w w'
def RetN (l : List Nm) (w : World) (en : Ending) (w' : World) : Prop :=
 ∃ A c, en = .returned (.slice A l.length c) ∧ Sv w' w'.heap.size 2 A c (rowsN l) ∧ Ext w w'
end Go.Proofs.YtlinhgannajfpaaGreatDoor

/- Contracts of the layer of edits, on: Formed, each kind. -/
namespace Go.Proofs.YtlinhgannajfpaaGreatDoor
open Go Go.RowKit

set_option maxHeartbeats 4000000 in
theorem Formed_1 (x : Ed) (w : World) (h : validS x.st = true) (hk : x.kind = 1) (hR : RowsIn w) :
    Calls Tryz.prog 13 #[.agg #[.int .i64 x.st.tick, .int .i64 x.st.clock, .int .i64 x.st.site, .int .i64 x.st.seq, .int .i64 x.kind, .int .i64 x.box.lo.x, .int .i64 x.box.lo.y, .int .i64 x.box.lo.z, .int .i64 x.box.hi.x, .int .i64 x.box.hi.y, .int .i64 x.box.hi.z, .int .i64 x.at_.x, .int .i64 x.at_.y, .int .i64 x.at_.z, .int .i64 x.turn, .int .i64 x.cell, .int .i64 x.size]] w fun e w' => e = .returned (.bool (formedE x)) ∧ Ext w w' := by
 have HF := Lib.hid (formedE_def x)
 have hv := fun w => Valid_any x.st w
 rw [h] at HF hv
 have HV := Lib.hid hv
 obtain ⟨st, kind, box, at_, turn, cell, size⟩ := x
 simp only at hk
 subst hk
 clear h hv
 have hqb := eqBx_run box zeroBx
 have hqp := eqPt_run at_ zeroPt
 simp only [zeroBx, zeroPt] at hqb hqp HF
 have hu1 : usesF 1 1 = true := rfl
 have hu2 : usesF 1 2 = false := rfl
 have hu4 : usesF 1 4 = false := rfl
 have hu8 : usesF 1 8 = true := rfl
 have hu16 : usesF 1 16 = false := rfl
 generalize decide (box = ⟨⟨0, 0, 0⟩, ⟨0, 0, 0⟩⟩) = eb at HF hqb
 generalize decide (at_ = ⟨0, 0, 0⟩) = ep at HF hqp
 simp only [hu1, hu2, hu4, hu8, hu16] at HF
 go_enter Tryz.func13, Tryz.ntmps13
 go_wp2_with (first | (go_at_call 53; refine (HV.out _).mono ?_; rintro e wx ⟨rfl, xx⟩; obtain ⟨xc, xf, xl, xe, xn, xm⟩ := xx.look; have xz := xx.size; (try simp only [World.size_alloc_] at xz); (try (have qh := xx.one (b := w.heap.size) (by (try simp only [World.size_alloc_]); omega); obtain ⟨qc, qf, ql, qe, qn, qm⟩ := qh)); (try (have qh := xx.one (b := w.heap.size + 1) (by (try simp only [World.size_alloc_]); omega); obtain ⟨qc, qf, ql, qe, qn, qm⟩ := qh)); (try (have qh := xx.one (b := w.heap.size + 1 + 1) (by (try simp only [World.size_alloc_]); omega); obtain ⟨qc, qf, ql, qe, qn, qm⟩ := qh)); (try (have qh := xx.one (b := w.heap.size + 1 + 1 + 1) (by (try simp only [World.size_alloc_]); omega); obtain ⟨qc, qf, ql, qe, qn, qm⟩ := qh))) | (go_at_call 44; refine (withinE_any _ _ _ _).mono ?_; rintro e wx ⟨rfl, xx⟩; obtain ⟨xc, xf, xl, xe, xn, xm⟩ := xx.look; have xz := xx.size; (try simp only [World.size_alloc_, World.size_setCell_] at xz); (try (have qh := xx.one (b := w.heap.size) (by (try simp only [World.size_alloc_, World.size_setCell_]); omega); obtain ⟨qc, qf, ql, qe, qn, qm⟩ := qh)); (try (have qh := xx.one (b := w.heap.size + 1) (by (try simp only [World.size_alloc_, World.size_setCell_]); omega); obtain ⟨qc, qf, ql, qe, qn, qm⟩ := qh)); (try (have qh := xx.one (b := w.heap.size + 1 + 1) (by (try simp only [World.size_alloc_, World.size_setCell_]); omega); obtain ⟨qc, qf, ql, qe, qn, qm⟩ := qh)); (try (have qh := xx.one (b := w.heap.size + 1 + 1 + 1) (by (try simp only [World.size_alloc_, World.size_setCell_]); omega); obtain ⟨qc, qf, ql, qe, qn, qm⟩ := qh))) | (go_at_call 48; refine (uses_any _ _ (by omega) (by omega) _ (hR.ext byX)).mono ?_; rintro e wx ⟨rfl, xx⟩; obtain ⟨xc, xf, xl, xe, xn, xm⟩ := xx.look; have xz := xx.size; (try simp only [World.size_alloc_, World.size_setCell_] at xz); (try (have qh := xx.one (b := w.heap.size) (by (try simp only [World.size_alloc_, World.size_setCell_]); omega); obtain ⟨qc, qf, ql, qe, qn, qm⟩ := qh)); (try (have qh := xx.one (b := w.heap.size + 1) (by (try simp only [World.size_alloc_, World.size_setCell_]); omega); obtain ⟨qc, qf, ql, qe, qn, qm⟩ := qh)); (try (have qh := xx.one (b := w.heap.size + 1 + 1) (by (try simp only [World.size_alloc_, World.size_setCell_]); omega); obtain ⟨qc, qf, ql, qe, qn, qm⟩ := qh)); (try (have qh := xx.one (b := w.heap.size + 1 + 1 + 1) (by (try simp only [World.size_alloc_, World.size_setCell_]); omega); obtain ⟨qc, qf, ql, qe, qn, qm⟩ := qh))))
 all_goals
  go_ret
  rw [HF.out]
  exact ⟨ret_bool (by first | (simp [*]; done) | (rw [Bool.eq_iff_iff]; simp [*])), byX⟩

set_option maxHeartbeats 4000000 in
theorem Formed_2 (x : Ed) (w : World) (h : validS x.st = true) (hk : x.kind = 2) (hR : RowsIn w) :
    Calls Tryz.prog 13 #[.agg #[.int .i64 x.st.tick, .int .i64 x.st.clock, .int .i64 x.st.site, .int .i64 x.st.seq, .int .i64 x.kind, .int .i64 x.box.lo.x, .int .i64 x.box.lo.y, .int .i64 x.box.lo.z, .int .i64 x.box.hi.x, .int .i64 x.box.hi.y, .int .i64 x.box.hi.z, .int .i64 x.at_.x, .int .i64 x.at_.y, .int .i64 x.at_.z, .int .i64 x.turn, .int .i64 x.cell, .int .i64 x.size]] w fun e w' => e = .returned (.bool (formedE x)) ∧ Ext w w' := by
 have HF := Lib.hid (formedE_def x)
 have hv := fun w => Valid_any x.st w
 rw [h] at HF hv
 have HV := Lib.hid hv
 obtain ⟨st, kind, box, at_, turn, cell, size⟩ := x
 simp only at hk
 subst hk
 clear h hv
 have hqb := eqBx_run box zeroBx
 have hqp := eqPt_run at_ zeroPt
 simp only [zeroBx, zeroPt] at hqb hqp HF
 have hu1 : usesF 2 1 = false := rfl
 have hu2 : usesF 2 2 = true := rfl
 have hu4 : usesF 2 4 = false := rfl
 have hu8 : usesF 2 8 = true := rfl
 have hu16 : usesF 2 16 = true := rfl
 generalize decide (box = ⟨⟨0, 0, 0⟩, ⟨0, 0, 0⟩⟩) = eb at HF hqb
 generalize decide (at_ = ⟨0, 0, 0⟩) = ep at HF hqp
 simp only [hu1, hu2, hu4, hu8, hu16] at HF
 go_enter Tryz.func13, Tryz.ntmps13
 go_wp2_with (first | (go_at_call 53; refine (HV.out _).mono ?_; rintro e wx ⟨rfl, xx⟩; obtain ⟨xc, xf, xl, xe, xn, xm⟩ := xx.look; have xz := xx.size; (try simp only [World.size_alloc_] at xz); (try (have qh := xx.one (b := w.heap.size) (by (try simp only [World.size_alloc_]); omega); obtain ⟨qc, qf, ql, qe, qn, qm⟩ := qh)); (try (have qh := xx.one (b := w.heap.size + 1) (by (try simp only [World.size_alloc_]); omega); obtain ⟨qc, qf, ql, qe, qn, qm⟩ := qh)); (try (have qh := xx.one (b := w.heap.size + 1 + 1) (by (try simp only [World.size_alloc_]); omega); obtain ⟨qc, qf, ql, qe, qn, qm⟩ := qh)); (try (have qh := xx.one (b := w.heap.size + 1 + 1 + 1) (by (try simp only [World.size_alloc_]); omega); obtain ⟨qc, qf, ql, qe, qn, qm⟩ := qh))) | (go_at_call 44; refine (withinE_any _ _ _ _).mono ?_; rintro e wx ⟨rfl, xx⟩; obtain ⟨xc, xf, xl, xe, xn, xm⟩ := xx.look; have xz := xx.size; (try simp only [World.size_alloc_, World.size_setCell_] at xz); (try (have qh := xx.one (b := w.heap.size) (by (try simp only [World.size_alloc_, World.size_setCell_]); omega); obtain ⟨qc, qf, ql, qe, qn, qm⟩ := qh)); (try (have qh := xx.one (b := w.heap.size + 1) (by (try simp only [World.size_alloc_, World.size_setCell_]); omega); obtain ⟨qc, qf, ql, qe, qn, qm⟩ := qh)); (try (have qh := xx.one (b := w.heap.size + 1 + 1) (by (try simp only [World.size_alloc_, World.size_setCell_]); omega); obtain ⟨qc, qf, ql, qe, qn, qm⟩ := qh)); (try (have qh := xx.one (b := w.heap.size + 1 + 1 + 1) (by (try simp only [World.size_alloc_, World.size_setCell_]); omega); obtain ⟨qc, qf, ql, qe, qn, qm⟩ := qh))) | (go_at_call 48; refine (uses_any _ _ (by omega) (by omega) _ (hR.ext byX)).mono ?_; rintro e wx ⟨rfl, xx⟩; obtain ⟨xc, xf, xl, xe, xn, xm⟩ := xx.look; have xz := xx.size; (try simp only [World.size_alloc_, World.size_setCell_] at xz); (try (have qh := xx.one (b := w.heap.size) (by (try simp only [World.size_alloc_, World.size_setCell_]); omega); obtain ⟨qc, qf, ql, qe, qn, qm⟩ := qh)); (try (have qh := xx.one (b := w.heap.size + 1) (by (try simp only [World.size_alloc_, World.size_setCell_]); omega); obtain ⟨qc, qf, ql, qe, qn, qm⟩ := qh)); (try (have qh := xx.one (b := w.heap.size + 1 + 1) (by (try simp only [World.size_alloc_, World.size_setCell_]); omega); obtain ⟨qc, qf, ql, qe, qn, qm⟩ := qh)); (try (have qh := xx.one (b := w.heap.size + 1 + 1 + 1) (by (try simp only [World.size_alloc_, World.size_setCell_]); omega); obtain ⟨qc, qf, ql, qe, qn, qm⟩ := qh))))
 all_goals
  go_ret
  rw [HF.out]
  exact ⟨ret_bool (by first | (simp [*]; done) | (rw [Bool.eq_iff_iff]; simp [*])), byX⟩

set_option maxHeartbeats 4000000 in
theorem Formed_3 (x : Ed) (w : World) (h : validS x.st = true) (hk : x.kind = 3) (hR : RowsIn w) :
    Calls Tryz.prog 13 #[.agg #[.int .i64 x.st.tick, .int .i64 x.st.clock, .int .i64 x.st.site, .int .i64 x.st.seq, .int .i64 x.kind, .int .i64 x.box.lo.x, .int .i64 x.box.lo.y, .int .i64 x.box.lo.z, .int .i64 x.box.hi.x, .int .i64 x.box.hi.y, .int .i64 x.box.hi.z, .int .i64 x.at_.x, .int .i64 x.at_.y, .int .i64 x.at_.z, .int .i64 x.turn, .int .i64 x.cell, .int .i64 x.size]] w fun e w' => e = .returned (.bool (formedE x)) ∧ Ext w w' := by
 have HF := Lib.hid (formedE_def x)
 have hv := fun w => Valid_any x.st w
 rw [h] at HF hv
 have HV := Lib.hid hv
 obtain ⟨st, kind, box, at_, turn, cell, size⟩ := x
 simp only at hk
 subst hk
 clear h hv
 have hqb := eqBx_run box zeroBx
 have hqp := eqPt_run at_ zeroPt
 simp only [zeroBx, zeroPt] at hqb hqp HF
 have hu1 : usesF 3 1 = true := rfl
 have hu2 : usesF 3 2 = false := rfl
 have hu4 : usesF 3 4 = true := rfl
 have hu8 : usesF 3 8 = true := rfl
 have hu16 : usesF 3 16 = false := rfl
 generalize decide (box = ⟨⟨0, 0, 0⟩, ⟨0, 0, 0⟩⟩) = eb at HF hqb
 generalize decide (at_ = ⟨0, 0, 0⟩) = ep at HF hqp
 simp only [hu1, hu2, hu4, hu8, hu16] at HF
 go_enter Tryz.func13, Tryz.ntmps13
 go_wp2_with (first | (go_at_call 53; refine (HV.out _).mono ?_; rintro e wx ⟨rfl, xx⟩; obtain ⟨xc, xf, xl, xe, xn, xm⟩ := xx.look; have xz := xx.size; (try simp only [World.size_alloc_] at xz); (try (have qh := xx.one (b := w.heap.size) (by (try simp only [World.size_alloc_]); omega); obtain ⟨qc, qf, ql, qe, qn, qm⟩ := qh)); (try (have qh := xx.one (b := w.heap.size + 1) (by (try simp only [World.size_alloc_]); omega); obtain ⟨qc, qf, ql, qe, qn, qm⟩ := qh)); (try (have qh := xx.one (b := w.heap.size + 1 + 1) (by (try simp only [World.size_alloc_]); omega); obtain ⟨qc, qf, ql, qe, qn, qm⟩ := qh)); (try (have qh := xx.one (b := w.heap.size + 1 + 1 + 1) (by (try simp only [World.size_alloc_]); omega); obtain ⟨qc, qf, ql, qe, qn, qm⟩ := qh))) | (go_at_call 44; refine (withinE_any _ _ _ _).mono ?_; rintro e wx ⟨rfl, xx⟩; obtain ⟨xc, xf, xl, xe, xn, xm⟩ := xx.look; have xz := xx.size; (try simp only [World.size_alloc_, World.size_setCell_] at xz); (try (have qh := xx.one (b := w.heap.size) (by (try simp only [World.size_alloc_, World.size_setCell_]); omega); obtain ⟨qc, qf, ql, qe, qn, qm⟩ := qh)); (try (have qh := xx.one (b := w.heap.size + 1) (by (try simp only [World.size_alloc_, World.size_setCell_]); omega); obtain ⟨qc, qf, ql, qe, qn, qm⟩ := qh)); (try (have qh := xx.one (b := w.heap.size + 1 + 1) (by (try simp only [World.size_alloc_, World.size_setCell_]); omega); obtain ⟨qc, qf, ql, qe, qn, qm⟩ := qh)); (try (have qh := xx.one (b := w.heap.size + 1 + 1 + 1) (by (try simp only [World.size_alloc_, World.size_setCell_]); omega); obtain ⟨qc, qf, ql, qe, qn, qm⟩ := qh))) | (go_at_call 48; refine (uses_any _ _ (by omega) (by omega) _ (hR.ext byX)).mono ?_; rintro e wx ⟨rfl, xx⟩; obtain ⟨xc, xf, xl, xe, xn, xm⟩ := xx.look; have xz := xx.size; (try simp only [World.size_alloc_, World.size_setCell_] at xz); (try (have qh := xx.one (b := w.heap.size) (by (try simp only [World.size_alloc_, World.size_setCell_]); omega); obtain ⟨qc, qf, ql, qe, qn, qm⟩ := qh)); (try (have qh := xx.one (b := w.heap.size + 1) (by (try simp only [World.size_alloc_, World.size_setCell_]); omega); obtain ⟨qc, qf, ql, qe, qn, qm⟩ := qh)); (try (have qh := xx.one (b := w.heap.size + 1 + 1) (by (try simp only [World.size_alloc_, World.size_setCell_]); omega); obtain ⟨qc, qf, ql, qe, qn, qm⟩ := qh)); (try (have qh := xx.one (b := w.heap.size + 1 + 1 + 1) (by (try simp only [World.size_alloc_, World.size_setCell_]); omega); obtain ⟨qc, qf, ql, qe, qn, qm⟩ := qh))))
 all_goals
  go_ret
  rw [HF.out]
  exact ⟨ret_bool (by first | (simp [*]; done) | (rw [Bool.eq_iff_iff]; simp [*])), byX⟩

set_option maxHeartbeats 4000000 in
theorem Formed_4 (x : Ed) (w : World) (h : validS x.st = true) (hk : x.kind = 4) (hR : RowsIn w) :
    Calls Tryz.prog 13 #[.agg #[.int .i64 x.st.tick, .int .i64 x.st.clock, .int .i64 x.st.site, .int .i64 x.st.seq, .int .i64 x.kind, .int .i64 x.box.lo.x, .int .i64 x.box.lo.y, .int .i64 x.box.lo.z, .int .i64 x.box.hi.x, .int .i64 x.box.hi.y, .int .i64 x.box.hi.z, .int .i64 x.at_.x, .int .i64 x.at_.y, .int .i64 x.at_.z, .int .i64 x.turn, .int .i64 x.cell, .int .i64 x.size]] w fun e w' => e = .returned (.bool (formedE x)) ∧ Ext w w' := by
 have HF := Lib.hid (formedE_def x)
 have hv := fun w => Valid_any x.st w
 rw [h] at HF hv
 have HV := Lib.hid hv
 obtain ⟨st, kind, box, at_, turn, cell, size⟩ := x
 simp only at hk
 subst hk
 clear h hv
 have hqb := eqBx_run box zeroBx
 have hqp := eqPt_run at_ zeroPt
 simp only [zeroBx, zeroPt] at hqb hqp HF
 have hu1 : usesF 4 1 = true := rfl
 have hu2 : usesF 4 2 = true := rfl
 have hu4 : usesF 4 4 = true := rfl
 have hu8 : usesF 4 8 = false := rfl
 have hu16 : usesF 4 16 = false := rfl
 generalize decide (box = ⟨⟨0, 0, 0⟩, ⟨0, 0, 0⟩⟩) = eb at HF hqb
 generalize decide (at_ = ⟨0, 0, 0⟩) = ep at HF hqp
 simp only [hu1, hu2, hu4, hu8, hu16] at HF
 go_enter Tryz.func13, Tryz.ntmps13
 go_wp2_with (first | (go_at_call 53; refine (HV.out _).mono ?_; rintro e wx ⟨rfl, xx⟩; obtain ⟨xc, xf, xl, xe, xn, xm⟩ := xx.look; have xz := xx.size; (try simp only [World.size_alloc_] at xz); (try (have qh := xx.one (b := w.heap.size) (by (try simp only [World.size_alloc_]); omega); obtain ⟨qc, qf, ql, qe, qn, qm⟩ := qh)); (try (have qh := xx.one (b := w.heap.size + 1) (by (try simp only [World.size_alloc_]); omega); obtain ⟨qc, qf, ql, qe, qn, qm⟩ := qh)); (try (have qh := xx.one (b := w.heap.size + 1 + 1) (by (try simp only [World.size_alloc_]); omega); obtain ⟨qc, qf, ql, qe, qn, qm⟩ := qh)); (try (have qh := xx.one (b := w.heap.size + 1 + 1 + 1) (by (try simp only [World.size_alloc_]); omega); obtain ⟨qc, qf, ql, qe, qn, qm⟩ := qh))) | (go_at_call 44; refine (withinE_any _ _ _ _).mono ?_; rintro e wx ⟨rfl, xx⟩; obtain ⟨xc, xf, xl, xe, xn, xm⟩ := xx.look; have xz := xx.size; (try simp only [World.size_alloc_, World.size_setCell_] at xz); (try (have qh := xx.one (b := w.heap.size) (by (try simp only [World.size_alloc_, World.size_setCell_]); omega); obtain ⟨qc, qf, ql, qe, qn, qm⟩ := qh)); (try (have qh := xx.one (b := w.heap.size + 1) (by (try simp only [World.size_alloc_, World.size_setCell_]); omega); obtain ⟨qc, qf, ql, qe, qn, qm⟩ := qh)); (try (have qh := xx.one (b := w.heap.size + 1 + 1) (by (try simp only [World.size_alloc_, World.size_setCell_]); omega); obtain ⟨qc, qf, ql, qe, qn, qm⟩ := qh)); (try (have qh := xx.one (b := w.heap.size + 1 + 1 + 1) (by (try simp only [World.size_alloc_, World.size_setCell_]); omega); obtain ⟨qc, qf, ql, qe, qn, qm⟩ := qh))) | (go_at_call 48; refine (uses_any _ _ (by omega) (by omega) _ (hR.ext byX)).mono ?_; rintro e wx ⟨rfl, xx⟩; obtain ⟨xc, xf, xl, xe, xn, xm⟩ := xx.look; have xz := xx.size; (try simp only [World.size_alloc_, World.size_setCell_] at xz); (try (have qh := xx.one (b := w.heap.size) (by (try simp only [World.size_alloc_, World.size_setCell_]); omega); obtain ⟨qc, qf, ql, qe, qn, qm⟩ := qh)); (try (have qh := xx.one (b := w.heap.size + 1) (by (try simp only [World.size_alloc_, World.size_setCell_]); omega); obtain ⟨qc, qf, ql, qe, qn, qm⟩ := qh)); (try (have qh := xx.one (b := w.heap.size + 1 + 1) (by (try simp only [World.size_alloc_, World.size_setCell_]); omega); obtain ⟨qc, qf, ql, qe, qn, qm⟩ := qh)); (try (have qh := xx.one (b := w.heap.size + 1 + 1 + 1) (by (try simp only [World.size_alloc_, World.size_setCell_]); omega); obtain ⟨qc, qf, ql, qe, qn, qm⟩ := qh))))
 all_goals
  go_ret
  rw [HF.out]
  exact ⟨ret_bool (by first | (simp [*]; done) | (rw [Bool.eq_iff_iff]; simp [*])), byX⟩

set_option maxHeartbeats 4000000 in
theorem Formed_5 (x : Ed) (w : World) (h : validS x.st = true) (hk : x.kind = 5) (hR : RowsIn w) :
    Calls Tryz.prog 13 #[.agg #[.int .i64 x.st.tick, .int .i64 x.st.clock, .int .i64 x.st.site, .int .i64 x.st.seq, .int .i64 x.kind, .int .i64 x.box.lo.x, .int .i64 x.box.lo.y, .int .i64 x.box.lo.z, .int .i64 x.box.hi.x, .int .i64 x.box.hi.y, .int .i64 x.box.hi.z, .int .i64 x.at_.x, .int .i64 x.at_.y, .int .i64 x.at_.z, .int .i64 x.turn, .int .i64 x.cell, .int .i64 x.size]] w fun e w' => e = .returned (.bool (formedE x)) ∧ Ext w w' := by
 have HF := Lib.hid (formedE_def x)
 have hv := fun w => Valid_any x.st w
 rw [h] at HF hv
 have HV := Lib.hid hv
 obtain ⟨st, kind, box, at_, turn, cell, size⟩ := x
 simp only at hk
 subst hk
 clear h hv
 have hqb := eqBx_run box zeroBx
 have hqp := eqPt_run at_ zeroPt
 simp only [zeroBx, zeroPt] at hqb hqp HF
 have hu1 : usesF 5 1 = false := rfl
 have hu2 : usesF 5 2 = true := rfl
 have hu4 : usesF 5 4 = false := rfl
 have hu8 : usesF 5 8 = true := rfl
 have hu16 : usesF 5 16 = true := rfl
 generalize decide (box = ⟨⟨0, 0, 0⟩, ⟨0, 0, 0⟩⟩) = eb at HF hqb
 generalize decide (at_ = ⟨0, 0, 0⟩) = ep at HF hqp
 simp only [hu1, hu2, hu4, hu8, hu16] at HF
 go_enter Tryz.func13, Tryz.ntmps13
 go_wp2_with (first | (go_at_call 53; refine (HV.out _).mono ?_; rintro e wx ⟨rfl, xx⟩; obtain ⟨xc, xf, xl, xe, xn, xm⟩ := xx.look; have xz := xx.size; (try simp only [World.size_alloc_] at xz); (try (have qh := xx.one (b := w.heap.size) (by (try simp only [World.size_alloc_]); omega); obtain ⟨qc, qf, ql, qe, qn, qm⟩ := qh)); (try (have qh := xx.one (b := w.heap.size + 1) (by (try simp only [World.size_alloc_]); omega); obtain ⟨qc, qf, ql, qe, qn, qm⟩ := qh)); (try (have qh := xx.one (b := w.heap.size + 1 + 1) (by (try simp only [World.size_alloc_]); omega); obtain ⟨qc, qf, ql, qe, qn, qm⟩ := qh)); (try (have qh := xx.one (b := w.heap.size + 1 + 1 + 1) (by (try simp only [World.size_alloc_]); omega); obtain ⟨qc, qf, ql, qe, qn, qm⟩ := qh))) | (go_at_call 44; refine (withinE_any _ _ _ _).mono ?_; rintro e wx ⟨rfl, xx⟩; obtain ⟨xc, xf, xl, xe, xn, xm⟩ := xx.look; have xz := xx.size; (try simp only [World.size_alloc_, World.size_setCell_] at xz); (try (have qh := xx.one (b := w.heap.size) (by (try simp only [World.size_alloc_, World.size_setCell_]); omega); obtain ⟨qc, qf, ql, qe, qn, qm⟩ := qh)); (try (have qh := xx.one (b := w.heap.size + 1) (by (try simp only [World.size_alloc_, World.size_setCell_]); omega); obtain ⟨qc, qf, ql, qe, qn, qm⟩ := qh)); (try (have qh := xx.one (b := w.heap.size + 1 + 1) (by (try simp only [World.size_alloc_, World.size_setCell_]); omega); obtain ⟨qc, qf, ql, qe, qn, qm⟩ := qh)); (try (have qh := xx.one (b := w.heap.size + 1 + 1 + 1) (by (try simp only [World.size_alloc_, World.size_setCell_]); omega); obtain ⟨qc, qf, ql, qe, qn, qm⟩ := qh))) | (go_at_call 48; refine (uses_any _ _ (by omega) (by omega) _ (hR.ext byX)).mono ?_; rintro e wx ⟨rfl, xx⟩; obtain ⟨xc, xf, xl, xe, xn, xm⟩ := xx.look; have xz := xx.size; (try simp only [World.size_alloc_, World.size_setCell_] at xz); (try (have qh := xx.one (b := w.heap.size) (by (try simp only [World.size_alloc_, World.size_setCell_]); omega); obtain ⟨qc, qf, ql, qe, qn, qm⟩ := qh)); (try (have qh := xx.one (b := w.heap.size + 1) (by (try simp only [World.size_alloc_, World.size_setCell_]); omega); obtain ⟨qc, qf, ql, qe, qn, qm⟩ := qh)); (try (have qh := xx.one (b := w.heap.size + 1 + 1) (by (try simp only [World.size_alloc_, World.size_setCell_]); omega); obtain ⟨qc, qf, ql, qe, qn, qm⟩ := qh)); (try (have qh := xx.one (b := w.heap.size + 1 + 1 + 1) (by (try simp only [World.size_alloc_, World.size_setCell_]); omega); obtain ⟨qc, qf, ql, qe, qn, qm⟩ := qh))))
 all_goals
  go_ret
  rw [HF.out]
  exact ⟨ret_bool (by first | (simp [*]; done) | (rw [Bool.eq_iff_iff]; simp [*])), byX⟩

set_option maxHeartbeats 4000000 in
theorem Formed_6 (x : Ed) (w : World) (h : validS x.st = true) (hk : x.kind = 6) (hR : RowsIn w) :
    Calls Tryz.prog 13 #[.agg #[.int .i64 x.st.tick, .int .i64 x.st.clock, .int .i64 x.st.site, .int .i64 x.st.seq, .int .i64 x.kind, .int .i64 x.box.lo.x, .int .i64 x.box.lo.y, .int .i64 x.box.lo.z, .int .i64 x.box.hi.x, .int .i64 x.box.hi.y, .int .i64 x.box.hi.z, .int .i64 x.at_.x, .int .i64 x.at_.y, .int .i64 x.at_.z, .int .i64 x.turn, .int .i64 x.cell, .int .i64 x.size]] w fun e w' => e = .returned (.bool (formedE x)) ∧ Ext w w' := by
 have HF := Lib.hid (formedE_def x)
 have hv := fun w => Valid_any x.st w
 rw [h] at HF hv
 have HV := Lib.hid hv
 obtain ⟨st, kind, box, at_, turn, cell, size⟩ := x
 simp only at hk
 subst hk
 clear h hv
 have hqb := eqBx_run box zeroBx
 have hqp := eqPt_run at_ zeroPt
 simp only [zeroBx, zeroPt] at hqb hqp HF
 have hu1 : usesF 6 1 = false := rfl
 have hu2 : usesF 6 2 = false := rfl
 have hu4 : usesF 6 4 = false := rfl
 have hu8 : usesF 6 8 = false := rfl
 have hu16 : usesF 6 16 = true := rfl
 generalize decide (box = ⟨⟨0, 0, 0⟩, ⟨0, 0, 0⟩⟩) = eb at HF hqb
 generalize decide (at_ = ⟨0, 0, 0⟩) = ep at HF hqp
 simp only [hu1, hu2, hu4, hu8, hu16] at HF
 go_enter Tryz.func13, Tryz.ntmps13
 go_wp2_with (first | (go_at_call 53; refine (HV.out _).mono ?_; rintro e wx ⟨rfl, xx⟩; obtain ⟨xc, xf, xl, xe, xn, xm⟩ := xx.look; have xz := xx.size; (try simp only [World.size_alloc_] at xz); (try (have qh := xx.one (b := w.heap.size) (by (try simp only [World.size_alloc_]); omega); obtain ⟨qc, qf, ql, qe, qn, qm⟩ := qh)); (try (have qh := xx.one (b := w.heap.size + 1) (by (try simp only [World.size_alloc_]); omega); obtain ⟨qc, qf, ql, qe, qn, qm⟩ := qh)); (try (have qh := xx.one (b := w.heap.size + 1 + 1) (by (try simp only [World.size_alloc_]); omega); obtain ⟨qc, qf, ql, qe, qn, qm⟩ := qh)); (try (have qh := xx.one (b := w.heap.size + 1 + 1 + 1) (by (try simp only [World.size_alloc_]); omega); obtain ⟨qc, qf, ql, qe, qn, qm⟩ := qh))) | (go_at_call 44; refine (withinE_any _ _ _ _).mono ?_; rintro e wx ⟨rfl, xx⟩; obtain ⟨xc, xf, xl, xe, xn, xm⟩ := xx.look; have xz := xx.size; (try simp only [World.size_alloc_, World.size_setCell_] at xz); (try (have qh := xx.one (b := w.heap.size) (by (try simp only [World.size_alloc_, World.size_setCell_]); omega); obtain ⟨qc, qf, ql, qe, qn, qm⟩ := qh)); (try (have qh := xx.one (b := w.heap.size + 1) (by (try simp only [World.size_alloc_, World.size_setCell_]); omega); obtain ⟨qc, qf, ql, qe, qn, qm⟩ := qh)); (try (have qh := xx.one (b := w.heap.size + 1 + 1) (by (try simp only [World.size_alloc_, World.size_setCell_]); omega); obtain ⟨qc, qf, ql, qe, qn, qm⟩ := qh)); (try (have qh := xx.one (b := w.heap.size + 1 + 1 + 1) (by (try simp only [World.size_alloc_, World.size_setCell_]); omega); obtain ⟨qc, qf, ql, qe, qn, qm⟩ := qh))) | (go_at_call 48; refine (uses_any _ _ (by omega) (by omega) _ (hR.ext byX)).mono ?_; rintro e wx ⟨rfl, xx⟩; obtain ⟨xc, xf, xl, xe, xn, xm⟩ := xx.look; have xz := xx.size; (try simp only [World.size_alloc_, World.size_setCell_] at xz); (try (have qh := xx.one (b := w.heap.size) (by (try simp only [World.size_alloc_, World.size_setCell_]); omega); obtain ⟨qc, qf, ql, qe, qn, qm⟩ := qh)); (try (have qh := xx.one (b := w.heap.size + 1) (by (try simp only [World.size_alloc_, World.size_setCell_]); omega); obtain ⟨qc, qf, ql, qe, qn, qm⟩ := qh)); (try (have qh := xx.one (b := w.heap.size + 1 + 1) (by (try simp only [World.size_alloc_, World.size_setCell_]); omega); obtain ⟨qc, qf, ql, qe, qn, qm⟩ := qh)); (try (have qh := xx.one (b := w.heap.size + 1 + 1 + 1) (by (try simp only [World.size_alloc_, World.size_setCell_]); omega); obtain ⟨qc, qf, ql, qe, qn, qm⟩ := qh))))
 all_goals
  go_ret
  rw [HF.out]
  exact ⟨ret_bool (by first | (simp [*]; done) | (rw [Bool.eq_iff_iff]; simp [*])), byX⟩

set_option maxHeartbeats 4000000 in
theorem Formed_7 (x : Ed) (w : World) (h : validS x.st = true) (hk : x.kind = 7) (hR : RowsIn w) :
    Calls Tryz.prog 13 #[.agg #[.int .i64 x.st.tick, .int .i64 x.st.clock, .int .i64 x.st.site, .int .i64 x.st.seq, .int .i64 x.kind, .int .i64 x.box.lo.x, .int .i64 x.box.lo.y, .int .i64 x.box.lo.z, .int .i64 x.box.hi.x, .int .i64 x.box.hi.y, .int .i64 x.box.hi.z, .int .i64 x.at_.x, .int .i64 x.at_.y, .int .i64 x.at_.z, .int .i64 x.turn, .int .i64 x.cell, .int .i64 x.size]] w fun e w' => e = .returned (.bool (formedE x)) ∧ Ext w w' := by
 have HF := Lib.hid (formedE_def x)
 have hv := fun w => Valid_any x.st w
 rw [h] at HF hv
 have HV := Lib.hid hv
 obtain ⟨st, kind, box, at_, turn, cell, size⟩ := x
 simp only at hk
 subst hk
 clear h hv
 have hqb := eqBx_run box zeroBx
 have hqp := eqPt_run at_ zeroPt
 simp only [zeroBx, zeroPt] at hqb hqp HF
 have hu1 : usesF 7 1 = true := rfl
 have hu2 : usesF 7 2 = false := rfl
 have hu4 : usesF 7 4 = false := rfl
 have hu8 : usesF 7 8 = false := rfl
 have hu16 : usesF 7 16 = true := rfl
 generalize decide (box = ⟨⟨0, 0, 0⟩, ⟨0, 0, 0⟩⟩) = eb at HF hqb
 generalize decide (at_ = ⟨0, 0, 0⟩) = ep at HF hqp
 simp only [hu1, hu2, hu4, hu8, hu16] at HF
 go_enter Tryz.func13, Tryz.ntmps13
 go_wp2_with (first | (go_at_call 53; refine (HV.out _).mono ?_; rintro e wx ⟨rfl, xx⟩; obtain ⟨xc, xf, xl, xe, xn, xm⟩ := xx.look; have xz := xx.size; (try simp only [World.size_alloc_] at xz); (try (have qh := xx.one (b := w.heap.size) (by (try simp only [World.size_alloc_]); omega); obtain ⟨qc, qf, ql, qe, qn, qm⟩ := qh)); (try (have qh := xx.one (b := w.heap.size + 1) (by (try simp only [World.size_alloc_]); omega); obtain ⟨qc, qf, ql, qe, qn, qm⟩ := qh)); (try (have qh := xx.one (b := w.heap.size + 1 + 1) (by (try simp only [World.size_alloc_]); omega); obtain ⟨qc, qf, ql, qe, qn, qm⟩ := qh)); (try (have qh := xx.one (b := w.heap.size + 1 + 1 + 1) (by (try simp only [World.size_alloc_]); omega); obtain ⟨qc, qf, ql, qe, qn, qm⟩ := qh))) | (go_at_call 44; refine (withinE_any _ _ _ _).mono ?_; rintro e wx ⟨rfl, xx⟩; obtain ⟨xc, xf, xl, xe, xn, xm⟩ := xx.look; have xz := xx.size; (try simp only [World.size_alloc_, World.size_setCell_] at xz); (try (have qh := xx.one (b := w.heap.size) (by (try simp only [World.size_alloc_, World.size_setCell_]); omega); obtain ⟨qc, qf, ql, qe, qn, qm⟩ := qh)); (try (have qh := xx.one (b := w.heap.size + 1) (by (try simp only [World.size_alloc_, World.size_setCell_]); omega); obtain ⟨qc, qf, ql, qe, qn, qm⟩ := qh)); (try (have qh := xx.one (b := w.heap.size + 1 + 1) (by (try simp only [World.size_alloc_, World.size_setCell_]); omega); obtain ⟨qc, qf, ql, qe, qn, qm⟩ := qh)); (try (have qh := xx.one (b := w.heap.size + 1 + 1 + 1) (by (try simp only [World.size_alloc_, World.size_setCell_]); omega); obtain ⟨qc, qf, ql, qe, qn, qm⟩ := qh))) | (go_at_call 48; refine (uses_any _ _ (by omega) (by omega) _ (hR.ext byX)).mono ?_; rintro e wx ⟨rfl, xx⟩; obtain ⟨xc, xf, xl, xe, xn, xm⟩ := xx.look; have xz := xx.size; (try simp only [World.size_alloc_, World.size_setCell_] at xz); (try (have qh := xx.one (b := w.heap.size) (by (try simp only [World.size_alloc_, World.size_setCell_]); omega); obtain ⟨qc, qf, ql, qe, qn, qm⟩ := qh)); (try (have qh := xx.one (b := w.heap.size + 1) (by (try simp only [World.size_alloc_, World.size_setCell_]); omega); obtain ⟨qc, qf, ql, qe, qn, qm⟩ := qh)); (try (have qh := xx.one (b := w.heap.size + 1 + 1) (by (try simp only [World.size_alloc_, World.size_setCell_]); omega); obtain ⟨qc, qf, ql, qe, qn, qm⟩ := qh)); (try (have qh := xx.one (b := w.heap.size + 1 + 1 + 1) (by (try simp only [World.size_alloc_, World.size_setCell_]); omega); obtain ⟨qc, qf, ql, qe, qn, qm⟩ := qh))))
 all_goals
  go_ret
  rw [HF.out]
  exact ⟨ret_bool (by first | (simp [*]; done) | (rw [Bool.eq_iff_iff]; simp [*])), byX⟩

set_option maxHeartbeats 4000000 in
theorem Formed_8 (x : Ed) (w : World) (h : validS x.st = true) (hk : x.kind = 8) (hR : RowsIn w) :
    Calls Tryz.prog 13 #[.agg #[.int .i64 x.st.tick, .int .i64 x.st.clock, .int .i64 x.st.site, .int .i64 x.st.seq, .int .i64 x.kind, .int .i64 x.box.lo.x, .int .i64 x.box.lo.y, .int .i64 x.box.lo.z, .int .i64 x.box.hi.x, .int .i64 x.box.hi.y, .int .i64 x.box.hi.z, .int .i64 x.at_.x, .int .i64 x.at_.y, .int .i64 x.at_.z, .int .i64 x.turn, .int .i64 x.cell, .int .i64 x.size]] w fun e w' => e = .returned (.bool (formedE x)) ∧ Ext w w' := by
 have HF := Lib.hid (formedE_def x)
 have hv := fun w => Valid_any x.st w
 rw [h] at HF hv
 have HV := Lib.hid hv
 obtain ⟨st, kind, box, at_, turn, cell, size⟩ := x
 simp only at hk
 subst hk
 clear h hv
 have hqb := eqBx_run box zeroBx
 have hqp := eqPt_run at_ zeroPt
 simp only [zeroBx, zeroPt] at hqb hqp HF
 have hu1 : usesF 8 1 = false := rfl
 have hu2 : usesF 8 2 = false := rfl
 have hu4 : usesF 8 4 = false := rfl
 have hu8 : usesF 8 8 = false := rfl
 have hu16 : usesF 8 16 = true := rfl
 generalize decide (box = ⟨⟨0, 0, 0⟩, ⟨0, 0, 0⟩⟩) = eb at HF hqb
 generalize decide (at_ = ⟨0, 0, 0⟩) = ep at HF hqp
 simp only [hu1, hu2, hu4, hu8, hu16] at HF
 go_enter Tryz.func13, Tryz.ntmps13
 go_wp2_with (first | (go_at_call 53; refine (HV.out _).mono ?_; rintro e wx ⟨rfl, xx⟩; obtain ⟨xc, xf, xl, xe, xn, xm⟩ := xx.look; have xz := xx.size; (try simp only [World.size_alloc_] at xz); (try (have qh := xx.one (b := w.heap.size) (by (try simp only [World.size_alloc_]); omega); obtain ⟨qc, qf, ql, qe, qn, qm⟩ := qh)); (try (have qh := xx.one (b := w.heap.size + 1) (by (try simp only [World.size_alloc_]); omega); obtain ⟨qc, qf, ql, qe, qn, qm⟩ := qh)); (try (have qh := xx.one (b := w.heap.size + 1 + 1) (by (try simp only [World.size_alloc_]); omega); obtain ⟨qc, qf, ql, qe, qn, qm⟩ := qh)); (try (have qh := xx.one (b := w.heap.size + 1 + 1 + 1) (by (try simp only [World.size_alloc_]); omega); obtain ⟨qc, qf, ql, qe, qn, qm⟩ := qh))) | (go_at_call 44; refine (withinE_any _ _ _ _).mono ?_; rintro e wx ⟨rfl, xx⟩; obtain ⟨xc, xf, xl, xe, xn, xm⟩ := xx.look; have xz := xx.size; (try simp only [World.size_alloc_, World.size_setCell_] at xz); (try (have qh := xx.one (b := w.heap.size) (by (try simp only [World.size_alloc_, World.size_setCell_]); omega); obtain ⟨qc, qf, ql, qe, qn, qm⟩ := qh)); (try (have qh := xx.one (b := w.heap.size + 1) (by (try simp only [World.size_alloc_, World.size_setCell_]); omega); obtain ⟨qc, qf, ql, qe, qn, qm⟩ := qh)); (try (have qh := xx.one (b := w.heap.size + 1 + 1) (by (try simp only [World.size_alloc_, World.size_setCell_]); omega); obtain ⟨qc, qf, ql, qe, qn, qm⟩ := qh)); (try (have qh := xx.one (b := w.heap.size + 1 + 1 + 1) (by (try simp only [World.size_alloc_, World.size_setCell_]); omega); obtain ⟨qc, qf, ql, qe, qn, qm⟩ := qh))) | (go_at_call 48; refine (uses_any _ _ (by omega) (by omega) _ (hR.ext byX)).mono ?_; rintro e wx ⟨rfl, xx⟩; obtain ⟨xc, xf, xl, xe, xn, xm⟩ := xx.look; have xz := xx.size; (try simp only [World.size_alloc_, World.size_setCell_] at xz); (try (have qh := xx.one (b := w.heap.size) (by (try simp only [World.size_alloc_, World.size_setCell_]); omega); obtain ⟨qc, qf, ql, qe, qn, qm⟩ := qh)); (try (have qh := xx.one (b := w.heap.size + 1) (by (try simp only [World.size_alloc_, World.size_setCell_]); omega); obtain ⟨qc, qf, ql, qe, qn, qm⟩ := qh)); (try (have qh := xx.one (b := w.heap.size + 1 + 1) (by (try simp only [World.size_alloc_, World.size_setCell_]); omega); obtain ⟨qc, qf, ql, qe, qn, qm⟩ := qh)); (try (have qh := xx.one (b := w.heap.size + 1 + 1 + 1) (by (try simp only [World.size_alloc_, World.size_setCell_]); omega); obtain ⟨qc, qf, ql, qe, qn, qm⟩ := qh))))
 all_goals
  go_ret
  rw [HF.out]
  exact ⟨ret_bool (by first | (simp [*]; done) | (rw [Bool.eq_iff_iff]; simp [*])), byX⟩

theorem Formed_any (x : Ed) (w : World) (hR : RowsIn w) :
    Calls Tryz.prog 13 #[.agg #[.int .i64 x.st.tick, .int .i64 x.st.clock, .int .i64 x.st.site, .int .i64 x.st.seq, .int .i64 x.kind, .int .i64 x.box.lo.x, .int .i64 x.box.lo.y, .int .i64 x.box.lo.z, .int .i64 x.box.hi.x, .int .i64 x.box.hi.y, .int .i64 x.box.hi.z, .int .i64 x.at_.x, .int .i64 x.at_.y, .int .i64 x.at_.z, .int .i64 x.turn, .int .i64 x.cell, .int .i64 x.size]] w fun e w' => e = .returned (.bool (formedE x)) ∧ Ext w w' := by
 by_cases h : validS x.st = false ∨ ¬ (1 ≤ x.kind ∧ x.kind ≤ 8)
 · have hf : formedE x = false := by
     unfold formedE
     rcases h with h | h
     · simp [h]
     · rw [decide_eq_false h]; simp
   rw [hf]
   exact Formed_bad x w h
 · have hv : validS x.st = true := by
     cases hq : validS x.st
     · exact absurd (.inl hq) h
     · rfl
   have hk : 1 ≤ x.kind ∧ x.kind ≤ 8 := Classical.byContradiction fun hh => h (.inr hh)
   obtain hk | hk | hk | hk | hk | hk | hk | hk : x.kind = 1 ∨ x.kind = 2 ∨ x.kind = 3 ∨ x.kind = 4 ∨ x.kind = 5 ∨ x.kind = 6 ∨ x.kind = 7 ∨ x.kind = 8 := by omega
   · exact Formed_1 x w hv hk hR
   · exact Formed_2 x w hv hk hR
   · exact Formed_3 x w hv hk hR
   · exact Formed_4 x w hv hk hR
   · exact Formed_5 x w hv hk hR
   · exact Formed_6 x w hv hk hR
   · exact Formed_7 x w hv hk hR
   · exact Formed_8 x w hv hk hR
end Go.Proofs.YtlinhgannajfpaaGreatDoor

/- Contracts of the layer of edits, on: sizes, Check. -/
namespace Go.Proofs.YtlinhgannajfpaaGreatDoor
open Go Go.RowKit

def leastE (x : Ed) : Int := if x.kind = 2 ∨ x.kind = 5 ∨ x.kind = 6 ∨ x.kind = 8 then 1 else if x.kind = 7 then x.st.tick else 0
def mostE (x : Ed) : Int := if x.kind = 2 then 4096 else if x.kind = 5 then 32768 else if x.kind = 6 ∨ x.kind = 8 then x.st.seq - 1 else if x.kind = 7 then 4000 else 0
theorem ret2_int {a b c d : Int} (h : a = c) (k : b = d) : Ending.returned (.tuple #[.int .i64 a, .int .i64 b]) = .returned (.tuple #[.int .i64 c, .int .i64 d]) := by rw [h, k]
set_option maxHeartbeats 2000000 in
theorem sizes_any (x : Ed) (w : World) (h1 : 1 ≤ x.st.seq) (h2 : x.st.seq ≤ 1000) :
    Calls Tryz.prog 47 #[.agg #[.int .i64 x.st.tick, .int .i64 x.st.clock, .int .i64 x.st.site, .int .i64 x.st.seq, .int .i64 x.kind, .int .i64 x.box.lo.x, .int .i64 x.box.lo.y, .int .i64 x.box.lo.z, .int .i64 x.box.hi.x, .int .i64 x.box.hi.y, .int .i64 x.box.hi.z, .int .i64 x.at_.x, .int .i64 x.at_.y, .int .i64 x.at_.z, .int .i64 x.turn, .int .i64 x.cell, .int .i64 x.size]] w fun e w' => e = .returned (.tuple #[.int .i64 (leastE x), .int .i64 (mostE x)]) ∧ Ext w w' := by
 have hm := mixed
 have hG := near_old
 obtain ⟨st, kind, box, at_, turn, cell, size⟩ := x
 by_cases hk : kind = 2 ∨ kind = 5 ∨ kind = 6 ∨ kind = 8 ∨ kind = 7
 · rcases hk with rfl | rfl | rfl | rfl | rfl
   all_goals
    go_enter Tryz.func47, Tryz.ntmps47
    go_wp2
    first
     | (go_ret2
        exact ⟨ret2_int (by simp [leastE]) (by simp [mostE]), byX⟩)
     | (refine wp_region_near (by assumption) (by kernel_rfl) ?_
        repeat (go_big_quiet_step (fail))
        refine wpQuiet_nil ?_
        intro w1 hw1
        have hy := Ext.of_near hw1
        clear hw1
        obtain ⟨xc, xf, xl, xe, xn, xm⟩ := hy.look
        go_wp2
        go_ret2
        exact ⟨ret2_int (by simp [leastE]) (by simp [mostE]), byX⟩)
 · have HK := Lib.hid hk
   have k2 : (kind == 2) = false := beq_eq_false_iff_ne.2 (by omega)
   have k5 : (kind == 5) = false := beq_eq_false_iff_ne.2 (by omega)
   have k6 : (kind == 6) = false := beq_eq_false_iff_ne.2 (by omega)
   have k8 : (kind == 8) = false := beq_eq_false_iff_ne.2 (by omega)
   have k7 : (kind == 7) = false := beq_eq_false_iff_ne.2 (by omega)
   clear hk
   go_enter Tryz.func47, Tryz.ntmps47
   go_wp2
   go_ret2
   have hk := HK.out
   exact ⟨ret2_int (by unfold leastE; rw [if_neg (by simp only; omega), if_neg (by simp only; omega)]) (by unfold mostE; rw [if_neg (by simp only; omega), if_neg (by simp only; omega), if_neg (by simp only; omega), if_neg (by simp only; omega)]), byX⟩

def cubeB (s : Int) : Bx := ⟨⟨0, 0, 0⟩, ⟨s, s, s⟩⟩
def lastP (b : Bx) : Pt := addP b.hi (scaleP ⟨1, 1, 1⟩ (-1))
def badE (x : Ed) (s m : Int) : Bool := (usesF x.kind 1 && (emptyB x.box || (!inP x.box.lo (cubeB s) || !inP (lastP x.box) (cubeB s)))) || ((usesF x.kind 2 && !inP x.at_ (cubeB s)) || (!decide (0 ≤ x.turn ∧ x.turn ≤ 47) || (!decide (0 ≤ x.cell ∧ x.cell ≤ m - 1) || !decide (leastE x ≤ x.size ∧ x.size ≤ mostE x))))
def checkE (x : Ed) (d m : Int) : Int := if decide (2 ≤ d ∧ d ≤ 14) then (if decide (1 ≤ m ∧ m ≤ 256) && formedE x then (if badE x (2 ^ d.toNat) m then 1 else 0) else 1) else 13
theorem shl_run (d : Int) (h : 2 ≤ d ∧ d ≤ 14) (w : World) : (Op.shift .shl .i64 1 .i64 d).run Tryz.prog w = .ok (.int .i64 (2 ^ d.toNat)) w := by
 obtain rfl | rfl | rfl | rfl | rfl | rfl | rfl | rfl | rfl | rfl | rfl | rfl | rfl : d = 2 ∨ d = 3 ∨ d = 4 ∨ d = 5 ∨ d = 6 ∨ d = 7 ∨ d = 8 ∨ d = 9 ∨ d = 10 ∨ d = 11 ∨ d = 12 ∨ d = 13 ∨ d = 14 := by omega
 all_goals kernel_rfl
theorem badE_def (x : Ed) (s m : Int) : badE x s m = ((usesF x.kind 1 && (emptyB x.box || (!inP x.box.lo (cubeB s) || !inP (lastP x.box) (cubeB s)))) || ((usesF x.kind 2 && !inP x.at_ (cubeB s)) || (!decide (0 ≤ x.turn ∧ x.turn ≤ 47) || (!decide (0 ≤ x.cell ∧ x.cell ≤ m - 1) || !decide (leastE x ≤ x.size ∧ x.size ≤ mostE x))))) := rfl

set_option maxHeartbeats 4000000 in
theorem Check_out (x : Ed) (d m : Int) (w : World) (hR : RowsIn w) (h : ¬ (2 ≤ d ∧ d ≤ 14) ∨ ¬ (1 ≤ m ∧ m ≤ 256) ∨ formedE x = false) :
    Calls Tryz.prog 11 #[.agg #[.int .i64 x.st.tick, .int .i64 x.st.clock, .int .i64 x.st.site, .int .i64 x.st.seq, .int .i64 x.kind, .int .i64 x.box.lo.x, .int .i64 x.box.lo.y, .int .i64 x.box.lo.z, .int .i64 x.box.hi.x, .int .i64 x.box.hi.y, .int .i64 x.box.hi.z, .int .i64 x.at_.x, .int .i64 x.at_.y, .int .i64 x.at_.z, .int .i64 x.turn, .int .i64 x.cell, .int .i64 x.size], .int .i64 d, .int .i64 m] w fun e w' => e = .returned (.int .i64 (checkE x d m)) ∧ Ext w w' := by
 have hF := fun (w' : World) (hx : Ext w w') => Formed_any x w' (hR.ext hx)
 have HD := Lib.hid (withinE_is d 2 14 _ rfl)
 have HM := Lib.hid (withinE_is m 1 256 _ rfl)
 have HC : checkE x d m = if decide (2 ≤ d ∧ d ≤ 14) then (if decide (1 ≤ m ∧ m ≤ 256) && formedE x then (if badE x (2 ^ d.toNat) m then 1 else 0) else 1) else 13 := rfl
 rw [HC]
 clear HC
 cases hd : decide (2 ≤ d ∧ d ≤ 14)
 · rw [hd] at HD
   clear h hd hF HM
   go_enter Tryz.func11, Tryz.ntmps11
   go_wp2_with (first | (go_at_call 44; refine (HD.out _).mono ?_; rintro e wx ⟨rfl, xx⟩; obtain ⟨xc, xf, xl, xe, xn, xm⟩ := xx.look; have xz := xx.size; (try simp only [World.size_alloc_] at xz); (try (have qh := xx.one (b := w.heap.size) (by (try simp only [World.size_alloc_]); omega); obtain ⟨qc, qf, ql, qe, qn, qm⟩ := qh)); (try (have qh := xx.one (b := w.heap.size + 1) (by (try simp only [World.size_alloc_]); omega); obtain ⟨qc, qf, ql, qe, qn, qm⟩ := qh)); (try (have qh := xx.one (b := w.heap.size + 1 + 1) (by (try simp only [World.size_alloc_]); omega); obtain ⟨qc, qf, ql, qe, qn, qm⟩ := qh)); (try (have qh := xx.one (b := w.heap.size + 1 + 1 + 1) (by (try simp only [World.size_alloc_]); omega); obtain ⟨qc, qf, ql, qe, qn, qm⟩ := qh))))
   go_ret
   exact ⟨ret_int rfl, byX⟩
 · cases hm : decide (1 ≤ m ∧ m ≤ 256)
   · rw [hd] at HD
     rw [hm] at HM
     clear h hd hF hm
     go_enter Tryz.func11, Tryz.ntmps11
     go_wp2_with fail
     ((refine (HD.out _).mono ?_); rintro e wx ⟨rfl, xx⟩; obtain ⟨xc, xf, xl, xe, xn, xm⟩ := xx.look; have xz := xx.size; (try simp only [World.size_alloc_] at xz); (try (have qh := xx.one (b := w.heap.size) (by (try simp only [World.size_alloc_]); omega); obtain ⟨qc, qf, ql, qe, qn, qm⟩ := qh)); (try (have qh := xx.one (b := w.heap.size + 1) (by (try simp only [World.size_alloc_]); omega); obtain ⟨qc, qf, ql, qe, qn, qm⟩ := qh)); (try (have qh := xx.one (b := w.heap.size + 1 + 1) (by (try simp only [World.size_alloc_]); omega); obtain ⟨qc, qf, ql, qe, qn, qm⟩ := qh)); (try (have qh := xx.one (b := w.heap.size + 1 + 1 + 1) (by (try simp only [World.size_alloc_]); omega); obtain ⟨qc, qf, ql, qe, qn, qm⟩ := qh)))
     go_wp2_with fail
     ((refine (HM.out _).mono ?_); rintro e wx ⟨rfl, xx⟩; obtain ⟨xc, xf, xl, xe, xn, xm⟩ := xx.look; have xz := xx.size; (try simp only [World.size_alloc_, World.size_setCell_] at xz); (try (have qh := xx.one (b := w.heap.size) (by (try simp only [World.size_alloc_, World.size_setCell_]); omega); obtain ⟨qc, qf, ql, qe, qn, qm⟩ := qh)); (try (have qh := xx.one (b := w.heap.size + 1) (by (try simp only [World.size_alloc_, World.size_setCell_]); omega); obtain ⟨qc, qf, ql, qe, qn, qm⟩ := qh)); (try (have qh := xx.one (b := w.heap.size + 1 + 1) (by (try simp only [World.size_alloc_, World.size_setCell_]); omega); obtain ⟨qc, qf, ql, qe, qn, qm⟩ := qh)); (try (have qh := xx.one (b := w.heap.size + 1 + 1 + 1) (by (try simp only [World.size_alloc_, World.size_setCell_]); omega); obtain ⟨qc, qf, ql, qe, qn, qm⟩ := qh)))
     go_wp2
     go_ret
     exact ⟨ret_int (by simp), byX⟩
   · have hf : formedE x = false := by
       rcases h with h | h | h
       · exact absurd (of_decide_eq_true hd) h
       · exact absurd (of_decide_eq_true hm) h
       · exact h
     rw [hd] at HD
     rw [hm] at HM
     rw [hf] at hF
     have HF := Lib.hid hF
     rw [hf]
     clear h hd hF hm hf
     go_enter Tryz.func11, Tryz.ntmps11
     go_upto_region 1 with fail
     obtain ⟨W0, hW⟩ : ∃ W, W = w.alloc (.cells #[.int .i64 x.st.tick, .int .i64 x.st.clock, .int .i64 x.st.site, .int .i64 x.st.seq, .int .i64 x.kind, .int .i64 x.box.lo.x, .int .i64 x.box.lo.y, .int .i64 x.box.lo.z, .int .i64 x.box.hi.x, .int .i64 x.box.hi.y, .int .i64 x.box.hi.z, .int .i64 x.at_.x, .int .i64 x.at_.y, .int .i64 x.at_.z, .int .i64 x.turn, .int .i64 x.cell, .int .i64 x.size] 29) := ⟨_, rfl⟩
     have hx0 : Ext w W0 := by rw [hW]; exact (Ext.refl w).alloc _
     have B0 : Arr W0 w.heap.size 29 [.int .i64 x.st.tick, .int .i64 x.st.clock, .int .i64 x.st.site, .int .i64 x.st.seq, .int .i64 x.kind, .int .i64 x.box.lo.x, .int .i64 x.box.lo.y, .int .i64 x.box.lo.z, .int .i64 x.box.hi.x, .int .i64 x.box.hi.y, .int .i64 x.box.hi.z, .int .i64 x.at_.x, .int .i64 x.at_.y, .int .i64 x.at_.z, .int .i64 x.turn, .int .i64 x.cell, .int .i64 x.size] := by rw [hW]; exact Arr.new w _ _
     rw [← hW]
     clear hW
     have cB0 := B0.cell
     have fB0 := B0.frozen
     have lB0 := B0.lt
     go_wp2_with fail
     ((refine (HD.out _).mono ?_); rintro e wx ⟨rfl, xx⟩; have xz := xx.size; (try simp only [World.size_alloc_, World.size_setCell_] at xz); obtain ⟨B0, cB0, fB0, lB0⟩ := Arr.look (w' := wx) B0 byX)
     go_wp2_with fail
     ((refine (HM.out _).mono ?_); rintro e wx ⟨rfl, xx⟩; have xz := xx.size; (try simp only [World.size_alloc_, World.size_setCell_] at xz); obtain ⟨B0, cB0, fB0, lB0⟩ := Arr.look (w' := wx) B0 byX)
     go_wp2_with (first | (refine ldB 29 3 B0 Tryz.underlying29 ?_) | (refine ldB 29 3 (B0.alloc _) Tryz.underlying29 ?_) | (refine ldB 29 3 ((B0.alloc _).alloc _) Tryz.underlying29 ?_))
     ((refine (HF.out _ ?_).mono ?_); (exact byX); rintro e wx ⟨rfl, xx⟩; have xz := xx.size; (try simp only [World.size_alloc_, World.size_setCell_] at xz); obtain ⟨B0, cB0, fB0, lB0⟩ := Arr.look (w' := wx) B0 byX)
     go_wp2
     go_ret
     exact ⟨ret_int (by simp), byX⟩

set_option maxRecDepth 100000 in
set_option maxHeartbeats 8000000 in
theorem Check_1 (x : Ed) (d m : Int) (w : World) (hR : RowsIn w) (hd : 2 ≤ d ∧ d ≤ 14) (hm : 1 ≤ m ∧ m ≤ 256) (hf : formedE x = true) (e1 : usesF x.kind 1 = true) (e2 : usesF x.kind 2 = false) (hk : 1 ≤ x.kind ∧ x.kind ≤ 8) :
    Calls Tryz.prog 11 #[.agg #[.int .i64 x.st.tick, .int .i64 x.st.clock, .int .i64 x.st.site, .int .i64 x.st.seq, .int .i64 x.kind, .int .i64 x.box.lo.x, .int .i64 x.box.lo.y, .int .i64 x.box.lo.z, .int .i64 x.box.hi.x, .int .i64 x.box.hi.y, .int .i64 x.box.hi.z, .int .i64 x.at_.x, .int .i64 x.at_.y, .int .i64 x.at_.z, .int .i64 x.turn, .int .i64 x.cell, .int .i64 x.size], .int .i64 d, .int .i64 m] w fun e w' => e = .returned (.int .i64 (checkE x d m)) ∧ Ext w w' := by
 have HF := Lib.hid (fun (w' : World) (hx : Ext w w') => hf ▸ Formed_any x w' (hR.ext hx))
 have HD := Lib.hid (withinE_is d 2 14 true (decide_eq_true hd))
 have HM := Lib.hid (withinE_is m 1 256 true (decide_eq_true hm))
 have hv : validS x.st = true := by
  have h := formedE_def x
  rw [hf] at h
  cases hq : validS x.st
  · rw [hq] at h; cases h
  · rfl
 obtain ⟨_, _, _, hs1, hs2⟩ := (validS_iff x.st).1 hv
 have HZ := Lib.hid (fun w' : World => sizes_any x w' hs1 hs2)
 have HC : checkE x d m = if badE x (2 ^ d.toNat) m then 1 else 0 := by
  unfold checkE; rw [decide_eq_true hd, decide_eq_true hm, hf]; rfl
 have hb := badE_def x (2 ^ d.toNat) m
 have hsh := shl_run d hd
 obtain ⟨S, hS⟩ : ∃ S : Int, (2 : Int) ^ d.toNat = S := ⟨_, rfl⟩
 rw [hS] at HC hb hsh
 obtain ⟨R, hRR⟩ : ∃ R : Int, R = (if badE x S m then 1 else 0) := ⟨_, rfl⟩
 rw [HC, ← hRR]
 have HE := Lib.hid (fun w' : World => Empty_any x.box w')
 have HL := Lib.hid (fun w' : World => In_any x.box.lo (cubeB S) w')
 have HA := Lib.hid (fun w' : World => In_any x.at_ (cubeB S) w')
 have HX := Lib.hid (fun w' : World => In_any (lastP x.box) (cubeB S) w')
 have HW := Lib.hid (fun w' : World => Sub_any x.box.hi ⟨1, 1, 1⟩ w')
 have HU := Lib.hid (fun (f : Int) (b : Bool) (hf : f = 1 ∨ f = 2 ∨ f = 4 ∨ f = 8 ∨ f = 16) (hb : usesF x.kind f = b) (w' : World) (hx : Ext w w') => uses_is x.kind f b (by omega) hf hb w' (hR.ext hx))
 generalize emptyB x.box = be at hb HE
 generalize inP x.box.lo (cubeB S) = bl at hb HL
 generalize inP x.at_ (cubeB S) = ba at hb HA
 generalize inP (lastP x.box) (cubeB S) = bx at hb HX
 have HT := Lib.hid (withinE_is x.turn 0 47 _ rfl)
 have HG := Lib.hid (withinE_is x.cell 0 (m - 1) _ rfl)
 have HS := Lib.hid (withinE_is x.size (leastE x) (mostE x) _ rfl)
 generalize decide (0 ≤ x.turn ∧ x.turn ≤ 47) = bt at hb HT
 generalize decide (0 ≤ x.cell ∧ x.cell ≤ m - 1) = bc at hb HG
 generalize decide (leastE x ≤ x.size ∧ x.size ≤ mostE x) = bs at hb HS
 rw [e1, e2] at hb
 rw [hb] at hRR
 have HB := Lib.hid hRR
 have HE1 := Lib.hid e1
 have HE2 := Lib.hid e2
 have hm1 : 0 ≤ m - 1 := by omega
 clear hb hRR e1 e2 hv HC hS hf hk hs1 hs2 hd
 simp only [cubeB] at HL HA HX
 simp only [lastP] at HX
 go_enter Tryz.func11, Tryz.ntmps11
 go_upto_region 1 with fail
 obtain ⟨W0, hW⟩ : ∃ W, W = w.alloc (.cells #[.int .i64 x.st.tick, .int .i64 x.st.clock, .int .i64 x.st.site, .int .i64 x.st.seq, .int .i64 x.kind, .int .i64 x.box.lo.x, .int .i64 x.box.lo.y, .int .i64 x.box.lo.z, .int .i64 x.box.hi.x, .int .i64 x.box.hi.y, .int .i64 x.box.hi.z, .int .i64 x.at_.x, .int .i64 x.at_.y, .int .i64 x.at_.z, .int .i64 x.turn, .int .i64 x.cell, .int .i64 x.size] 29) := ⟨_, rfl⟩
 have hx0 : Ext w W0 := by rw [hW]; exact (Ext.refl w).alloc _
 have B0 : Arr W0 w.heap.size 29 [.int .i64 x.st.tick, .int .i64 x.st.clock, .int .i64 x.st.site, .int .i64 x.st.seq, .int .i64 x.kind, .int .i64 x.box.lo.x, .int .i64 x.box.lo.y, .int .i64 x.box.lo.z, .int .i64 x.box.hi.x, .int .i64 x.box.hi.y, .int .i64 x.box.hi.z, .int .i64 x.at_.x, .int .i64 x.at_.y, .int .i64 x.at_.z, .int .i64 x.turn, .int .i64 x.cell, .int .i64 x.size] := by rw [hW]; exact Arr.new w _ _
 rw [← hW]
 clear hW
 have cB0 := B0.cell
 have fB0 := B0.frozen
 have lB0 := B0.lt
 generalize (.agg #[.int .i64 x.st.tick, .int .i64 x.st.clock, .int .i64 x.st.site, .int .i64 x.st.seq, .int .i64 x.kind, .int .i64 x.box.lo.x, .int .i64 x.box.lo.y, .int .i64 x.box.lo.z, .int .i64 x.box.hi.x, .int .i64 x.box.hi.y, .int .i64 x.box.hi.z, .int .i64 x.at_.x, .int .i64 x.at_.y, .int .i64 x.at_.z, .int .i64 x.turn, .int .i64 x.cell, .int .i64 x.size] : Value) = V0
 go_wp2_with fail
 ((refine (HD.out _).mono ?_); rintro e wx ⟨rfl, xx⟩; have xz := xx.size; (try simp only [World.size_alloc_, World.size_setCell_] at xz); obtain ⟨B0, cB0, fB0, lB0⟩ := Arr.look (w' := wx) B0 byX)
 go_wp2_with fail
 ((refine (HM.out _).mono ?_); rintro e wx ⟨rfl, xx⟩; have xz := xx.size; (try simp only [World.size_alloc_, World.size_setCell_] at xz); obtain ⟨B0, cB0, fB0, lB0⟩ := Arr.look (w' := wx) B0 byX)
 go_wp2_with (first | (refine ldB 29 3 B0 Tryz.underlying29 ?_) | (refine ldB 29 3 (B0.alloc _) Tryz.underlying29 ?_) | (refine ldB 29 3 ((B0.alloc _).alloc _) Tryz.underlying29 ?_))
 ((refine (HF.out _ ?_).mono ?_); (exact byX); rintro e wx ⟨rfl, xx⟩; have xz := xx.size; (try simp only [World.size_alloc_, World.size_setCell_] at xz); obtain ⟨B0, cB0, fB0, lB0⟩ := Arr.look (w' := wx) B0 byX)
 go_wp2_with fail
 ((refine (Cube_any _ _).mono ?_); rintro e wa ⟨rfl, xx⟩; have xz := xx.size; (try simp only [World.size_alloc_, World.size_setCell_] at xz); obtain ⟨B0, cB0, fB0, lB0⟩ := Arr.look (w' := wa) B0 byX)
 go_wp2_with fail
 ((refine (HW.out _).mono ?_); rintro e wb ⟨rfl, xx⟩; have xz := xx.size; (try simp only [World.size_alloc_] at xz); obtain ⟨B0, cB0, fB0, lB0⟩ := Arr.look (w' := wb) B0 byX)
 have B1 := (Arr.new wa 27 [.int .i64 (cubeB S).lo.x, .int .i64 (cubeB S).lo.y, .int .i64 (cubeB S).lo.z, .int .i64 (cubeB S).hi.x, .int .i64 (cubeB S).hi.y, .int .i64 (cubeB S).hi.z]).ext xx
 simp only [cubeB] at B1
 have cB1 := B1.cell
 have fB1 := B1.frozen
 have lB1 := B1.lt
 go_wp2_with (first | (refine ldB 29 3 B0 Tryz.underlying29 ?_) | (refine ldB 29 3 (B0.alloc _) Tryz.underlying29 ?_) | (refine ldB 29 3 ((B0.alloc _).alloc _) Tryz.underlying29 ?_))
 ((refine (HZ.out _).mono ?_); rintro e wx ⟨rfl, xx⟩; have xz := xx.size; (try simp only [World.size_alloc_] at xz); obtain ⟨B0, cB0, fB0, lB0⟩ := Arr.look (w' := wx) B0 byX; obtain ⟨B1, cB1, fB1, lB1⟩ := Arr.look (w' := wx) B1 byX)
 have B2 := (Arr.new wb 25 [.int .i64 (addP x.box.hi (scaleP ⟨1, 1, 1⟩ (-1))).x, .int .i64 (addP x.box.hi (scaleP ⟨1, 1, 1⟩ (-1))).y, .int .i64 (addP x.box.hi (scaleP ⟨1, 1, 1⟩ (-1))).z]).ext xx
 have cB2 := B2.cell
 have fB2 := B2.frozen
 have lB2 := B2.lt
 go_wp2_with fail
 ((refine (HU.out 1 _ (by omega) HE1.out _ ?_).mono ?_); (exact byX); rintro e wx ⟨rfl, xx⟩; have xz := xx.size; (try simp only [World.size_alloc_, World.size_setCell_] at xz); obtain ⟨B0, cB0, fB0, lB0⟩ := Arr.look (w' := wx) B0 byX; obtain ⟨B1, cB1, fB1, lB1⟩ := Arr.look (w' := wx) B1 byX; obtain ⟨B2, cB2, fB2, lB2⟩ := Arr.look (w' := wx) B2 byX)
 go_wp2_with fail
 ((refine (HE.out _).mono ?_); rintro e wx ⟨rfl, xx⟩; have xz := xx.size; (try simp only [World.size_alloc_, World.size_setCell_] at xz); obtain ⟨B0, cB0, fB0, lB0⟩ := Arr.look (w' := wx) B0 byX; obtain ⟨B1, cB1, fB1, lB1⟩ := Arr.look (w' := wx) B1 byX; obtain ⟨B2, cB2, fB2, lB2⟩ := Arr.look (w' := wx) B2 byX)
 cases be
 case true =>
  go_wp2
  go_ret
  exact ⟨ret_int (by rw [HB.out]; simp), byX⟩
 go_wp2_with (first | (refine ldB 27 7 B1 Tryz.underlying27 ?_) | (refine ldB 27 7 (B1.alloc _) Tryz.underlying27 ?_) | (refine ldB 27 7 ((B1.alloc _).alloc _) Tryz.underlying27 ?_))
 ((refine (HL.out _).mono ?_); rintro e wx ⟨rfl, xx⟩; have xz := xx.size; (try simp only [World.size_alloc_, World.size_setCell_] at xz); obtain ⟨B0, cB0, fB0, lB0⟩ := Arr.look (w' := wx) B0 byX; obtain ⟨B1, cB1, fB1, lB1⟩ := Arr.look (w' := wx) B1 byX; obtain ⟨B2, cB2, fB2, lB2⟩ := Arr.look (w' := wx) B2 byX)
 cases bl
 case false =>
  go_wp2
  go_ret
  exact ⟨ret_int (by rw [HB.out]; simp), byX⟩
 go_wp2_with (first | (refine ldB 27 7 B1 Tryz.underlying27 ?_) | (refine ldB 27 7 (B1.alloc _) Tryz.underlying27 ?_) | (refine ldB 27 7 ((B1.alloc _).alloc _) Tryz.underlying27 ?_))
 ((refine (HX.out _).mono ?_); rintro e wx ⟨rfl, xx⟩; have xz := xx.size; (try simp only [World.size_alloc_, World.size_setCell_] at xz); obtain ⟨B0, cB0, fB0, lB0⟩ := Arr.look (w' := wx) B0 byX; obtain ⟨B1, cB1, fB1, lB1⟩ := Arr.look (w' := wx) B1 byX; obtain ⟨B2, cB2, fB2, lB2⟩ := Arr.look (w' := wx) B2 byX)
 cases bx
 case false =>
  go_wp2
  go_ret
  exact ⟨ret_int (by rw [HB.out]; simp), byX⟩
 go_wp2_with fail
 ((refine (HU.out 2 _ (by omega) HE2.out _ ?_).mono ?_); (exact byX); rintro e wx ⟨rfl, xx⟩; have xz := xx.size; (try simp only [World.size_alloc_, World.size_setCell_] at xz); obtain ⟨B0, cB0, fB0, lB0⟩ := Arr.look (w' := wx) B0 byX; obtain ⟨B1, cB1, fB1, lB1⟩ := Arr.look (w' := wx) B1 byX; obtain ⟨B2, cB2, fB2, lB2⟩ := Arr.look (w' := wx) B2 byX)
 go_wp2_with fail
 ((refine (HT.out _).mono ?_); rintro e wx ⟨rfl, xx⟩; have xz := xx.size; (try simp only [World.size_alloc_, World.size_setCell_] at xz); obtain ⟨B0, cB0, fB0, lB0⟩ := Arr.look (w' := wx) B0 byX; obtain ⟨B1, cB1, fB1, lB1⟩ := Arr.look (w' := wx) B1 byX; obtain ⟨B2, cB2, fB2, lB2⟩ := Arr.look (w' := wx) B2 byX)
 cases bt
 case false =>
  go_wp2
  go_ret
  exact ⟨ret_int (by rw [HB.out]; simp), byX⟩
 go_wp2_with fail
 ((refine (HG.out _).mono ?_); rintro e wx ⟨rfl, xx⟩; have xz := xx.size; (try simp only [World.size_alloc_, World.size_setCell_] at xz); obtain ⟨B0, cB0, fB0, lB0⟩ := Arr.look (w' := wx) B0 byX; obtain ⟨B1, cB1, fB1, lB1⟩ := Arr.look (w' := wx) B1 byX; obtain ⟨B2, cB2, fB2, lB2⟩ := Arr.look (w' := wx) B2 byX)
 cases bc
 case false =>
  go_wp2
  go_ret
  exact ⟨ret_int (by rw [HB.out]; simp), byX⟩
 go_wp2_with fail
 ((refine (HS.out _).mono ?_); rintro e wx ⟨rfl, xx⟩; have xz := xx.size; (try simp only [World.size_alloc_, World.size_setCell_] at xz); obtain ⟨B0, cB0, fB0, lB0⟩ := Arr.look (w' := wx) B0 byX; obtain ⟨B1, cB1, fB1, lB1⟩ := Arr.look (w' := wx) B1 byX; obtain ⟨B2, cB2, fB2, lB2⟩ := Arr.look (w' := wx) B2 byX)
 cases bs
 case false =>
  go_wp2
  go_ret
  exact ⟨ret_int (by rw [HB.out]; simp), byX⟩
 go_wp2
 go_ret
 exact ⟨ret_int (by rw [HB.out]; simp), byX⟩

set_option maxRecDepth 100000 in
set_option maxHeartbeats 8000000 in
theorem Check_2 (x : Ed) (d m : Int) (w : World) (hR : RowsIn w) (hd : 2 ≤ d ∧ d ≤ 14) (hm : 1 ≤ m ∧ m ≤ 256) (hf : formedE x = true) (e1 : usesF x.kind 1 = false) (e2 : usesF x.kind 2 = true) (hk : 1 ≤ x.kind ∧ x.kind ≤ 8) :
    Calls Tryz.prog 11 #[.agg #[.int .i64 x.st.tick, .int .i64 x.st.clock, .int .i64 x.st.site, .int .i64 x.st.seq, .int .i64 x.kind, .int .i64 x.box.lo.x, .int .i64 x.box.lo.y, .int .i64 x.box.lo.z, .int .i64 x.box.hi.x, .int .i64 x.box.hi.y, .int .i64 x.box.hi.z, .int .i64 x.at_.x, .int .i64 x.at_.y, .int .i64 x.at_.z, .int .i64 x.turn, .int .i64 x.cell, .int .i64 x.size], .int .i64 d, .int .i64 m] w fun e w' => e = .returned (.int .i64 (checkE x d m)) ∧ Ext w w' := by
 have HF := Lib.hid (fun (w' : World) (hx : Ext w w') => hf ▸ Formed_any x w' (hR.ext hx))
 have HD := Lib.hid (withinE_is d 2 14 true (decide_eq_true hd))
 have HM := Lib.hid (withinE_is m 1 256 true (decide_eq_true hm))
 have hv : validS x.st = true := by
  have h := formedE_def x
  rw [hf] at h
  cases hq : validS x.st
  · rw [hq] at h; cases h
  · rfl
 obtain ⟨_, _, _, hs1, hs2⟩ := (validS_iff x.st).1 hv
 have HZ := Lib.hid (fun w' : World => sizes_any x w' hs1 hs2)
 have HC : checkE x d m = if badE x (2 ^ d.toNat) m then 1 else 0 := by
  unfold checkE; rw [decide_eq_true hd, decide_eq_true hm, hf]; rfl
 have hb := badE_def x (2 ^ d.toNat) m
 have hsh := shl_run d hd
 obtain ⟨S, hS⟩ : ∃ S : Int, (2 : Int) ^ d.toNat = S := ⟨_, rfl⟩
 rw [hS] at HC hb hsh
 obtain ⟨R, hRR⟩ : ∃ R : Int, R = (if badE x S m then 1 else 0) := ⟨_, rfl⟩
 rw [HC, ← hRR]
 have HE := Lib.hid (fun w' : World => Empty_any x.box w')
 have HL := Lib.hid (fun w' : World => In_any x.box.lo (cubeB S) w')
 have HA := Lib.hid (fun w' : World => In_any x.at_ (cubeB S) w')
 have HX := Lib.hid (fun w' : World => In_any (lastP x.box) (cubeB S) w')
 have HW := Lib.hid (fun w' : World => Sub_any x.box.hi ⟨1, 1, 1⟩ w')
 have HU := Lib.hid (fun (f : Int) (b : Bool) (hf : f = 1 ∨ f = 2 ∨ f = 4 ∨ f = 8 ∨ f = 16) (hb : usesF x.kind f = b) (w' : World) (hx : Ext w w') => uses_is x.kind f b (by omega) hf hb w' (hR.ext hx))
 generalize emptyB x.box = be at hb HE
 generalize inP x.box.lo (cubeB S) = bl at hb HL
 generalize inP x.at_ (cubeB S) = ba at hb HA
 generalize inP (lastP x.box) (cubeB S) = bx at hb HX
 have HT := Lib.hid (withinE_is x.turn 0 47 _ rfl)
 have HG := Lib.hid (withinE_is x.cell 0 (m - 1) _ rfl)
 have HS := Lib.hid (withinE_is x.size (leastE x) (mostE x) _ rfl)
 generalize decide (0 ≤ x.turn ∧ x.turn ≤ 47) = bt at hb HT
 generalize decide (0 ≤ x.cell ∧ x.cell ≤ m - 1) = bc at hb HG
 generalize decide (leastE x ≤ x.size ∧ x.size ≤ mostE x) = bs at hb HS
 rw [e1, e2] at hb
 rw [hb] at hRR
 have HB := Lib.hid hRR
 have HE1 := Lib.hid e1
 have HE2 := Lib.hid e2
 have hm1 : 0 ≤ m - 1 := by omega
 clear hb hRR e1 e2 hv HC hS hf hk hs1 hs2 hd
 simp only [cubeB] at HL HA HX
 simp only [lastP] at HX
 go_enter Tryz.func11, Tryz.ntmps11
 go_upto_region 1 with fail
 obtain ⟨W0, hW⟩ : ∃ W, W = w.alloc (.cells #[.int .i64 x.st.tick, .int .i64 x.st.clock, .int .i64 x.st.site, .int .i64 x.st.seq, .int .i64 x.kind, .int .i64 x.box.lo.x, .int .i64 x.box.lo.y, .int .i64 x.box.lo.z, .int .i64 x.box.hi.x, .int .i64 x.box.hi.y, .int .i64 x.box.hi.z, .int .i64 x.at_.x, .int .i64 x.at_.y, .int .i64 x.at_.z, .int .i64 x.turn, .int .i64 x.cell, .int .i64 x.size] 29) := ⟨_, rfl⟩
 have hx0 : Ext w W0 := by rw [hW]; exact (Ext.refl w).alloc _
 have B0 : Arr W0 w.heap.size 29 [.int .i64 x.st.tick, .int .i64 x.st.clock, .int .i64 x.st.site, .int .i64 x.st.seq, .int .i64 x.kind, .int .i64 x.box.lo.x, .int .i64 x.box.lo.y, .int .i64 x.box.lo.z, .int .i64 x.box.hi.x, .int .i64 x.box.hi.y, .int .i64 x.box.hi.z, .int .i64 x.at_.x, .int .i64 x.at_.y, .int .i64 x.at_.z, .int .i64 x.turn, .int .i64 x.cell, .int .i64 x.size] := by rw [hW]; exact Arr.new w _ _
 rw [← hW]
 clear hW
 have cB0 := B0.cell
 have fB0 := B0.frozen
 have lB0 := B0.lt
 generalize (.agg #[.int .i64 x.st.tick, .int .i64 x.st.clock, .int .i64 x.st.site, .int .i64 x.st.seq, .int .i64 x.kind, .int .i64 x.box.lo.x, .int .i64 x.box.lo.y, .int .i64 x.box.lo.z, .int .i64 x.box.hi.x, .int .i64 x.box.hi.y, .int .i64 x.box.hi.z, .int .i64 x.at_.x, .int .i64 x.at_.y, .int .i64 x.at_.z, .int .i64 x.turn, .int .i64 x.cell, .int .i64 x.size] : Value) = V0
 go_wp2_with fail
 ((refine (HD.out _).mono ?_); rintro e wx ⟨rfl, xx⟩; have xz := xx.size; (try simp only [World.size_alloc_, World.size_setCell_] at xz); obtain ⟨B0, cB0, fB0, lB0⟩ := Arr.look (w' := wx) B0 byX)
 go_wp2_with fail
 ((refine (HM.out _).mono ?_); rintro e wx ⟨rfl, xx⟩; have xz := xx.size; (try simp only [World.size_alloc_, World.size_setCell_] at xz); obtain ⟨B0, cB0, fB0, lB0⟩ := Arr.look (w' := wx) B0 byX)
 go_wp2_with (first | (refine ldB 29 3 B0 Tryz.underlying29 ?_) | (refine ldB 29 3 (B0.alloc _) Tryz.underlying29 ?_) | (refine ldB 29 3 ((B0.alloc _).alloc _) Tryz.underlying29 ?_))
 ((refine (HF.out _ ?_).mono ?_); (exact byX); rintro e wx ⟨rfl, xx⟩; have xz := xx.size; (try simp only [World.size_alloc_, World.size_setCell_] at xz); obtain ⟨B0, cB0, fB0, lB0⟩ := Arr.look (w' := wx) B0 byX)
 go_wp2_with fail
 ((refine (Cube_any _ _).mono ?_); rintro e wa ⟨rfl, xx⟩; have xz := xx.size; (try simp only [World.size_alloc_, World.size_setCell_] at xz); obtain ⟨B0, cB0, fB0, lB0⟩ := Arr.look (w' := wa) B0 byX)
 go_wp2_with fail
 ((refine (HW.out _).mono ?_); rintro e wb ⟨rfl, xx⟩; have xz := xx.size; (try simp only [World.size_alloc_] at xz); obtain ⟨B0, cB0, fB0, lB0⟩ := Arr.look (w' := wb) B0 byX)
 have B1 := (Arr.new wa 27 [.int .i64 (cubeB S).lo.x, .int .i64 (cubeB S).lo.y, .int .i64 (cubeB S).lo.z, .int .i64 (cubeB S).hi.x, .int .i64 (cubeB S).hi.y, .int .i64 (cubeB S).hi.z]).ext xx
 simp only [cubeB] at B1
 have cB1 := B1.cell
 have fB1 := B1.frozen
 have lB1 := B1.lt
 go_wp2_with (first | (refine ldB 29 3 B0 Tryz.underlying29 ?_) | (refine ldB 29 3 (B0.alloc _) Tryz.underlying29 ?_) | (refine ldB 29 3 ((B0.alloc _).alloc _) Tryz.underlying29 ?_))
 ((refine (HZ.out _).mono ?_); rintro e wx ⟨rfl, xx⟩; have xz := xx.size; (try simp only [World.size_alloc_] at xz); obtain ⟨B0, cB0, fB0, lB0⟩ := Arr.look (w' := wx) B0 byX; obtain ⟨B1, cB1, fB1, lB1⟩ := Arr.look (w' := wx) B1 byX)
 have B2 := (Arr.new wb 25 [.int .i64 (addP x.box.hi (scaleP ⟨1, 1, 1⟩ (-1))).x, .int .i64 (addP x.box.hi (scaleP ⟨1, 1, 1⟩ (-1))).y, .int .i64 (addP x.box.hi (scaleP ⟨1, 1, 1⟩ (-1))).z]).ext xx
 have cB2 := B2.cell
 have fB2 := B2.frozen
 have lB2 := B2.lt
 go_wp2_with fail
 ((refine (HU.out 1 _ (by omega) HE1.out _ ?_).mono ?_); (exact byX); rintro e wx ⟨rfl, xx⟩; have xz := xx.size; (try simp only [World.size_alloc_, World.size_setCell_] at xz); obtain ⟨B0, cB0, fB0, lB0⟩ := Arr.look (w' := wx) B0 byX; obtain ⟨B1, cB1, fB1, lB1⟩ := Arr.look (w' := wx) B1 byX; obtain ⟨B2, cB2, fB2, lB2⟩ := Arr.look (w' := wx) B2 byX)
 go_wp2_with fail
 ((refine (HU.out 2 _ (by omega) HE2.out _ ?_).mono ?_); (exact byX); rintro e wx ⟨rfl, xx⟩; have xz := xx.size; (try simp only [World.size_alloc_, World.size_setCell_] at xz); obtain ⟨B0, cB0, fB0, lB0⟩ := Arr.look (w' := wx) B0 byX; obtain ⟨B1, cB1, fB1, lB1⟩ := Arr.look (w' := wx) B1 byX; obtain ⟨B2, cB2, fB2, lB2⟩ := Arr.look (w' := wx) B2 byX)
 go_wp2_with (first | (refine ldB 27 7 B1 Tryz.underlying27 ?_) | (refine ldB 27 7 (B1.alloc _) Tryz.underlying27 ?_) | (refine ldB 27 7 ((B1.alloc _).alloc _) Tryz.underlying27 ?_))
 ((refine (HA.out _).mono ?_); rintro e wx ⟨rfl, xx⟩; have xz := xx.size; (try simp only [World.size_alloc_, World.size_setCell_] at xz); obtain ⟨B0, cB0, fB0, lB0⟩ := Arr.look (w' := wx) B0 byX; obtain ⟨B1, cB1, fB1, lB1⟩ := Arr.look (w' := wx) B1 byX; obtain ⟨B2, cB2, fB2, lB2⟩ := Arr.look (w' := wx) B2 byX)
 cases ba
 case false =>
  go_wp2
  go_ret
  exact ⟨ret_int (by rw [HB.out]; simp), byX⟩
 go_wp2_with fail
 ((refine (HT.out _).mono ?_); rintro e wx ⟨rfl, xx⟩; have xz := xx.size; (try simp only [World.size_alloc_, World.size_setCell_] at xz); obtain ⟨B0, cB0, fB0, lB0⟩ := Arr.look (w' := wx) B0 byX; obtain ⟨B1, cB1, fB1, lB1⟩ := Arr.look (w' := wx) B1 byX; obtain ⟨B2, cB2, fB2, lB2⟩ := Arr.look (w' := wx) B2 byX)
 cases bt
 case false =>
  go_wp2
  go_ret
  exact ⟨ret_int (by rw [HB.out]; simp), byX⟩
 go_wp2_with fail
 ((refine (HG.out _).mono ?_); rintro e wx ⟨rfl, xx⟩; have xz := xx.size; (try simp only [World.size_alloc_, World.size_setCell_] at xz); obtain ⟨B0, cB0, fB0, lB0⟩ := Arr.look (w' := wx) B0 byX; obtain ⟨B1, cB1, fB1, lB1⟩ := Arr.look (w' := wx) B1 byX; obtain ⟨B2, cB2, fB2, lB2⟩ := Arr.look (w' := wx) B2 byX)
 cases bc
 case false =>
  go_wp2
  go_ret
  exact ⟨ret_int (by rw [HB.out]; simp), byX⟩
 go_wp2_with fail
 ((refine (HS.out _).mono ?_); rintro e wx ⟨rfl, xx⟩; have xz := xx.size; (try simp only [World.size_alloc_, World.size_setCell_] at xz); obtain ⟨B0, cB0, fB0, lB0⟩ := Arr.look (w' := wx) B0 byX; obtain ⟨B1, cB1, fB1, lB1⟩ := Arr.look (w' := wx) B1 byX; obtain ⟨B2, cB2, fB2, lB2⟩ := Arr.look (w' := wx) B2 byX)
 cases bs
 case false =>
  go_wp2
  go_ret
  exact ⟨ret_int (by rw [HB.out]; simp), byX⟩
 go_wp2
 go_ret
 exact ⟨ret_int (by rw [HB.out]; simp), byX⟩

set_option maxRecDepth 100000 in
set_option maxHeartbeats 8000000 in
theorem Check_4 (x : Ed) (d m : Int) (w : World) (hR : RowsIn w) (hd : 2 ≤ d ∧ d ≤ 14) (hm : 1 ≤ m ∧ m ≤ 256) (hf : formedE x = true) (e1 : usesF x.kind 1 = true) (e2 : usesF x.kind 2 = true) (hk : 1 ≤ x.kind ∧ x.kind ≤ 8) :
    Calls Tryz.prog 11 #[.agg #[.int .i64 x.st.tick, .int .i64 x.st.clock, .int .i64 x.st.site, .int .i64 x.st.seq, .int .i64 x.kind, .int .i64 x.box.lo.x, .int .i64 x.box.lo.y, .int .i64 x.box.lo.z, .int .i64 x.box.hi.x, .int .i64 x.box.hi.y, .int .i64 x.box.hi.z, .int .i64 x.at_.x, .int .i64 x.at_.y, .int .i64 x.at_.z, .int .i64 x.turn, .int .i64 x.cell, .int .i64 x.size], .int .i64 d, .int .i64 m] w fun e w' => e = .returned (.int .i64 (checkE x d m)) ∧ Ext w w' := by
 have HF := Lib.hid (fun (w' : World) (hx : Ext w w') => hf ▸ Formed_any x w' (hR.ext hx))
 have HD := Lib.hid (withinE_is d 2 14 true (decide_eq_true hd))
 have HM := Lib.hid (withinE_is m 1 256 true (decide_eq_true hm))
 have hv : validS x.st = true := by
  have h := formedE_def x
  rw [hf] at h
  cases hq : validS x.st
  · rw [hq] at h; cases h
  · rfl
 obtain ⟨_, _, _, hs1, hs2⟩ := (validS_iff x.st).1 hv
 have HZ := Lib.hid (fun w' : World => sizes_any x w' hs1 hs2)
 have HC : checkE x d m = if badE x (2 ^ d.toNat) m then 1 else 0 := by
  unfold checkE; rw [decide_eq_true hd, decide_eq_true hm, hf]; rfl
 have hb := badE_def x (2 ^ d.toNat) m
 have hsh := shl_run d hd
 obtain ⟨S, hS⟩ : ∃ S : Int, (2 : Int) ^ d.toNat = S := ⟨_, rfl⟩
 rw [hS] at HC hb hsh
 obtain ⟨R, hRR⟩ : ∃ R : Int, R = (if badE x S m then 1 else 0) := ⟨_, rfl⟩
 rw [HC, ← hRR]
 have HE := Lib.hid (fun w' : World => Empty_any x.box w')
 have HL := Lib.hid (fun w' : World => In_any x.box.lo (cubeB S) w')
 have HA := Lib.hid (fun w' : World => In_any x.at_ (cubeB S) w')
 have HX := Lib.hid (fun w' : World => In_any (lastP x.box) (cubeB S) w')
 have HW := Lib.hid (fun w' : World => Sub_any x.box.hi ⟨1, 1, 1⟩ w')
 have HU := Lib.hid (fun (f : Int) (b : Bool) (hf : f = 1 ∨ f = 2 ∨ f = 4 ∨ f = 8 ∨ f = 16) (hb : usesF x.kind f = b) (w' : World) (hx : Ext w w') => uses_is x.kind f b (by omega) hf hb w' (hR.ext hx))
 generalize emptyB x.box = be at hb HE
 generalize inP x.box.lo (cubeB S) = bl at hb HL
 generalize inP x.at_ (cubeB S) = ba at hb HA
 generalize inP (lastP x.box) (cubeB S) = bx at hb HX
 have HT := Lib.hid (withinE_is x.turn 0 47 _ rfl)
 have HG := Lib.hid (withinE_is x.cell 0 (m - 1) _ rfl)
 have HS := Lib.hid (withinE_is x.size (leastE x) (mostE x) _ rfl)
 generalize decide (0 ≤ x.turn ∧ x.turn ≤ 47) = bt at hb HT
 generalize decide (0 ≤ x.cell ∧ x.cell ≤ m - 1) = bc at hb HG
 generalize decide (leastE x ≤ x.size ∧ x.size ≤ mostE x) = bs at hb HS
 rw [e1, e2] at hb
 rw [hb] at hRR
 have HB := Lib.hid hRR
 have HE1 := Lib.hid e1
 have HE2 := Lib.hid e2
 have hm1 : 0 ≤ m - 1 := by omega
 clear hb hRR e1 e2 hv HC hS hf hk hs1 hs2 hd
 simp only [cubeB] at HL HA HX
 simp only [lastP] at HX
 go_enter Tryz.func11, Tryz.ntmps11
 go_upto_region 1 with fail
 obtain ⟨W0, hW⟩ : ∃ W, W = w.alloc (.cells #[.int .i64 x.st.tick, .int .i64 x.st.clock, .int .i64 x.st.site, .int .i64 x.st.seq, .int .i64 x.kind, .int .i64 x.box.lo.x, .int .i64 x.box.lo.y, .int .i64 x.box.lo.z, .int .i64 x.box.hi.x, .int .i64 x.box.hi.y, .int .i64 x.box.hi.z, .int .i64 x.at_.x, .int .i64 x.at_.y, .int .i64 x.at_.z, .int .i64 x.turn, .int .i64 x.cell, .int .i64 x.size] 29) := ⟨_, rfl⟩
 have hx0 : Ext w W0 := by rw [hW]; exact (Ext.refl w).alloc _
 have B0 : Arr W0 w.heap.size 29 [.int .i64 x.st.tick, .int .i64 x.st.clock, .int .i64 x.st.site, .int .i64 x.st.seq, .int .i64 x.kind, .int .i64 x.box.lo.x, .int .i64 x.box.lo.y, .int .i64 x.box.lo.z, .int .i64 x.box.hi.x, .int .i64 x.box.hi.y, .int .i64 x.box.hi.z, .int .i64 x.at_.x, .int .i64 x.at_.y, .int .i64 x.at_.z, .int .i64 x.turn, .int .i64 x.cell, .int .i64 x.size] := by rw [hW]; exact Arr.new w _ _
 rw [← hW]
 clear hW
 have cB0 := B0.cell
 have fB0 := B0.frozen
 have lB0 := B0.lt
 generalize (.agg #[.int .i64 x.st.tick, .int .i64 x.st.clock, .int .i64 x.st.site, .int .i64 x.st.seq, .int .i64 x.kind, .int .i64 x.box.lo.x, .int .i64 x.box.lo.y, .int .i64 x.box.lo.z, .int .i64 x.box.hi.x, .int .i64 x.box.hi.y, .int .i64 x.box.hi.z, .int .i64 x.at_.x, .int .i64 x.at_.y, .int .i64 x.at_.z, .int .i64 x.turn, .int .i64 x.cell, .int .i64 x.size] : Value) = V0
 go_wp2_with fail
 ((refine (HD.out _).mono ?_); rintro e wx ⟨rfl, xx⟩; have xz := xx.size; (try simp only [World.size_alloc_, World.size_setCell_] at xz); obtain ⟨B0, cB0, fB0, lB0⟩ := Arr.look (w' := wx) B0 byX)
 go_wp2_with fail
 ((refine (HM.out _).mono ?_); rintro e wx ⟨rfl, xx⟩; have xz := xx.size; (try simp only [World.size_alloc_, World.size_setCell_] at xz); obtain ⟨B0, cB0, fB0, lB0⟩ := Arr.look (w' := wx) B0 byX)
 go_wp2_with (first | (refine ldB 29 3 B0 Tryz.underlying29 ?_) | (refine ldB 29 3 (B0.alloc _) Tryz.underlying29 ?_) | (refine ldB 29 3 ((B0.alloc _).alloc _) Tryz.underlying29 ?_))
 ((refine (HF.out _ ?_).mono ?_); (exact byX); rintro e wx ⟨rfl, xx⟩; have xz := xx.size; (try simp only [World.size_alloc_, World.size_setCell_] at xz); obtain ⟨B0, cB0, fB0, lB0⟩ := Arr.look (w' := wx) B0 byX)
 go_wp2_with fail
 ((refine (Cube_any _ _).mono ?_); rintro e wa ⟨rfl, xx⟩; have xz := xx.size; (try simp only [World.size_alloc_, World.size_setCell_] at xz); obtain ⟨B0, cB0, fB0, lB0⟩ := Arr.look (w' := wa) B0 byX)
 go_wp2_with fail
 ((refine (HW.out _).mono ?_); rintro e wb ⟨rfl, xx⟩; have xz := xx.size; (try simp only [World.size_alloc_] at xz); obtain ⟨B0, cB0, fB0, lB0⟩ := Arr.look (w' := wb) B0 byX)
 have B1 := (Arr.new wa 27 [.int .i64 (cubeB S).lo.x, .int .i64 (cubeB S).lo.y, .int .i64 (cubeB S).lo.z, .int .i64 (cubeB S).hi.x, .int .i64 (cubeB S).hi.y, .int .i64 (cubeB S).hi.z]).ext xx
 simp only [cubeB] at B1
 have cB1 := B1.cell
 have fB1 := B1.frozen
 have lB1 := B1.lt
 go_wp2_with (first | (refine ldB 29 3 B0 Tryz.underlying29 ?_) | (refine ldB 29 3 (B0.alloc _) Tryz.underlying29 ?_) | (refine ldB 29 3 ((B0.alloc _).alloc _) Tryz.underlying29 ?_))
 ((refine (HZ.out _).mono ?_); rintro e wx ⟨rfl, xx⟩; have xz := xx.size; (try simp only [World.size_alloc_] at xz); obtain ⟨B0, cB0, fB0, lB0⟩ := Arr.look (w' := wx) B0 byX; obtain ⟨B1, cB1, fB1, lB1⟩ := Arr.look (w' := wx) B1 byX)
 have B2 := (Arr.new wb 25 [.int .i64 (addP x.box.hi (scaleP ⟨1, 1, 1⟩ (-1))).x, .int .i64 (addP x.box.hi (scaleP ⟨1, 1, 1⟩ (-1))).y, .int .i64 (addP x.box.hi (scaleP ⟨1, 1, 1⟩ (-1))).z]).ext xx
 have cB2 := B2.cell
 have fB2 := B2.frozen
 have lB2 := B2.lt
 go_wp2_with fail
 ((refine (HU.out 1 _ (by omega) HE1.out _ ?_).mono ?_); (exact byX); rintro e wx ⟨rfl, xx⟩; have xz := xx.size; (try simp only [World.size_alloc_, World.size_setCell_] at xz); obtain ⟨B0, cB0, fB0, lB0⟩ := Arr.look (w' := wx) B0 byX; obtain ⟨B1, cB1, fB1, lB1⟩ := Arr.look (w' := wx) B1 byX; obtain ⟨B2, cB2, fB2, lB2⟩ := Arr.look (w' := wx) B2 byX)
 go_wp2_with fail
 ((refine (HE.out _).mono ?_); rintro e wx ⟨rfl, xx⟩; have xz := xx.size; (try simp only [World.size_alloc_, World.size_setCell_] at xz); obtain ⟨B0, cB0, fB0, lB0⟩ := Arr.look (w' := wx) B0 byX; obtain ⟨B1, cB1, fB1, lB1⟩ := Arr.look (w' := wx) B1 byX; obtain ⟨B2, cB2, fB2, lB2⟩ := Arr.look (w' := wx) B2 byX)
 cases be
 case true =>
  go_wp2
  go_ret
  exact ⟨ret_int (by rw [HB.out]; simp), byX⟩
 go_wp2_with (first | (refine ldB 27 7 B1 Tryz.underlying27 ?_) | (refine ldB 27 7 (B1.alloc _) Tryz.underlying27 ?_) | (refine ldB 27 7 ((B1.alloc _).alloc _) Tryz.underlying27 ?_))
 ((refine (HL.out _).mono ?_); rintro e wx ⟨rfl, xx⟩; have xz := xx.size; (try simp only [World.size_alloc_, World.size_setCell_] at xz); obtain ⟨B0, cB0, fB0, lB0⟩ := Arr.look (w' := wx) B0 byX; obtain ⟨B1, cB1, fB1, lB1⟩ := Arr.look (w' := wx) B1 byX; obtain ⟨B2, cB2, fB2, lB2⟩ := Arr.look (w' := wx) B2 byX)
 cases bl
 case false =>
  go_wp2
  go_ret
  exact ⟨ret_int (by rw [HB.out]; simp), byX⟩
 go_wp2_with (first | (refine ldB 27 7 B1 Tryz.underlying27 ?_) | (refine ldB 27 7 (B1.alloc _) Tryz.underlying27 ?_) | (refine ldB 27 7 ((B1.alloc _).alloc _) Tryz.underlying27 ?_))
 ((refine (HX.out _).mono ?_); rintro e wx ⟨rfl, xx⟩; have xz := xx.size; (try simp only [World.size_alloc_, World.size_setCell_] at xz); obtain ⟨B0, cB0, fB0, lB0⟩ := Arr.look (w' := wx) B0 byX; obtain ⟨B1, cB1, fB1, lB1⟩ := Arr.look (w' := wx) B1 byX; obtain ⟨B2, cB2, fB2, lB2⟩ := Arr.look (w' := wx) B2 byX)
 cases bx
 case false =>
  go_wp2
  go_ret
  exact ⟨ret_int (by rw [HB.out]; simp), byX⟩
 go_wp2_with fail
 ((refine (HU.out 2 _ (by omega) HE2.out _ ?_).mono ?_); (exact byX); rintro e wx ⟨rfl, xx⟩; have xz := xx.size; (try simp only [World.size_alloc_, World.size_setCell_] at xz); obtain ⟨B0, cB0, fB0, lB0⟩ := Arr.look (w' := wx) B0 byX; obtain ⟨B1, cB1, fB1, lB1⟩ := Arr.look (w' := wx) B1 byX; obtain ⟨B2, cB2, fB2, lB2⟩ := Arr.look (w' := wx) B2 byX)
 go_wp2_with (first | (refine ldB 27 7 B1 Tryz.underlying27 ?_) | (refine ldB 27 7 (B1.alloc _) Tryz.underlying27 ?_) | (refine ldB 27 7 ((B1.alloc _).alloc _) Tryz.underlying27 ?_))
 ((refine (HA.out _).mono ?_); rintro e wx ⟨rfl, xx⟩; have xz := xx.size; (try simp only [World.size_alloc_, World.size_setCell_] at xz); obtain ⟨B0, cB0, fB0, lB0⟩ := Arr.look (w' := wx) B0 byX; obtain ⟨B1, cB1, fB1, lB1⟩ := Arr.look (w' := wx) B1 byX; obtain ⟨B2, cB2, fB2, lB2⟩ := Arr.look (w' := wx) B2 byX)
 cases ba
 case false =>
  go_wp2
  go_ret
  exact ⟨ret_int (by rw [HB.out]; simp), byX⟩
 go_wp2_with fail
 ((refine (HT.out _).mono ?_); rintro e wx ⟨rfl, xx⟩; have xz := xx.size; (try simp only [World.size_alloc_, World.size_setCell_] at xz); obtain ⟨B0, cB0, fB0, lB0⟩ := Arr.look (w' := wx) B0 byX; obtain ⟨B1, cB1, fB1, lB1⟩ := Arr.look (w' := wx) B1 byX; obtain ⟨B2, cB2, fB2, lB2⟩ := Arr.look (w' := wx) B2 byX)
 cases bt
 case false =>
  go_wp2
  go_ret
  exact ⟨ret_int (by rw [HB.out]; simp), byX⟩
 go_wp2_with fail
 ((refine (HG.out _).mono ?_); rintro e wx ⟨rfl, xx⟩; have xz := xx.size; (try simp only [World.size_alloc_, World.size_setCell_] at xz); obtain ⟨B0, cB0, fB0, lB0⟩ := Arr.look (w' := wx) B0 byX; obtain ⟨B1, cB1, fB1, lB1⟩ := Arr.look (w' := wx) B1 byX; obtain ⟨B2, cB2, fB2, lB2⟩ := Arr.look (w' := wx) B2 byX)
 cases bc
 case false =>
  go_wp2
  go_ret
  exact ⟨ret_int (by rw [HB.out]; simp), byX⟩
 go_wp2_with fail
 ((refine (HS.out _).mono ?_); rintro e wx ⟨rfl, xx⟩; have xz := xx.size; (try simp only [World.size_alloc_, World.size_setCell_] at xz); obtain ⟨B0, cB0, fB0, lB0⟩ := Arr.look (w' := wx) B0 byX; obtain ⟨B1, cB1, fB1, lB1⟩ := Arr.look (w' := wx) B1 byX; obtain ⟨B2, cB2, fB2, lB2⟩ := Arr.look (w' := wx) B2 byX)
 cases bs
 case false =>
  go_wp2
  go_ret
  exact ⟨ret_int (by rw [HB.out]; simp), byX⟩
 go_wp2
 go_ret
 exact ⟨ret_int (by rw [HB.out]; simp), byX⟩

set_option maxRecDepth 100000 in
set_option maxHeartbeats 8000000 in
theorem Check_6 (x : Ed) (d m : Int) (w : World) (hR : RowsIn w) (hd : 2 ≤ d ∧ d ≤ 14) (hm : 1 ≤ m ∧ m ≤ 256) (hf : formedE x = true) (e1 : usesF x.kind 1 = false) (e2 : usesF x.kind 2 = false) (hk : 1 ≤ x.kind ∧ x.kind ≤ 8) :
    Calls Tryz.prog 11 #[.agg #[.int .i64 x.st.tick, .int .i64 x.st.clock, .int .i64 x.st.site, .int .i64 x.st.seq, .int .i64 x.kind, .int .i64 x.box.lo.x, .int .i64 x.box.lo.y, .int .i64 x.box.lo.z, .int .i64 x.box.hi.x, .int .i64 x.box.hi.y, .int .i64 x.box.hi.z, .int .i64 x.at_.x, .int .i64 x.at_.y, .int .i64 x.at_.z, .int .i64 x.turn, .int .i64 x.cell, .int .i64 x.size], .int .i64 d, .int .i64 m] w fun e w' => e = .returned (.int .i64 (checkE x d m)) ∧ Ext w w' := by
 have HF := Lib.hid (fun (w' : World) (hx : Ext w w') => hf ▸ Formed_any x w' (hR.ext hx))
 have HD := Lib.hid (withinE_is d 2 14 true (decide_eq_true hd))
 have HM := Lib.hid (withinE_is m 1 256 true (decide_eq_true hm))
 have hv : validS x.st = true := by
  have h := formedE_def x
  rw [hf] at h
  cases hq : validS x.st
  · rw [hq] at h; cases h
  · rfl
 obtain ⟨_, _, _, hs1, hs2⟩ := (validS_iff x.st).1 hv
 have HZ := Lib.hid (fun w' : World => sizes_any x w' hs1 hs2)
 have HC : checkE x d m = if badE x (2 ^ d.toNat) m then 1 else 0 := by
  unfold checkE; rw [decide_eq_true hd, decide_eq_true hm, hf]; rfl
 have hb := badE_def x (2 ^ d.toNat) m
 have hsh := shl_run d hd
 obtain ⟨S, hS⟩ : ∃ S : Int, (2 : Int) ^ d.toNat = S := ⟨_, rfl⟩
 rw [hS] at HC hb hsh
 obtain ⟨R, hRR⟩ : ∃ R : Int, R = (if badE x S m then 1 else 0) := ⟨_, rfl⟩
 rw [HC, ← hRR]
 have HE := Lib.hid (fun w' : World => Empty_any x.box w')
 have HL := Lib.hid (fun w' : World => In_any x.box.lo (cubeB S) w')
 have HA := Lib.hid (fun w' : World => In_any x.at_ (cubeB S) w')
 have HX := Lib.hid (fun w' : World => In_any (lastP x.box) (cubeB S) w')
 have HW := Lib.hid (fun w' : World => Sub_any x.box.hi ⟨1, 1, 1⟩ w')
 have HU := Lib.hid (fun (f : Int) (b : Bool) (hf : f = 1 ∨ f = 2 ∨ f = 4 ∨ f = 8 ∨ f = 16) (hb : usesF x.kind f = b) (w' : World) (hx : Ext w w') => uses_is x.kind f b (by omega) hf hb w' (hR.ext hx))
 generalize emptyB x.box = be at hb HE
 generalize inP x.box.lo (cubeB S) = bl at hb HL
 generalize inP x.at_ (cubeB S) = ba at hb HA
 generalize inP (lastP x.box) (cubeB S) = bx at hb HX
 have HT := Lib.hid (withinE_is x.turn 0 47 _ rfl)
 have HG := Lib.hid (withinE_is x.cell 0 (m - 1) _ rfl)
 have HS := Lib.hid (withinE_is x.size (leastE x) (mostE x) _ rfl)
 generalize decide (0 ≤ x.turn ∧ x.turn ≤ 47) = bt at hb HT
 generalize decide (0 ≤ x.cell ∧ x.cell ≤ m - 1) = bc at hb HG
 generalize decide (leastE x ≤ x.size ∧ x.size ≤ mostE x) = bs at hb HS
 rw [e1, e2] at hb
 rw [hb] at hRR
 have HB := Lib.hid hRR
 have HE1 := Lib.hid e1
 have HE2 := Lib.hid e2
 have hm1 : 0 ≤ m - 1 := by omega
 clear hb hRR e1 e2 hv HC hS hf hk hs1 hs2 hd
 simp only [cubeB] at HL HA HX
 simp only [lastP] at HX
 go_enter Tryz.func11, Tryz.ntmps11
 go_upto_region 1 with fail
 obtain ⟨W0, hW⟩ : ∃ W, W = w.alloc (.cells #[.int .i64 x.st.tick, .int .i64 x.st.clock, .int .i64 x.st.site, .int .i64 x.st.seq, .int .i64 x.kind, .int .i64 x.box.lo.x, .int .i64 x.box.lo.y, .int .i64 x.box.lo.z, .int .i64 x.box.hi.x, .int .i64 x.box.hi.y, .int .i64 x.box.hi.z, .int .i64 x.at_.x, .int .i64 x.at_.y, .int .i64 x.at_.z, .int .i64 x.turn, .int .i64 x.cell, .int .i64 x.size] 29) := ⟨_, rfl⟩
 have hx0 : Ext w W0 := by rw [hW]; exact (Ext.refl w).alloc _
 have B0 : Arr W0 w.heap.size 29 [.int .i64 x.st.tick, .int .i64 x.st.clock, .int .i64 x.st.site, .int .i64 x.st.seq, .int .i64 x.kind, .int .i64 x.box.lo.x, .int .i64 x.box.lo.y, .int .i64 x.box.lo.z, .int .i64 x.box.hi.x, .int .i64 x.box.hi.y, .int .i64 x.box.hi.z, .int .i64 x.at_.x, .int .i64 x.at_.y, .int .i64 x.at_.z, .int .i64 x.turn, .int .i64 x.cell, .int .i64 x.size] := by rw [hW]; exact Arr.new w _ _
 rw [← hW]
 clear hW
 have cB0 := B0.cell
 have fB0 := B0.frozen
 have lB0 := B0.lt
 generalize (.agg #[.int .i64 x.st.tick, .int .i64 x.st.clock, .int .i64 x.st.site, .int .i64 x.st.seq, .int .i64 x.kind, .int .i64 x.box.lo.x, .int .i64 x.box.lo.y, .int .i64 x.box.lo.z, .int .i64 x.box.hi.x, .int .i64 x.box.hi.y, .int .i64 x.box.hi.z, .int .i64 x.at_.x, .int .i64 x.at_.y, .int .i64 x.at_.z, .int .i64 x.turn, .int .i64 x.cell, .int .i64 x.size] : Value) = V0
 go_wp2_with fail
 ((refine (HD.out _).mono ?_); rintro e wx ⟨rfl, xx⟩; have xz := xx.size; (try simp only [World.size_alloc_, World.size_setCell_] at xz); obtain ⟨B0, cB0, fB0, lB0⟩ := Arr.look (w' := wx) B0 byX)
 go_wp2_with fail
 ((refine (HM.out _).mono ?_); rintro e wx ⟨rfl, xx⟩; have xz := xx.size; (try simp only [World.size_alloc_, World.size_setCell_] at xz); obtain ⟨B0, cB0, fB0, lB0⟩ := Arr.look (w' := wx) B0 byX)
 go_wp2_with (first | (refine ldB 29 3 B0 Tryz.underlying29 ?_) | (refine ldB 29 3 (B0.alloc _) Tryz.underlying29 ?_) | (refine ldB 29 3 ((B0.alloc _).alloc _) Tryz.underlying29 ?_))
 ((refine (HF.out _ ?_).mono ?_); (exact byX); rintro e wx ⟨rfl, xx⟩; have xz := xx.size; (try simp only [World.size_alloc_, World.size_setCell_] at xz); obtain ⟨B0, cB0, fB0, lB0⟩ := Arr.look (w' := wx) B0 byX)
 go_wp2_with fail
 ((refine (Cube_any _ _).mono ?_); rintro e wa ⟨rfl, xx⟩; have xz := xx.size; (try simp only [World.size_alloc_, World.size_setCell_] at xz); obtain ⟨B0, cB0, fB0, lB0⟩ := Arr.look (w' := wa) B0 byX)
 go_wp2_with fail
 ((refine (HW.out _).mono ?_); rintro e wb ⟨rfl, xx⟩; have xz := xx.size; (try simp only [World.size_alloc_] at xz); obtain ⟨B0, cB0, fB0, lB0⟩ := Arr.look (w' := wb) B0 byX)
 have B1 := (Arr.new wa 27 [.int .i64 (cubeB S).lo.x, .int .i64 (cubeB S).lo.y, .int .i64 (cubeB S).lo.z, .int .i64 (cubeB S).hi.x, .int .i64 (cubeB S).hi.y, .int .i64 (cubeB S).hi.z]).ext xx
 simp only [cubeB] at B1
 have cB1 := B1.cell
 have fB1 := B1.frozen
 have lB1 := B1.lt
 go_wp2_with (first | (refine ldB 29 3 B0 Tryz.underlying29 ?_) | (refine ldB 29 3 (B0.alloc _) Tryz.underlying29 ?_) | (refine ldB 29 3 ((B0.alloc _).alloc _) Tryz.underlying29 ?_))
 ((refine (HZ.out _).mono ?_); rintro e wx ⟨rfl, xx⟩; have xz := xx.size; (try simp only [World.size_alloc_] at xz); obtain ⟨B0, cB0, fB0, lB0⟩ := Arr.look (w' := wx) B0 byX; obtain ⟨B1, cB1, fB1, lB1⟩ := Arr.look (w' := wx) B1 byX)
 have B2 := (Arr.new wb 25 [.int .i64 (addP x.box.hi (scaleP ⟨1, 1, 1⟩ (-1))).x, .int .i64 (addP x.box.hi (scaleP ⟨1, 1, 1⟩ (-1))).y, .int .i64 (addP x.box.hi (scaleP ⟨1, 1, 1⟩ (-1))).z]).ext xx
 have cB2 := B2.cell
 have fB2 := B2.frozen
 have lB2 := B2.lt
 go_wp2_with fail
 ((refine (HU.out 1 _ (by omega) HE1.out _ ?_).mono ?_); (exact byX); rintro e wx ⟨rfl, xx⟩; have xz := xx.size; (try simp only [World.size_alloc_, World.size_setCell_] at xz); obtain ⟨B0, cB0, fB0, lB0⟩ := Arr.look (w' := wx) B0 byX; obtain ⟨B1, cB1, fB1, lB1⟩ := Arr.look (w' := wx) B1 byX; obtain ⟨B2, cB2, fB2, lB2⟩ := Arr.look (w' := wx) B2 byX)
 go_wp2_with fail
 ((refine (HU.out 2 _ (by omega) HE2.out _ ?_).mono ?_); (exact byX); rintro e wx ⟨rfl, xx⟩; have xz := xx.size; (try simp only [World.size_alloc_, World.size_setCell_] at xz); obtain ⟨B0, cB0, fB0, lB0⟩ := Arr.look (w' := wx) B0 byX; obtain ⟨B1, cB1, fB1, lB1⟩ := Arr.look (w' := wx) B1 byX; obtain ⟨B2, cB2, fB2, lB2⟩ := Arr.look (w' := wx) B2 byX)
 go_wp2_with fail
 ((refine (HT.out _).mono ?_); rintro e wx ⟨rfl, xx⟩; have xz := xx.size; (try simp only [World.size_alloc_, World.size_setCell_] at xz); obtain ⟨B0, cB0, fB0, lB0⟩ := Arr.look (w' := wx) B0 byX; obtain ⟨B1, cB1, fB1, lB1⟩ := Arr.look (w' := wx) B1 byX; obtain ⟨B2, cB2, fB2, lB2⟩ := Arr.look (w' := wx) B2 byX)
 cases bt
 case false =>
  go_wp2
  go_ret
  exact ⟨ret_int (by rw [HB.out]; simp), byX⟩
 go_wp2_with fail
 ((refine (HG.out _).mono ?_); rintro e wx ⟨rfl, xx⟩; have xz := xx.size; (try simp only [World.size_alloc_, World.size_setCell_] at xz); obtain ⟨B0, cB0, fB0, lB0⟩ := Arr.look (w' := wx) B0 byX; obtain ⟨B1, cB1, fB1, lB1⟩ := Arr.look (w' := wx) B1 byX; obtain ⟨B2, cB2, fB2, lB2⟩ := Arr.look (w' := wx) B2 byX)
 cases bc
 case false =>
  go_wp2
  go_ret
  exact ⟨ret_int (by rw [HB.out]; simp), byX⟩
 go_wp2_with fail
 ((refine (HS.out _).mono ?_); rintro e wx ⟨rfl, xx⟩; have xz := xx.size; (try simp only [World.size_alloc_, World.size_setCell_] at xz); obtain ⟨B0, cB0, fB0, lB0⟩ := Arr.look (w' := wx) B0 byX; obtain ⟨B1, cB1, fB1, lB1⟩ := Arr.look (w' := wx) B1 byX; obtain ⟨B2, cB2, fB2, lB2⟩ := Arr.look (w' := wx) B2 byX)
 cases bs
 case false =>
  go_wp2
  go_ret
  exact ⟨ret_int (by rw [HB.out]; simp), byX⟩
 go_wp2
 go_ret
 exact ⟨ret_int (by rw [HB.out]; simp), byX⟩

theorem Check_any (x : Ed) (d m : Int) (w : World) (hR : RowsIn w) :
    Calls Tryz.prog 11 #[.agg #[.int .i64 x.st.tick, .int .i64 x.st.clock, .int .i64 x.st.site, .int .i64 x.st.seq, .int .i64 x.kind, .int .i64 x.box.lo.x, .int .i64 x.box.lo.y, .int .i64 x.box.lo.z, .int .i64 x.box.hi.x, .int .i64 x.box.hi.y, .int .i64 x.box.hi.z, .int .i64 x.at_.x, .int .i64 x.at_.y, .int .i64 x.at_.z, .int .i64 x.turn, .int .i64 x.cell, .int .i64 x.size], .int .i64 d, .int .i64 m] w fun e w' => e = .returned (.int .i64 (checkE x d m)) ∧ Ext w w' := by
 by_cases h : ¬ (2 ≤ d ∧ d ≤ 14) ∨ ¬ (1 ≤ m ∧ m ≤ 256) ∨ formedE x = false
 · exact Check_out x d m w hR h
 · have hd : 2 ≤ d ∧ d ≤ 14 := Classical.byContradiction fun hh => h (.inl hh)
   have hm : 1 ≤ m ∧ m ≤ 256 := Classical.byContradiction fun hh => h (.inr (.inl hh))
   have hf : formedE x = true := by
    cases hq : formedE x
    · exact absurd (.inr (.inr hq)) h
    · rfl
   have hk : 1 ≤ x.kind ∧ x.kind ≤ 8 := by
    have h := formedE_def x
    rw [hf] at h
    cases hq : decide (1 ≤ x.kind ∧ x.kind ≤ 8)
    · rw [hq] at h; simp at h
    · exact of_decide_eq_true hq
   cases e1 : usesF x.kind 1
   · cases e2 : usesF x.kind 2
     · exact Check_6 x d m w hR hd hm hf e1 e2 hk
     · exact Check_2 x d m w hR hd hm hf e1 e2 hk
   · cases e2 : usesF x.kind 2
     · exact Check_1 x d m w hR hd hm hf e1 e2 hk
     · exact Check_4 x d m w hR hd hm hf e1 e2 hk
end Go.Proofs.YtlinhgannajfpaaGreatDoor

/- Contracts of the reference's layer of edits: Formed, cube, Check. -/
namespace Go.Proofs.YtlinhgannajfpaaGreatDoor
open Go Go.RowKit

set_option maxHeartbeats 4000000 in
theorem refFormed_out (x : Ed) (w : World) (hk : ¬ (1 ≤ x.kind ∧ x.kind ≤ 8)) :
    Calls Tryz.prog 14 #[.agg #[.int .i64 x.st.tick, .int .i64 x.st.clock, .int .i64 x.st.site, .int .i64 x.st.seq, .int .i64 x.kind, .int .i64 x.box.lo.x, .int .i64 x.box.lo.y, .int .i64 x.box.lo.z, .int .i64 x.box.hi.x, .int .i64 x.box.hi.y, .int .i64 x.box.hi.z, .int .i64 x.at_.x, .int .i64 x.at_.y, .int .i64 x.at_.z, .int .i64 x.turn, .int .i64 x.cell, .int .i64 x.size]] w fun e w' => e = .returned (.bool false) ∧ Ext w w' := by
 have HV := Lib.hid (fun w => refValid24_any x.st w)
 obtain ⟨st, kind, box, at_, turn, cell, size⟩ := x
 simp only at hk HV
 have hqb := eqBx_run box zeroBx
 have hqp := eqPt_run at_ zeroPt
 simp only [zeroBx, zeroPt] at hqb hqp
 generalize decide (box = ⟨⟨0, 0, 0⟩, ⟨0, 0, 0⟩⟩) = eb at hqb
 generalize decide (at_ = ⟨0, 0, 0⟩) = ep at hqp
 have k1 : (kind == 1) = false := beq_eq_false_iff_ne.2 (by omega)
 have k2 : (kind == 2) = false := beq_eq_false_iff_ne.2 (by omega)
 have k3 : (kind == 3) = false := beq_eq_false_iff_ne.2 (by omega)
 have k4 : (kind == 4) = false := beq_eq_false_iff_ne.2 (by omega)
 have k5 : (kind == 5) = false := beq_eq_false_iff_ne.2 (by omega)
 have k6 : (kind == 6) = false := beq_eq_false_iff_ne.2 (by omega)
 have k7 : (kind == 7) = false := beq_eq_false_iff_ne.2 (by omega)
 have k8 : (kind == 8) = false := beq_eq_false_iff_ne.2 (by omega)
 clear hk
 go_enter Tryz.func14, Tryz.ntmps14
 go_wp2_with (first | (go_at_call 54; refine (HV.out _).mono ?_; rintro e wx ⟨rfl, xx⟩; obtain ⟨xc, xf, xl, xe, xn, xm⟩ := xx.look; have xz := xx.size; (try simp only [World.size_alloc_] at xz); (try (have qh := xx.one (b := w.heap.size) (by (try simp only [World.size_alloc_]); omega); obtain ⟨qc, qf, ql, qe, qn, qm⟩ := qh)); (try (have qh := xx.one (b := w.heap.size + 1) (by (try simp only [World.size_alloc_]); omega); obtain ⟨qc, qf, ql, qe, qn, qm⟩ := qh)); (try (have qh := xx.one (b := w.heap.size + 1 + 1) (by (try simp only [World.size_alloc_]); omega); obtain ⟨qc, qf, ql, qe, qn, qm⟩ := qh)); (try (have qh := xx.one (b := w.heap.size + 1 + 1 + 1) (by (try simp only [World.size_alloc_]); omega); obtain ⟨qc, qf, ql, qe, qn, qm⟩ := qh))))
 go_ret
 exact ⟨rfl, byX⟩

set_option maxHeartbeats 4000000 in
theorem refFormed_1 (x : Ed) (w : World) (hk : x.kind = 1) :
    Calls Tryz.prog 14 #[.agg #[.int .i64 x.st.tick, .int .i64 x.st.clock, .int .i64 x.st.site, .int .i64 x.st.seq, .int .i64 x.kind, .int .i64 x.box.lo.x, .int .i64 x.box.lo.y, .int .i64 x.box.lo.z, .int .i64 x.box.hi.x, .int .i64 x.box.hi.y, .int .i64 x.box.hi.z, .int .i64 x.at_.x, .int .i64 x.at_.y, .int .i64 x.at_.z, .int .i64 x.turn, .int .i64 x.cell, .int .i64 x.size]] w fun e w' => e = .returned (.bool (formedE x)) ∧ Ext w w' := by
 have HF := Lib.hid (formedE_def x)
 have HV := Lib.hid (fun w => refValid24_any x.st w)
 obtain ⟨st, kind, box, at_, turn, cell, size⟩ := x
 simp only at hk
 subst hk
 have hqb := eqBx_run box zeroBx
 have hqp := eqPt_run at_ zeroPt
 simp only [zeroBx, zeroPt] at hqb hqp HF HV
 have hu1 : usesF 1 1 = true := rfl
 have hu2 : usesF 1 2 = false := rfl
 have hu4 : usesF 1 4 = false := rfl
 have hu8 : usesF 1 8 = true := rfl
 have hu16 : usesF 1 16 = false := rfl
 generalize validS st = bv at HF HV
 simp only [hu1, hu2, hu4, hu8, hu16] at HF
 go_enter Tryz.func14, Tryz.ntmps14
 go_wp2_with (first | (go_at_call 54; refine (HV.out _).mono ?_; rintro e wx ⟨rfl, xx⟩; obtain ⟨xc, xf, xl, xe, xn, xm⟩ := xx.look; have xz := xx.size; (try simp only [World.size_alloc_] at xz); (try (have qh := xx.one (b := w.heap.size) (by (try simp only [World.size_alloc_]); omega); obtain ⟨qc, qf, ql, qe, qn, qm⟩ := qh)); (try (have qh := xx.one (b := w.heap.size + 1) (by (try simp only [World.size_alloc_]); omega); obtain ⟨qc, qf, ql, qe, qn, qm⟩ := qh)); (try (have qh := xx.one (b := w.heap.size + 1 + 1) (by (try simp only [World.size_alloc_]); omega); obtain ⟨qc, qf, ql, qe, qn, qm⟩ := qh)); (try (have qh := xx.one (b := w.heap.size + 1 + 1 + 1) (by (try simp only [World.size_alloc_]); omega); obtain ⟨qc, qf, ql, qe, qn, qm⟩ := qh))))
 all_goals
  go_ret
  rw [HF.out]
  exact ⟨ret_bool (by first | rfl | (simp [*]; done) | (rw [Bool.eq_iff_iff]; simp [*]; done)), byX⟩

set_option maxHeartbeats 4000000 in
theorem refFormed_2 (x : Ed) (w : World) (hk : x.kind = 2) :
    Calls Tryz.prog 14 #[.agg #[.int .i64 x.st.tick, .int .i64 x.st.clock, .int .i64 x.st.site, .int .i64 x.st.seq, .int .i64 x.kind, .int .i64 x.box.lo.x, .int .i64 x.box.lo.y, .int .i64 x.box.lo.z, .int .i64 x.box.hi.x, .int .i64 x.box.hi.y, .int .i64 x.box.hi.z, .int .i64 x.at_.x, .int .i64 x.at_.y, .int .i64 x.at_.z, .int .i64 x.turn, .int .i64 x.cell, .int .i64 x.size]] w fun e w' => e = .returned (.bool (formedE x)) ∧ Ext w w' := by
 have HF := Lib.hid (formedE_def x)
 have HV := Lib.hid (fun w => refValid24_any x.st w)
 obtain ⟨st, kind, box, at_, turn, cell, size⟩ := x
 simp only at hk
 subst hk
 have hqb := eqBx_run box zeroBx
 have hqp := eqPt_run at_ zeroPt
 simp only [zeroBx, zeroPt] at hqb hqp HF HV
 have hu1 : usesF 2 1 = false := rfl
 have hu2 : usesF 2 2 = true := rfl
 have hu4 : usesF 2 4 = false := rfl
 have hu8 : usesF 2 8 = true := rfl
 have hu16 : usesF 2 16 = true := rfl
 generalize validS st = bv at HF HV
 simp only [hu1, hu2, hu4, hu8, hu16] at HF
 go_enter Tryz.func14, Tryz.ntmps14
 go_wp2_with (first | (go_at_call 54; refine (HV.out _).mono ?_; rintro e wx ⟨rfl, xx⟩; obtain ⟨xc, xf, xl, xe, xn, xm⟩ := xx.look; have xz := xx.size; (try simp only [World.size_alloc_] at xz); (try (have qh := xx.one (b := w.heap.size) (by (try simp only [World.size_alloc_]); omega); obtain ⟨qc, qf, ql, qe, qn, qm⟩ := qh)); (try (have qh := xx.one (b := w.heap.size + 1) (by (try simp only [World.size_alloc_]); omega); obtain ⟨qc, qf, ql, qe, qn, qm⟩ := qh)); (try (have qh := xx.one (b := w.heap.size + 1 + 1) (by (try simp only [World.size_alloc_]); omega); obtain ⟨qc, qf, ql, qe, qn, qm⟩ := qh)); (try (have qh := xx.one (b := w.heap.size + 1 + 1 + 1) (by (try simp only [World.size_alloc_]); omega); obtain ⟨qc, qf, ql, qe, qn, qm⟩ := qh))))
 all_goals
  go_ret
  rw [HF.out]
  exact ⟨ret_bool (by first | rfl | (simp [*]; done) | (rw [Bool.eq_iff_iff]; simp [*]; done)), byX⟩

set_option maxHeartbeats 4000000 in
theorem refFormed_3 (x : Ed) (w : World) (hk : x.kind = 3) :
    Calls Tryz.prog 14 #[.agg #[.int .i64 x.st.tick, .int .i64 x.st.clock, .int .i64 x.st.site, .int .i64 x.st.seq, .int .i64 x.kind, .int .i64 x.box.lo.x, .int .i64 x.box.lo.y, .int .i64 x.box.lo.z, .int .i64 x.box.hi.x, .int .i64 x.box.hi.y, .int .i64 x.box.hi.z, .int .i64 x.at_.x, .int .i64 x.at_.y, .int .i64 x.at_.z, .int .i64 x.turn, .int .i64 x.cell, .int .i64 x.size]] w fun e w' => e = .returned (.bool (formedE x)) ∧ Ext w w' := by
 have HF := Lib.hid (formedE_def x)
 have HV := Lib.hid (fun w => refValid24_any x.st w)
 obtain ⟨st, kind, box, at_, turn, cell, size⟩ := x
 simp only at hk
 subst hk
 have hqb := eqBx_run box zeroBx
 have hqp := eqPt_run at_ zeroPt
 simp only [zeroBx, zeroPt] at hqb hqp HF HV
 have hu1 : usesF 3 1 = true := rfl
 have hu2 : usesF 3 2 = false := rfl
 have hu4 : usesF 3 4 = true := rfl
 have hu8 : usesF 3 8 = true := rfl
 have hu16 : usesF 3 16 = false := rfl
 generalize validS st = bv at HF HV
 simp only [hu1, hu2, hu4, hu8, hu16] at HF
 go_enter Tryz.func14, Tryz.ntmps14
 go_wp2_with (first | (go_at_call 54; refine (HV.out _).mono ?_; rintro e wx ⟨rfl, xx⟩; obtain ⟨xc, xf, xl, xe, xn, xm⟩ := xx.look; have xz := xx.size; (try simp only [World.size_alloc_] at xz); (try (have qh := xx.one (b := w.heap.size) (by (try simp only [World.size_alloc_]); omega); obtain ⟨qc, qf, ql, qe, qn, qm⟩ := qh)); (try (have qh := xx.one (b := w.heap.size + 1) (by (try simp only [World.size_alloc_]); omega); obtain ⟨qc, qf, ql, qe, qn, qm⟩ := qh)); (try (have qh := xx.one (b := w.heap.size + 1 + 1) (by (try simp only [World.size_alloc_]); omega); obtain ⟨qc, qf, ql, qe, qn, qm⟩ := qh)); (try (have qh := xx.one (b := w.heap.size + 1 + 1 + 1) (by (try simp only [World.size_alloc_]); omega); obtain ⟨qc, qf, ql, qe, qn, qm⟩ := qh))))
 all_goals
  go_ret
  rw [HF.out]
  exact ⟨ret_bool (by first | rfl | (simp [*]; done) | (rw [Bool.eq_iff_iff]; simp [*]; done)), byX⟩

set_option maxHeartbeats 4000000 in
theorem refFormed_4 (x : Ed) (w : World) (hk : x.kind = 4) :
    Calls Tryz.prog 14 #[.agg #[.int .i64 x.st.tick, .int .i64 x.st.clock, .int .i64 x.st.site, .int .i64 x.st.seq, .int .i64 x.kind, .int .i64 x.box.lo.x, .int .i64 x.box.lo.y, .int .i64 x.box.lo.z, .int .i64 x.box.hi.x, .int .i64 x.box.hi.y, .int .i64 x.box.hi.z, .int .i64 x.at_.x, .int .i64 x.at_.y, .int .i64 x.at_.z, .int .i64 x.turn, .int .i64 x.cell, .int .i64 x.size]] w fun e w' => e = .returned (.bool (formedE x)) ∧ Ext w w' := by
 have HF := Lib.hid (formedE_def x)
 have HV := Lib.hid (fun w => refValid24_any x.st w)
 obtain ⟨st, kind, box, at_, turn, cell, size⟩ := x
 simp only at hk
 subst hk
 have hqb := eqBx_run box zeroBx
 have hqp := eqPt_run at_ zeroPt
 simp only [zeroBx, zeroPt] at hqb hqp HF HV
 have hu1 : usesF 4 1 = true := rfl
 have hu2 : usesF 4 2 = true := rfl
 have hu4 : usesF 4 4 = true := rfl
 have hu8 : usesF 4 8 = false := rfl
 have hu16 : usesF 4 16 = false := rfl
 generalize validS st = bv at HF HV
 simp only [hu1, hu2, hu4, hu8, hu16] at HF
 go_enter Tryz.func14, Tryz.ntmps14
 go_wp2_with (first | (go_at_call 54; refine (HV.out _).mono ?_; rintro e wx ⟨rfl, xx⟩; obtain ⟨xc, xf, xl, xe, xn, xm⟩ := xx.look; have xz := xx.size; (try simp only [World.size_alloc_] at xz); (try (have qh := xx.one (b := w.heap.size) (by (try simp only [World.size_alloc_]); omega); obtain ⟨qc, qf, ql, qe, qn, qm⟩ := qh)); (try (have qh := xx.one (b := w.heap.size + 1) (by (try simp only [World.size_alloc_]); omega); obtain ⟨qc, qf, ql, qe, qn, qm⟩ := qh)); (try (have qh := xx.one (b := w.heap.size + 1 + 1) (by (try simp only [World.size_alloc_]); omega); obtain ⟨qc, qf, ql, qe, qn, qm⟩ := qh)); (try (have qh := xx.one (b := w.heap.size + 1 + 1 + 1) (by (try simp only [World.size_alloc_]); omega); obtain ⟨qc, qf, ql, qe, qn, qm⟩ := qh))))
 all_goals
  go_ret
  rw [HF.out]
  exact ⟨ret_bool (by first | rfl | (simp [*]; done) | (rw [Bool.eq_iff_iff]; simp [*]; done)), byX⟩

set_option maxHeartbeats 4000000 in
theorem refFormed_5 (x : Ed) (w : World) (hk : x.kind = 5) :
    Calls Tryz.prog 14 #[.agg #[.int .i64 x.st.tick, .int .i64 x.st.clock, .int .i64 x.st.site, .int .i64 x.st.seq, .int .i64 x.kind, .int .i64 x.box.lo.x, .int .i64 x.box.lo.y, .int .i64 x.box.lo.z, .int .i64 x.box.hi.x, .int .i64 x.box.hi.y, .int .i64 x.box.hi.z, .int .i64 x.at_.x, .int .i64 x.at_.y, .int .i64 x.at_.z, .int .i64 x.turn, .int .i64 x.cell, .int .i64 x.size]] w fun e w' => e = .returned (.bool (formedE x)) ∧ Ext w w' := by
 have HF := Lib.hid (formedE_def x)
 have HV := Lib.hid (fun w => refValid24_any x.st w)
 obtain ⟨st, kind, box, at_, turn, cell, size⟩ := x
 simp only at hk
 subst hk
 have hqb := eqBx_run box zeroBx
 have hqp := eqPt_run at_ zeroPt
 simp only [zeroBx, zeroPt] at hqb hqp HF HV
 have hu1 : usesF 5 1 = false := rfl
 have hu2 : usesF 5 2 = true := rfl
 have hu4 : usesF 5 4 = false := rfl
 have hu8 : usesF 5 8 = true := rfl
 have hu16 : usesF 5 16 = true := rfl
 generalize validS st = bv at HF HV
 simp only [hu1, hu2, hu4, hu8, hu16] at HF
 go_enter Tryz.func14, Tryz.ntmps14
 go_wp2_with (first | (go_at_call 54; refine (HV.out _).mono ?_; rintro e wx ⟨rfl, xx⟩; obtain ⟨xc, xf, xl, xe, xn, xm⟩ := xx.look; have xz := xx.size; (try simp only [World.size_alloc_] at xz); (try (have qh := xx.one (b := w.heap.size) (by (try simp only [World.size_alloc_]); omega); obtain ⟨qc, qf, ql, qe, qn, qm⟩ := qh)); (try (have qh := xx.one (b := w.heap.size + 1) (by (try simp only [World.size_alloc_]); omega); obtain ⟨qc, qf, ql, qe, qn, qm⟩ := qh)); (try (have qh := xx.one (b := w.heap.size + 1 + 1) (by (try simp only [World.size_alloc_]); omega); obtain ⟨qc, qf, ql, qe, qn, qm⟩ := qh)); (try (have qh := xx.one (b := w.heap.size + 1 + 1 + 1) (by (try simp only [World.size_alloc_]); omega); obtain ⟨qc, qf, ql, qe, qn, qm⟩ := qh))))
 all_goals
  go_ret
  rw [HF.out]
  exact ⟨ret_bool (by first | rfl | (simp [*]; done) | (rw [Bool.eq_iff_iff]; simp [*]; done)), byX⟩

set_option maxHeartbeats 4000000 in
theorem refFormed_6 (x : Ed) (w : World) (hk : x.kind = 6) :
    Calls Tryz.prog 14 #[.agg #[.int .i64 x.st.tick, .int .i64 x.st.clock, .int .i64 x.st.site, .int .i64 x.st.seq, .int .i64 x.kind, .int .i64 x.box.lo.x, .int .i64 x.box.lo.y, .int .i64 x.box.lo.z, .int .i64 x.box.hi.x, .int .i64 x.box.hi.y, .int .i64 x.box.hi.z, .int .i64 x.at_.x, .int .i64 x.at_.y, .int .i64 x.at_.z, .int .i64 x.turn, .int .i64 x.cell, .int .i64 x.size]] w fun e w' => e = .returned (.bool (formedE x)) ∧ Ext w w' := by
 have HF := Lib.hid (formedE_def x)
 have HV := Lib.hid (fun w => refValid24_any x.st w)
 obtain ⟨st, kind, box, at_, turn, cell, size⟩ := x
 simp only at hk
 subst hk
 have hqb := eqBx_run box zeroBx
 have hqp := eqPt_run at_ zeroPt
 simp only [zeroBx, zeroPt] at hqb hqp HF HV
 have hu1 : usesF 6 1 = false := rfl
 have hu2 : usesF 6 2 = false := rfl
 have hu4 : usesF 6 4 = false := rfl
 have hu8 : usesF 6 8 = false := rfl
 have hu16 : usesF 6 16 = true := rfl
 generalize validS st = bv at HF HV
 simp only [hu1, hu2, hu4, hu8, hu16] at HF
 go_enter Tryz.func14, Tryz.ntmps14
 go_wp2_with (first | (go_at_call 54; refine (HV.out _).mono ?_; rintro e wx ⟨rfl, xx⟩; obtain ⟨xc, xf, xl, xe, xn, xm⟩ := xx.look; have xz := xx.size; (try simp only [World.size_alloc_] at xz); (try (have qh := xx.one (b := w.heap.size) (by (try simp only [World.size_alloc_]); omega); obtain ⟨qc, qf, ql, qe, qn, qm⟩ := qh)); (try (have qh := xx.one (b := w.heap.size + 1) (by (try simp only [World.size_alloc_]); omega); obtain ⟨qc, qf, ql, qe, qn, qm⟩ := qh)); (try (have qh := xx.one (b := w.heap.size + 1 + 1) (by (try simp only [World.size_alloc_]); omega); obtain ⟨qc, qf, ql, qe, qn, qm⟩ := qh)); (try (have qh := xx.one (b := w.heap.size + 1 + 1 + 1) (by (try simp only [World.size_alloc_]); omega); obtain ⟨qc, qf, ql, qe, qn, qm⟩ := qh))))
 all_goals
  go_ret
  rw [HF.out]
  exact ⟨ret_bool (by first | rfl | (simp [*]; done) | (rw [Bool.eq_iff_iff]; simp [*]; done)), byX⟩

set_option maxHeartbeats 4000000 in
theorem refFormed_7 (x : Ed) (w : World) (hk : x.kind = 7) :
    Calls Tryz.prog 14 #[.agg #[.int .i64 x.st.tick, .int .i64 x.st.clock, .int .i64 x.st.site, .int .i64 x.st.seq, .int .i64 x.kind, .int .i64 x.box.lo.x, .int .i64 x.box.lo.y, .int .i64 x.box.lo.z, .int .i64 x.box.hi.x, .int .i64 x.box.hi.y, .int .i64 x.box.hi.z, .int .i64 x.at_.x, .int .i64 x.at_.y, .int .i64 x.at_.z, .int .i64 x.turn, .int .i64 x.cell, .int .i64 x.size]] w fun e w' => e = .returned (.bool (formedE x)) ∧ Ext w w' := by
 have HF := Lib.hid (formedE_def x)
 have HV := Lib.hid (fun w => refValid24_any x.st w)
 obtain ⟨st, kind, box, at_, turn, cell, size⟩ := x
 simp only at hk
 subst hk
 have hqb := eqBx_run box zeroBx
 have hqp := eqPt_run at_ zeroPt
 simp only [zeroBx, zeroPt] at hqb hqp HF HV
 have hu1 : usesF 7 1 = true := rfl
 have hu2 : usesF 7 2 = false := rfl
 have hu4 : usesF 7 4 = false := rfl
 have hu8 : usesF 7 8 = false := rfl
 have hu16 : usesF 7 16 = true := rfl
 generalize validS st = bv at HF HV
 simp only [hu1, hu2, hu4, hu8, hu16] at HF
 go_enter Tryz.func14, Tryz.ntmps14
 go_wp2_with (first | (go_at_call 54; refine (HV.out _).mono ?_; rintro e wx ⟨rfl, xx⟩; obtain ⟨xc, xf, xl, xe, xn, xm⟩ := xx.look; have xz := xx.size; (try simp only [World.size_alloc_] at xz); (try (have qh := xx.one (b := w.heap.size) (by (try simp only [World.size_alloc_]); omega); obtain ⟨qc, qf, ql, qe, qn, qm⟩ := qh)); (try (have qh := xx.one (b := w.heap.size + 1) (by (try simp only [World.size_alloc_]); omega); obtain ⟨qc, qf, ql, qe, qn, qm⟩ := qh)); (try (have qh := xx.one (b := w.heap.size + 1 + 1) (by (try simp only [World.size_alloc_]); omega); obtain ⟨qc, qf, ql, qe, qn, qm⟩ := qh)); (try (have qh := xx.one (b := w.heap.size + 1 + 1 + 1) (by (try simp only [World.size_alloc_]); omega); obtain ⟨qc, qf, ql, qe, qn, qm⟩ := qh))))
 all_goals
  go_ret
  rw [HF.out]
  exact ⟨ret_bool (by first | rfl | (simp [*]; done) | (rw [Bool.eq_iff_iff]; simp [*]; done)), byX⟩

set_option maxHeartbeats 4000000 in
theorem refFormed_8 (x : Ed) (w : World) (hk : x.kind = 8) :
    Calls Tryz.prog 14 #[.agg #[.int .i64 x.st.tick, .int .i64 x.st.clock, .int .i64 x.st.site, .int .i64 x.st.seq, .int .i64 x.kind, .int .i64 x.box.lo.x, .int .i64 x.box.lo.y, .int .i64 x.box.lo.z, .int .i64 x.box.hi.x, .int .i64 x.box.hi.y, .int .i64 x.box.hi.z, .int .i64 x.at_.x, .int .i64 x.at_.y, .int .i64 x.at_.z, .int .i64 x.turn, .int .i64 x.cell, .int .i64 x.size]] w fun e w' => e = .returned (.bool (formedE x)) ∧ Ext w w' := by
 have HF := Lib.hid (formedE_def x)
 have HV := Lib.hid (fun w => refValid24_any x.st w)
 obtain ⟨st, kind, box, at_, turn, cell, size⟩ := x
 simp only at hk
 subst hk
 have hqb := eqBx_run box zeroBx
 have hqp := eqPt_run at_ zeroPt
 simp only [zeroBx, zeroPt] at hqb hqp HF HV
 have hu1 : usesF 8 1 = false := rfl
 have hu2 : usesF 8 2 = false := rfl
 have hu4 : usesF 8 4 = false := rfl
 have hu8 : usesF 8 8 = false := rfl
 have hu16 : usesF 8 16 = true := rfl
 generalize validS st = bv at HF HV
 simp only [hu1, hu2, hu4, hu8, hu16] at HF
 go_enter Tryz.func14, Tryz.ntmps14
 go_wp2_with (first | (go_at_call 54; refine (HV.out _).mono ?_; rintro e wx ⟨rfl, xx⟩; obtain ⟨xc, xf, xl, xe, xn, xm⟩ := xx.look; have xz := xx.size; (try simp only [World.size_alloc_] at xz); (try (have qh := xx.one (b := w.heap.size) (by (try simp only [World.size_alloc_]); omega); obtain ⟨qc, qf, ql, qe, qn, qm⟩ := qh)); (try (have qh := xx.one (b := w.heap.size + 1) (by (try simp only [World.size_alloc_]); omega); obtain ⟨qc, qf, ql, qe, qn, qm⟩ := qh)); (try (have qh := xx.one (b := w.heap.size + 1 + 1) (by (try simp only [World.size_alloc_]); omega); obtain ⟨qc, qf, ql, qe, qn, qm⟩ := qh)); (try (have qh := xx.one (b := w.heap.size + 1 + 1 + 1) (by (try simp only [World.size_alloc_]); omega); obtain ⟨qc, qf, ql, qe, qn, qm⟩ := qh))))
 all_goals
  go_ret
  rw [HF.out]
  exact ⟨ret_bool (by first | rfl | (simp [*]; done) | (rw [Bool.eq_iff_iff]; simp [*]; done)), byX⟩

theorem refFormed_any (x : Ed) (w : World) :
    Calls Tryz.prog 14 #[.agg #[.int .i64 x.st.tick, .int .i64 x.st.clock, .int .i64 x.st.site, .int .i64 x.st.seq, .int .i64 x.kind, .int .i64 x.box.lo.x, .int .i64 x.box.lo.y, .int .i64 x.box.lo.z, .int .i64 x.box.hi.x, .int .i64 x.box.hi.y, .int .i64 x.box.hi.z, .int .i64 x.at_.x, .int .i64 x.at_.y, .int .i64 x.at_.z, .int .i64 x.turn, .int .i64 x.cell, .int .i64 x.size]] w fun e w' => e = .returned (.bool (formedE x)) ∧ Ext w w' := by
 by_cases hk : 1 ≤ x.kind ∧ x.kind ≤ 8
 · obtain hk | hk | hk | hk | hk | hk | hk | hk : x.kind = 1 ∨ x.kind = 2 ∨ x.kind = 3 ∨ x.kind = 4 ∨ x.kind = 5 ∨ x.kind = 6 ∨ x.kind = 7 ∨ x.kind = 8 := by omega
   · exact refFormed_1 x w hk
   · exact refFormed_2 x w hk
   · exact refFormed_3 x w hk
   · exact refFormed_4 x w hk
   · exact refFormed_5 x w hk
   · exact refFormed_6 x w hk
   · exact refFormed_7 x w hk
   · exact refFormed_8 x w hk
 · have hf : formedE x = false := by
     rw [formedE_def, decide_eq_false hk]; simp
   rw [hf]
   exact refFormed_out x w hk
set_option maxHeartbeats 1000000 in
theorem refcube_any (d : Int) (hd : 2 ≤ d ∧ d ≤ 14) (w : World) :
    Calls Tryz.prog 51 #[.int .i64 d] w fun e w' => e = .returned (.agg #[.int .i64 (cubeB (2 ^ d.toNat)).lo.x, .int .i64 (cubeB (2 ^ d.toNat)).lo.y, .int .i64 (cubeB (2 ^ d.toNat)).lo.z, .int .i64 (cubeB (2 ^ d.toNat)).hi.x, .int .i64 (cubeB (2 ^ d.toNat)).hi.y, .int .i64 (cubeB (2 ^ d.toNat)).hi.z]) ∧ Ext w w' := by
 have hsh := shl_run d hd
 generalize (2 : Int) ^ d.toNat = S at hsh
 simp only [cubeB]
 clear hd
 go_enter Tryz.func51, Tryz.ntmps51
 go_wp2_with fail
 ((refine (refCube_any _ _).mono ?_); rintro e wx ⟨rfl, xx⟩; have xz := xx.size; (try simp only [World.size_alloc_] at xz))
 have B0 := (Arr.new w 27 [.int .i64 0, .int .i64 0, .int .i64 0, .int .i64 0, .int .i64 0, .int .i64 0]).ext xx
 go_wp2_with (first | (refine wpList_store_blk 27 (.tmp 2) (.tmp 5) rfl rfl B0 [.int .i64 0, .int .i64 0, .int .i64 0, .int .i64 S, .int .i64 S, .int .i64 S] rfl rfl (by kernel_rfl) rfl rfl ?_))
 have B1 := B0.setRow [.int .i64 0, .int .i64 0, .int .i64 0, .int .i64 S, .int .i64 S, .int .i64 S]
 (try simp only [Exit.inBlock, Exit.then])
 refine bodyPost_ret (v := .agg #[.int .i64 0, .int .i64 0, .int .i64 0, .int .i64 S, .int .i64 S, .int .i64 S]) ?_ rfl ⟨rfl, byX⟩
 exact results_cell_row Tryz.results51 _ _ _ _ _ _ _ rfl B1 Tryz.underlying27 rfl (by kernel_rfl)
end Go.Proofs.YtlinhgannajfpaaGreatDoor
