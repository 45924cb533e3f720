/- YtlinhgannajfpaaGreatDoorSv · YtlinhgannajfpaaGreatDoorApp · YtlinhgannajfpaaGreatDoorBr · YtlinhgannajfpaaGreatDoorBw · YtlinhgannajfpaaGreatDoorInv · YtlinhgannajfpaaGreatDoorTab · YtlinhgannajfpaaGreatDoorRel · YtlinhgannajfpaaGreatDoorFlw · YtlinhgannajfpaaGreatDoorCm · YtlinhgannajfpaaGreatDoorInt · YtlinhgannajfpaaGreatDoorPtS · YtlinhgannajfpaaGreatDoorDr -/
import Derived.Maps.AppendAt
import Derived.Great.BuildSlice
import Derived.Test.YtlinhgannajfpaaGreatDoorZa1
/- Slices of rows of k cells, whatever each cell holds; function values with bound arguments. -/
namespace Go.Proofs.YtlinhgannajfpaaGreatDoor
open Go Go.RowKit

def Rwk (k : Nat) (xs : List (List Value)) : Prop := ∀ x, x ∈ xs → x.length = k ∧ ∀ u, u ∈ x → u.oneCell' = true
theorem Rwk.len {k : Nat} {xs : List (List Value)} (h : Rwk k xs) : ∀ x, x ∈ xs → x.length = k := fun x hx => (h x hx).1
theorem Rwk.one {k : Nat} {xs : List (List Value)} (h : Rwk k xs) : ∀ u, u ∈ xs.flatten → u.oneCell' = true := fun u hu => by
 obtain ⟨x, hx, hu⟩ := List.mem_flatten.1 hu
 exact (h x hx).2 u hu
theorem Rwk.sub {k : Nat} {xs ys : List (List Value)} (h : Rwk k xs) (hs : ∀ x, x ∈ ys → x ∈ xs) : Rwk k ys := fun x hx => h x (hs x hx)
theorem Rws.rwk {k : Nat} {xs : List (List Value)} (h : Rws k xs) : Rwk k xs := fun x hx => by
 obtain ⟨l, h1, rfl⟩ := h x hx
 exact ⟨by simpa using h1, fun u hu => by obtain ⟨n, _, rfl⟩ := List.mem_map.1 hu; rfl⟩

structure Sv (w : World) (B k : Nat) (A : Option Addr) (c : Nat) (xs : List (List Value)) : Prop where
 le : xs.length ≤ c
 max : c ≤ maxLen
 rows : Rwk k xs
 mem : 0 < xs.length → ∃ b off, A = some ⟨b, off, none⟩ ∧ b < B ∧ ∀ (j : Nat) (u : Value), xs.flatten[j]? = some u → w.cell? ⟨b, off + j, none⟩ = some u

section
variable {w w' : World} {B B' k c n base : Nat} {e : TypeId} {A : Option Addr} {xs : List (List Value)}
theorem Sv.keep (h : Sv w B k A c xs) (hk : ∀ p : Addr, p.block < B → w'.cell? p = w.cell? p) : Sv w' B k A c xs :=
 ⟨h.le, h.max, h.rows, fun hn => by
   obtain ⟨b, off, e, hb, hc⟩ := h.mem hn
   exact ⟨b, off, e, hb, fun j u hu => (hk _ hb).trans (hc j u hu)⟩⟩
theorem Sv.more (h : Sv w B k A c xs) (hB : B ≤ B') : Sv w B' k A c xs :=
 ⟨h.le, h.max, h.rows, fun hn => by
   obtain ⟨b, off, e, hb, hc⟩ := h.mem hn
   exact ⟨b, off, e, by omega, hc⟩⟩
theorem Sv.ext (h : Sv w w.heap.size k A c xs) (hx : Ext w w') : Sv w' w'.heap.size k A c xs := (h.keep fun _ hp => hx.below.cell hp).more hx.size
theorem Sv.nil (w : World) (B k : Nat) : Sv w B k none 0 [] := ⟨by simp, by simp, fun _ h => by simp at h, fun h => absurd h (by simp)⟩
theorem Sv.len (h : Sv w B k A c xs) : xs.length ≤ 9223372036854775807 := by have h1 := h.le; have h2 := h.max; unfold maxLen at h2; omega
theorem Sl.sv (h : Sl w B k A c xs) : Sv w B k A c xs := ⟨h.le, h.max, h.rows.rwk, h.mem⟩
theorem Sv.row (h : Sv w B k A c xs) {i : Nat} {x : List Value} (hx : xs[i]? = some x) : ∃ b off, A = some ⟨b, off, none⟩ ∧ b < B ∧ w.rangeAt b (off + i * k) x := by
 obtain ⟨b, off, e, hb, hc⟩ := h.mem (by have := (List.getElem?_eq_some_iff.1 hx).1; omega)
 refine ⟨b, off, e, hb, fun j v hv => ?_⟩
 rw [Nat.add_assoc]
 exact hc _ _ (flatten_at xs h.rows.len i x hx j v hv)
theorem Sv.news {a : Addr} (h : Sv w B k (some a) c xs) : ∀ j u, xs.flatten[j]? = some u → w.cell? (a.add j) = some u := fun j u hu => by
 have hpos : 0 < xs.length := by
  rcases Nat.eq_zero_or_pos xs.length with h0 | h0
  · rw [List.eq_nil_of_length_eq_zero h0] at hu; simp at hu
  · exact h0
 obtain ⟨b, off, e, _, hc⟩ := h.mem hpos
 injection e with e
 subst e
 rw [add_lit]
 exact hc j u hu
theorem Sv.of_own (h : w.ownsRow base e k (.slice A n c) n xs.flatten) (hr : Rwk k xs) (hn : xs.length = n) : Sv w w.heap.size k A c xs := by
 subst hn
 rcases h.2 with ⟨h1, h2⟩ | ⟨g, cap, cur, hv, hg, hgg, hle, hmax, hsz, htk⟩
 · have hx : xs = [] := List.eq_nil_of_length_eq_zero h2
   subst hx
   injection h1 with _ _ hc
   subst hc
   exact ⟨by simp, by simp, hr, fun h => absurd h (by simp)⟩
 · injection hv with hA _ hc
   subst hA hc
   refine ⟨hle, hmax, hr, fun _ => ⟨g, 0, rfl, (Array.getElem?_eq_some_iff.1 hgg).1, fun j u h3 => ?_⟩⟩
   rw [Nat.zero_add, cell_of_row w g _ cur e (0, 0) hgg]
   rw [← htk, List.getElem?_take] at h3
   split at h3
   · simpa using h3
   · cases h3
end

structure PredF (P : Program) (g : FuncId) (fst cap : Array Value) (p : List Value → Bool) (xs : List (List Value)) (w : World) : Prop where
 enters : ∀ args w, (callFunc g args).run P w = .ok (.enter g args) w
 call : ∀ x, x ∈ xs → ∀ w', Ext w w' → Calls P g (fst ++ #[.agg x.toArray] ++ cap) w' fun e w'' => e = .returned (.bool (p x)) ∧ Ext w' w''
theorem PredF.ext {P : Program} {g : FuncId} {fst cap : Array Value} {p : List Value → Bool} {xs : List (List Value)} {w w' : World} (h : PredF P g fst cap p xs w) (hx : Ext w w') : PredF P g fst cap p xs w' :=
 ⟨h.enters, fun x hm w2 h2 => h.call x hm w2 (hx.trans h2)⟩
theorem PredF.sub {P : Program} {g : FuncId} {fst cap : Array Value} {p : List Value → Bool} {xs ys : List (List Value)} {w : World} (h : PredF P g fst cap p xs w) (hs : ∀ x, x ∈ ys → x ∈ xs) : PredF P g fst cap p ys w :=
 ⟨h.enters, fun x hm w2 h2 => h.call x (hs x hm) w2 h2⟩
def RetRow (e : TypeId) (k : Nat) (xs : List (List Value)) (w : World) (en : Ending) (w' : World) : Prop :=
 ∃ A c, en = .returned (.slice A xs.length c) ∧ w'.ownsRow w.heap.size e k (.slice A xs.length c) xs.length xs.flatten ∧ Ext w w'
theorem own_low {w : World} {base k n : Nat} {e : TypeId} {v : Value} {zs : List Value} (h : w.ownsRow base e k v n zs) : ∀ b, v.ownBlock = some b → base ≤ b := fun b hb => by
 rcases h.2 with ⟨rfl, _⟩ | ⟨g, cap, cur, rfl, hg, _⟩
 · simp [Value.ownBlock] at hb
 · simp only [Value.ownBlock, Option.some.injEq] at hb
   omega
theorem take_filter_step {p : List Value → Bool} {xs : List (List Value)} {j : Nat} {x : List Value} (hx : xs[j]? = some x) : (xs.take (j + 1)).filter p = (xs.take j).filter p ++ if p x then [x] else [] := by
 obtain ⟨hi, rfl⟩ := List.getElem?_eq_some_iff.1 hx
 rw [List.take_succ_eq_append_getElem hi, List.filter_append]
 cases h : p xs[j] <;> simp [h]
theorem filter_take_le (p : List Value → Bool) (xs : List (List Value)) (j : Nat) : ((xs.take j).filter p).length ≤ j := by
 have h1 := List.length_filter_le p (xs.take j)
 have h2 := List.length_take_le j xs
 omega
end Go.Proofs.YtlinhgannajfpaaGreatDoor

/- Append onto a row of the call's own, the source any slice of rows: nil, empty or not. Cuts of such a slice. -/
namespace Go.Proofs.YtlinhgannajfpaaGreatDoor
open Go Go.RowKit

section
variable {P : Program} (w : World)
theorem run_append_ofnil (base : Nat) (t ty e : TypeId) (i : TypeInfo) (size : Nat) (ht : P.underlying t = some (.slice e)) (hi : P.info? e = some i)
    (v : Value) (n : Nat) (xs : List Value) (hown : w.ownsRow base e size v n xs) (c : Nat) : (Builtin.append_ #[t, t] ty #[v, .slice none 0 c]).run P w = .ok v w := by
 rcases hown.2 with ⟨rfl, rfl⟩ | ⟨g, cap, cur, rfl, _, _, hnc, _⟩
 · simp [Builtin.append_, run_underlying ht, sizeOf, typeInfo, hi, Builtin.lenOf, Builtin.firstCells]
 · simp [Builtin.append_, run_underlying ht, sizeOf, typeInfo, hi, Builtin.lenOf, Builtin.firstCells, hnc, storeCells]
theorem run_append_sv (base : Nat) (t ty e : TypeId) (i : TypeInfo) (z : Value) (size bytes : Nat) (ht : P.underlying t = some (.slice e)) (hi : P.info? e = some i) (hz : i.zero = some z)
    (hsize : i.size = size) (hby : i.bytes = bytes) (hzs : z.cells.size = size) (hsz : 0 < size)
    (v : Value) (n : Nat) (xs : List Value) (hown : w.ownsRow base e size v n xs)
    (B : Nat) (A : Option Addr) (m c : Nat) (news : List (List Value)) (hr : Sv w B size A c news) (hm : news.length = m)
    (h63 : n + m ≤ maxLen) (hbytes : (n + m) * bytes ≤ 140737488355328) (hbase : base ≤ w.heap.size) :
    ∃ v' w', (Builtin.append_ #[t, t] ty #[v, .slice A m c]).run P w = .ok v' w' ∧ w'.ownsRow base e size v' (n + m) (xs ++ news.flatten) ∧ w.grownBy w' v.ownBlock ∧
      (v'.ownBlock = v.ownBlock ∨ v'.ownBlock = some w.heap.size) := by
 subst hm
 rcases A with _ | ad
 · have hn : news = [] := by
     rcases Nat.eq_zero_or_pos news.length with h0 | h0
     · exact List.eq_nil_of_length_eq_zero h0
     · obtain ⟨b, off, h, _⟩ := hr.mem h0
       cases h
   subst hn
   exact ⟨v, w, run_append_ofnil w base t ty e i size ht hi v n xs hown c, by simpa using hown, World.grownBy.refl w _, .inl rfl⟩
 · obtain ⟨v', w', hrun, h2, h3, _, h5⟩ := run_append_own_at (P := P) w base t ty e i z size bytes ht hi hz hsize hby hzs hsz v n xs hown ad news.length c news.flatten (flatten_length _ hr.rows.len) hr.news hr.rows.one h63 hbytes hbase
   exact ⟨v', w', hrun, h2, h3, h5⟩
theorem wpList_append_sv {ops : Array Oper} {rest : List Oper} {o : Oper} {a : Act} {Q : Exit → Act → World → Prop} (hgd : o.guard = none) (s x : Operand) (t : TypeId)
    (ho : o.op = .call { callee := .builtin .append, args := #[s, x], argTypes := #[t, t] })
    (base : Nat) (e : TypeId) (i : TypeInfo) (z : Value) (size bytes : Nat) (ht : P.underlying t = some (.slice e)) (hi : P.info? e = some i) (hz : i.zero = some z)
    (hsize : i.size = size) (hby : i.bytes = bytes) (hzs : z.cells.size = size) (hsz : 0 < size)
    (v : Value) (n : Nat) (xs : List Value) (hs : a.eval s = v) (hown : w.ownsRow base e size v n xs)
    (B : Nat) (A : Option Addr) (m c : Nat) (news : List (List Value)) (hx : a.eval x = .slice A m c) (hr : Sv w B size A c news) (hm : news.length = m)
    (h63 : n + m ≤ maxLen) (hbytes : (n + m) * bytes ≤ 140737488355328) (hbase : base ≤ w.heap.size)
    (h : ∀ v' w', w'.ownsRow base e size v' (n + m) (xs ++ news.flatten) → w.grownBy w' v.ownBlock → (v'.ownBlock = v.ownBlock ∨ v'.ownBlock = some w.heap.size) → wpList P ops Q rest (a.put o.dst v') w') : wpList P ops Q (o :: rest) a w := by
 refine wpList_plain hgd fun K hK' => ?_
 obtain ⟨v', w', hrun, r1, r2, r3⟩ := run_append_sv (P := P) w base t o.type e i z size bytes ht hi hz hsize hby hzs hsz v n xs hown B A m c news hr hm h63 hbytes hbase
 unfold Oper.wp
 simp [execOp, ho, resolve, invoke, builtin, hs, hx, hrun, Result.andThen]
 exact hK' _ _ (h v' w' r1 r2 r3)
end

section
variable {w w' : World} {B k c : Nat} {A : Option Addr} {xs : List (List Value)}
theorem Sv.take (h : Sv w B k A c xs) (i : Nat) : Sv w B k A c (xs.take i) :=
 ⟨by have h1 := h.le; rw [List.length_take]; omega, h.max, h.rows.sub fun x hx => List.mem_of_mem_take hx, fun hn => by
   rw [List.length_take] at hn
   obtain ⟨b, off, e, hb, hc⟩ := h.mem (by omega)
   refine ⟨b, off, e, hb, fun j u hu => hc j u ?_⟩
   have e2 : xs.flatten = (xs.take i).flatten ++ (xs.drop i).flatten := by rw [← List.flatten_append, List.take_append_drop]
   rw [e2, List.getElem?_append_left (List.getElem?_eq_some_iff.1 hu).1]
   exact hu⟩
theorem Sv.drop (h : Sv w B k A c xs) {i : Nat} (hi : i ≤ xs.length) : Sv w B k (if c = i then A else A.map (·.add (i * k))) (c - i) (xs.drop i) :=
 ⟨by have h1 := h.le; rw [List.length_drop]; omega, by have h1 := h.max; omega, h.rows.sub fun x hx => List.mem_of_mem_drop hx, fun hn => by
   rw [List.length_drop] at hn
   have h1 := h.le
   obtain ⟨b, off, e, hb, hc⟩ := h.mem (by omega)
   rw [if_neg (by omega), e]
   refine ⟨b, off + i * k, by simp [add_lit], hb, fun j u hu => ?_⟩
   have e2 : xs.flatten = (xs.take i).flatten ++ (xs.drop i).flatten := by rw [← List.flatten_append, List.take_append_drop]
   have e3 : (xs.take i).flatten.length = i * k := by rw [flatten_length _ (fun y hy => h.rows.len y (List.mem_of_mem_take hy)), List.length_take]; congr 1; omega
   rw [Nat.add_assoc]
   refine hc _ u ?_
   rw [e2, List.getElem?_append_right (by omega), e3, Nat.add_sub_cancel_left]
   exact hu⟩
theorem Sv.grown (h : Sv w w.heap.size k A c xs) {row : Option Nat} (hg : w.grownBy w' row) (ha : ∀ a : Addr, A = some a → row ≠ some a.block) : Sv w' w'.heap.size k A c xs :=
 ⟨h.le, h.max, h.rows, fun hn => by
   obtain ⟨b, off, e, hb, hc⟩ := h.mem hn
   refine ⟨b, off, e, Nat.lt_of_lt_of_le hb hg.size, fun j u hu => ?_⟩
   rw [World.cell?_of_block (hg.block b hb (fun e2 => ha _ e e2.symm))]
   exact hc j u hu⟩
end
end Go.Proofs.YtlinhgannajfpaaGreatDoor

/- A slice literal of one row. -/
namespace Go.Proofs.YtlinhgannajfpaaGreatDoor
open Go Go.RowKit

theorem wpList_buildRow {P : Program} {ops : Array Oper} {rest : List Oper} {o : Oper} {a : Act} {w : World} {Q : Exit → Act → World → Prop} (hg : o.guard = none) (t e : TypeId) (s : Nat) (ho : o.op = .buildSlice t 1 #[(0, .tmp s)])
    (k : Nat) (hk : 0 < k) (hk2 : k ≤ 1000) (x : List Value) (hx : x.length = k) (hs : a.eval (.tmp s) = .agg x.toArray) (hu : P.underlying t = some (.slice e)) (hi : (P.info? e).map (·.size) = some k) (hz : ((P.info? e).bind (·.zero)).isSome = true)
    (h : wpList P ops Q rest (a.put o.dst (.slice (some ⟨w.heap.size, 0, none⟩) 1 1)) (w.alloc (.cells x.toArray e))) : wpList P ops Q (o :: rest) a w := by
 cases hie : P.info? e with
 | none => simp [hie] at hi
 | some ie =>
   have hsz : ie.size = k := by simpa [hie] using hi
   obtain ⟨z, hzz⟩ := Option.isSome_iff_exists.1 (by simpa [hie] using hz : (ie.zero).isSome = true)
   refine wpList_buildSlice hg t e 1 _ ho _ ie z hu hie hzz (by rw [hsz]; omega) (by rw [hsz]; omega) ?_ h
   have hf := Great.fill_whole (s := k) hk [.agg x.toArray] ((Array.range (1 * k)).map (z.cells[· % z.cells.size]!)) (fun v hv => by
    simp only [List.mem_singleton] at hv
    subst hv
    simpa [Value.cells] using hx) (by simp)
   rw [hsz]
   simp only [List.map_toArray, List.map_cons, List.map_nil, hs]
   simpa [Value.cells] using hf
end Go.Proofs.YtlinhgannajfpaaGreatDoor

/- A slice literal of rows; an owned row that begins as an empty literal. -/
namespace Go.Proofs.YtlinhgannajfpaaGreatDoor
open Go Go.RowKit

theorem wpList_buildRows {P : Program} {ops : Array Oper} {rest : List Oper} {o : Oper} {a : Act} {w : World} {Q : Exit → Act → World → Prop} (hg : o.guard = none) (t e : TypeId) (n : Nat) (parts : Array (Nat × Operand)) (ho : o.op = .buildSlice t n parts)
    (k : Nat) (hk : 0 < k) (xs : List (List Value)) (hx : ∀ x, x ∈ xs → x.length = k) (hl : xs.length = n) (hn : 0 < n) (hnk : n * k ≤ 2 ^ 24)
    (hs : (parts.map fun (i, x) => (i, a.eval x)).toList = ((xs.map fun x => Value.agg x.toArray).zipIdx 0).map fun x => (x.2, x.1))
    (hu : P.underlying t = some (.slice e)) (hi : (P.info? e).map (·.size) = some k) (hz : ((P.info? e).bind (·.zero)).isSome = true)
    (h : wpList P ops Q rest (a.put o.dst (.slice (some ⟨w.heap.size, 0, none⟩) n n)) (w.alloc (.cells xs.flatten.toArray e))) : wpList P ops Q (o :: rest) a w := by
 cases hie : P.info? e with
 | none => simp [hie] at hi
 | some ie =>
   have hsz : ie.size = k := by simpa [hie] using hi
   obtain ⟨z, hzz⟩ := Option.isSome_iff_exists.1 (by simpa [hie] using hz : (ie.zero).isSome = true)
   have hpos := Nat.mul_pos hn hk
   refine wpList_buildSlice hg t e n parts ho _ ie z hu hie hzz (by rw [hsz]; omega) (by rw [hsz]; omega) ?_ h
   rw [hs, hsz]
   have hf := Great.fill_whole (s := k) hk (xs.map fun x => Value.agg x.toArray) ((Array.range (n * k)).map (z.cells[· % z.cells.size]!)) (fun v hv => by
    obtain ⟨x, hm, rfl⟩ := List.mem_map.1 hv
    simpa [Value.cells] using hx x hm) (by simp [hl])
   rw [hf]
   congr 1
   rw [List.flatMap_def, List.map_map]
   congr 2
   simp [Function.comp_def, Value.cells]
theorem Sv.lit (w : World) (e : TypeId) (k : Nat) (xs : List (List Value)) (hr : Rwk k xs) (hm : xs.length ≤ maxLen) : Sv (w.alloc (.cells xs.flatten.toArray e)) (w.alloc (.cells xs.flatten.toArray e)).heap.size k (some ⟨w.heap.size, 0, none⟩) xs.length xs :=
 ⟨Nat.le_refl _, hm, hr, fun _ => ⟨w.heap.size, 0, rfl, by simp, fun j u hu => by
   rw [Nat.zero_add, cell_of_row _ _ _ _ _ _ (heap_alloc_new w _)]
   simpa using hu⟩⟩
theorem own_zero (w : World) (e : TypeId) (k : Nat) : (w.alloc (.cells #[] e)).ownsRow w.heap.size e k (.slice (some ⟨w.heap.size, 0, none⟩) 0 0) 0 [] :=
 own_of_cur (cur := []) (Nat.le_refl _) (by simpa using heap_alloc_new w (.cells #[] e)) (Nat.le_refl _) (by decide) (by simp) (by simp)
end Go.Proofs.YtlinhgannajfpaaGreatDoor

/- A region that draws its order, by an invariant over what has been done. -/
namespace Go.Proofs.YtlinhgannajfpaaGreatDoor
open Go Go.RowKit

section
variable {P : Program} {ops : Array Oper} {md : Region.Mode} {Q : Exit → Act → World → Prop}
def undone (ops : Array Oper) (listed : Array Bool) : Nat := (List.range ops.size).countP fun i => !listed.getD i true
theorem ready_undone {listed : Array Bool} {i : Nat} (h : i ∈ Region.ready md ops listed) : i < ops.size ∧ listed.getD i true = false := by
 obtain ⟨h1, oi, h2, _⟩ := mem_ready.1 h
 exact ⟨(Array.getElem?_eq_some_iff.1 h2).1, h1⟩
theorem undone_set {listed : Array Bool} {i : Nat} (hi : i < ops.size) (hl : listed.getD i true = false) : undone ops (listed.setIfInBounds i true) + 1 = undone ops listed := by
 unfold undone
 have hil : i < listed.size := by
  by_cases h : i < listed.size
  · exact h
  · simp [Array.getD, h] at hl
 have key : ∀ (n : Nat), i < n → (List.range n).countP (fun j => !(listed.setIfInBounds i true).getD j true) + 1 = (List.range n).countP (fun j => !listed.getD j true) := by
  intro n
  induction n with
  | zero => intro h; omega
  | succ n ih =>
    intro h
    rw [List.range_succ, List.countP_append, List.countP_append]
    by_cases hin : i = n
    · subst hin
      have e1 : (List.range i).countP (fun j => !(listed.setIfInBounds i true).getD j true) = (List.range i).countP (fun j => !listed.getD j true) := by
       apply List.countP_congr
       intro j hj
       have : i ≠ j := by have := List.mem_range.1 hj; omega
       rw [getD_set_ne true this]
      rw [e1]
      have e2 : (listed.setIfInBounds i true).getD i true = true := by simp [Array.getD, hil]
      simp only [List.countP_cons, List.countP_nil, e2, hl]
      rfl
    · have := ih (by omega)
      rw [← this]
      have e3 : (listed.setIfInBounds i true).getD n true = listed.getD n true := getD_set_ne true hin
      simp only [List.countP_cons, List.countP_nil, e3]
      omega
 exact key ops.size hi
theorem undone_zero {listed : Array Bool} (h : undone ops listed = 0) : Region.ready md ops listed = [] := by
 rw [List.eq_nil_iff_forall_not_mem]
 intro i hi
 obtain ⟨h1, h2⟩ := ready_undone hi
 unfold undone at h
 rw [List.countP_eq_zero] at h
 exact h i (List.mem_range.2 h1) (by simp [h2])
theorem wpAny_inv {I : Array Bool → Act → World → Prop}
    (hstep : ∀ listed a w i, I listed a w → i ∈ Region.ready md ops listed → wpOp P ops Q i (I (listed.setIfInBounds i true)) a w)
    (hend : ∀ listed a w, I listed a w → Region.ready md ops listed = [] → Q .normal a w) :
    ∀ (fuel : Nat) (listed : Array Bool) (a : Act) (w : World), undone ops listed ≤ fuel → I listed a w → wpAny P md ops Q fuel listed a w
 | 0, listed, a, w, hu, h => by
   have hr := undone_zero (md := md) (by omega : undone ops listed = 0)
   exact ⟨hr, hend _ _ _ h hr⟩
 | fuel + 1, listed, a, w, hu, h => by
   refine ⟨fun hr => hend _ _ _ h hr, fun i hi => ?_⟩
   obtain ⟨h1, h2⟩ := ready_undone hi
   have := undone_set h1 h2
   exact wpOp_mono (fun a' w' h' => wpAny_inv hstep hend fuel _ a' w' (by omega) h') (hstep _ _ _ _ h hi)
theorem undone_le (listed : Array Bool) : undone ops listed ≤ ops.size := by
 unfold undone
 have := List.countP_le_length (p := fun i => !listed.getD i true) (l := List.range ops.size)
 simpa using this
theorem wp_region_inv {id : Nat} {a : Act} {w : World} {l : List Oper} (I : Array Bool → Act → World → Prop) (hm : P.follows .mixedOrders = true)
    (h0 : I (Array.replicate l.length false) a w.drew)
    (hstep : ∀ listed a w i, I listed a w → i ∈ Region.ready .any l.toArray listed → wpOp P l.toArray Q i (I (listed.setIfInBounds i true)) a w)
    (hend : ∀ listed a w, I listed a w → Region.ready .any l.toArray listed = [] → Q .normal a w) : (Code.region id l.toArray true).wp P Q a w := by
 refine wp_region_any hm ?_
 exact wpAny_inv hstep hend _ _ _ _ (undone_le _) (by simpa using h0)
end
end Go.Proofs.YtlinhgannajfpaaGreatDoor

/- A region that draws its order, by a table: what each slot holds once its operation is done. -/
namespace Go.Proofs.YtlinhgannajfpaaGreatDoor
open Go Go.RowKit

section
variable {P : Program} {ops : Array Oper} {md : Region.Mode} {Q : Exit → Act → World → Prop}
def dstOf (ops : Array Oper) (i : Nat) : Option Nat := (ops[i]?).bind (·.dst)
def fillN (ops : Array Oper) (V : Nat → Value) (listed : Array Bool) (a : Act) : Nat → Act
 | 0 => a
 | n + 1 => if listed.getD n true then (fillN ops V listed a n).put (dstOf ops n) (V n) else fillN ops V listed a n
def fill (ops : Array Oper) (V : Nat → Value) (listed : Array Bool) (a : Act) : Act := fillN ops V listed a ops.size
def Slots (ops : Array Oper) : Prop := ∀ i j d, dstOf ops i = some d → dstOf ops j = some d → i = j
theorem put_size (a : Act) (o : Option Tmp) (v : Value) : (a.put o v).tmps.size = a.tmps.size := by cases o <;> simp [Act.put]
theorem put_defers (a : Act) (o : Option Tmp) (v : Value) : (a.put o v).defers = a.defers := by cases o <;> rfl
theorem put_get (a : Act) (o : Option Tmp) (v : Value) (d : Nat) : (a.put o v).tmps[d]? = if o = some d ∧ d < a.tmps.size then some v else a.tmps[d]? := by
 cases o with
 | none => simp [Act.put]
 | some e =>
   simp only [Act.put, Array.getElem?_setIfInBounds, Option.some.injEq]
   by_cases h : e = d
   · subst h
     by_cases h2 : e < a.tmps.size
     · simp [h2]
     · simp [h2]
   · simp [h]
variable {V V' : Nat → Value} {listed : Array Bool} {a : Act}
theorem fillN_size : ∀ n, (fillN ops V listed a n).tmps.size = a.tmps.size
 | 0 => rfl
 | n + 1 => by unfold fillN; split <;> simp [put_size, fillN_size n]
theorem fillN_defers : ∀ n, (fillN ops V listed a n).defers = a.defers
 | 0 => rfl
 | n + 1 => by unfold fillN; split <;> simp [put_defers, fillN_defers n]
theorem fillN_hit (hs : Slots ops) {i d : Nat} (hl : listed.getD i true = true) (hd : dstOf ops i = some d) (hds : d < a.tmps.size) : ∀ n, i < n → (fillN ops V listed a n).tmps[d]? = some (V i)
 | 0, h => by omega
 | n + 1, h => by
   unfold fillN
   by_cases hin : i = n
   · subst hin
     rw [if_pos hl, put_get, if_pos ⟨hd, by rw [fillN_size]; exact hds⟩]
   · have ih := fillN_hit hs hl hd hds n (by omega)
     split
     · rw [put_get, if_neg (fun h => hin (hs i n d hd h.1)), ih]
     · exact ih
theorem fillN_miss {d : Nat} : ∀ n, (∀ i, i < n → listed.getD i true = true → dstOf ops i ≠ some d) → (fillN ops V listed a n).tmps[d]? = a.tmps[d]?
 | 0, _ => rfl
 | n + 1, h => by
   have ih := fillN_miss n (fun i hi => h i (by omega))
   unfold fillN
   split
   · rename_i hl
     rw [put_get, if_neg (fun hh => h n (by omega) hl hh.1), ih]
   · exact ih
theorem fill_hit (hs : Slots ops) {i d : Nat} (hi : i < ops.size) (hl : listed.getD i true = true) (hd : dstOf ops i = some d) (hds : d < a.tmps.size) : (fill ops V listed a).tmps[d]? = some (V i) := fillN_hit hs hl hd hds _ hi
theorem fill_miss {d : Nat} (h : ∀ i, i < ops.size → listed.getD i true = true → dstOf ops i ≠ some d) : (fill ops V listed a).tmps[d]? = a.tmps[d]? := fillN_miss _ h
theorem act_ext {x y : Act} (h1 : x.defers = y.defers) (h2 : ∀ d : Nat, x.tmps[d]? = y.tmps[d]?) : x = y := by
 cases x; cases y
 simp only at h1 h2
 subst h1
 congr 1
 exact Array.ext_getElem? h2
theorem fill_put (hs : Slots ops) {i : Nat} (hi : i < ops.size) (hun : listed.getD i true = false) :
    (fill ops V listed a).put (dstOf ops i) (V i) = fill ops V (listed.setIfInBounds i true) a := by
 have hil : i < listed.size := by
  by_cases h : i < listed.size
  · exact h
  · simp [Array.getD, h] at hun
 have hset : ∀ j, (listed.setIfInBounds i true).getD j true = true ↔ (j = i ∨ listed.getD j true = true) := fun j => by
  by_cases h : i = j
  · subst h; simp [Array.getD, hil]
  · rw [getD_set_ne true h]
    constructor
    · exact .inr
    · rintro (h2 | h2)
      · exact absurd h2.symm h
      · exact h2
 refine act_ext (by rw [put_defers]; unfold fill; rw [fillN_defers, fillN_defers]) fun d => ?_
 rw [put_get]
 have hsz : (fill ops V listed a).tmps.size = a.tmps.size := fillN_size _
 rw [hsz]
 by_cases hd : dstOf ops i = some d
 · by_cases hds : d < a.tmps.size
   · rw [if_pos ⟨hd, hds⟩, fill_hit hs hi ((hset i).2 (.inl rfl)) hd hds]
   · rw [if_neg (fun h => hds h.2), Array.getElem?_eq_none (by rw [hsz]; omega), Array.getElem?_eq_none (by unfold fill; rw [fillN_size]; omega)]
 · rw [if_neg (fun h => hd h.1)]
   by_cases hds : d < a.tmps.size
   · by_cases hj : ∃ j, j < ops.size ∧ listed.getD j true = true ∧ dstOf ops j = some d
     · obtain ⟨j, h1, h2, h3⟩ := hj
       rw [fill_hit hs h1 h2 h3 hds, fill_hit hs h1 ((hset j).2 (.inr h2)) h3 hds]
     · rw [fill_miss (fun j h1 h2 h3 => hj ⟨j, h1, h2, h3⟩), fill_miss (fun j h1 h2 h3 => by
         rcases (hset j).1 h2 with h4 | h4
         · subst h4; exact hd h3
         · exact hj ⟨j, h1, h4, h3⟩)]
   · rw [Array.getElem?_eq_none (by rw [hsz]; omega), Array.getElem?_eq_none (by unfold fill; rw [fillN_size]; omega)]
theorem fill_congr (h : ∀ i, listed.getD i true = true → i < ops.size → V i = V' i) : fill ops V listed a = fill ops V' listed a := by
 have : ∀ n, n ≤ ops.size → fillN ops V listed a n = fillN ops V' listed a n := by
  intro n
  induction n with
  | zero => intro _; rfl
  | succ n ih =>
    intro hn
    unfold fillN
    rw [ih (by omega)]
    split
    · rename_i hl; rw [h n hl (by omega)]
    · rfl
 exact this _ (Nat.le_refl _)
def fillAllN (ops : Array Oper) (V : Nat → Value) (a : Act) : Nat → Act
 | 0 => a
 | n + 1 => (fillAllN ops V a n).put (dstOf ops n) (V n)
theorem fill_done {l : List Oper} (h : ∀ i, i < l.length → listed.getD i true = true) : fill l.toArray V listed a = fillAllN l.toArray V a l.length := by
 have : ∀ n, n ≤ l.length → fillN l.toArray V listed a n = fillAllN l.toArray V a n := by
  intro n
  induction n with
  | zero => intro _; rfl
  | succ n ih =>
    intro hn
    unfold fillN fillAllN
    rw [ih (by omega), if_pos (h n (by omega))]
 have := this l.length (Nat.le_refl _)
 simpa [fill] using this
def Back (ops : Array Oper) : Prop := ∀ (i : Nat) (o : Oper), ops[i]? = some o → ∀ e, e ∈ o.after → e.on < i
theorem all_done (hb : Back ops) {listed : Array Bool} (hr : Region.ready md ops listed = []) : ∀ i, i < ops.size → listed.getD i true = true := by
 intro i
 induction i using Nat.strongRecOn with
 | ind i ih =>
   intro hi
   by_cases h : listed.getD i true = true
   · exact h
   · exfalso
     have h1 : i ∈ Region.ready md ops listed := mem_ready.2 ⟨by simpa using h, ops[i], Array.getElem?_eq_getElem hi, fun e he _ => by
      have h2 := hb i _ (Array.getElem?_eq_getElem hi) e he
      have h3 := ih e.on h2 (by omega)
      have hsz : ∀ k, listed.getD k true = true → listed.getD i true = false → k < i → listed.getD k false = true := fun k h4 h5 h6 => by
       have hil : i < listed.size := by
        by_cases h7 : i < listed.size
        · exact h7
        · simp [Array.getD, h7] at h5
       have hkl : k < listed.size := by omega
       simpa [Array.getD, hkl] using h4
      exact hsz e.on h3 (by simpa using h) h2⟩
     rw [hr] at h1
     cases h1
theorem wp_region_tab {G : Type} {id : Nat} {a : Act} {w : World} {l : List Oper} (V : G → Nat → Value) (R : World → Array Bool → G → World → Prop) (g0 : G) (hm : P.follows .mixedOrders = true) (hs : Slots l.toArray) (hb : Back l.toArray)
    (hg : ∀ (i : Nat) (o : Oper), l[i]? = some o → o.guard = none) (h0 : R w (Array.replicate l.length false) g0 w.drew)
    (hstep : ∀ listed g w1 i o, l[i]? = some o → listed.getD i true = false → (∀ e, e ∈ o.after → Region.binds .any e = true → listed.getD e.on false = true) → R w listed g w1 →
      ∀ K : Act → World → Prop, (∀ g' w', R w (listed.setIfInBounds i true) g' w' → (∀ j, j < l.length → listed.getD j true = true → V g' j = V g j) → K ((fill l.toArray (V g) listed a).put o.dst (V g' i)) w') → o.wp P (fill l.toArray (V g) listed a) w1 K Q)
    (hend : ∀ listed g w1, (∀ i, i < l.length → listed.getD i true = true) → R w listed g w1 → Q .normal (fill l.toArray (V g) listed a) w1) : (Code.region id l.toArray true).wp P Q a w := by
 refine wp_region_inv (fun listed b w1 => ∃ g, b = fill l.toArray (V g) listed a ∧ R w listed g w1) hm ⟨g0, ?_, h0⟩ ?_ ?_
 · have : ∀ n, fillN l.toArray (V g0) (Array.replicate l.length false) a n = a ∨ l.length < n := by
     intro n
     induction n with
     | zero => exact .inl rfl
     | succ n ih =>
       by_cases hn : l.length < n + 1
       · exact .inr hn
       · rcases ih with ih | ih
         · refine .inl ?_
           unfold fillN
           rw [if_neg (by simp [Array.getD]; omega), ih]
         · omega
   rcases this l.toArray.size with h | h
   · exact h.symm
   · simp at h
 · rintro listed b w1 i ⟨g, rfl, hR⟩ hi
   obtain ⟨hun, o, ho, hdeps⟩ := mem_ready.1 hi
   have ho' : l[i]? = some o := by simpa using ho
   have hi2 : i < l.toArray.size := (Array.getElem?_eq_some_iff.1 ho).1
   refine wpOp_step ho fun K hK => ?_
   rw [if_pos (by simp [Region.wanted, hg i o ho'])]
   refine hstep listed g w1 i o ho' hun hdeps hR K fun g' w' hR' hV => ?_
   refine hK _ _ ⟨g', ?_, hR'⟩
   have hd : dstOf l.toArray i = o.dst := by simp [dstOf, ho']
   rw [← hd, fill_congr (V' := V g') (fun j hl hj => (hV j (by simpa using hj) hl).symm), fill_put hs hi2 hun]
 · rintro listed b w1 ⟨g, rfl, hR⟩ hr
   exact hend listed g w1 (fun i hi => all_done hb hr i (by simpa using hi)) hR
theorem fill_eval_hit (hs : Slots ops) (i : Nat) {d : Nat} (hi : i < ops.size) (hl : listed.getD i true = true) (hd : dstOf ops i = some d) (hds : d < a.tmps.size) : (fill ops V listed a).eval (.tmp d) = V i := by
 have h := fill_hit (V := V) hs hi hl hd hds
 simp [Act.eval, Array.getD_eq_getD_getElem?, h]
theorem fill_eval_miss {d : Nat} (h : ∀ i, i < ops.size → dstOf ops i ≠ some d) : (fill ops V listed a).eval (.tmp d) = a.eval (.tmp d) := by
 have h := fill_miss (V := V) (listed := listed) (a := a) (d := d) (fun i hi _ => h i hi)
 simp [Act.eval, Array.getD_eq_getD_getElem?, h]
def missB (ops : Array Oper) (d : Nat) : Bool := (List.range ops.size).all fun i => !(dstOf ops i == some d)
theorem missB_spec {d : Nat} (h : missB ops d = true) : ∀ i, i < ops.size → dstOf ops i ≠ some d := fun i hi => by
 unfold missB at h
 simp only [List.all_eq_true, List.mem_range, Bool.not_eq_true', beq_eq_false_iff_ne] at h
 exact h i hi
def slotsB (ops : Array Oper) : Bool := (List.range ops.size).all fun i => (List.range ops.size).all fun j => i == j || (dstOf ops i).isNone || !(dstOf ops i == dstOf ops j)
theorem slotsB_spec (h : slotsB ops = true) : Slots ops := fun i j d hi hj => by
 have lt : ∀ k, dstOf ops k = some d → k < ops.size := fun k hk => by
  unfold dstOf at hk
  cases ho : ops[k]? with
  | none => rw [ho] at hk; simp at hk
  | some o => exact (Array.getElem?_eq_some_iff.1 ho).1
 unfold slotsB at h
 simp only [List.all_eq_true, List.mem_range, Bool.or_eq_true, beq_iff_eq, Bool.not_eq_true', beq_eq_false_iff_ne] at h
 rcases h i (lt i hi) j (lt j hj) with (h1 | h1) | h1
 · exact h1
 · rw [hi] at h1; simp at h1
 · exact absurd (hi.trans hj.symm) h1
def backB (ops : Array Oper) : Bool := (List.range ops.size).all fun i => match ops[i]? with | some o => o.after.all fun e => decide (e.on < i) | none => true
theorem backB_spec (h : backB ops = true) : Back ops := fun i o ho e he => by
 unfold backB at h
 simp only [List.all_eq_true, List.mem_range] at h
 have h1 := h i (Array.getElem?_eq_some_iff.1 ho).1
 rw [ho] at h1
 simp only [Array.all_eq_true'] at h1
 simpa using h1 e he
theorem getD_up {l : Array Bool} {k : Nat} (h : l.getD k false = true) : l.getD k true = true := by
 by_cases hk : k < l.size
 · simpa [Array.getD, hk] using h
 · simp [Array.getD, hk]
theorem wp_region_slots {G : Type} {id : Nat} {a : Act} {w : World} {l : List Oper} (V : G → Nat → Value) (R : World → Array Bool → G → World → Prop) (g0 : G) (hm : P.follows .mixedOrders = true) (hs : slotsB l.toArray = true) (hb : backB l.toArray = true)
    (hg : ∀ (i : Nat) (o : Oper), l[i]? = some o → o.guard = none) (h0 : R w (Array.replicate l.length false) g0 w.drew)
    (hstep : ∀ listed g w1 i o, l[i]? = some o → listed.getD i true = false → (∀ e, e ∈ o.after → Region.binds .any e = true → listed.getD e.on false = true) → R w listed g w1 →
      ∀ (b : Act) (K : Act → World → Prop), (∀ d : Nat, missB l.toArray d = true → b.tmps[d]? = a.tmps[d]?) → (∀ j d, j < l.length → listed.getD j true = true → dstOf l.toArray j = some d → d < a.tmps.size → b.tmps[d]? = some (V g j)) →
      (∀ g' w', R w (listed.setIfInBounds i true) g' w' → (∀ j, j < l.length → listed.getD j true = true → V g' j = V g j) → K (b.put o.dst (V g' i)) w') → o.wp P b w1 K Q)
    (hend : ∀ listed g w1, (∀ i, i < l.length → listed.getD i true = true) → R w listed g w1 → Q .normal (fill l.toArray (V g) listed a) w1) : (Code.region id l.toArray true).wp P Q a w :=
 wp_region_tab V R g0 hm (slotsB_spec hs) (backB_spec hb) hg h0
  (fun listed g w1 i o ho hun hdep hR K hK => hstep listed g w1 i o ho hun hdep hR (fill l.toArray (V g) listed a) K (fun d hd => fill_miss (fun i hi _ => missB_spec hd i hi)) (fun j d hj hl hd hds => fill_hit (slotsB_spec hs) (by simpa using hj) hl hd hds) hK) hend
end
end Go.Proofs.YtlinhgannajfpaaGreatDoor

/- A region that draws its order: what each operation yields is known by a property that stays true while memory grows. Calls that make memory are let in. -/
namespace Go.Proofs.YtlinhgannajfpaaGreatDoor
open Go Go.RowKit

section
variable {P : Program}
theorem wp_region_tabg {G : Type} {Q : Exit → Act → World → Prop} {id : Nat} {a : Act} {w : World} {l : List Oper} (V : G → Nat → Value) (R : World → Array Bool → G → World → Prop) (g0 : G) (hm : P.follows .mixedOrders = true) (hs : Slots l.toArray) (hb : Back l.toArray)
    (h0 : R w (Array.replicate l.length false) g0 w.drew)
    (hstep : ∀ listed g w1 i o, l[i]? = some o → listed.getD i true = false → (∀ e, e ∈ o.after → Region.binds .any e = true → listed.getD e.on false = true) → R w listed g w1 →
      ∀ K : Act → World → Prop, (∀ g' w', R w (listed.setIfInBounds i true) g' w' → (∀ j, j < l.length → listed.getD j true = true → V g' j = V g j) → K ((fill l.toArray (V g) listed a).put o.dst (V g' i)) w') →
        if Region.wanted o (yielded l.toArray (fill l.toArray (V g) listed a).tmps) = true then o.wp P (fill l.toArray (V g) listed a) w1 K Q else K ((fill l.toArray (V g) listed a).put o.dst undef) w1)
    (hend : ∀ listed g w1, (∀ i, i < l.length → listed.getD i true = true) → R w listed g w1 → Q .normal (fill l.toArray (V g) listed a) w1) : (Code.region id l.toArray true).wp P Q a w := by
 refine wp_region_inv (fun listed b w1 => ∃ g, b = fill l.toArray (V g) listed a ∧ R w listed g w1) hm ⟨g0, ?_, h0⟩ ?_ ?_
 · have : ∀ n, fillN l.toArray (V g0) (Array.replicate l.length false) a n = a ∨ l.length < n := by
     intro n
     induction n with
     | zero => exact .inl rfl
     | succ n ih =>
       by_cases hn : l.length < n + 1
       · exact .inr hn
       · rcases ih with ih | ih
         · refine .inl ?_
           unfold fillN
           rw [if_neg (by simp [Array.getD]; omega), ih]
         · omega
   rcases this l.toArray.size with h | h
   · exact h.symm
   · simp at h
 · rintro listed b w1 i ⟨g, rfl, hR⟩ hi
   obtain ⟨hun, o, ho, hdeps⟩ := mem_ready.1 hi
   have ho' : l[i]? = some o := by simpa using ho
   have hi2 : i < l.toArray.size := (Array.getElem?_eq_some_iff.1 ho).1
   refine wpOp_step ho fun K hK => ?_
   refine hstep listed g w1 i o ho' hun hdeps hR K fun g' w' hR' hV => ?_
   refine hK _ _ ⟨g', ?_, hR'⟩
   have hd : dstOf l.toArray i = o.dst := by simp [dstOf, ho']
   rw [← hd, fill_congr (V' := V g') (fun j hl hj => (hV j (by simpa using hj) hl).symm), fill_put hs hi2 hun]
 · rintro listed b w1 ⟨g, rfl, hR⟩ hr
   exact hend listed g w1 (fun i hi => all_done hb hr i (by simpa using hi)) hR

def waits (o : Oper) (j : Nat) : Bool := o.after.toList.any fun e => e.on == j && Region.binds .any e
theorem waits_spec {o : Oper} {j : Nat} (h : waits o j = true) : ∃ e, e ∈ o.after ∧ e.on = j ∧ Region.binds .any e = true := by
 unfold waits at h
 rw [List.any_eq_true] at h
 obtain ⟨e, he, h⟩ := h
 simp only [Bool.and_eq_true, beq_iff_eq] at h
 exact ⟨e, by simpa using he, h.1, h.2⟩
theorem wp_region_rel {Q : Exit → Act → World → Prop} {id : Nat} {a : Act} {w : World} {l : List Oper} (Good : Nat → Value → World → Prop) (hm : P.follows .mixedOrders = true) (hs : slotsB l.toArray = true) (hb : backB l.toArray = true) (hfit : ((List.range l.length).all fun j => match dstOf l.toArray j with | some d => decide (d < a.tmps.size) | none => true) = true)
    (hst : ∀ i v w1 w2, Ext w1 w2 → Good i v w1 → Good i v w2)
    (hstep : ∀ (i : Nat) (o : Oper), l[i]? = some o → ∀ (b : Act) (w1 : World), Ext w w1 → (∀ d : Nat, missB l.toArray d = true → b.tmps[d]? = a.tmps[d]?) →
      (∀ j, waits o j = true → ∃ v, Good j v w1 ∧ ∀ d, dstOf l.toArray j = some d → b.tmps[d]? = some v) →
      ∀ K : Act → World → Prop, (∀ v w', Ext w1 w' → Good i v w' → K (b.put o.dst v) w') → if Region.wanted o (yielded l.toArray b.tmps) = true then o.wp P b w1 K Q else K (b.put o.dst undef) w1)
    (hend : ∀ (V : Nat → Value) (w1 : World), Ext w w1 → (∀ i, i < l.length → Good i (V i) w1) → Q .normal (fillAllN l.toArray V a l.length) w1) : (Code.region id l.toArray true).wp P Q a w := by
 have hS := slotsB_spec hs
 have hB := backB_spec hb
 refine wp_region_tabg (G := Nat → Value) (fun g => g) (fun w listed g w1 => Ext w w1 ∧ ∀ i, i < l.length → listed.getD i true = true → Good i (g i) w1) (fun _ => undef) hm hS hB ?_ ?_ ?_
 · refine ⟨(Ext.refl _).drew, fun i hi h => ?_⟩
   have : (Array.replicate l.length false).getD i true = false := by simp [Array.getD, hi]
   rw [this] at h
   cases h
 · intro listed g w1 i o ho hun hdep hR K hK
   have hil : i < l.length := (List.getElem?_eq_some_iff.1 ho).1
   refine hstep i o ho (fill l.toArray g listed a) w1 hR.1 (fun d hd => fill_miss (fun i hi _ => missB_spec hd i hi)) (fun j hj => ?_) K (fun v w' hx hg => ?_)
   · obtain ⟨e, he, rfl, hbd⟩ := waits_spec hj
     have h1 := getD_up (hdep e he hbd)
     have h2 : e.on < l.length := by have := hB i o (by simpa using ho) e he; omega
     refine ⟨g e.on, hR.2 _ h2 h1, fun d hd => fill_hit hS (by simpa using h2) h1 hd ?_⟩
     rw [List.all_eq_true] at hfit
     have h3 := hfit e.on (List.mem_range.2 h2)
     rw [hd] at h3
     simpa using h3
   · have h := hK (fun k => if k = i then v else g k) w' ⟨hR.1.trans hx, fun j hj hl => ?_⟩ (fun j hj hl => ?_)
     · simpa using h
     · by_cases hji : j = i
       · subst hji; simpa using hg
       · simp only [if_neg hji]
         rw [getD_set_ne true (Ne.symm hji)] at hl
         exact hst _ _ _ _ hx (hR.2 j hj hl)
     · have hne : j ≠ i := fun e => by subst e; rw [hl] at hun; cases hun
       simp only [if_neg hne]
 · intro listed g w1 hall hR
   rw [fill_done hall]
   exact hend g w1 hR.1 (fun i hi => hR.2 i hi (hall i hi))

/- Operations, one kind each. -/
variable {o : Oper} {b : Act} {w1 : World} {K : Act → World → Prop} {Q : Exit → Act → World → Prop}
theorem eval_of {d : Nat} {v : Value} (h : b.tmps[d]? = some v) : b.eval (.tmp d) = v := by simp [Act.eval, Array.getD_eq_getD_getElem?, h]
theorem want_none {ops : Array Oper} {t : Array Value} {X Y : Prop} (hg : o.guard = none) (h : X) : if Region.wanted o (yielded ops t) = true then X else Y := by
 rw [if_pos (by simp [Region.wanted, hg])]; exact h
theorem want_yes {ops : Array Oper} {t : Array Value} {X Y : Prop} {j d : Nat} {c : Bool} (hg : o.guard = some (j, c)) (hd : dstOf ops j = some d) (ht : t[d]? = some (.bool c)) (h : X) : if Region.wanted o (yielded ops t) = true then X else Y := by
 have hd2 : (ops[j]?).bind (·.dst) = some d := hd
 rw [if_pos (by simp [Region.wanted, hg, yielded, hd2, ht])]; exact h
theorem want_no {ops : Array Oper} {t : Array Value} {X Y : Prop} {j d : Nat} {c : Bool} (hg : o.guard = some (j, c)) (hd : dstOf ops j = some d) (ht : t[d]? = some (.bool (!c)) ∨ t[d]? = some undef) (h : Y) : if Region.wanted o (yielded ops t) = true then X else Y := by
 have hd2 : (ops[j]?).bind (·.dst) = some d := hd
 rw [if_neg]
 · exact h
 · rcases ht with ht | ht
   · cases c <;> simp [Region.wanted, hg, yielded, hd2, ht]
   · simp [Region.wanted, hg, yielded, hd2, ht, undef]
theorem op_run {v : Value} {w2 : World} (hr : (execOp b.eval o).run P w1 = .ok (.value v) w2) (h : K (b.put o.dst v) w2) : o.wp P b w1 K Q := by
 unfold Oper.wp
 rw [hr]
 exact h
theorem op_move {x : Operand} {v : Value} (ho : o.op = .move x) (hx : b.eval x = v) (h : K (b.put o.dst v) w1) : o.wp P b w1 K Q :=
 op_run (by unfold execOp; simp [ho, hx]) h
theorem op_assign {x : Operand} {v : Value} (ho : o.op = .assign x) (hx : b.eval x = v) (h : K (b.put o.dst v) w1) : o.wp P b w1 K Q :=
 op_run (by unfold execOp; simp [ho, hx]) h
theorem op_loadrow {t : TypeId} {x : Operand} {bk : Nat} {tb : TypeId} {vs : List Value} (ho : o.op = .load t x) (hx : b.eval x = .pointer (some ⟨bk, 0, none⟩)) (hB : Arr w1 bk tb vs) (d : TypeDesc) (hu : P.underlying t = some d)
    (hd : (match d with | .struct _ | .array _ _ => true | _ => false) = true) (hi : (P.info? t).map (·.size) = some vs.length) (h : K (b.put o.dst (.agg vs.toArray)) w1) : o.wp P b w1 K Q :=
 wp_load_row t x ho bk hx tb vs.toArray (0, 0) d hB hu hd (by simpa using hi) h
theorem op_call {f : FuncId} {args : Array Operand} {ts : Array TypeId} {vs : Array Value} {G : Value → World → Prop} (ho : o.op = .call { callee := .value (.func f), args := args, argTypes := ts }) (ha : args.map b.eval = vs) (he : ∀ args w, (callFunc f args).run P w = .ok (.enter f args) w)
    (hc : Calls P f vs w1 fun e w' => ∃ v, e = .returned v ∧ Ext w1 w' ∧ G v w') (h : ∀ v w', Ext w1 w' → G v w' → K (b.put o.dst v) w') : o.wp P b w1 K Q := by
 have hr : (execOp b.eval o).run P w1 = .ok (.enter f vs) w1 := by
  unfold execOp
  simp [ho, resolve, invoke, Deferred.ofValue, Act.eval, ha, he]
 unfold Oper.wp
 rw [hr, Oper.upon_enter]
 refine hc.mono ?_
 rintro e w' ⟨v, rfl, hx, hg⟩
 exact h v w' hx hg
end
end Go.Proofs.YtlinhgannajfpaaGreatDoor

/- Generic: a region that draws its order and in which one operation (number J) changes what others made before it; appends as operations of such a region. -/
namespace Go.Proofs.YtlinhgannajfpaaGreatDoor
open Go Go.RowKit

section
variable {P : Program}
def Back2 (ops : Array Oper) : Prop := ∀ (i : Nat) (o : Oper), ops[i]? = some o → ∀ e, e ∈ o.after → Region.binds .any e = true → e.on < i
def backB2 (ops : Array Oper) : Bool := (List.range ops.size).all fun i => match ops[i]? with | some o => o.after.all fun e => !(Region.binds .any e) || decide (e.on < i) | none => true
theorem backB2_spec {ops : Array Oper} (h : backB2 ops = true) : Back2 ops := fun i o ho e he hbd => by
 unfold backB2 at h
 simp only [List.all_eq_true, List.mem_range] at h
 have h1 := h i (Array.getElem?_eq_some_iff.1 ho).1
 rw [ho] at h1
 simp only [Array.all_eq_true] at h1
 obtain ⟨k, hk, rfl⟩ := Array.mem_iff_getElem.1 he
 have h2 := h1 k hk
 rw [hbd] at h2
 simpa using h2
theorem all_done2 {ops : Array Oper} (hb : Back2 ops) {listed : Array Bool} (hr : Region.ready .any ops listed = []) : ∀ i, i < ops.size → listed.getD i true = true := by
 intro i
 induction i using Nat.strongRecOn with
 | ind i ih =>
   intro hi
   by_cases h : listed.getD i true = true
   · exact h
   · exfalso
     have h1 : i ∈ Region.ready .any ops listed := mem_ready.2 ⟨by simpa using h, ops[i], Array.getElem?_eq_getElem hi, fun e he hbd => by
      have h2 := hb i _ (Array.getElem?_eq_getElem hi) e he hbd
      have h3 := ih e.on h2 (by omega)
      have hsz : ∀ k, listed.getD k true = true → listed.getD i true = false → k < i → listed.getD k false = true := fun k h4 h5 h6 => by
       have hil : i < listed.size := by
        by_cases h7 : i < listed.size
        · exact h7
        · simp [Array.getD, h7] at h5
       have hkl : k < listed.size := by omega
       simpa [Array.getD, hkl] using h4
      exact hsz e.on h3 (by simpa using h) h2⟩
     rw [hr] at h1
     cases h1
theorem wp_region_tabg2 {G : Type} {Q : Exit → Act → World → Prop} {id : Nat} {a : Act} {w : World} {l : List Oper} (V : G → Nat → Value) (R : World → Array Bool → G → World → Prop) (g0 : G) (hm : P.follows .mixedOrders = true) (hs : Slots l.toArray) (hb : Back2 l.toArray)
    (h0 : R w (Array.replicate l.length false) g0 w.drew)
    (hstep : ∀ listed g w1 i o, l[i]? = some o → listed.getD i true = false → (∀ e, e ∈ o.after → Region.binds .any e = true → listed.getD e.on false = true) → R w listed g w1 →
      ∀ K : Act → World → Prop, (∀ g' w', R w (listed.setIfInBounds i true) g' w' → (∀ j, j < l.length → listed.getD j true = true → V g' j = V g j) → K ((fill l.toArray (V g) listed a).put o.dst (V g' i)) w') →
        if Region.wanted o (yielded l.toArray (fill l.toArray (V g) listed a).tmps) = true then o.wp P (fill l.toArray (V g) listed a) w1 K Q else K ((fill l.toArray (V g) listed a).put o.dst undef) w1)
    (hend : ∀ listed g w1, (∀ i, i < l.length → listed.getD i true = true) → R w listed g w1 → Q .normal (fill l.toArray (V g) listed a) w1) : (Code.region id l.toArray true).wp P Q a w := by
 refine wp_region_inv (fun listed b w1 => ∃ g, b = fill l.toArray (V g) listed a ∧ R w listed g w1) hm ⟨g0, ?_, h0⟩ ?_ ?_
 · have : ∀ n, fillN l.toArray (V g0) (Array.replicate l.length false) a n = a ∨ l.length < n := by
     intro n
     induction n with
     | zero => exact .inl rfl
     | succ n ih =>
       by_cases hn : l.length < n + 1
       · exact .inr hn
       · rcases ih with ih | ih
         · refine .inl ?_
           unfold fillN
           rw [if_neg (by simp [Array.getD]; omega), ih]
         · omega
   rcases this l.toArray.size with h | h
   · exact h.symm
   · simp at h
 · rintro listed b w1 i ⟨g, rfl, hR⟩ hi
   obtain ⟨hun, o, ho, hdeps⟩ := mem_ready.1 hi
   have ho' : l[i]? = some o := by simpa using ho
   have hi2 : i < l.toArray.size := (Array.getElem?_eq_some_iff.1 ho).1
   refine wpOp_step ho fun K hK => ?_
   refine hstep listed g w1 i o ho' hun hdeps hR K fun g' w' hR' hV => ?_
   refine hK _ _ ⟨g', ?_, hR'⟩
   have hd : dstOf l.toArray i = o.dst := by simp [dstOf, ho']
   rw [← hd, fill_congr (V' := V g') (fun j hl hj => (hV j (by simpa using hj) hl).symm), fill_put hs hi2 hun]
 · rintro listed b w1 ⟨g, rfl, hR⟩ hr
   exact hend listed g w1 (fun i hi => all_done2 hb hr i (by simpa using hi)) hR

theorem wp_region_flow {Q : Exit → Act → World → Prop} {id : Nat} {a : Act} {w : World} {l : List Oper} (J : Nat) (Good : Bool → Nat → Value → World → Prop) (hm : P.follows .mixedOrders = true) (hs : slotsB l.toArray = true) (hb : backB2 l.toArray = true) (hfit : ((List.range l.length).all fun j => match dstOf l.toArray j with | some d => decide (d < a.tmps.size) | none => true) = true)
    (hst : ∀ d i v w1 w2, Ext w1 w2 → Good d i v w1 → Good d i v w2) (hup : ∀ i v w1 w2, Good false i v w1 → Good true i v w2)
    (hstep : ∀ (i : Nat) (o : Oper), l[i]? = some o → ∀ (d : Bool) (b : Act) (w1 : World), (i = J → d = false) → Ext w w1 → (∀ d : Nat, missB l.toArray d = true → b.tmps[d]? = a.tmps[d]?) →
      (∀ j, waits o j = true → ∃ v, Good d j v w1 ∧ ∀ d, dstOf l.toArray j = some d → b.tmps[d]? = some v) →
      ∀ K : Act → World → Prop, (∀ v w', Ext w w' → (i ≠ J → Ext w1 w') → Good (decide (i = J) || d) i v w' → K (b.put o.dst v) w') → if Region.wanted o (yielded l.toArray b.tmps) = true then o.wp P b w1 K Q else K (b.put o.dst undef) w1)
    (hend : ∀ (V : Nat → Value) (w1 : World), Ext w w1 → (∀ i, i < l.length → Good true i (V i) w1) → Q .normal (fillAllN l.toArray V a l.length) w1) : (Code.region id l.toArray true).wp P Q a w := by
 have hS := slotsB_spec hs
 have hB := backB2_spec hb
 refine wp_region_tabg2 (G := Nat → Value) (fun g => g) (fun w listed g w1 => Ext w w1 ∧ ∀ i, i < l.length → listed.getD i true = true → Good (listed.getD J true) i (g i) w1) (fun _ => undef) hm hS hB ?_ ?_ ?_
 · refine ⟨(Ext.refl _).drew, fun i hi h => ?_⟩
   have : (Array.replicate l.length false).getD i true = false := by simp [Array.getD, hi]
   rw [this] at h
   cases h
 · intro listed g w1 i o ho hun hdep hR K hK
   have hil : i < l.length := (List.getElem?_eq_some_iff.1 ho).1
   refine hstep i o ho (listed.getD J true) (fill l.toArray g listed a) w1 (fun e => by subst e; exact hun) hR.1 (fun d hd => fill_miss (fun i hi _ => missB_spec hd i hi)) (fun j hj => ?_) K (fun v w' hx hx1 hg => ?_)
   · obtain ⟨e, he, rfl, hbd⟩ := waits_spec hj
     have h1 := getD_up (hdep e he hbd)
     have h2 : e.on < l.length := by have := hB i o (by simpa using ho) e he hbd; omega
     refine ⟨g e.on, hR.2 _ h2 h1, fun d hd => fill_hit hS (by simpa using h2) h1 hd ?_⟩
     rw [List.all_eq_true] at hfit
     have h3 := hfit e.on (List.mem_range.2 h2)
     rw [hd] at h3
     simpa using h3
   · have h := hK (fun k => if k = i then v else g k) w' ⟨hx, fun j hj hl => ?_⟩ (fun j hj hl => ?_)
     · simpa using h
     · by_cases hiJ : i = J
       · subst hiJ
         have e1 : (listed.setIfInBounds i true).getD i true = true := by
          simp only [Array.getD]
          split <;> simp
         rw [e1]
         rw [hun] at hR hg
         by_cases hji : j = i
         · subst hji; simpa using hg
         · simp only [if_neg hji]
           rw [getD_set_ne true (Ne.symm hji)] at hl
           exact hup _ _ _ _ (hR.2 j hj hl)
       · rw [getD_set_ne true hiJ]
         by_cases hji : j = i
         · subst hji; simpa [hiJ] using hg
         · simp only [if_neg hji]
           rw [getD_set_ne true (Ne.symm hji)] at hl
           exact hst _ _ _ _ _ (hx1 hiJ) (hR.2 j hj hl)
     · have hne : j ≠ i := fun e => by subst e; rw [hl] at hun; cases hun
       simp only [if_neg hne]
 · intro listed g w1 hall hR
   rw [fill_done hall]
   refine hend g w1 hR.1 (fun i hi => ?_)
   have h := hR.2 i hi (hall i hi)
   cases hd : listed.getD J true
   · rw [hd] at h; exact hup _ _ _ _ h
   · rw [hd] at h; exact h
variable {o : Oper} {b : Act} {w1 : World} {K : Act → World → Prop} {Q : Exit → Act → World → Prop}
theorem op_callG {f : FuncId} {args : Array Operand} {ts : Array TypeId} {vs : Array Value} {G : Value → World → Prop} (ho : o.op = .call { callee := .value (.func f), args := args, argTypes := ts }) (ha : args.map b.eval = vs) (he : ∀ args w, (callFunc f args).run P w = .ok (.enter f args) w)
    (hc : Calls P f vs w1 fun e w' => ∃ v, e = .returned v ∧ G v w') (h : ∀ v w', G v w' → K (b.put o.dst v) w') : o.wp P b w1 K Q := by
 have hr : (execOp b.eval o).run P w1 = .ok (.enter f vs) w1 := by
  unfold execOp
  simp [ho, resolve, invoke, Deferred.ofValue, Act.eval, ha, he]
 unfold Oper.wp
 rw [hr, Oper.upon_enter]
 refine hc.mono ?_
 rintro e w' ⟨v, rfl, hg⟩
 exact h v w' hg
end
section
variable {P : Program}
def needB (ops : Array Oper) : Nat → Nat → Nat → Bool
 | 0, _, _ => false
 | f + 1, j, i => match ops[j]? with
   | some o => o.after.any fun e => Region.binds .any e && (e.on == i || needB ops f e.on i)
   | none => false
def ClosedL (ops : Array Oper) (listed : Array Bool) : Prop := ∀ (j : Nat) (o : Oper), ops[j]? = some o → listed.getD j true = true → ∀ e, e ∈ o.after → Region.binds .any e = true → listed.getD e.on true = true
theorem need_done {ops : Array Oper} {listed : Array Bool} (hc : ClosedL ops listed) : ∀ (f j i : Nat), needB ops f j i = true → listed.getD j true = true → listed.getD i true = true
 | 0, _, _, h, _ => by cases h
 | f + 1, j, i, h, hj => by
   unfold needB at h
   split at h
   next o ho =>
    simp only [Array.any_eq_true, Bool.and_eq_true, Bool.or_eq_true, beq_iff_eq] at h
    obtain ⟨k, hk, hb, h1⟩ := h
    have h2 := hc j o ho hj _ (Array.getElem_mem hk) hb
    rcases h1 with h1 | h1
    · rw [← h1]; exact h2
    · exact need_done hc f _ i h1 h2
   next => cases h
theorem wp_region_fin {Q : Exit → Act → World → Prop} {id : Nat} {a : Act} {w : World} {l : List Oper} (J : Nat) (Good : Bool → Nat → Value → World → Prop) (k0 dk : Nat) (Fin : Value → World → Prop) (hm : P.follows .mixedOrders = true) (hs : slotsB l.toArray = true) (hb : backB2 l.toArray = true) (hfit : ((List.range l.length).all fun j => match dstOf l.toArray j with | some d => decide (d < a.tmps.size) | none => true) = true)
    (hJl : J < l.length) (hdk : dstOf l.toArray k0 = some dk) (hJk : ∃ o, l[J]? = some o ∧ waits o k0 = true)
    (hst : ∀ d i v w1 w2, Ext w1 w2 → Good d i v w1 → Good d i v w2) (hup : ∀ i v w1 w2, Good false i v w1 → Good true i v w2) (hF : ∀ v w1 w2, Ext w1 w2 → Fin v w1 → Fin v w2)
    (hstep : ∀ (i : Nat) (o : Oper), l[i]? = some o → ∀ (d : Bool) (b : Act) (w1 : World), (i = J → d = false) → (needB l.toArray l.length J i = true → d = false) → Ext w w1 → (∀ d : Nat, missB l.toArray d = true → b.tmps[d]? = a.tmps[d]?) →
      (∀ j, waits o j = true → ∃ v, Good d j v w1 ∧ ∀ d, dstOf l.toArray j = some d → b.tmps[d]? = some v) →
      ∀ K : Act → World → Prop, (∀ v w', Ext w w' → (i ≠ J → Ext w1 w') → (i = J → ∀ v0, b.tmps[dk]? = some v0 → Fin v0 w') → Good (decide (i = J) || d) i v w' → K (b.put o.dst v) w') → if Region.wanted o (yielded l.toArray b.tmps) = true then o.wp P b w1 K Q else K (b.put o.dst undef) w1)
    (hend : ∀ (V : Nat → Value) (w1 : World), Ext w w1 → (∀ i, i < l.length → Good true i (V i) w1) → Fin (V k0) w1 → Q .normal (fillAllN l.toArray V a l.length) w1) : (Code.region id l.toArray true).wp P Q a w := by
 have hS := slotsB_spec hs
 have hB := backB2_spec hb
 obtain ⟨oJ, hoJ, hwJ⟩ := hJk
 obtain ⟨eJ, heJ, hek, hbJ⟩ := waits_spec hwJ
 have hk0 : k0 < J := by rw [← hek]; exact hB J oJ (by simpa using hoJ) eJ heJ hbJ
 refine wp_region_tabg2 (G := Nat → Value) (fun g => g) (fun w listed g w1 => Ext w w1 ∧ (∀ i, i < l.length → listed.getD i true = true → Good (listed.getD J true) i (g i) w1) ∧ (listed.getD J true = true → listed.getD k0 true = true ∧ Fin (g k0) w1) ∧ ClosedL l.toArray listed) (fun _ => undef) hm hS hB ?_ ?_ ?_
 · refine ⟨(Ext.refl _).drew, fun i hi h => ?_, fun h => ?_, fun j o ho h => ?_⟩
   · have : (Array.replicate l.length false).getD i true = false := by simp [Array.getD, hi]
     rw [this] at h
     cases h
   · have : (Array.replicate l.length false).getD J true = false := by simp [Array.getD, hJl]
     rw [this] at h
     cases h
   · have hj := (Array.getElem?_eq_some_iff.1 ho).1
     have : (Array.replicate l.length false).getD j true = false := by simp only [List.size_toArray] at hj; simp [Array.getD, hj]
     rw [this] at h
     cases h
 · intro listed g w1 i o ho hun hdep hR K hK
   have hil : i < l.length := (List.getElem?_eq_some_iff.1 ho).1
   refine hstep i o ho (listed.getD J true) (fill l.toArray g listed a) w1 (fun e => by subst e; exact hun) (fun hn => by
    cases hJ : listed.getD J true
    · rfl
    · have h1 := need_done hR.2.2.2 _ _ _ hn hJ
      rw [hun] at h1
      cases h1) hR.1 (fun d hd => fill_miss (fun i hi _ => missB_spec hd i hi)) (fun j hj => ?_) K (fun v w' hx hx1 hfin hg => ?_)
   · obtain ⟨e, he, rfl, hbd⟩ := waits_spec hj
     have h1 := getD_up (hdep e he hbd)
     have h2 : e.on < l.length := by have := hB i o (by simpa using ho) e he hbd; omega
     refine ⟨g e.on, hR.2.1 _ h2 h1, fun d hd => fill_hit hS (by simpa using h2) h1 hd ?_⟩
     rw [List.all_eq_true] at hfit
     have h3 := hfit e.on (List.mem_range.2 h2)
     rw [hd] at h3
     simpa using h3
   · have h := hK (fun k => if k = i then v else g k) w' ⟨hx, fun j hj hl => ?_, fun hl => ?_, fun j o' ho' hl e he hbd => ?_⟩ (fun j hj hl => ?_)
     · simpa using h
     · by_cases hiJ : i = J
       · subst hiJ
         have e1 : (listed.setIfInBounds i true).getD i true = true := by
          simp only [Array.getD]
          split <;> simp
         rw [e1]
         rw [hun] at hR hg
         by_cases hji : j = i
         · subst hji; simpa using hg
         · simp only [if_neg hji]
           rw [getD_set_ne true (Ne.symm hji)] at hl
           exact hup _ _ _ _ (hR.2.1 j hj hl)
       · rw [getD_set_ne true hiJ]
         by_cases hji : j = i
         · subst hji; simpa [hiJ] using hg
         · simp only [if_neg hji]
           rw [getD_set_ne true (Ne.symm hji)] at hl
           exact hst _ _ _ _ _ (hx1 hiJ) (hR.2.1 j hj hl)
     · by_cases hiJ : i = J
       · subst hiJ
         obtain rfl : oJ = o := by rw [hoJ] at ho; injection ho
         have h1 := getD_up (hdep eJ heJ hbJ)
         rw [hek] at h1
         have hne : k0 ≠ i := by omega
         refine ⟨by rw [getD_set_ne true (Ne.symm hne)]; exact h1, ?_⟩
         simp only [if_neg hne]
         refine hfin rfl _ (fill_hit hS (by simp; omega) h1 hdk ?_)
         rw [List.all_eq_true] at hfit
         have h3 := hfit k0 (List.mem_range.2 (by omega))
         rw [hdk] at h3
         simpa using h3
       · rw [getD_set_ne true hiJ] at hl
         have h2 := hR.2.2.1 hl
         have hne : i ≠ k0 := fun e => by subst e; rw [hun] at h2; cases h2.1
         refine ⟨by rw [getD_set_ne true hne]; exact h2.1, ?_⟩
         simp only [if_neg (Ne.symm hne)]
         exact hF _ _ _ (hx1 hiJ) h2.2
     · have hs1 : ∀ k, listed.getD k true = true → (listed.setIfInBounds i true).getD k true = true := fun k hk => by
         by_cases hki : i = k
         · subst hki; rw [hun] at hk; cases hk
         · rw [getD_set_ne true hki]; exact hk
       by_cases hji : i = j
       · subst hji
         obtain rfl : o' = o := by rw [show l.toArray[i]? = l[i]? by simp, ho] at ho'; injection ho' with h; exact h.symm
         exact hs1 _ (getD_up (hdep e he hbd))
       · rw [getD_set_ne true hji] at hl
         exact hs1 _ (hR.2.2.2 j o' ho' hl e he hbd)
     · have hne : j ≠ i := fun e => by subst e; rw [hl] at hun; cases hun
       simp only [if_neg hne]
 · intro listed g w1 hall hR
   rw [fill_done hall]
   have hd := hall J hJl
   have h2 := hR.2
   rw [hd] at h2
   exact hend g w1 hR.1 (fun i hi => h2.1 i hi (hall i hi)) (h2.2.1 rfl).2
end
section
variable {P : Program} (w : World)
theorem run_append_of0 (base : Nat) (t ty e : TypeId) (i : TypeInfo) (size : Nat) (ht : P.underlying t = some (.slice e)) (hi : P.info? e = some i)
    (v : Value) (n : Nat) (xs : List Value) (hown : w.ownsRow base e size v n xs) (a : Addr) (c : Nat) : (Builtin.append_ #[t, t] ty #[v, .slice (some a) 0 c]).run P w = .ok v w := by
 rcases hown.2 with ⟨rfl, rfl⟩ | ⟨g, cap, cur, rfl, _, _, hnc, _⟩
 · simp [Builtin.append_, run_underlying ht, sizeOf, typeInfo, hi, Builtin.lenOf, Builtin.firstCells, loadCells, loadCellsFrom]
 · simp [Builtin.append_, run_underlying ht, sizeOf, typeInfo, hi, Builtin.lenOf, Builtin.firstCells, hnc, storeCells, loadCells, loadCellsFrom]
theorem run_append_zero (base : Nat) (t ty e : TypeId) (i : TypeInfo) (z : Value) (size bytes : Nat) (ht : P.underlying t = some (.slice e)) (hi : P.info? e = some i) (hz : i.zero = some z)
    (hsize : i.size = size) (hby : i.bytes = bytes) (hzs : z.cells.size = size) (hsz : 0 < size)
    (b : Nat) (hown : w.ownsRow base e size (.slice (some ⟨b, 0, none⟩) 0 0) 0 [])
    (B : Nat) (A : Option Addr) (m c : Nat) (news : List (List Value)) (hr : Sv w B size A c news) (hm : news.length = m)
    (h63 : m ≤ maxLen) (hbytes : m * bytes ≤ 140737488355328) (hbase : base ≤ w.heap.size) :
    ∃ v' w', (Builtin.append_ #[t, t] ty #[.slice (some ⟨b, 0, none⟩) 0 0, .slice A m c]).run P w = .ok v' w' ∧ w'.ownsRow base e size v' m news.flatten ∧ Ext w w' := by
 rcases A with _ | ad
 · have hn : news = [] := by
     rcases Nat.eq_zero_or_pos news.length with h0 | h0
     · exact List.eq_nil_of_length_eq_zero h0
     · obtain ⟨b, off, h, _⟩ := hr.mem h0
       cases h
   subst hn
   subst hm
   exact ⟨_, w, run_append_ofnil w base t ty e i size ht hi _ 0 [] hown c, by simpa using hown, Ext.refl _⟩
 · rcases Nat.eq_zero_or_pos m with rfl | hpos
   · have hn : news = [] := List.eq_nil_of_length_eq_zero hm
     subst hn
     exact ⟨_, w, run_append_of0 w base t ty e i size ht hi _ 0 [] hown ad c, by simpa using hown, Ext.refl _⟩
   · obtain ⟨v', w', h1, h2, _, _⟩ := run_append_sv (P := P) w base t ty e i z size bytes ht hi hz hsize hby hzs hsz _ 0 [] hown B (some ad) m c news hr hm (by omega) (by rw [Nat.zero_add]; exact hbytes) hbase
     refine ⟨v', w', h1, by simpa using h2, ?_⟩
     have hr2 := run_append_grow (P := P) (w := w) t ty e i z ht hi hz ⟨b, 0, none⟩ 0 0 [] (by simp) (fun j u hu => by simp at hu) ad m c news.flatten (by rw [hsize, flatten_length _ hr.rows.len, hm]) hr.news (by omega) (by unfold maxLen at h63; omega) (growslice_fits (by omega) (by rw [hby]; simpa using hbytes))
     rw [h1] at hr2
     injection hr2 with e1 e2
     subst e2
     exact ((Ext.refl w).drew).alloc _
end
section
variable {P : Program} {o : Oper} {b : Act} {w1 : World} {K : Act → World → Prop} {Q : Exit → Act → World → Prop}
theorem op_append_zero (s x : Operand) (t : TypeId) (ho : o.op = .call { callee := .builtin .append, args := #[s, x], argTypes := #[t, t] })
    (base : Nat) (e : TypeId) (i : TypeInfo) (z : Value) (size bytes : Nat) (ht : P.underlying t = some (.slice e)) (hi : P.info? e = some i) (hz : i.zero = some z)
    (hsize : i.size = size) (hby : i.bytes = bytes) (hzs : z.cells.size = size) (hsz : 0 < size)
    (bk : Nat) (hs : b.eval s = .slice (some ⟨bk, 0, none⟩) 0 0) (hown : w1.ownsRow base e size (.slice (some ⟨bk, 0, none⟩) 0 0) 0 [])
    (B : Nat) (A : Option Addr) (m c : Nat) (news : List (List Value)) (hx : b.eval x = .slice A m c) (hr : Sv w1 B size A c news) (hm : news.length = m)
    (h63 : m ≤ maxLen) (hbytes : m * bytes ≤ 140737488355328) (hbase : base ≤ w1.heap.size)
    (h : ∀ v' w', w'.ownsRow base e size v' m news.flatten → Ext w1 w' → K (b.put o.dst v') w') : o.wp P b w1 K Q := by
 obtain ⟨v', w', hrun, r1, r2⟩ := run_append_zero (P := P) w1 base t o.type e i z size bytes ht hi hz hsize hby hzs hsz bk hown B A m c news hr hm h63 hbytes hbase
 unfold Oper.wp
 simp [execOp, ho, resolve, invoke, builtin, hs, hx, hrun, Result.andThen]
 exact h v' w' r1 r2
end
section
variable {P : Program} {o : Oper} {b : Act} {w1 : World} {K : Act → World → Prop} {Q : Exit → Act → World → Prop}
theorem op_append_sv (s x : Operand) (t : TypeId) (ho : o.op = .call { callee := .builtin .append, args := #[s, x], argTypes := #[t, t] })
    (base : Nat) (e : TypeId) (i : TypeInfo) (z : Value) (size bytes : Nat) (ht : P.underlying t = some (.slice e)) (hi : P.info? e = some i) (hz : i.zero = some z)
    (hsize : i.size = size) (hby : i.bytes = bytes) (hzs : z.cells.size = size) (hsz : 0 < size)
    (v : Value) (n : Nat) (xs : List Value) (hs : b.eval s = v) (hown : w1.ownsRow base e size v n xs)
    (B : Nat) (A : Option Addr) (m c : Nat) (news : List (List Value)) (hx : b.eval x = .slice A m c) (hr : Sv w1 B size A c news) (hm : news.length = m)
    (h63 : n + m ≤ maxLen) (hbytes : (n + m) * bytes ≤ 140737488355328) (hbase : base ≤ w1.heap.size)
    (h : ∀ v' w', w'.ownsRow base e size v' (n + m) (xs ++ news.flatten) → w1.grownBy w' v.ownBlock → K (b.put o.dst v') w') : o.wp P b w1 K Q := by
 obtain ⟨v', w', hrun, r1, r2, _⟩ := run_append_sv (P := P) w1 base t o.type e i z size bytes ht hi hz hsize hby hzs hsz v n xs hown B A m c news hr hm h63 hbytes hbase
 unfold Oper.wp
 simp [execOp, ho, resolve, invoke, builtin, hs, hx, hrun, Result.andThen]
 exact h v' w' r1 r2
end
section
variable {P : Program} {o : Oper} {b : Act} {w1 : World} {K : Act → World → Prop} {Q : Exit → Act → World → Prop}
theorem op_buildRow (t e : TypeId) (s : Nat) (ho : o.op = .buildSlice t 1 #[(0, .tmp s)])
    (k : Nat) (hk : 0 < k) (hk2 : k ≤ 1000) (x : List Value) (hx : x.length = k) (hs : b.eval (.tmp s) = .agg x.toArray) (hu : P.underlying t = some (.slice e)) (hi : (P.info? e).map (·.size) = some k) (hz : ((P.info? e).bind (·.zero)).isSome = true)
    (h : K (b.put o.dst (.slice (some ⟨w1.heap.size, 0, none⟩) 1 1)) (w1.alloc (.cells x.toArray e))) : o.wp P b w1 K Q := by
 cases hie : P.info? e with
 | none => simp [hie] at hi
 | some ie =>
   have hsz : ie.size = k := by simpa [hie] using hi
   obtain ⟨z, hzz⟩ := Option.isSome_iff_exists.1 (by simpa [hie] using hz : (ie.zero).isSome = true)
   refine wp_buildSlice t e 1 _ ho _ ie z hu hie hzz (by rw [hsz]; omega) (by rw [hsz]; omega) ?_ h
   have hf := Great.fill_whole (s := k) hk [.agg x.toArray] ((Array.range (1 * k)).map (z.cells[· % z.cells.size]!)) (fun v hv => by
    simp only [List.mem_singleton] at hv
    subst hv
    simpa [Value.cells] using hx) (by simp)
   rw [hsz]
   simp only [List.map_toArray, List.map_cons, List.map_nil, hs]
   simpa [Value.cells] using hf
end
theorem own_lower {w : World} {base base' n k : Nat} {e : TypeId} {v : Value} {zs : List Value} (hb : base' ≤ base) (h : w.ownsRow base e k v n zs) : w.ownsRow base' e k v n zs := by
 rcases h.2 with h0 | ⟨g, cap, cur, e1, h1, h2⟩
 · exact ⟨h.1, .inl h0⟩
 · exact ⟨h.1, .inr ⟨g, cap, cur, e1, Nat.le_trans hb h1, h2⟩⟩
end Go.Proofs.YtlinhgannajfpaaGreatDoor

/- Contracts of cmp at ints. -/
namespace Go.Proofs.YtlinhgannajfpaaGreatDoor
open Go Go.RowKit

set_option maxHeartbeats 400000 in
theorem isNaN_any (a : Int) (w : World) :
    Calls Tryz.prog 129 #[.int .i64 a] w fun e w' => e = .returned (.bool false) ∧ w = w' := by
 go_enter Tryz.func129, Tryz.ntmps129
 go_wp2
 go_ret
 exact ⟨rfl, rfl⟩

def cmpI (a b : Int) : Int := if a < b then -1 else if b < a then 1 else 0

set_option maxHeartbeats 400000 in
theorem Compare_any (a b : Int) (w : World) :
    Calls Tryz.prog 100 #[.int .i64 a, .int .i64 b] w fun e w' => e = .returned (.int .i64 (cmpI a b)) ∧ w = w' := by
 go_enter Tryz.func100, Tryz.ntmps100
 go_wp2_with (go_at_call 129; refine (isNaN_any _ _).mono ?_; rintro e w' ⟨rfl, rfl⟩)
 all_goals (go_ret; exact ⟨ret_int (by unfold cmpI; split <;> (try split) <;> omega), rfl⟩)

def orI (a b : Int) : Int := if a = 0 then b else a

set_option maxHeartbeats 400000 in
theorem Or_two (a b : Int) (g : Nat) (w : World) (h0 : w.cell? ⟨g, 0, none⟩ = some (.int .i64 a)) (h1 : w.cell? ⟨g, 1, none⟩ = some (.int .i64 b)) :
    Calls Tryz.prog 63 #[.slice (some ⟨g, 0, none⟩) 2 2] w fun e w' => e = .returned (.int .i64 (orI a b)) ∧ w = w' := by
 go_enter Tryz.func63, Tryz.ntmps63
 go_wp2
 go_loop [8] (fun i => ∃ k : Nat, k ≤ 2 ∧ i = .int .i64 k ∧ (0 < k → a = 0) ∧ (1 < k → b = 0)) (fun i => 2 - (intOf i).toNat)
 case atStart => exact ⟨0, by omega, rfl, by omega, by omega⟩
 case round =>
  obtain ⟨k, hk, rfl, g0, g1⟩ := hrel
  obtain rfl | rfl | rfl : k = 0 ∨ k = 1 ∨ k = 2 := by omega
  · by_cases ha : a = 0
    · subst ha
      go_wp2
      go_round
      case rel => exact ⟨1, by omega, rfl, fun _ => trivial, by omega⟩
      case measure => simp [intOf]
    · have hb : (a != 0) = true := by simpa using ha
      go_wp2
      go_ret
      exact ⟨ret_int (by unfold orI; rw [if_neg ha]), rfl⟩
  · obtain rfl := g0 (by omega)
    by_cases ha : b = 0
    · subst ha
      go_wp2
      go_round
      case rel => exact ⟨2, by omega, rfl, fun _ => trivial, fun _ => trivial⟩
      case measure => simp [intOf]
    · have hb : (b != 0) = true := by simpa using ha
      go_wp2
      go_ret
      exact ⟨ret_int (by unfold orI; simp), rfl⟩
  · go_wp2
    go_ret
    exact ⟨ret_int (by unfold orI; split <;> omega), rfl⟩

end Go.Proofs.YtlinhgannajfpaaGreatDoor

/- Slices of ints; cmp.Or at any number of them. -/
namespace Go.Proofs.YtlinhgannajfpaaGreatDoor
open Go Go.RowKit

def rowsI (l : List Int) : List (List Value) := l.map fun x => [.int .i64 x]
theorem rowsI_length (l : List Int) : (rowsI l).length = l.length := by simp [rowsI]
theorem rowsI_rwk (l : List Int) : Rwk 1 (rowsI l) := fun x hx => by
 obtain ⟨p, _, rfl⟩ := List.mem_map.1 hx
 exact ⟨rfl, fun u hu => by simp at hu; subst hu; rfl⟩
theorem int_row {w : World} {B c j : Nat} {A : Option Addr} {l : List Int} {v : Int} (h : Sv w B 1 A c (rowsI l)) (hp : l[j]? = some v) :
    ∃ b off, A = some ⟨b, off, none⟩ ∧ b < B ∧ w.cell? ⟨b, off + j, none⟩ = some (.int .i64 v) := by
 obtain ⟨b, off, e, hb, hr⟩ := h.row (i := j) (x := [.int .i64 v]) (by simp [rowsI, hp])
 have h0 := hr 0 _ rfl
 simp only [Nat.mul_one, Nat.add_zero] at h0
 exact ⟨b, off, e, hb, h0⟩
theorem infoInt : (Tryz.prog.info? 3).map (fun i => (i.zero, i.size, i.bytes)) = some (some (.int .i64 0), 1, 8) := by kernel_rfl
def orL : List Int → Int
 | [] => 0
 | x :: l => orI x (orL l)
theorem orL_zero {l : List Int} (h : ∀ x, x ∈ l → x = 0) : orL l = 0 := by
 induction l with
 | nil => rfl
 | cons x l ih => rw [orL, h x (List.mem_cons_self ..), ih fun y hy => h y (List.mem_cons_of_mem _ hy)]; rfl
theorem orL_at {l : List Int} {j : Nat} {x : Int} (h : ∀ (i : Nat) (y : Int), i < j → l[i]? = some y → y = 0) (hx : l[j]? = some x) (h0 : x ≠ 0) : orL l = x := by
 induction l generalizing j with
 | nil => simp at hx
 | cons y l ih =>
   cases j with
   | zero => simp at hx; subst hx; rw [orL]; unfold orI; rw [if_neg h0]
   | succ j =>
     rw [orL, h 0 y (by omega) rfl]
     unfold orI
     rw [if_pos rfl]
     exact ih (j := j) (fun i z hi hz => h (i + 1) z (by omega) (by simpa using hz)) (by simpa using hx)
set_option maxHeartbeats 1000000 in
theorem Or_any (A : Option Addr) (c : Nat) (l : List Int) (B : Nat) (w : World) (hs : Sv w B 1 A c (rowsI l)) (_hB : B ≤ w.heap.size) :
    Calls Tryz.prog 63 #[.slice A l.length c] w fun e w' => e = .returned (.int .i64 (orL l)) ∧ w = w' := by
 have hln := hs.len
 rw [rowsI_length] at hln
 have HS := Lib.hid hs; clear hs
 go_enter Tryz.func63, Tryz.ntmps63
 go_wp2
 go_loop [8] (fun i => ∃ k : Nat, k ≤ l.length ∧ i = .int .i64 k ∧ ∀ (i : Nat) (y : Int), i < k → l[i]? = some y → y = 0) (fun i => l.length - (intOf i).toNat)
 case atStart => exact ⟨0, Nat.zero_le _, rfl, fun i y hi => by omega⟩
 case round =>
  obtain ⟨k, hk, rfl, hg⟩ := hrel
  have HG := Lib.hid hg; clear hg
  by_cases hlt : k < l.length
  · obtain ⟨x, hx⟩ : ∃ x, l[k]? = some x := ⟨_, List.getElem?_eq_getElem hlt⟩
    obtain ⟨b, off, rfl, hb, h0⟩ := int_row HS.out hx
    have HX := Lib.hid hx; clear hx
    by_cases hz : x = 0
    · have hz2 : (x != 0) = false := by simpa using hz
      have HG2 := Lib.hid (fun (i : Nat) (y : Int) (hi : i < k + 1) (hy : l[i]? = some y) => (show y = 0 from by
       rcases Nat.lt_succ_iff_lt_or_eq.1 hi with h1 | rfl
       · exact HG.out i y h1 hy
       · rw [HX.out] at hy; injection hy with hy; rw [← hy]; exact hz))
      subst hz
      go_wp2
      go_round
      case rel => exact ⟨k + 1, by omega, by go_num, HG2.out⟩
      case measure => simp [intOf]; omega
    · have hz2 : (x != 0) = true := by simpa using hz
      have HO := Lib.hid (orL_at HG.out HX.out hz)
      clear hz
      go_wp2
      go_ret
      exact ⟨ret_int HO.out.symm, rfl⟩
  · obtain rfl : k = l.length := by omega
    have HO := Lib.hid (orL_zero (l := l) fun x hx => by
     obtain ⟨i, hi⟩ := List.getElem?_of_mem hx
     exact HG.out i x (List.getElem?_eq_some_iff.1 hi).1 hi)
    go_wp2
    go_ret
    exact ⟨ret_int HO.out.symm, rfl⟩
end Go.Proofs.YtlinhgannajfpaaGreatDoor

/- Slices of points. -/
namespace Go.Proofs.YtlinhgannajfpaaGreatDoor
open Go Go.RowKit

def rowsP (l : List Pt) : List (List Value) := l.map Pt.cells
theorem rowsP_length (l : List Pt) : (rowsP l).length = l.length := by simp [rowsP]
theorem rowsP_rwk (l : List Pt) : Rwk 3 (rowsP l) := fun x hx => by
 obtain ⟨p, _, rfl⟩ := List.mem_map.1 hx
 exact ⟨rfl, fun u hu => by simp [Pt.cells] at hu; rcases hu with rfl | rfl | rfl <;> rfl⟩
theorem rowsP_flat (l : List Pt) : (rowsP l).flatten.length = l.length * 3 := by rw [flatten_length _ (rowsP_rwk l).len, rowsP_length]
theorem rowsP_append (a b : List Pt) : rowsP (a ++ b) = rowsP a ++ rowsP b := by simp [rowsP]
theorem rowsP_take (l : List Pt) (i : Nat) : rowsP (l.take i) = (rowsP l).take i := by simp [rowsP, List.map_take]
theorem rowsP_drop (l : List Pt) (i : Nat) : rowsP (l.drop i) = (rowsP l).drop i := by simp [rowsP, List.map_drop]
theorem pt_row {w : World} {B c j : Nat} {A : Option Addr} {l : List Pt} {p : Pt} (h : Sv w B 3 A c (rowsP l)) (hp : l[j]? = some p) :
    ∃ b off, A = some ⟨b, off, none⟩ ∧ b < B ∧ w.cell? ⟨b, off + j * 3, none⟩ = some (.int .i64 p.x) ∧ w.cell? ⟨b, off + j * 3 + 1, none⟩ = some (.int .i64 p.y) ∧ w.cell? ⟨b, off + j * 3 + 2, none⟩ = some (.int .i64 p.z) := by
 obtain ⟨b, off, e, hb, hr⟩ := h.row (i := j) (x := p.cells) (by simp [rowsP, hp])
 exact ⟨b, off, e, hb, hr 0 _ rfl, hr 1 _ rfl, hr 2 _ rfl⟩
end Go.Proofs.YtlinhgannajfpaaGreatDoor

/- A run of the model's operations never takes a draw back. For every program. -/
namespace Go.Proofs.YtlinhgannajfpaaGreatDoor
open Go Go.RowKit

theorem World_ask_drawn {α : Type} : ∀ (x : Ask α) (w : World), w.drawn ≤ (w.ask x).2.drawn
 | .done a, w => by unfold World.ask; exact Nat.le_refl _
 | .ask what range k, w => by
   unfold World.ask
   dsimp only
   split
   · exact World_ask_drawn (k 0) w
   · exact Nat.le_trans (Nat.le_succ _) (World_ask_drawn (k _) { w with drawn := w.drawn + 1 })
theorem World_sys_drawn (w : World) (c : Sys) : w.drawn ≤ (w.sys c).2.drawn := by
 have h := World_ask_drawn (Kernel.perform c w.os) w
 unfold World.sys
 generalize w.ask (Kernel.perform c w.os) = r at h
 obtain ⟨⟨a, os⟩, w1⟩ := r
 cases a <;> first | exact Nat.le_refl _ | exact h
theorem World_viewStore_drawn {w w' : World} {p : Program} {at_ : Addr} {u : TypeId} {a : Addr} {v : Value} {b : Bool} {l : List Addr} (h : w.viewStore p at_ u a v b = .ok (w', l)) : w'.drawn = w.drawn := by
 unfold World.viewStore at h
 simp only [bind, Except.bind, pure, Except.pure] at h
 repeat (split at h; any_goals (first | cases h; done | skip))
 all_goals (try cases h)
 all_goals (try rfl)
theorem Sem_run_drawn {α : Type} (p : Program) : ∀ (x : Sem α) (w w' : World) (r : α), x.run p w = .ok r w' → w.drawn ≤ w'.drawn := by
 intro x
 induction x with
 | pure a => intro w w' r h; simp only [Sem.run, Result.ok.injEq] at h; obtain ⟨_, rfl⟩ := h; exact Nat.le_refl _
 | load m a k ih =>
   intro w w' r h
   simp only [Sem.run] at h
   split at h
   · exact ih _ _ _ _ h
   · split at h
     · exact ih _ _ _ _ h
     · cases h
 | store m a v k ih =>
   intro w w' r h
   have key : ∀ w1 : World, w1.drawn = w.drawn → k.run p w1 = .ok r w' → w.drawn ≤ w'.drawn := fun w1 h1 h2 => h1 ▸ ih _ _ _ h2
   cases v with
   | agg cs => simp [Sem.run] at h
   | tuple cs => simp [Sem.run] at h
   | _ =>
     simp only [Sem.run] at h
     split at h
     · split at h
       · cases h
       · exact key (w.setCell a _) rfl h
     · split at h
       · rename_i hf
         refine key _ ?_ h
         unfold World.farStore at hf
         split at hf
         · split at hf
           · rename_i hv
             injection hf with hf
             subst hf
             exact World_viewStore_drawn hv
           · cases hf
         · cases hf
       · cases h
 | new o k ih => intro w w' r h; simp only [Sem.run] at h; exact ih w.heap.size { w with heap := w.heap.push o } w' r h
 | shape q k ih => intro w w' r h; simp only [Sem.run] at h; exact ih _ _ _ _ h
 | freeze a n k ih =>
   intro w w' r h
   simp only [Sem.run] at h
   have h1 := ih _ _ _ h
   have h2 : (w.freeze a n).drawn = w.drawn := by unfold World.freeze; (repeat' split) <;> rfl
   rw [h2] at h1; exact h1
 | frozen a k ih => intro w w' r h; simp only [Sem.run] at h; exact ih _ _ _ _ h
 | getObj q k ih =>
   intro w w' r h
   simp only [Sem.run] at h
   split at h
   · cases h
   · exact ih _ _ _ _ h
   · cases h
 | setObj q o k ih =>
   intro w w' r h
   simp only [Sem.run] at h
   split at h
   · cases h
   · exact ih { w with heap := w.heap.setIfInBounds q o } w' r h
   · cases h
 | choose q k ih =>
   intro w w' r h
   simp only [Sem.run] at h
   split at h
   · exact ih _ _ _ _ h
   · have := ih _ _ _ _ h
     simp at this
     omega
 | sys c k ih => intro w w' r h; simp only [Sem.run] at h; exact Nat.le_trans (World_sys_drawn w c) (ih _ _ _ _ h)
 | program k ih => intro w w' r h; simp only [Sem.run] at h; exact ih _ _ _ _ h
 | mark m k ih => intro w w' r h; simp only [Sem.run] at h; exact ih _ _ _ h
 | halt h => intro w w' r h; simp [Sem.run] at h
end Go.Proofs.YtlinhgannajfpaaGreatDoor
