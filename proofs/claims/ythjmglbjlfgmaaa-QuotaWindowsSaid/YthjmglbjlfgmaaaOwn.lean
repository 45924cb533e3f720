/- Memory of the call's own: rows of k cells each; copy, clear, stores; what an owned row reads as. For every program. -/
import Derived.Test.YthjmglbjlfgmaaaBase
import Derived.Laws.CopyOwn
import Derived.Laws.AppendOwnNone
namespace Go.Proofs.Ythjmglbjlfgmaaa
open Go Go.RowKit

section
variable {w w' : World} {base B k n c g : Nat} {e : TypeId} {A : Option Addr} {v : Value} {xs : List (List Value)}
/-- An owned row, read. -/
theorem Sl.of_own (h : w.ownsRow base e k (.slice A n c) n xs.flatten) (hr : Rws k xs) (hn : xs.length = n) : Sl w w.heap.size k A c xs := by
  subst hn
  rcases h.2 with ⟨h1, h2⟩ | ⟨g, cap, cur, hv, hg, hgg, hle, hmax, hsz, htk⟩
  · have hx : xs = [] := List.eq_nil_of_length_eq_zero h2
    subst hx
    injection h1 with _ _ hc
    subst hc
    exact ⟨by simp, by simp, hr, fun h => absurd h (by simp)⟩
  · injection hv with hA _ hc
    subst hA hc
    refine ⟨hle, hmax, hr, fun _ => ⟨g, 0, rfl, (Array.getElem?_eq_some_iff.1 hgg).1, fun j u h3 => ?_⟩⟩
    rw [Nat.zero_add, cell_of_row w g _ cur e (0, 0) hgg]
    rw [← htk, List.getElem?_take] at h3
    split at h3
    · simpa using h3
    · cases h3
/-- The owned row's form. -/
theorem own_form (h : w.ownsRow base e k v n (xs.flatten)) : ∃ A c, v = .slice A n c ∧ n ≤ c ∧ c ≤ maxLen := by
  rcases h.2 with ⟨rfl, rfl⟩ | ⟨g, cap, cur, rfl, _, _, hle, hmax, _⟩
  · exact ⟨none, 0, rfl, Nat.le_refl _, by simp⟩
  · exact ⟨_, cap, rfl, hle, hmax⟩
theorem add_lit (b off j : Nat) : (⟨b, off, none⟩ : Addr).add j = ⟨b, off + j, none⟩ := by unfold Addr.add; split <;> simp_all
/-- The cells of a slice, as the append laws ask for them. -/
theorem Sl.news {a : Addr} (h : Sl w B k (some a) c xs) : ∀ j u, xs.flatten[j]? = some u → w.cell? (a.add j) = some u := fun j u hu => by
  have hpos : 0 < xs.length := by
    rcases Nat.eq_zero_or_pos xs.length with h0 | h0
    · rw [List.eq_nil_of_length_eq_zero h0] at hu; simp at hu
    · exact h0
  obtain ⟨b, off, e, _, hc⟩ := h.mem hpos
  injection e with e
  subst e
  rw [add_lit]
  exact hc j u hu
end

section
variable {P : Program}
/-- 'copy' of rows of k cells onto a row of one block. -/
theorem run_copy_rows (w : World) (dT sT ty elem : TypeId) (k g o dLen dCap : Nat) (a : Addr) (sLen sCap : Nat) (cur : Array Value) (t : TypeId) (cs : List Value)
    (hu : P.underlying dT = some (.slice elem)) (hs : (P.info? elem).map (·.size) = some k)
    (hg : w.heap[g]? = some (.cells cur t (0, 0))) (hn : cs.length = Nat.min sLen dLen * k)
    (hsrc : ∀ j v, cs[j]? = some v → w.cell? (a.add j) = some v) (hfit : o + cs.length ≤ cur.size) (h1 : ∀ v ∈ cs, v.oneCell' = true) :
    (Builtin.copy_ #[dT, sT] ty #[.slice (some ⟨g, o, none⟩) dLen dCap, .slice (some a) sLen sCap]).run P w =
      .ok (goInt (Nat.min sLen dLen)) (w.setRow g (cur.toList.take o ++ cs ++ cur.toList.drop (o + cs.length)).toArray) := by
  have hl := run_loadCells_list (P := P) w a cs hsrc
  have hst := run_storeCells_at P g o t cs 0 cur w hg (by simpa using hfit) h1
  cases hq : P.info? elem with
  | none => simp [hq] at hs
  | some i =>
    have hi : i.size = k := by simpa [hq] using hs
    simp [Builtin.copy_, run_underlying hu, Builtin.lenOf, Builtin.firstCells, sizeOf, typeInfo, hq, hi, ← hn, hl, hst]

theorem wpList_copy_rows {w : World} {ops : Array Oper} {rest : List Oper} {o : Oper} {a : Act} {Q : Exit → Act → World → Prop} (hgd : o.guard = none) (d s : Operand) (dT sT : TypeId)
    (ho : o.op = .call { callee := .builtin .copy, args := #[d, s], argTypes := #[dT, sT] }) (elem : TypeId) (k : Nat) (hu : P.underlying dT = some (.slice elem)) (hsz : (P.info? elem).map (·.size) = some k)
    (g off dLen dCap : Nat) (ad : Addr) (sLen sCap : Nat) (hd : a.eval d = .slice (some ⟨g, off, none⟩) dLen dCap) (hs : a.eval s = .slice (some ad) sLen sCap)
    (cur : List Value) (t : TypeId) (hg : w.heap[g]? = some (.cells cur.toArray t (0, 0))) (cs : List Value) (hn : cs.length = Nat.min sLen dLen * k)
    (hsrc : ∀ j v, cs[j]? = some v → w.cell? (ad.add j) = some v) (hfit : off + cs.length ≤ cur.length) (h1 : ∀ v ∈ cs, v.oneCell' = true)
    (h : wpList P ops Q rest (a.put o.dst (goInt (Nat.min sLen dLen))) (w.setRow g (splice cur off cs).toArray)) : wpList P ops Q (o :: rest) a w := by
  refine wpList_plain hgd fun K hK => ?_
  have hrun := run_copy_rows (P := P) w dT sT o.type elem k g off dLen dCap ad sLen sCap cur.toArray t cs hu hsz hg hn hsrc (by simpa using hfit) h1
  unfold Oper.wp
  simp [execOp, ho, resolve, invoke, builtin, hd, hs, hrun, Result.andThen]
  refine hK _ _ ?_
  simpa [splice] using h
end

/-- Called with a row of xs as a struct, in whatever world near w (block 'row' apart), function g answers p of it. -/
structure Pred (P : Program) (g : FuncId) (cap : Array Value) (p : List Value → Bool) (xs : List (List Value)) (w : World) (row : Option Nat) : Prop where
  enters : ∀ args w, (callFunc g args).run P w = .ok (.enter g args) w
  call : ∀ x, x ∈ xs → ∀ w', w.grownBy w' row → Calls P g (#[.agg x.toArray] ++ cap) w' fun e w'' => e = .returned (.bool (p x)) ∧ Ext w' w''
theorem Ext.by_ {w w' : World} (h : Ext w w') (row : Option Nat) : w.grownBy w' row := ⟨h.below.os, h.below.tape, h.below.output, h.below.size, fun k hk _ => h.below.block k hk⟩
def idx (p : List Value → Bool) (xs : List (List Value)) : Int := match xs.findIdx? p with | some i => i | none => -1
theorem idx_no {p : List Value → Bool} {xs : List (List Value)} (h : ∀ (i : Nat) (x : List Value), xs[i]? = some x → p x = false) : idx p xs = -1 := by
  unfold idx
  rw [List.findIdx?_eq_none_iff.2 (fun x hx => by obtain ⟨i, hi⟩ := List.getElem?_of_mem hx; simp [h i x hi])]
theorem idx_at {p : List Value → Bool} {xs : List (List Value)} {j : Nat} {x : List Value} (h : ∀ (i : Nat) (x : List Value), i < j → xs[i]? = some x → p x = false) (hx : xs[j]? = some x) (hp : p x = true) : idx p xs = j := by
  unfold idx
  obtain ⟨hj, rfl⟩ := List.getElem?_eq_some_iff.1 hx
  rw [List.findIdx?_eq_some_iff_getElem.2 ⟨hj, hp, fun i hi => by simp [h i xs[i] hi (List.getElem?_eq_getElem _)]⟩]


/-- It hands back an owned row that holds xs; what was there is as it was. -/
def RetOwn (e : TypeId) (k : Nat) (xs : List (List Value)) (w : World) (en : Ending) (w' : World) : Prop :=
  ∃ v, en = .returned v ∧ w'.ownsRow w.heap.size e k v xs.length xs.flatten ∧ Ext w w'

theorem grown_refl (w : World) (row : Option Nat) : w.grownBy w row := ⟨rfl, rfl, rfl, Nat.le_refl _, fun _ _ _ => rfl⟩
theorem grown_trans {a b c : World} {row : Option Nat} (h : a.grownBy b row) (k : b.grownBy c row) : a.grownBy c row :=
  ⟨k.os.trans h.os, k.tape.trans h.tape, k.output.trans h.output, Nat.le_trans h.size k.size, fun i hi hn => (k.block i (Nat.lt_of_lt_of_le hi h.size) hn).trans (h.block i hi hn)⟩
theorem grown_ext {a b c : World} {row : Option Nat} (h : a.grownBy b row) (k : Ext b c) : a.grownBy c row := grown_trans h (k.by_ row)
theorem grown_none {a b : World} (h : a.grownBy b none) (row : Option Nat) : a.grownBy b row := ⟨h.os, h.tape, h.output, h.size, fun i hi _ => h.block i hi (by simp)⟩
theorem grown_set {a w : World} {g : Nat} (h : a.grownBy w (some g)) (o : Nat) (u : Value) : a.grownBy (w.setCell ⟨g, o, none⟩ u) (some g) :=
  ⟨h.os, h.tape, h.output, by simpa [World.setCell] using h.size, fun i hi hne => (Below.heap_setCell w ⟨g, o, none⟩ u i (by rintro rfl; exact hne rfl)).trans (h.block i hi hne)⟩
theorem grown_row {a w : World} {g : Nat} (h : a.grownBy w (some g)) (cs : Array Value) : a.grownBy (w.setRow g cs) (some g) :=
  ⟨h.os, h.tape, h.output, by simpa [World.setRow] using h.size, fun i hi hne => (setRow_other w g i cs (by rintro rfl; exact hne rfl)).trans (h.block i hi hne)⟩
/-- An owned row kept while all but other blocks stand. -/
theorem own_ext {w w' : World} {base n k : Nat} {e : TypeId} {v : Value} {zs : List Value} (h : w.ownsRow base e k v n zs) (hx : Ext w w') : w'.ownsRow base e k v n zs :=
  h.kept (hx.by_ none) (by cases hv : v.ownBlock <;> simp)
theorem own_take {w : World} {base n m k c : Nat} {e : TypeId} {A : Option Addr} {zs : List Value} (h : w.ownsRow base e k (.slice A n c) n zs) (hm : m ≤ n) (hA : A ≠ none) : w.ownsRow base e k (.slice A m c) m (zs.take (m * k)) := by
  have hmk : m * k ≤ n * k := Nat.mul_le_mul_right _ hm
  refine ⟨by rw [List.length_take, h.1]; omega, ?_⟩
  rcases h.2 with ⟨hv, _⟩ | ⟨g, cap, cur, hv, hg, hgg, hle, hmax, hsz, htk⟩
  · injection hv with hA'; exact absurd hA' hA
  · injection hv with hA' _ hc
    subst hA' hc
    exact .inr ⟨g, c, cur, rfl, hg, hgg, by omega, hmax, hsz, by rw [← htk, List.take_take]; congr 1; omega⟩
theorem set_flatten {k : Nat} : ∀ (ys : List (List Value)) (i : Nat) (x : List Value), (∀ y, y ∈ ys → y.length = k) → x.length = k → i < ys.length → (ys.set i x).flatten = splice ys.flatten (i * k) x
  | [], _, _, _, _, hi => absurd hi (by simp)
  | y :: ys, 0, x, hy, hx, _ => by
    have h1 := hy y (List.mem_cons_self ..)
    simp [splice, hx, ← h1]
  | y :: ys, i + 1, x, hy, hx, hi => by
    have h1 := hy y (List.mem_cons_self ..)
    have ih := set_flatten ys i x (fun z hz => hy z (List.mem_cons_of_mem _ hz)) hx (by simpa using hi)
    rw [List.set_cons_succ, List.flatten_cons, ih, List.flatten_cons]
    unfold splice
    have e1 : (i + 1) * k = y.length + i * k := by rw [h1, Nat.succ_mul]; omega
    rw [e1, List.take_length_add_append, Nat.add_assoc, List.drop_length_add_append]
    simp
theorem splice_nil (l : List Value) (o : Nat) : splice l o [] = l := by simp [splice]
theorem splice_step (l : List Value) (o : Nat) (v : Value) (rest : List Value) (h : o + (rest.length + 1) ≤ l.length) : splice (l.set o v) (o + 1) rest = splice l o (v :: rest) := by
  have := list_seg_step l o v rest h
  simpa [splice, List.append_assoc] using this
theorem set3_flatten (ys : List (List Value)) (i : Nat) (u0 u1 u2 : Value) (hy : ∀ y, y ∈ ys → y.length = 3) (hi : i < ys.length) :
    ((ys.flatten.set (i * 3) u0).set (i * 3 + 1) u1).set (i * 3 + 2) u2 = (ys.set i [u0, u1, u2]).flatten := by
  have hl := flatten_length ys hy
  rw [set_flatten ys i [u0, u1, u2] hy rfl hi, ← splice_step _ _ _ _ (by simp only [hl, List.length_cons, List.length_nil]; omega), ← splice_step _ _ _ _ (by simp only [List.length_set, hl, List.length_cons, List.length_nil]; omega),
    ← splice_step _ _ _ _ (by simp only [List.length_set, hl, List.length_nil]; omega), splice_nil]

section
variable {P : Program}
theorem wpList_clear_rows {n : Nat} {w : World} {ops : Array Oper} {rest : List Oper} {o : Oper} {a : Act} {Q : Exit → Act → World → Prop} (hgd : o.guard = none) (s : Operand) (t : TypeId)
    (ho : o.op = .call { callee := .builtin .clear, args := #[s], argTypes := #[t] }) (e : TypeId) (k : Nat) (z : Value) (ht : P.underlying t = some (.slice e)) (hv : ∀ w, (zeroValue e).run P w = .ok z w)
    (hz : z.cells.size = k) (h1 : ∀ u, u ∈ (Builtin.zeroCells z.cells (n + 1)).toList → u.oneCell' = true) (g off c : Nat) (hs : a.eval s = .slice (some ⟨g, off, none⟩) (n + 1) c)
    (cur : List Value) (te : TypeId) (hg : w.heap[g]? = some (.cells cur.toArray te (0, 0))) (hfit : off + (n + 1) * k ≤ cur.length)
    (h : wpList P ops Q rest (a.put o.dst (.tuple #[])) (w.setRow g (splice cur off (Builtin.zeroCells z.cells (n + 1)).toList).toArray)) : wpList P ops Q (o :: rest) a w := by
  refine wpList_plain hgd fun K hK => ?_
  have hl : (Builtin.zeroCells z.cells (n + 1)).toList.length = (n + 1) * k := by rw [Array.length_toList, size_zeroCells, hz]
  have hst := run_storeCells_at P g off te (Builtin.zeroCells z.cells (n + 1)).toList 0 cur.toArray w hg (by rw [hl]; simpa using hfit) h1
  simp only [Nat.add_zero] at hst
  have hrun : (Builtin.clear_ #[t] o.type #[.slice (some ⟨g, off, none⟩) (n + 1) c]).run P w = .ok (.tuple #[]) (w.setRow g (splice cur off (Builtin.zeroCells z.cells (n + 1)).toList).toArray) := by
    simp [Builtin.clear_, run_underlying ht, hv, hst, splice]
  unfold Oper.wp
  simp [execOp, ho, resolve, invoke, builtin, hs, hrun, Result.andThen]
  exact hK _ _ h
end
/-- The row's block and what it holds. -/
theorem own_cur {w : World} {base n k c g : Nat} {e : TypeId} {zs : List Value} (h : w.ownsRow base e k (.slice (some ⟨g, 0, none⟩) n c) n zs) :
    ∃ cur : List Value, base ≤ g ∧ w.heap[g]? = some (.cells cur.toArray e (0, 0)) ∧ n ≤ c ∧ c ≤ maxLen ∧ cur.length = c * k ∧ cur.take (n * k) = zs := by
  rcases h.2 with ⟨hv, _⟩ | ⟨g', cap, cur, hv, hg, hgg, hle, hmax, hsz, htk⟩
  · cases hv
  · injection hv with hA _ hc
    injection hA with hA
    injection hA with hA
    subst hA hc
    exact ⟨cur.toList, hg, hgg, hle, hmax, by simpa using hsz, htk⟩
theorem own_of_cur {w : World} {base n k c g : Nat} {e : TypeId} {zs cur : List Value} (hb : base ≤ g) (hg : w.heap[g]? = some (.cells cur.toArray e (0, 0))) (hn : n ≤ c) (hc : c ≤ maxLen) (hl : cur.length = c * k) (ht : cur.take (n * k) = zs) :
    w.ownsRow base e k (.slice (some ⟨g, 0, none⟩) n c) n zs := by
  have hm : n * k ≤ c * k := Nat.mul_le_mul_right _ hn
  exact ⟨by rw [← ht, List.length_take, hl]; omega, .inr ⟨g, c, cur.toArray, rfl, hb, hg, hn, hc, by simpa using hl, by simpa using ht⟩⟩

/-- A cell of an owned row may be written. -/
theorem own_slot {w : World} {base n k c g : Nat} {e : TypeId} {zs : List Value} (h : w.ownsRow base e k (.slice (some ⟨g, 0, none⟩) n c) n zs) (j : Nat) (hj : j < n * k) : ∃ v, w.cell? ⟨g, j, none⟩ = some v := by
  have hl : j < zs.length := by rw [h.1]; exact hj
  exact ⟨zs[j], by rw [h.cellAt j hj]; exact List.getElem?_eq_getElem hl⟩
theorem flatten_take {k : Nat} : ∀ (ys : List (List Value)) (i : Nat), (∀ y, y ∈ ys → y.length = k) → i ≤ ys.length → (ys.take i).flatten = ys.flatten.take (i * k)
  | _, 0, _, _ => by simp
  | [], i + 1, _, hi => absurd hi (by simp)
  | y :: ys, i + 1, h, hi => by
    have h1 := h y (List.mem_cons_self ..)
    rw [List.take_succ_cons, List.flatten_cons, flatten_take ys i (fun z hz => h z (List.mem_cons_of_mem _ hz)) (by simpa using hi), List.flatten_cons, show (i + 1) * k = y.length + i * k by rw [h1, Nat.succ_mul]; omega, List.take_length_add_append]
theorem zeros_one (z : Array Value) (n : Nat) (hz : 0 < z.size) (h : ∀ i, i < z.size → z[i]!.oneCell' = true) : ∀ u, u ∈ (Builtin.zeroCells z n).toList → u.oneCell' = true := fun u hu => by
  simp only [Builtin.zeroCells, Array.toList_map, List.mem_map] at hu
  obtain ⟨i, _, rfl⟩ := hu
  exact h _ (Nat.mod_lt _ hz)
theorem splice_take (l : List Value) (o : Nat) (cs : List Value) (h : o ≤ l.length) : (splice l o cs).take o = l.take o := by
  unfold splice
  rw [List.take_append_of_le_length (by simp; omega), List.take_take]
  congr 1; omega
theorem news_new (w : World) (cs : List Value) (e : TypeId) : ∀ (j : Nat) (u : Value), cs[j]? = some u → (w.alloc (.cells cs.toArray e)).cell? ((⟨w.heap.size, 0, none⟩ : Addr).add j) = some u := fun j u hu => by
  rw [add_lit, Nat.zero_add, cell_of_row _ _ _ _ _ _ (heap_alloc_new w _)]
  simpa using hu
theorem Ext.own {a w w' : World} {base n k : Nat} {e : TypeId} {v : Value} {zs : List Value} (h : Ext a w) (ho : w.ownsRow base e k v n zs) (hg : w.grownBy w' v.ownBlock) (hb : a.heap.size ≤ base) : Ext a w' :=
  h.grown hg fun k hk => Nat.le_trans hb (ho.lt k hk).1
end Go.Proofs.Ythjmglbjlfgmaaa
