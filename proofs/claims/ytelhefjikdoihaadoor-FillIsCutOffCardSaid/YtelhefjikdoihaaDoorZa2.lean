/- YtelhefjikdoihaaDoorCm · YtelhefjikdoihaaDoorLp · YtelhefjikdoihaaDoorGrow · YtelhefjikdoihaaDoorSv · YtelhefjikdoihaaDoorFa · YtelhefjikdoihaaDoorFb · YtelhefjikdoihaaDoorGr · YtelhefjikdoihaaDoorFc · YtelhefjikdoihaaDoorFd · YtelhefjikdoihaaDoorApp · YtelhefjikdoihaaDoorBr · YtelhefjikdoihaaDoorFe -/
import Derived.Deep.MidRow
import Derived.Deep.DeepAppendRoom
import Derived.IntWalk
import Derived.Deep.DeepCutAuto
import Derived.Maps.AppendAt
import Derived.Great.BuildSlice
import Derived.Test.YtelhefjikdoihaaDoorZa1
/- Contracts of cmp at ints. -/
namespace Go.Proofs.YtelhefjikdoihaaDoor
open Go Go.RowKit

set_option maxHeartbeats 400000 in
theorem isNaN_any (a : Int) (w : World) :
    Calls Tryd.prog 78 #[.int .i64 a] w fun e w' => e = .returned (.bool false) ∧ w = w' := by
  go_enter Tryd.func78, Tryd.ntmps78
  go_wp2
  go_ret
  exact ⟨rfl, rfl⟩

def cmpI (a b : Int) : Int := if a < b then -1 else if b < a then 1 else 0

set_option maxHeartbeats 400000 in
theorem Compare_any (a b : Int) (w : World) :
    Calls Tryd.prog 55 #[.int .i64 a, .int .i64 b] w fun e w' => e = .returned (.int .i64 (cmpI a b)) ∧ w = w' := by
  go_enter Tryd.func55, Tryd.ntmps55
  go_wp2_with (go_at_call 78; refine (isNaN_any _ _).mono ?_; rintro e w' ⟨rfl, rfl⟩)
  all_goals (go_ret; exact ⟨ret_int (by unfold cmpI; split <;> (try split) <;> omega), rfl⟩)

def orI (a b : Int) : Int := if a = 0 then b else a

set_option maxHeartbeats 400000 in
theorem Or_two (a b : Int) (g : Nat) (w : World) (h0 : w.cell? ⟨g, 0, none⟩ = some (.int .i64 a)) (h1 : w.cell? ⟨g, 1, none⟩ = some (.int .i64 b)) :
    Calls Tryd.prog 54 #[.slice (some ⟨g, 0, none⟩) 2 2] w fun e w' => e = .returned (.int .i64 (orI a b)) ∧ w = w' := by
  go_enter Tryd.func54, Tryd.ntmps54
  go_wp2
  go_loop [8] (fun i => ∃ k : Nat, k ≤ 2 ∧ i = .int .i64 k ∧ (0 < k → a = 0) ∧ (1 < k → b = 0)) (fun i => 2 - (intOf i).toNat)
  case atStart => exact ⟨0, by omega, rfl, by omega, by omega⟩
  case round =>
    obtain ⟨k, hk, rfl, g0, g1⟩ := hrel
    obtain rfl | rfl | rfl : k = 0 ∨ k = 1 ∨ k = 2 := by omega
    · by_cases ha : a = 0
      · subst ha
        go_wp2
        go_round
        case rel => exact ⟨1, by omega, rfl, fun _ => trivial, by omega⟩
        case measure => simp [intOf]
      · have hb : (a != 0) = true := by simpa using ha
        go_wp2
        go_ret
        exact ⟨ret_int (by unfold orI; rw [if_neg ha]), rfl⟩
    · obtain rfl := g0 (by omega)
      by_cases ha : b = 0
      · subst ha
        go_wp2
        go_round
        case rel => exact ⟨2, by omega, rfl, fun _ => trivial, fun _ => trivial⟩
        case measure => simp [intOf]
      · have hb : (b != 0) = true := by simpa using ha
        go_wp2
        go_ret
        exact ⟨ret_int (by unfold orI; simp), rfl⟩
    · go_wp2
      go_ret
      exact ⟨ret_int (by unfold orI; split <;> omega), rfl⟩

end Go.Proofs.YtelhefjikdoihaaDoor

/- A part of a block of one's own, loaded at once. -/
namespace Go.Proofs.YtelhefjikdoihaaDoor
open Go Go.RowKit

theorem wpList_load_part {P : Program} {ops : Array Oper} {rest : List Oper} {o : Oper} {a : Act} {w : World} {Q : Exit → Act → World → Prop} (ty : TypeId) (x : Operand) (ho : o.op = .load ty x) (hw : Region.wanted o (yielded ops a.tmps) = true)
    {b : Nat} {t : TypeId} {vs : List Value} (hB : Arr w b t vs) (off : Nat) (cs : List Value) (hcs : (vs.drop off).take cs.length = cs) (hx : a.eval x = .pointer (some ⟨b, off, none⟩)) (d : TypeDesc) (hu : P.underlying ty = some d)
    (hd : d.isRow = true) (hi : (P.info? ty).map (·.size) = some cs.length) (h : wpList P ops Q rest (a.put o.dst (.agg cs.toArray)) w) : wpList P ops Q (o :: rest) a w := by
  refine wpList_step fun K hK => ?_
  rw [if_pos hw]
  refine wp_load_mid ty x ho b off hx cs d (fun j v hv => ?_) hu hd hi (hK _ _ h)
  rw [hB.cell, ← List.getElem?_drop]
  have h1 : ((vs.drop off).take cs.length)[j]? = some v := by rw [hcs]; exact hv
  rw [List.getElem?_take] at h1
  split at h1
  · exact h1
  · cases h1
end Go.Proofs.YtelhefjikdoihaaDoor

/- An owned row that takes an append: afterwards it lies in the block where it lay, or in a new one. And a slice beside it stays. -/
namespace Go.Proofs.YtelhefjikdoihaaDoor
open Go Go.RowKit

section
variable {P : Program} (w : World)
theorem run_append_mine (base : Nat) (t ty e : TypeId) (i : TypeInfo) (z : Value) (size bytes : Nat) (ht : P.underlying t = some (.slice e)) (hi : P.info? e = some i) (hz : i.zero = some z)
    (hsize : i.size = size) (hby : i.bytes = bytes) (hzs : z.cells.size = size) (hsz : 0 < size)
    (v : Value) (n : Nat) (xs : List Value) (hown : w.ownsRow base e size v n xs)
    (a : Addr) (m c : Nat) (news : List Value) (hl : news.length = m * size) (hnews : ∀ j u, news[j]? = some u → w.cell? (a.add j) = some u) (h1 : ∀ u ∈ news, u.oneCell' = true)
    (h63 : n + m ≤ maxLen) (hbytes : (n + m) * bytes ≤ 140737488355328) (hbase : base ≤ w.heap.size) :
    ∃ v' w', (Builtin.append_ #[t, t] ty #[v, .slice (some a) m c]).run P w = .ok v' w' ∧ w'.ownsRow base e size v' (n + m) (xs ++ news) ∧ w.grownBy w' v.ownBlock ∧
      (v'.ownBlock = v.ownBlock ∨ ∀ b, v'.ownBlock = some b → w.heap.size ≤ b) := by
  obtain ⟨v', w', hr, ho, hg, _⟩ := run_append_own (P := P) w base t ty e i z size bytes ht hi hz hsize hby hzs hsz v n xs hown a m c news hl hnews h1 h63 hbytes hbase
  refine ⟨v', w', hr, ho, hg, ?_⟩
  rcases hown.2 with ⟨rfl, rfl⟩ | ⟨g, cap, cur, rfl, hbg, hgc, hnc, hcm, hcs, htake⟩
  · have hx : xs = [] := List.eq_nil_of_length_eq_zero (by simpa using hown.1)
    subst hx
    obtain ⟨v2, w2, hr2, ho2, _, _⟩ := run_append_own (P := P) w w.heap.size t ty e i z size bytes ht hi hz hsize hby hzs hsz (.slice none 0 0) 0 [] (World.ownsRow_nil _ _ _ _) a m c news hl hnews h1 h63 hbytes (Nat.le_refl _)
    rw [hr] at hr2
    injection hr2 with e1 e2
    subst e1 e2
    refine .inr fun b hb => ?_
    rcases ho2.2 with ⟨rfl, _⟩ | ⟨g, cap, cur, rfl, hbg, _⟩
    · simp [Value.ownBlock] at hb
    · simp only [Value.ownBlock, Option.some.injEq] at hb
      omega
  · by_cases hroom : n + m ≤ cap
    · obtain ⟨w2, hr2, _, _⟩ := run_append_own_spare (P := P) w base t ty e i size ht hi hsize g n cap xs hown a m c news hl hnews h1 hroom
      rw [hr] at hr2
      injection hr2 with e1 e2
      subst e1
      exact .inl rfl
    · have holds : ∀ j u, xs[j]? = some u → w.cell? ((⟨g, 0, none⟩ : Addr).add j) = some u := hown.cells (g := g) rfl
      have hr2 := run_append_grow (P := P) (w := w) t ty e i z ht hi hz ⟨g, 0, none⟩ n cap xs (by rw [hsize]; exact hown.1) holds a m c news (by rw [hsize]; exact hl) hnews (by omega) (by simp only [maxLen] at h63; omega) (growslice_fits (by omega) (by rw [hby]; exact hbytes))
      rw [hr] at hr2
      injection hr2 with e1 e2
      subst e1
      refine .inr fun b hb => ?_
      simp only [Value.ownBlock, Option.some.injEq] at hb
      omega
theorem wpList_append_mine {ops : Array Oper} {rest : List Oper} {o : Oper} {a : Act} {Q : Exit → Act → World → Prop} (hgd : o.guard = none) (s x : Operand) (t : TypeId)
    (ho : o.op = .call { callee := .builtin .append, args := #[s, x], argTypes := #[t, t] })
    (base : Nat) (e : TypeId) (i : TypeInfo) (z : Value) (size bytes : Nat) (ht : P.underlying t = some (.slice e)) (hi : P.info? e = some i) (hz : i.zero = some z)
    (hsize : i.size = size) (hby : i.bytes = bytes) (hzs : z.cells.size = size) (hsz : 0 < size)
    (v : Value) (n : Nat) (xs : List Value) (hs : a.eval s = v) (hown : w.ownsRow base e size v n xs)
    (ad : Addr) (m c : Nat) (news : List Value) (hx : a.eval x = .slice (some ad) m c) (hl : news.length = m * size) (hnews : ∀ j u, news[j]? = some u → w.cell? (ad.add j) = some u) (h1 : ∀ u ∈ news, u.oneCell' = true)
    (h63 : n + m ≤ maxLen) (hbytes : (n + m) * bytes ≤ 140737488355328) (hbase : base ≤ w.heap.size)
    (h : ∀ v' w', w'.ownsRow base e size v' (n + m) (xs ++ news) → w.grownBy w' v.ownBlock → (v'.ownBlock = v.ownBlock ∨ ∀ b, v'.ownBlock = some b → w.heap.size ≤ b) → wpList P ops Q rest (a.put o.dst v') w') : wpList P ops Q (o :: rest) a w := by
  refine wpList_plain hgd fun K hK' => ?_
  obtain ⟨v', w', hrun, r1, r2, r3⟩ := run_append_mine (P := P) w base t o.type e i z size bytes ht hi hz hsize hby hzs hsz v n xs hown ad m c news hl hnews h1 h63 hbytes hbase
  unfold Oper.wp
  simp [execOp, ho, resolve, invoke, builtin, hs, hx, hrun, Result.andThen]
  exact hK' _ _ (h v' w' r1 r2 r3)
end

section
variable {w w' : World} {B k c : Nat} {A : Option Addr} {xs : List (List Value)}
/-- The slice's block is not the row's. -/
def Apart (xs : List (List Value)) (A : Option Addr) (v : Value) : Prop := 0 < xs.length → ∀ a : Addr, A = some a → v.ownBlock ≠ some a.block
theorem Sl.grown (h : Sl w w.heap.size k A c xs) {v : Value} (hg : w.grownBy w' v.ownBlock) (ha : Apart xs A v) : Sl w' w'.heap.size k A c xs :=
  ⟨h.le, h.max, h.rows, fun hn => by
    obtain ⟨b, off, e, hb, hc⟩ := h.mem hn
    refine ⟨b, off, e, Nat.lt_of_lt_of_le hb hg.size, fun j u hu => ?_⟩
    have h1 := hc j u hu
    have h2 := hg.block b hb (fun hh => ha hn _ e hh.symm)
    unfold World.cell? at h1 ⊢
    simp only at h1 ⊢
    rw [h2]
    exact h1⟩
theorem Apart.fresh {w : World} {base k n : Nat} {e : TypeId} {v : Value} {zs : List Value} (ho : w.ownsRow base e k v n zs) (hA : ∀ a : Addr, A = some a → w.heap.size ≤ a.block) : Apart xs A v := fun _ a ha hb => by
  have h1 := hA a ha
  rcases ho.2 with ⟨rfl, _⟩ | ⟨g, cap, cur, rfl, _, hg, _⟩
  · simp [Value.ownBlock] at hb
  · simp only [Value.ownBlock, Option.some.injEq] at hb
    have := (Array.getElem?_eq_some_iff.1 hg).1
    omega
theorem Apart.grown {w : World} {k c : Nat} {v v' : Value} (h : Apart xs A v) (hs : Sl w w.heap.size k A c xs) (hv : v'.ownBlock = v.ownBlock ∨ ∀ b, v'.ownBlock = some b → w.heap.size ≤ b) : Apart xs A v' := fun hn a ha hb => by
  rcases hv with hv | hv
  · exact h hn a ha (by rw [← hv]; exact hb)
  · have h1 := hv _ hb
    obtain ⟨b, off, e, hb2, _⟩ := hs.mem hn
    rw [ha] at e
    injection e with e
    subst e
    simp only at h1
    omega
theorem Apart.nil (v : Value) : Apart xs none v := fun _ _ h => by cases h
end
end Go.Proofs.YtelhefjikdoihaaDoor

/- Slices of rows of k cells, whatever each cell holds; function values with bound arguments. -/
namespace Go.Proofs.YtelhefjikdoihaaDoor
open Go Go.RowKit

/-- Rows of k cells each. -/
def Rwk (k : Nat) (xs : List (List Value)) : Prop := ∀ x, x ∈ xs → x.length = k ∧ ∀ u, u ∈ x → u.oneCell' = true
theorem Rwk.len {k : Nat} {xs : List (List Value)} (h : Rwk k xs) : ∀ x, x ∈ xs → x.length = k := fun x hx => (h x hx).1
theorem Rwk.one {k : Nat} {xs : List (List Value)} (h : Rwk k xs) : ∀ u, u ∈ xs.flatten → u.oneCell' = true := fun u hu => by
  obtain ⟨x, hx, hu⟩ := List.mem_flatten.1 hu
  exact (h x hx).2 u hu
theorem Rwk.sub {k : Nat} {xs ys : List (List Value)} (h : Rwk k xs) (hs : ∀ x, x ∈ ys → x ∈ xs) : Rwk k ys := fun x hx => h x (hs x hx)
theorem Rws.rwk {k : Nat} {xs : List (List Value)} (h : Rws k xs) : Rwk k xs := fun x hx => by
  obtain ⟨l, h1, rfl⟩ := h x hx
  exact ⟨by simpa using h1, fun u hu => by obtain ⟨n, _, rfl⟩ := List.mem_map.1 hu; rfl⟩

/-- The slice value with address A, length xs.length and capacity c holds rows of k cells each; its block lies below B. -/
structure Sv (w : World) (B k : Nat) (A : Option Addr) (c : Nat) (xs : List (List Value)) : Prop where
  le : xs.length ≤ c
  max : c ≤ maxLen
  rows : Rwk k xs
  mem : 0 < xs.length → ∃ b off, A = some ⟨b, off, none⟩ ∧ b < B ∧ ∀ (j : Nat) (u : Value), xs.flatten[j]? = some u → w.cell? ⟨b, off + j, none⟩ = some u

section
variable {w w' : World} {B B' k c n base : Nat} {e : TypeId} {A : Option Addr} {xs : List (List Value)}
theorem Sv.keep (h : Sv w B k A c xs) (hk : ∀ p : Addr, p.block < B → w'.cell? p = w.cell? p) : Sv w' B k A c xs :=
  ⟨h.le, h.max, h.rows, fun hn => by
    obtain ⟨b, off, e, hb, hc⟩ := h.mem hn
    exact ⟨b, off, e, hb, fun j u hu => (hk _ hb).trans (hc j u hu)⟩⟩
theorem Sv.more (h : Sv w B k A c xs) (hB : B ≤ B') : Sv w B' k A c xs :=
  ⟨h.le, h.max, h.rows, fun hn => by
    obtain ⟨b, off, e, hb, hc⟩ := h.mem hn
    exact ⟨b, off, e, by omega, hc⟩⟩
theorem Sv.ext (h : Sv w w.heap.size k A c xs) (hx : Ext w w') : Sv w' w'.heap.size k A c xs := (h.keep fun _ hp => hx.below.cell hp).more hx.size
theorem Sv.nil (w : World) (B k : Nat) : Sv w B k none 0 [] := ⟨by simp, by simp, fun _ h => by simp at h, fun h => absurd h (by simp)⟩
theorem Sv.len (h : Sv w B k A c xs) : xs.length ≤ 9223372036854775807 := by have h1 := h.le; have h2 := h.max; unfold maxLen at h2; omega
theorem Sl.sv (h : Sl w B k A c xs) : Sv w B k A c xs := ⟨h.le, h.max, h.rows.rwk, h.mem⟩
/-- Row i, as a range of cells. -/
theorem Sv.row (h : Sv w B k A c xs) {i : Nat} {x : List Value} (hx : xs[i]? = some x) : ∃ b off, A = some ⟨b, off, none⟩ ∧ b < B ∧ w.rangeAt b (off + i * k) x := by
  obtain ⟨b, off, e, hb, hc⟩ := h.mem (by have := (List.getElem?_eq_some_iff.1 hx).1; omega)
  refine ⟨b, off, e, hb, fun j v hv => ?_⟩
  rw [Nat.add_assoc]
  exact hc _ _ (flatten_at xs h.rows.len i x hx j v hv)
theorem Sv.news {a : Addr} (h : Sv w B k (some a) c xs) : ∀ j u, xs.flatten[j]? = some u → w.cell? (a.add j) = some u := fun j u hu => by
  have hpos : 0 < xs.length := by
    rcases Nat.eq_zero_or_pos xs.length with h0 | h0
    · rw [List.eq_nil_of_length_eq_zero h0] at hu; simp at hu
    · exact h0
  obtain ⟨b, off, e, _, hc⟩ := h.mem hpos
  injection e with e
  subst e
  rw [add_lit]
  exact hc j u hu
/-- An owned row, read. -/
theorem Sv.of_own (h : w.ownsRow base e k (.slice A n c) n xs.flatten) (hr : Rwk k xs) (hn : xs.length = n) : Sv w w.heap.size k A c xs := by
  subst hn
  rcases h.2 with ⟨h1, h2⟩ | ⟨g, cap, cur, hv, hg, hgg, hle, hmax, hsz, htk⟩
  · have hx : xs = [] := List.eq_nil_of_length_eq_zero h2
    subst hx
    injection h1 with _ _ hc
    subst hc
    exact ⟨by simp, by simp, hr, fun h => absurd h (by simp)⟩
  · injection hv with hA _ hc
    subst hA hc
    refine ⟨hle, hmax, hr, fun _ => ⟨g, 0, rfl, (Array.getElem?_eq_some_iff.1 hgg).1, fun j u h3 => ?_⟩⟩
    rw [Nat.zero_add, cell_of_row w g _ cur e (0, 0) hgg]
    rw [← htk, List.getElem?_take] at h3
    split at h3
    · simpa using h3
    · cases h3
end

/-- A function value that answers p of each row of xs, in whatever world near w. -/
structure PredF (P : Program) (g : FuncId) (fst cap : Array Value) (p : List Value → Bool) (xs : List (List Value)) (w : World) : Prop where
  enters : ∀ args w, (callFunc g args).run P w = .ok (.enter g args) w
  call : ∀ x, x ∈ xs → ∀ w', Ext w w' → Calls P g (fst ++ #[.agg x.toArray] ++ cap) w' fun e w'' => e = .returned (.bool (p x)) ∧ Ext w' w''
theorem PredF.ext {P : Program} {g : FuncId} {fst cap : Array Value} {p : List Value → Bool} {xs : List (List Value)} {w w' : World} (h : PredF P g fst cap p xs w) (hx : Ext w w') : PredF P g fst cap p xs w' :=
  ⟨h.enters, fun x hm w2 h2 => h.call x hm w2 (hx.trans h2)⟩
theorem PredF.sub {P : Program} {g : FuncId} {fst cap : Array Value} {p : List Value → Bool} {xs ys : List (List Value)} {w : World} (h : PredF P g fst cap p xs w) (hs : ∀ x, x ∈ ys → x ∈ xs) : PredF P g fst cap p ys w :=
  ⟨h.enters, fun x hm w2 h2 => h.call x (hs x hm) w2 h2⟩
/-- It hands back an owned row of its own that holds xs; what was there is as it was. -/
def RetRow (e : TypeId) (k : Nat) (xs : List (List Value)) (w : World) (en : Ending) (w' : World) : Prop :=
  ∃ A c, en = .returned (.slice A xs.length c) ∧ w'.ownsRow w.heap.size e k (.slice A xs.length c) xs.length xs.flatten ∧ Ext w w'
theorem own_low {w : World} {base k n : Nat} {e : TypeId} {v : Value} {zs : List Value} (h : w.ownsRow base e k v n zs) : ∀ b, v.ownBlock = some b → base ≤ b := fun b hb => by
  rcases h.2 with ⟨rfl, _⟩ | ⟨g, cap, cur, rfl, hg, _⟩
  · simp [Value.ownBlock] at hb
  · simp only [Value.ownBlock, Option.some.injEq] at hb
    omega
theorem take_filter_step {p : List Value → Bool} {xs : List (List Value)} {j : Nat} {x : List Value} (hx : xs[j]? = some x) : (xs.take (j + 1)).filter p = (xs.take j).filter p ++ if p x then [x] else [] := by
  obtain ⟨hi, rfl⟩ := List.getElem?_eq_some_iff.1 hx
  rw [List.take_succ_eq_append_getElem hi, List.filter_append]
  cases h : p xs[j] <;> simp [h]
theorem filter_take_le (p : List Value → Bool) (xs : List (List Value)) (j : Nat) : ((xs.take j).filter p).length ≤ j := by
  have h1 := List.length_filter_le p (xs.take j)
  have h2 := List.length_take_le j xs
  omega
end Go.Proofs.YtelhefjikdoihaaDoor

/- Contracts of the layer of fields, the reference's basics: before, Near, Has, touches, Same. -/
namespace Go.Proofs.YtelhefjikdoihaaDoor
open Go Go.RowKit

def rowsP (l : List Pt) : List (List Value) := l.map Pt.cells
theorem rowsP_length (l : List Pt) : (rowsP l).length = l.length := by simp [rowsP]
theorem rowsP_rwk (l : List Pt) : Rwk 3 (rowsP l) := fun x hx => by
  obtain ⟨p, _, rfl⟩ := List.mem_map.1 hx
  exact ⟨rfl, fun u hu => by simp [Pt.cells] at hu; rcases hu with rfl | rfl | rfl <;> rfl⟩
theorem rowsP_flat (l : List Pt) : (rowsP l).flatten.length = l.length * 3 := by rw [flatten_length _ (rowsP_rwk l).len, rowsP_length]
theorem rowsP_append (a b : List Pt) : rowsP (a ++ b) = rowsP a ++ rowsP b := by simp [rowsP]
theorem rowsP_take (l : List Pt) (i : Nat) : rowsP (l.take i) = (rowsP l).take i := by simp [rowsP, List.map_take]
theorem rowsP_drop (l : List Pt) (i : Nat) : rowsP (l.drop i) = (rowsP l).drop i := by simp [rowsP, List.map_drop]
/-- Row j of a slice of points. -/
theorem pt_row {w : World} {B c j : Nat} {A : Option Addr} {l : List Pt} {p : Pt} (h : Sv w B 3 A c (rowsP l)) (hp : l[j]? = some p) :
    ∃ b off, A = some ⟨b, off, none⟩ ∧ b < B ∧ w.cell? ⟨b, off + j * 3, none⟩ = some (.int .i64 p.x) ∧ w.cell? ⟨b, off + j * 3 + 1, none⟩ = some (.int .i64 p.y) ∧ w.cell? ⟨b, off + j * 3 + 2, none⟩ = some (.int .i64 p.z) := by
  obtain ⟨b, off, e, hb, hr⟩ := h.row (i := j) (x := p.cells) (by simp [rowsP, hp])
  exact ⟨b, off, e, hb, hr 0 _ rfl, hr 1 _ rfl, hr 2 _ rfl⟩
theorem eqPt_run (a b : Pt) (w : World) : (binOp .eql 23 (.agg #[.int .i64 a.x, .int .i64 a.y, .int .i64 a.z]) (.agg #[.int .i64 b.x, .int .i64 b.y, .int .i64 b.z])).run Tryd.prog w = .ok (.bool (decide (a = b))) w := by
  obtain ⟨a1, a2, a3⟩ := a
  obtain ⟨b1, b2, b3⟩ := b
  simp [go_sem]
  by_cases h1 : a1 = b1
  · by_cases h2 : a2 = b2
    · by_cases h3 : a3 = b3 <;> simp [h1, h2, h3]
    · simp [h1, h2]
  · simp [h1]
theorem neqPt_run (a b : Pt) (w : World) : (binOp .neq 23 (.agg #[.int .i64 a.x, .int .i64 a.y, .int .i64 a.z]) (.agg #[.int .i64 b.x, .int .i64 b.y, .int .i64 b.z])).run Tryd.prog w = .ok (.bool (decide (a ≠ b))) w := by
  obtain ⟨a1, a2, a3⟩ := a
  obtain ⟨b1, b2, b3⟩ := b
  simp [go_sem]
  by_cases h1 : a1 = b1
  · by_cases h2 : a2 = b2
    · by_cases h3 : a3 = b3 <;> simp [h1, h2, h3]
    · simp [h1, h2]
  · simp [h1]
def befP (a b : Pt) : Bool := decide (a.z < b.z) || (decide (a.z = b.z) && (decide (a.y < b.y) || (decide (a.y = b.y) && decide (a.x < b.x))))
set_option maxHeartbeats 1000000 in
theorem beforeP_any (a b : Pt) (w : World) :
    Calls Tryd.prog 60 #[.agg #[.int .i64 a.x, .int .i64 a.y, .int .i64 a.z], .agg #[.int .i64 b.x, .int .i64 b.y, .int .i64 b.z]] w fun e w' => e = .returned (.bool (befP a b)) ∧ Ext w w' := by
  go_enter Tryd.func60, Tryd.ntmps60
  go_wp2
  all_goals
    go_ret
    refine ⟨ret_bool ?_, (by repeat (first | with_reducible exact Ext.refl _ | with_reducible assumption | with_reducible refine Ext.alloc ?_ _ | with_reducible refine Ext.drew ?_ | (with_reducible refine Ext.setCell ?_ ?_ _; rotate_left; focus (first | (simp; done) | (simp; omega) | omega)) | (with_reducible refine Ext.setRow ?_ ?_ _; rotate_left; focus (first | (simp; done) | (simp; omega) | omega)) | with_reducible refine Ext.trans ?_ (by with_reducible assumption)))⟩
    rw [Bool.eq_iff_iff]
    simp_all [befP]
    try omega
def nearW (a b : Pt) : Bool := decide (wrap64 (wrap64 (wrap64 (wrap64 (a.x - b.x) * wrap64 (a.x - b.x)) + wrap64 (wrap64 (a.y - b.y) * wrap64 (a.y - b.y))) + wrap64 (wrap64 (a.z - b.z) * wrap64 (a.z - b.z))) = 1)
set_option maxHeartbeats 1000000 in
theorem NearP_any (a b : Pt) (w : World) :
    Calls Tryd.prog 59 #[.agg #[.int .i64 a.x, .int .i64 a.y, .int .i64 a.z], .agg #[.int .i64 b.x, .int .i64 b.y, .int .i64 b.z]] w fun e w' => e = .returned (.bool (nearW a b)) ∧ Ext w w' := by
  go_enter Tryd.func59, Tryd.ntmps59
  go_wp2
  go_ret
  exact ⟨ret_bool (by unfold nearW; rw [Bool.eq_iff_iff]; simp), (by repeat (first | with_reducible exact Ext.refl _ | with_reducible assumption | with_reducible refine Ext.alloc ?_ _ | with_reducible refine Ext.drew ?_ | (with_reducible refine Ext.setCell ?_ ?_ _; rotate_left; focus (first | (simp; done) | (simp; omega) | omega)) | (with_reducible refine Ext.setRow ?_ ?_ _; rotate_left; focus (first | (simp; done) | (simp; omega) | omega)) | with_reducible refine Ext.trans ?_ (by with_reducible assumption)))⟩
theorem no_snoc {f : Pt → Bool} {l : List Pt} {j : Nat} {p : Pt} (h : ∀ (i : Nat) (y : Pt), i < j → l[i]? = some y → f y = false) (hp : l[j]? = some p) (hf : f p = false) : ∀ (i : Nat) (y : Pt), i < j + 1 → l[i]? = some y → f y = false := fun i y hi hy => by
  rcases Nat.lt_succ_iff_lt_or_eq.1 hi with h1 | rfl
  · exact h i y h1 hy
  · rw [hp] at hy; injection hy with hy; subst hy; exact hf
theorem any_no {f : Pt → Bool} {l : List Pt} (h : ∀ (i : Nat) (y : Pt), i < l.length → l[i]? = some y → f y = false) : l.any f = false := by
  rw [List.any_eq_false]
  intro x hx
  obtain ⟨i, hi⟩ := List.getElem?_of_mem hx
  simp [h i x (List.getElem?_eq_some_iff.1 hi).1 hi]
theorem any_at {f : Pt → Bool} {l : List Pt} {j : Nat} {p : Pt} (hp : l[j]? = some p) (hf : f p = true) : l.any f = true := by
  rw [List.any_eq_true]
  exact ⟨p, List.mem_of_getElem? hp, hf⟩
theorem has_any_eq (l : List Pt) (p : Pt) : l.any (fun y => decide (y = p)) = decide (p ∈ l) := by
  rw [Bool.eq_iff_iff]; simp
set_option maxRecDepth 100000 in
set_option maxHeartbeats 4000000 in
theorem Has_any (A : Option Addr) (c : Nat) (l : List Pt) (p : Pt) (w : World) (hs : Sv w w.heap.size 3 A c (rowsP l)) :
    Calls Tryd.prog 28 #[.slice A l.length c, .agg #[.int .i64 p.x, .int .i64 p.y, .int .i64 p.z]] w fun e w' => e = .returned (.bool (decide (p ∈ l))) ∧ Ext w w' := by
  have hm := mixed
  have hG := near_old
  have hln : l.length ≤ 9223372036854775807 := by have h := hs.len; rw [rowsP_length] at h; exact h
  rw [← has_any_eq]
  have HS := Lib.hid hs; clear hs
  go_enter Tryd.func28, Tryd.ntmps28
  go_wp2
  go_loopw [5] (fun i wr => ∃ j : Nat, j ≤ l.length ∧ i = .int .i64 j ∧ (∀ (i : Nat) (y : Pt), i < j → l[i]? = some y → decide (y = p) = false) ∧ Arr wr w.heap.size 23 [.int .i64 p.x, .int .i64 p.y, .int .i64 p.z] ∧ Ext w wr) (fun i _ => l.length - (intOf i).toNat)
  case atStart => exact ⟨0, Nat.zero_le _, rfl, fun i y hi => by omega, Arr.new w _ _, (Ext.refl w).alloc _⟩
  case round =>
    obtain ⟨j, hj, rfl, hno, hB, hx⟩ := hrel
    have HNO := Lib.hid hno; clear hno
    by_cases hlt : j < l.length
    · obtain ⟨q, hq⟩ : ∃ q, l[j]? = some q := ⟨_, List.getElem?_eq_getElem hlt⟩
      obtain ⟨b', off, rfl, hbl, r0, r1, r2⟩ := pt_row (HS.out.ext hx) hq
      have p0 := hB.cell 0
      have p1 := hB.cell 1
      have p2 := hB.cell 2
      simp only [List.getElem?_cons_zero, List.getElem?_cons_succ] at p0 p1 p2
      have lB := hB.lt
      have hn := eqPt_run q p
      have HQ := Lib.hid hq
      have HB := Lib.hid hB
      generalize hbe : decide (q = p) = be at hn
      have HBE := Lib.hid hbe
      clear hq hbe hB
      cases be
      · go_wp2_with fail
        refine wp_region_near (by assumption) (by kernel_rfl) ?_
        repeat (go_big_quiet_step (fail))
        refine wpQuiet_nil ?_
        intro w1 hw1
        have hy := Ext.of_near hw1
        clear hw1
        have hB2 := HB.out.ext hy
        go_wp2
        go_roundw
        case rel => exact ⟨j + 1, by omega, by go_num, no_snoc HNO.out HQ.out HBE.out, hB2, hx.trans hy⟩
        case measure => simp [intOf]; omega
      · go_wp2_with fail
        refine wp_region_near (by assumption) (by kernel_rfl) ?_
        repeat (go_big_quiet_step (fail))
        refine wpQuiet_nil ?_
        intro w1 hw1
        have hy := Ext.of_near hw1
        clear hw1
        go_wp2
        go_ret
        exact ⟨ret_bool (any_at HQ.out HBE.out).symm, hx.trans hy⟩
    · obtain rfl : j = l.length := by omega
      clear hB
      go_wp2
      go_ret
      exact ⟨ret_bool (any_no HNO.out).symm, hx⟩
set_option maxRecDepth 100000 in
set_option maxHeartbeats 4000000 in
theorem touches_any (A : Option Addr) (c : Nat) (l : List Pt) (p : Pt) (w : World) (hs : Sv w w.heap.size 3 A c (rowsP l)) :
    Calls Tryd.prog 38 #[.slice A l.length c, .agg #[.int .i64 p.x, .int .i64 p.y, .int .i64 p.z]] w fun e w' => e = .returned (.bool (l.any fun y => nearW y p)) ∧ Ext w w' := by
  have hm := mixed
  have hG := near_old
  have hln : l.length ≤ 9223372036854775807 := by have h := hs.len; rw [rowsP_length] at h; exact h
  have HS := Lib.hid hs; clear hs
  go_enter Tryd.func38, Tryd.ntmps38
  go_wp2
  go_loopw [5] (fun i wr => ∃ j : Nat, j ≤ l.length ∧ i = .int .i64 j ∧ (∀ (i : Nat) (y : Pt), i < j → l[i]? = some y → nearW y p = false) ∧ Arr wr w.heap.size 23 [.int .i64 p.x, .int .i64 p.y, .int .i64 p.z] ∧ Ext w wr) (fun i _ => l.length - (intOf i).toNat)
  case atStart => exact ⟨0, Nat.zero_le _, rfl, fun i y hi => by omega, Arr.new w _ _, (Ext.refl w).alloc _⟩
  case round =>
    obtain ⟨j, hj, rfl, hno, hB, hx⟩ := hrel
    have HNO := Lib.hid hno; clear hno
    by_cases hlt : j < l.length
    · obtain ⟨q, hq⟩ : ∃ q, l[j]? = some q := ⟨_, List.getElem?_eq_getElem hlt⟩
      obtain ⟨b', off, rfl, hbl, r0, r1, r2⟩ := pt_row (HS.out.ext hx) hq
      have p0 := hB.cell 0
      have p1 := hB.cell 1
      have p2 := hB.cell 2
      simp only [List.getElem?_cons_zero, List.getElem?_cons_succ] at p0 p1 p2
      have lB := hB.lt
      have HN := Lib.hid (fun w' => NearP_any q p w')
      have HQ := Lib.hid hq
      have HB := Lib.hid hB
      generalize hbe : nearW q p = be at HN
      have HBE := Lib.hid hbe
      clear hq hbe hB
      cases be
      · go_wp2_with fail
        refine wp_region_near (by assumption) (by kernel_rfl) ?_
        repeat (go_big_quiet_step ((go_at_call 59; exact near_call (HN.out _))))
        refine wpQuiet_nil ?_
        intro w1 hw1
        have hy := Ext.of_near hw1
        clear hw1
        have hB2 := HB.out.ext hy
        go_wp2
        go_roundw
        case rel => exact ⟨j + 1, by omega, by go_num, no_snoc HNO.out HQ.out HBE.out, hB2, hx.trans hy⟩
        case measure => simp [intOf]; omega
      · go_wp2_with fail
        refine wp_region_near (by assumption) (by kernel_rfl) ?_
        repeat (go_big_quiet_step ((go_at_call 59; exact near_call (HN.out _))))
        refine wpQuiet_nil ?_
        intro w1 hw1
        have hy := Ext.of_near hw1
        clear hw1
        go_wp2
        go_ret
        exact ⟨ret_bool (any_at (f := fun y => nearW y p) HQ.out HBE.out).symm, hx.trans hy⟩
    · obtain rfl : j = l.length := by omega
      clear hB
      go_wp2
      go_ret
      exact ⟨ret_bool (any_no HNO.out).symm, hx⟩
theorem sameP_no {la lb : List Pt} {j : Nat} {x y : Pt} (hx : la[j]? = some x) (hy : lb[j]? = some y) (h : x ≠ y) : decide (la = lb) = false := by
  rw [decide_eq_false_iff_not]
  rintro rfl
  rw [hx] at hy
  injection hy with hy
  exact h hy
theorem sameP_yes {la lb : List Pt} (hl : la.length = lb.length) (h : ∀ (i : Nat) (x y : Pt), i < la.length → la[i]? = some x → lb[i]? = some y → x = y) : decide (la = lb) = true := by
  rw [decide_eq_true_iff]
  apply List.ext_getElem hl
  intro i h1 h2
  exact h i _ _ h1 (List.getElem?_eq_getElem h1) (List.getElem?_eq_getElem h2)
set_option maxRecDepth 100000 in
set_option maxHeartbeats 4000000 in
theorem SameP_any (A A2 : Option Addr) (c c2 : Nat) (la lb : List Pt) (w : World) (hs : Sv w w.heap.size 3 A c (rowsP la)) (hs2 : Sv w w.heap.size 3 A2 c2 (rowsP lb)) :
    Calls Tryd.prog 17 #[.slice A la.length c, .slice A2 lb.length c2] w fun e w' => e = .returned (.bool (decide (la = lb))) ∧ Ext w w' := by
  have hm := mixed
  have hG := near_old
  have hln : la.length ≤ 9223372036854775807 := by have h := hs.len; rw [rowsP_length] at h; exact h
  have HS := Lib.hid hs; clear hs
  have HS2 := Lib.hid hs2; clear hs2
  by_cases hl : la.length = lb.length
  · have HL := Lib.hid hl
    have hb : ((la.length : Int) != (lb.length : Int)) = false := by simp [hl]
    clear hl
    go_enter Tryd.func17, Tryd.ntmps17
    go_wp2
    go_loopw [5] (fun i wr => ∃ j : Nat, j ≤ la.length ∧ i = .int .i64 j ∧ (∀ (i : Nat) (x y : Pt), i < j → la[i]? = some x → lb[i]? = some y → x = y) ∧ Ext w wr) (fun i _ => la.length - (intOf i).toNat)
    case atStart => exact ⟨0, Nat.zero_le _, rfl, fun i x y hi => by omega, Ext.refl _⟩
    case round =>
      obtain ⟨j, hj, rfl, hno, hx⟩ := hrel
      have HNO := Lib.hid hno; clear hno
      have HX := Lib.hid hx
      by_cases hlt : j < la.length
      · obtain ⟨x, hxj⟩ : ∃ x, la[j]? = some x := ⟨_, List.getElem?_eq_getElem hlt⟩
        have hlt2 : j < lb.length := by have := HL.out; omega
        obtain ⟨y, hyj⟩ : ∃ y, lb[j]? = some y := ⟨_, List.getElem?_eq_getElem hlt2⟩
        obtain ⟨b', off, rfl, hbl, r0, r1, r2⟩ := pt_row (HS.out.ext hx) hxj
        obtain ⟨b2, off2, rfl, hbl2, q0, q1, q2⟩ := pt_row (HS2.out.ext hx) hyj
        have hn := neqPt_run x y
        have HXJ := Lib.hid hxj
        have HYJ := Lib.hid hyj
        generalize hbe : decide (x ≠ y) = be at hn
        have HBE := Lib.hid hbe
        clear hxj hyj hbe hx
        cases be
        · go_wp2_with fail
          refine wp_region_near (by assumption) (by kernel_rfl) ?_
          repeat (go_big_quiet_step (fail))
          refine wpQuiet_nil ?_
          intro w1 hw1
          have hy := Ext.of_near hw1
          clear hw1
          go_wp2
          go_roundw
          case rel =>
            refine ⟨j + 1, by omega, by go_num, fun i x' y' hi h h' => ?_, HX.out.trans hy⟩
            rcases Nat.lt_succ_iff_lt_or_eq.1 hi with h1 | rfl
            · exact HNO.out i x' y' h1 h h'
            · rw [HXJ.out] at h; injection h with h; rw [HYJ.out] at h'; injection h' with h'; subst h h'; simpa using HBE.out
          case measure => simp [intOf]; omega
        · go_wp2_with fail
          refine wp_region_near (by assumption) (by kernel_rfl) ?_
          repeat (go_big_quiet_step (fail))
          refine wpQuiet_nil ?_
          intro w1 hw1
          have hy := Ext.of_near hw1
          clear hw1
          go_wp2
          go_ret
          exact ⟨ret_bool (sameP_no HXJ.out HYJ.out (by simpa using HBE.out)).symm, HX.out.trans hy⟩
      · obtain rfl : j = la.length := by omega
        go_wp2
        go_ret
        exact ⟨ret_bool (sameP_yes HL.out HNO.out).symm, HX.out⟩
  · have hb : ((la.length : Int) != (lb.length : Int)) = true := by rw [bne_iff_ne]; omega
    have HL := Lib.hid hl
    clear hl
    go_enter Tryd.func17, Tryd.ntmps17
    go_wp2
    go_ret
    exact ⟨ret_bool (decide_eq_false (fun h => HL.out (by rw [h]))).symm, Ext.refl _⟩
end Go.Proofs.YtelhefjikdoihaaDoor

/- Contracts of the layer of fields, grids: Add, At, Index; near, Ranged, IsMaterial, Get. -/
namespace Go.Proofs.YtelhefjikdoihaaDoor
open Go Go.RowKit

structure Gr where
  box : Bx
  cells : List Int
  deriving DecidableEq
def rowsI (l : List Int) : List (List Value) := l.map fun x => [.int .i64 x]
theorem rowsI_length (l : List Int) : (rowsI l).length = l.length := by simp [rowsI]
theorem rowsI_rwk (l : List Int) : Rwk 1 (rowsI l) := fun x hx => by
  obtain ⟨p, _, rfl⟩ := List.mem_map.1 hx
  exact ⟨rfl, fun u hu => by simp at hu; subst hu; rfl⟩
theorem int_row {w : World} {B c j : Nat} {A : Option Addr} {l : List Int} {v : Int} (h : Sv w B 1 A c (rowsI l)) (hp : l[j]? = some v) :
    ∃ b off, A = some ⟨b, off, none⟩ ∧ b < B ∧ w.cell? ⟨b, off + j, none⟩ = some (.int .i64 v) := by
  obtain ⟨b, off, e, hb, hr⟩ := h.row (i := j) (x := [.int .i64 v]) (by simp [rowsI, hp])
  have h0 := hr 0 _ rfl
  simp only [Nat.mul_one, Nat.add_zero] at h0
  exact ⟨b, off, e, hb, h0⟩
theorem ret_tup {a b : Value} (h : a = b) : Ending.returned a = .returned b := by rw [h]

set_option maxHeartbeats 1000000 in
theorem refAdd_any (p q : Pt) (w : World) :
    Calls Tryd.prog 58 #[.agg #[.int .i64 p.x, .int .i64 p.y, .int .i64 p.z], .agg #[.int .i64 q.x, .int .i64 q.y, .int .i64 q.z]] w fun e w' => e = .returned (.agg #[.int .i64 (addP p q).x, .int .i64 (addP p q).y, .int .i64 (addP p q).z]) ∧ Ext w w' := by
  go_enter Tryd.func58, Tryd.ntmps58
  go_wp2
  refine bodyPost_ret (v := .agg #[.int .i64 (addP p q).x, .int .i64 (addP p q).y, .int .i64 (addP p q).z]) ?_ rfl ?_
  · simp (maxDischargeDepth := 9) only [results, Tryd.results58]
    first
      | (go_simp; done)
      | (go_simp; simp [addP]; done)
      | (simp (maxDischargeDepth := 9) [go_sem, *]; done)
      | (simp (maxDischargeDepth := 9) [go_sem, *]; simp [addP])
  · exact ⟨rfl, (by repeat (first | with_reducible exact Ext.refl _ | with_reducible assumption | with_reducible refine Ext.alloc ?_ _ | with_reducible refine Ext.drew ?_ | (with_reducible refine Ext.setCell ?_ ?_ _; rotate_left; focus (first | (simp; done) | (simp; omega) | omega)) | (with_reducible refine Ext.setRow ?_ ?_ _; rotate_left; focus (first | (simp; done) | (simp; omega) | omega)) | with_reducible refine Ext.trans ?_ (by with_reducible assumption)))⟩
def nearN (n : Int) : Bool := decide (-1048575 ≤ n) && decide (n ≤ 1048575)
set_option maxHeartbeats 1000000 in
theorem refnear_any (n : Int) (w : World) :
    Calls Tryd.prog 67 #[.int .i64 n] w fun e w' => e = .returned (.bool (nearN n)) ∧ Ext w w' := by
  go_enter Tryd.func67, Tryd.ntmps67
  go_wp2
  all_goals
    go_ret
    refine ⟨ret_bool ?_, (by repeat (first | with_reducible exact Ext.refl _ | with_reducible assumption | with_reducible refine Ext.alloc ?_ _ | with_reducible refine Ext.drew ?_ | (with_reducible refine Ext.setCell ?_ ?_ _; rotate_left; focus (first | (simp; done) | (simp; omega) | omega)) | (with_reducible refine Ext.setRow ?_ ?_ _; rotate_left; focus (first | (simp; done) | (simp; omega) | omega)) | with_reducible refine Ext.trans ?_ (by with_reducible assumption)))⟩
    rw [Bool.eq_iff_iff]
    simp [nearN]
    try omega
def rngP (p : Pt) : Bool := nearN p.x && (nearN p.y && nearN p.z)
set_option maxHeartbeats 2000000 in
theorem refRanged_any (p : Pt) (w : World) :
    Calls Tryd.prog 46 #[.agg #[.int .i64 p.x, .int .i64 p.y, .int .i64 p.z]] w fun e w' => e = .returned (.bool (rngP p)) ∧ Ext w w' := by
  go_enter Tryd.func46, Tryd.ntmps46
  go_upto_region 1 with fail
  obtain ⟨W0, hW⟩ : ∃ W, W = w.alloc (.cells #[.int .i64 p.x, .int .i64 p.y, .int .i64 p.z] 23) := ⟨_, rfl⟩
  have hx0 : Ext w W0 := by rw [hW]; exact (Ext.refl w).alloc _
  have B0 : Arr W0 w.heap.size 23 [.int .i64 p.x, .int .i64 p.y, .int .i64 p.z] := by rw [hW]; exact Arr.new w _ _
  rw [← hW]
  clear hW
  have cB0 := B0.cell
  have fB0 := B0.frozen
  have lB0 := B0.lt
  go_wp2_with (first | (go_at_call 67; (refine (refnear_any _ _).mono ?_); rintro e wx ⟨rfl, xx⟩; have xz := xx.size; (try simp only [World.size_alloc_, World.size_setCell_] at xz); have B0 := Arr.ext (w' := wx) B0 (by repeat (first | with_reducible exact Ext.refl _ | with_reducible assumption | with_reducible refine Ext.alloc ?_ _ | with_reducible refine Ext.drew ?_ | (with_reducible refine Ext.setCell ?_ ?_ _; rotate_left; focus (first | (simp; done) | (simp; omega) | omega)) | (with_reducible refine Ext.setRow ?_ ?_ _; rotate_left; focus (first | (simp; done) | (simp; omega) | omega)) | with_reducible refine Ext.trans ?_ (by with_reducible assumption))); have cB0 := B0.cell; have fB0 := B0.frozen; have lB0 := B0.lt))
  all_goals
    go_ret
    exact ⟨ret_bool (by simp_all [rngP]), (by repeat (first | with_reducible exact Ext.refl _ | with_reducible assumption | with_reducible refine Ext.alloc ?_ _ | with_reducible refine Ext.drew ?_ | (with_reducible refine Ext.setCell ?_ ?_ _; rotate_left; focus (first | (simp; done) | (simp; omega) | omega)) | (with_reducible refine Ext.setRow ?_ ?_ _; rotate_left; focus (first | (simp; done) | (simp; omega) | omega)) | with_reducible refine Ext.trans ?_ (by with_reducible assumption)))⟩
def matN (n : Int) : Bool := decide (0 ≤ n) && decide (n < 256)
set_option maxHeartbeats 1000000 in
theorem refIsMaterial_any (n : Int) (w : World) :
    Calls Tryd.prog 48 #[.int .i64 n] w fun e w' => e = .returned (.bool (matN n)) ∧ Ext w w' := by
  go_enter Tryd.func48, Tryd.ntmps48
  go_wp2
  all_goals
    go_ret
    refine ⟨ret_bool ?_, (by repeat (first | with_reducible exact Ext.refl _ | with_reducible assumption | with_reducible refine Ext.alloc ?_ _ | with_reducible refine Ext.drew ?_ | (with_reducible refine Ext.setCell ?_ ?_ _; rotate_left; focus (first | (simp; done) | (simp; omega) | omega)) | (with_reducible refine Ext.setRow ?_ ?_ _; rotate_left; focus (first | (simp; done) | (simp; omega) | omega)) | with_reducible refine Ext.trans ?_ (by with_reducible assumption)))⟩
    rw [Bool.eq_iff_iff]
    simp [matN]
    try omega
def idxW (b : Bx) (p : Pt) : Int := wrap64 ((subP p b.lo).x + wrap64 ((sizeP b).x * wrap64 ((subP p b.lo).y + wrap64 ((sizeP b).y * (subP p b.lo).z))))
set_option maxHeartbeats 2000000 in
theorem refIndex_any (b : Bx) (p : Pt) (w : World) :
    Calls Tryd.prog 44 #[.agg #[.int .i64 b.lo.x, .int .i64 b.lo.y, .int .i64 b.lo.z, .int .i64 b.hi.x, .int .i64 b.hi.y, .int .i64 b.hi.z], .agg #[.int .i64 p.x, .int .i64 p.y, .int .i64 p.z]] w fun e w' => e = .returned (.int .i64 (if inP p b then idxW b p else -1)) ∧ Ext w w' := by
  have HI := Lib.hid (fun w' => refIn_any p b w')
  have HV := Lib.hid (show idxW b p = wrap64 ((subP p b.lo).x + wrap64 ((sizeP b).x * wrap64 ((subP p b.lo).y + wrap64 ((sizeP b).y * (subP p b.lo).z)))) from rfl)
  have HZ := Lib.hid (fun w' => refSize_any b w')
  have HS := Lib.hid (fun w' => refSub_any p b.lo w')
  have B0 := Arr.new w 25 [.int .i64 b.lo.x, .int .i64 b.lo.y, .int .i64 b.lo.z, .int .i64 b.hi.x, .int .i64 b.hi.y, .int .i64 b.hi.z]
  have B1 := Arr.new (w.alloc (.cells #[.int .i64 b.lo.x, .int .i64 b.lo.y, .int .i64 b.lo.z, .int .i64 b.hi.x, .int .i64 b.hi.y, .int .i64 b.hi.z] 25)) 23 [.int .i64 p.x, .int .i64 p.y, .int .i64 p.z]
  have B0 := B0.alloc (.cells #[.int .i64 p.x, .int .i64 p.y, .int .i64 p.z] 23)
  simp only [World.size_alloc_] at B1
  have HB0 := Lib.hid B0; have HB1 := Lib.hid B1
  clear B0 B1
  generalize subP p b.lo = d at HV HS
  generalize sizeP b = s at HV HZ
  cases hq : inP p b
  · rw [hq] at HI
    clear hq
    go_enter Tryd.func44, Tryd.ntmps44
    go_wp2_with (first | (refine wpList_load_blk 23 (.tmp 3) rfl rfl HB1.out rfl _ Tryd.underlying23 rfl (by kernel_rfl) ?_) | (refine wpList_load_blk 23 (.tmp 3) rfl rfl (HB1.out.alloc _) rfl _ Tryd.underlying23 rfl (by kernel_rfl) ?_) | (refine wpList_load_blk 23 (.tmp 3) rfl rfl ((HB1.out.alloc _).alloc _) rfl _ Tryd.underlying23 rfl (by kernel_rfl) ?_) | (refine wpList_load_blk 25 (.tmp 2) rfl rfl HB0.out rfl _ Tryd.underlying25 rfl (by kernel_rfl) ?_) | (refine wpList_load_blk 25 (.tmp 2) rfl rfl (HB0.out.alloc _) rfl _ Tryd.underlying25 rfl (by kernel_rfl) ?_) | (refine wpList_load_blk 25 (.tmp 2) rfl rfl ((HB0.out.alloc _).alloc _) rfl _ Tryd.underlying25 rfl (by kernel_rfl) ?_) | (go_at_call 26; refine (HI.out _).mono ?_; rintro e wx ⟨rfl, xx⟩; obtain ⟨xc, xf, xl, xe, xn, xm⟩ := xx.look; have xz := xx.size; (try simp only [World.size_alloc_] at xz); (try (have qh := xx.one (b := w.heap.size) (by (try simp only [World.size_alloc_]); omega); obtain ⟨qc, qf, ql, qe, qn, qm⟩ := qh)); (try (have qh := xx.one (b := w.heap.size + 1) (by (try simp only [World.size_alloc_]); omega); obtain ⟨qc, qf, ql, qe, qn, qm⟩ := qh)); (try (have qh := xx.one (b := w.heap.size + 1 + 1) (by (try simp only [World.size_alloc_]); omega); obtain ⟨qc, qf, ql, qe, qn, qm⟩ := qh)); (try (have qh := xx.one (b := w.heap.size + 1 + 1 + 1) (by (try simp only [World.size_alloc_]); omega); obtain ⟨qc, qf, ql, qe, qn, qm⟩ := qh))))
    go_ret
    exact ⟨rfl, (by repeat (first | with_reducible exact Ext.refl _ | with_reducible assumption | with_reducible refine Ext.alloc ?_ _ | with_reducible refine Ext.drew ?_ | (with_reducible refine Ext.setCell ?_ ?_ _; rotate_left; focus (first | (simp; done) | (simp; omega) | omega)) | (with_reducible refine Ext.setRow ?_ ?_ _; rotate_left; focus (first | (simp; done) | (simp; omega) | omega)) | with_reducible refine Ext.trans ?_ (by with_reducible assumption)))⟩
  · rw [hq] at HI
    clear hq
    go_enter Tryd.func44, Tryd.ntmps44
    go_wp2_with (first | (refine wpList_load_blk 23 (.tmp 3) rfl rfl HB1.out rfl _ Tryd.underlying23 rfl (by kernel_rfl) ?_) | (refine wpList_load_blk 23 (.tmp 3) rfl rfl (HB1.out.alloc _) rfl _ Tryd.underlying23 rfl (by kernel_rfl) ?_) | (refine wpList_load_blk 23 (.tmp 3) rfl rfl ((HB1.out.alloc _).alloc _) rfl _ Tryd.underlying23 rfl (by kernel_rfl) ?_) | (refine wpList_load_blk 25 (.tmp 2) rfl rfl HB0.out rfl _ Tryd.underlying25 rfl (by kernel_rfl) ?_) | (refine wpList_load_blk 25 (.tmp 2) rfl rfl (HB0.out.alloc _) rfl _ Tryd.underlying25 rfl (by kernel_rfl) ?_) | (refine wpList_load_blk 25 (.tmp 2) rfl rfl ((HB0.out.alloc _).alloc _) rfl _ Tryd.underlying25 rfl (by kernel_rfl) ?_) | (go_at_call 26; refine (HI.out _).mono ?_; rintro e wx ⟨rfl, xx⟩; obtain ⟨xc, xf, xl, xe, xn, xm⟩ := xx.look; have xz := xx.size; (try simp only [World.size_alloc_] at xz); (try (have qh := xx.one (b := w.heap.size) (by (try simp only [World.size_alloc_]); omega); obtain ⟨qc, qf, ql, qe, qn, qm⟩ := qh)); (try (have qh := xx.one (b := w.heap.size + 1) (by (try simp only [World.size_alloc_]); omega); obtain ⟨qc, qf, ql, qe, qn, qm⟩ := qh)); (try (have qh := xx.one (b := w.heap.size + 1 + 1) (by (try simp only [World.size_alloc_]); omega); obtain ⟨qc, qf, ql, qe, qn, qm⟩ := qh)); (try (have qh := xx.one (b := w.heap.size + 1 + 1 + 1) (by (try simp only [World.size_alloc_]); omega); obtain ⟨qc, qf, ql, qe, qn, qm⟩ := qh))) | (go_at_call 57; refine (HZ.out _).mono ?_; rintro e wx ⟨rfl, xx⟩; obtain ⟨xc, xf, xl, xe, xn, xm⟩ := xx.look; have xz := xx.size; (try simp only [World.size_alloc_, World.size_setCell_] at xz); (try (have qh := xx.one (b := w.heap.size) (by (try simp only [World.size_alloc_, World.size_setCell_]); omega); obtain ⟨qc, qf, ql, qe, qn, qm⟩ := qh)); (try (have qh := xx.one (b := w.heap.size + 1) (by (try simp only [World.size_alloc_, World.size_setCell_]); omega); obtain ⟨qc, qf, ql, qe, qn, qm⟩ := qh)); (try (have qh := xx.one (b := w.heap.size + 1 + 1) (by (try simp only [World.size_alloc_, World.size_setCell_]); omega); obtain ⟨qc, qf, ql, qe, qn, qm⟩ := qh)); (try (have qh := xx.one (b := w.heap.size + 1 + 1 + 1) (by (try simp only [World.size_alloc_, World.size_setCell_]); omega); obtain ⟨qc, qf, ql, qe, qn, qm⟩ := qh))) | (go_at_call 65; refine (HS.out _).mono ?_; rintro e wx ⟨rfl, xx⟩; obtain ⟨xc, xf, xl, xe, xn, xm⟩ := xx.look; have xz := xx.size; (try simp only [World.size_alloc_] at xz); (try (have qh := xx.one (b := w.heap.size) (by (try simp only [World.size_alloc_]); omega); obtain ⟨qc, qf, ql, qe, qn, qm⟩ := qh)); (try (have qh := xx.one (b := w.heap.size + 1) (by (try simp only [World.size_alloc_]); omega); obtain ⟨qc, qf, ql, qe, qn, qm⟩ := qh)); (try (have qh := xx.one (b := w.heap.size + 1 + 1) (by (try simp only [World.size_alloc_]); omega); obtain ⟨qc, qf, ql, qe, qn, qm⟩ := qh)); (try (have qh := xx.one (b := w.heap.size + 1 + 1 + 1) (by (try simp only [World.size_alloc_]); omega); obtain ⟨qc, qf, ql, qe, qn, qm⟩ := qh))))
    go_ret
    exact ⟨ret_int (by rw [HV.out]), (by repeat (first | with_reducible exact Ext.refl _ | with_reducible assumption | with_reducible refine Ext.alloc ?_ _ | with_reducible refine Ext.drew ?_ | (with_reducible refine Ext.setCell ?_ ?_ _; rotate_left; focus (first | (simp; done) | (simp; omega) | omega)) | (with_reducible refine Ext.setRow ?_ ?_ _; rotate_left; focus (first | (simp; done) | (simp; omega) | omega)) | with_reducible refine Ext.trans ?_ (by with_reducible assumption)))⟩
end Go.Proofs.YtelhefjikdoihaaDoor

/- Reading of the arguments of the layer of fill. -/
namespace Go.Proofs.YtelhefjikdoihaaDoor
open Go Go.RowKit Go.ChangeShapes Go.WideShapes Go.ChangeAt

section
variable {P : Program} {H : Type} {enc : TypeId × Value → H} {W : World}
theorem read_rows_at {t e : TypeId} {k : Nat} (ht : P.underlying t = some (.slice e)) (hc : P.cellsOf e = k) (hk : 0 < k) (hi : IntsT P e) {fuel : Nat} {v0 : List Value} {d : DataW H} {ps : List MemPlace}
    (hf' : DataW.trod enc P W 0 (fun _ => true) true fuel t v0 = some (d, ps)) :
    ∃ (A : Option Addr) (c : Nat) (ls : List (List Int)), v0 = [.slice A ls.length c] ∧ Sl W W.heap.size k A c (ls.map fun l => l.map (Value.int .i64)) ∧ ∀ l, l ∈ ls → l.length = k ∧ ∀ n, n ∈ l → (Lit.int .i64 n).wf = true := by
  rcases Go.Deep.open_slice ht hf' with ⟨hcs, _⟩ | ⟨a, len0, cap0, m, n, D, Pl, hcs, _, hl, hm, hmm, _, hel⟩
  · subst hcs
    exact ⟨none, 0, [], rfl, Sl.nil _ _ _, fun l hl => by simp at hl⟩
  · subst hcs
    have hmc : len0 ≤ m := by rw [hmm]; simp; exact hl
    have hall : ∀ i, ∃ l : List Int, i < len0 → l.length = k ∧ (∀ n, n ∈ l → (Lit.int .i64 n).wf = true) ∧ ∀ (j : Nat) (u : Value), (l.map (Value.int .i64))[j]? = some u → W.cell? (a.add (i * k + j)) = some u := by
      intro i
      by_cases hi2 : i < len0
      · obtain ⟨cs', hcells, htr⟩ := hel i (by omega)
        rw [hc] at hcells
        obtain ⟨h1, h2⟩ := hi H enc W 0 (fun _ => true) true n cs' _ htr
        obtain ⟨l, rfl, hw⟩ := ints_list h2
        obtain ⟨_, h3, h4⟩ := World.cells?_some hcells
        refine ⟨l, fun _ => ⟨by simpa using h3, hw, fun j u hu => ?_⟩⟩
        have hj : j < k := by have := (List.getElem?_eq_some_iff.1 hu).1; simp at this h3; omega
        rw [← Go.Deep.add_add, h4 j hj]
        exact hu
      · exact ⟨[], fun h => absurd h hi2⟩
    obtain ⟨f, hfs⟩ := Classical.axiomOfChoice hall
    refine ⟨some a, cap0, (List.range len0).map f, by simp, ⟨by simpa using hl, hm, ?_, fun hpos => ?_⟩, ?_⟩
    · intro x hx
      simp only [List.map_map, List.mem_map, List.mem_range, Function.comp] at hx
      obtain ⟨i, hi2, rfl⟩ := hx
      exact ⟨f i, (hfs i hi2).1, rfl⟩
    · have hpos' : 0 < len0 := by simpa using hpos
      have h0 : ∃ u, W.cell? a = some u := by
        obtain ⟨h1, _, h3⟩ := hfs 0 hpos'
        have hl0 : 0 < ((f 0).map (Value.int .i64)).length := by simp; omega
        have := h3 0 _ (List.getElem?_eq_getElem hl0)
        simp only [Nat.zero_mul, Nat.add_zero] at this
        have ha : a.add 0 = a := by unfold Addr.add; simp
        rw [ha] at this
        exact ⟨_, this⟩
      obtain ⟨u0, h0⟩ := h0
      have hsp := World.cell?_spot h0
      obtain ⟨b, off, spot⟩ := a
      simp only at hsp
      subst hsp
      refine ⟨b, off, rfl, World.block_lt_of_cell? W _ h0, fun j u hu => ?_⟩
      have hlen : ∀ x, x ∈ ((List.range len0).map f).map (fun l => l.map (Value.int .i64)) → x.length = k := by
        intro x hx
        simp only [List.map_map, List.mem_map, List.mem_range, Function.comp] at hx
        obtain ⟨i, hi2, rfl⟩ := hx
        simpa using (hfs i hi2).1
      have hjl : j < (((List.range len0).map f).map (fun l => l.map (Value.int .i64))).flatten.length := (List.getElem?_eq_some_iff.1 hu).1
      rw [flatten_length _ hlen] at hjl
      simp only [List.length_map, List.length_range] at hjl
      have hi2 : j / k < len0 := Nat.div_lt_of_lt_mul (by rw [Nat.mul_comm]; exact hjl)
      have hr : j % k < k := Nat.mod_lt _ hk
      have hj : j = j / k * k + j % k := by rw [Nat.mul_comm]; exact (Nat.div_add_mod j k).symm
      have hrow : (((List.range len0).map f).map (fun l => l.map (Value.int .i64)))[j / k]? = some ((f (j / k)).map (Value.int .i64)) := by
        simp [hi2]
      have hrl : j % k < ((f (j / k)).map (Value.int .i64)).length := by simp [(hfs _ hi2).1]; exact hr
      have h5 := flatten_at _ hlen (j / k) _ hrow (j % k) _ (List.getElem?_eq_getElem hrl)
      rw [← hj, hu] at h5
      have h6 := (hfs _ hi2).2.2 (j % k) _ (List.getElem?_eq_getElem hrl)
      rw [add_lit, ← hj] at h6
      rw [h5]; exact h6
    · intro l hl2
      simp only [List.mem_map, List.mem_range] at hl2
      obtain ⟨i, hi2, rfl⟩ := hl2
      exact ⟨(hfs i hi2).1, (hfs i hi2).2.1⟩

end
def coverB (P : Program) (fs : Array Field) (n : Nat) : Bool := (List.range n).all fun j => (List.range fs.size).any fun i => match fs[i]? with | some f => decide (f.offset ≤ j) && decide (j < f.offset + P.cellsOf f.type) | none => false
theorem cover_of {P : Program} {fs : Array Field} {n : Nat} (h : coverB P fs n = true) : ∀ j, j < n → ∃ (i : Nat) (f : Field), fs[i]? = some f ∧ f.offset ≤ j ∧ j < f.offset + P.cellsOf f.type := fun j hj => by
  unfold coverB at h
  rw [List.all_eq_true] at h
  have h1 := h j (List.mem_range.2 hj)
  rw [List.any_eq_true] at h1
  obtain ⟨i, hi, h2⟩ := h1
  cases hf : fs[i]? with
  | none => rw [hf] at h2; cases h2
  | some f =>
    rw [hf] at h2
    simp only [Bool.and_eq_true, decide_eq_true_eq] at h2
    exact ⟨i, f, hf, h2.1, h2.2⟩
theorem own_ : ownKnob Tryd.prog.godebug = none := by kernel_rfl
theorem laidOut_ : laidOutB Tryd.prog = true := by kernel_rfl
theorem cells_int : Tryd.prog.cellsOf 3 = 1 := by kernel_rfl
theorem cells_Pt : Tryd.prog.cellsOf 23 = 3 := by kernel_rfl
theorem cells_Bx : Tryd.prog.cellsOf 25 = 6 := by kernel_rfl
theorem ints_int_ : IntsT Tryd.prog 3 := ints_int Tryd.underlying3 (by kernel_rfl)
theorem ints_Pt : IntsT Tryd.prog 23 := by
  refine ints_struct Tryd.underlying23 (fun i f h => ?_) (fun j hj => ?_)
  · match i, h with
    | 0, h => injection h with h; subst h; exact ints_int_
    | 1, h => injection h with h; subst h; exact ints_int_
    | 2, h => injection h with h; subst h; exact ints_int_
    | i + 3, h => simp at h
  · exact cover_of (by kernel_rfl) j hj
theorem ints_Bx : IntsT Tryd.prog 25 := by
  refine ints_struct Tryd.underlying25 (fun i f h => ?_) (fun j hj => ?_)
  · match i, h with
    | 0, h => injection h with h; subst h; exact ints_Pt
    | 1, h => injection h with h; subst h; exact ints_Pt
    | i + 2, h => simp at h
  · exact cover_of (by kernel_rfl) j hj
set_option maxRecDepth 100000 in
theorem read_Pt {H : Type} {enc : TypeId × Value → H} {W : World} {base : Nat} {r : Reach} {v : Value} {d : DataW H} {ps : List MemPlace}
    (hv : Value.okWide Tryd.prog W r base 23 v) (h : DataW.Trod enc Tryd.prog W 0 (fun _ => true) true 23 v d ps) : ∃ x : Pt, v = .agg #[.int .i64 x.x, .int .i64 x.y, .int .i64 x.z] := by
  obtain ⟨l, rfl, hl, hw⟩ := read_struct Tryd.underlying23 ints_Pt hv h
  rw [cells_Pt] at hl
  match l, hl, hw with
  | [a0, a1, a2], _, hw => exact ⟨⟨a0, a1, a2⟩, rfl⟩
set_option maxRecDepth 100000 in
theorem read_points {H : Type} {enc : TypeId × Value → H} {W : World} {base : Nat} {r : Reach} {v : Value} {d : DataW H} {ps : List MemPlace}
    (hv : Value.okWide Tryd.prog W r base 31 v) (h : DataW.Trod enc Tryd.prog W 0 (fun _ => true) true 31 v d ps) :
    ∃ (A : Option Addr) (c : Nat) (l : List Pt), v = .slice A l.length c ∧ Sv W W.heap.size 3 A c (rowsP l) := by
  obtain ⟨A, c, ls, rfl, hs, hl⟩ := read_rows Tryd.underlying31 cells_Pt (by decide) ints_Pt hv h
  obtain ⟨l, hll⟩ : ∃ l : List Pt, ls.map (fun l => l.map (Value.int .i64)) = rowsP l := by
    clear hs hv h
    induction ls with
    | nil => exact ⟨[], rfl⟩
    | cons x xs ih =>
      obtain ⟨l, hl'⟩ := ih (fun y hy => hl y (List.mem_cons_of_mem _ hy))
      obtain ⟨h3, h4⟩ := hl x (List.mem_cons_self ..)
      match x, h3, h4 with
      | [a0, a1, a2], _, h4 => exact ⟨⟨a0, a1, a2⟩ :: l, by unfold rowsP at hl' ⊢; simp only [List.map_cons, hl']; rfl⟩
  rw [hll] at hs
  have hlen := congrArg List.length hll
  unfold rowsP at hlen
  simp only [List.length_map] at hlen
  exact ⟨A, c, l, by rw [hlen], hs.sv⟩
theorem ints_rows {ls : List (List Int)} (hl : ∀ l, l ∈ ls → l.length = 1 ∧ ∀ n, n ∈ l → (Lit.int .i64 n).wf = true) : ∃ l : List Int, ls.map (fun l => l.map (Value.int .i64)) = rowsI l := by
  induction ls with
  | nil => exact ⟨[], rfl⟩
  | cons x xs ih =>
    obtain ⟨l, hl'⟩ := ih (fun y hy => hl y (List.mem_cons_of_mem _ hy))
    obtain ⟨h3, h4⟩ := hl x (List.mem_cons_self ..)
    match x, h3, h4 with
    | [a0], _, h4 => exact ⟨a0 :: l, by unfold rowsI at hl' ⊢; simp only [List.map_cons, hl']; rfl⟩
set_option maxRecDepth 100000 in
set_option maxHeartbeats 1000000 in
theorem read_grid {H : Type} {enc : TypeId × Value → H} {W : World} {base : Nat} {r : Reach} {v : Value} {d : DataW H} {ps : List MemPlace}
    (hv : Value.okWide Tryd.prog W r base 28 v) (h : DataW.Trod enc Tryd.prog W 0 (fun _ => true) true 28 v d ps) :
    ∃ (g : Gr) (A : Option Addr) (c : Nat), v = .agg #[.int .i64 g.box.lo.x, .int .i64 g.box.lo.y, .int .i64 g.box.lo.z, .int .i64 g.box.hi.x, .int .i64 g.box.hi.y, .int .i64 g.box.hi.z, .slice A g.cells.length c] ∧ Sv W W.heap.size 1 A c (rowsI g.cells) := by
  obtain ⟨cs, rfl, hsz⟩ := okWide_struct Tryd.underlying28 hv
  obtain ⟨fuel, hf⟩ := h
  have hf' : DataW.trod enc Tryd.prog W 0 (fun _ => true) true fuel 28 cs.toList = some (d, ps) := by simpa [Value.cells] using hf
  obtain ⟨xs, n, _, _, hlen, hxl, hg⟩ := DataW.trod_struct Tryd.underlying28 hf'
  have hx0 : ∃ y, xs[0]? = some y := ⟨xs[0]'(by rw [hxl]; decide), List.getElem?_eq_getElem _⟩
  have hx1 : ∃ y, xs[1]? = some y := ⟨xs[1]'(by rw [hxl]; decide), List.getElem?_eq_getElem _⟩
  obtain ⟨y0, hy0⟩ := hx0
  obtain ⟨y1, hy1⟩ := hx1
  have g0 : DataW.trod enc Tryd.prog W 0 (fun _ => true) true n 25 ((cs.toList.drop 0).take (Tryd.prog.cellsOf 25)) = xs[0]? := hg 0 _ rfl
  have g1 : DataW.trod enc Tryd.prog W 0 (fun _ => true) true n 26 ((cs.toList.drop 6).take (Tryd.prog.cellsOf 26)) = xs[1]? := hg 1 _ rfl
  rw [hy0] at g0
  rw [hy1] at g1
  have c7 : Tryd.prog.cellsOf 28 = 7 := by kernel_rfl
  have c1 : Tryd.prog.cellsOf 26 = 1 := by kernel_rfl
  rw [c7] at hlen
  rw [cells_Bx] at g0
  rw [c1] at g1
  obtain ⟨e0, h0⟩ := ints_Bx H enc W 0 (fun _ => true) true n _ y0 g0
  obtain ⟨y1a, y1b⟩ := y1
  obtain ⟨A, c, ls, e1, hs, hl⟩ := read_rows_at Tryd.underlying26 cells_int (by decide) ints_int_ g1
  obtain ⟨li, hli⟩ := ints_rows hl
  obtain ⟨lb, hlb, _⟩ := ints_list h0
  have hlbl : lb.length = 6 := by have := congrArg List.length hlb; rw [e0, cells_Bx, List.length_map] at this; exact this.symm
  rw [hli] at hs
  have hll := congrArg List.length hli
  rw [List.length_map, rowsI_length] at hll
  have e2 : cs.toList = lb.map (Value.int .i64) ++ [.slice A li.length c] := by
    have h6 : cs.toList = (cs.toList.drop 0).take 6 ++ (cs.toList.drop 6).take 1 := by
      rw [List.drop_zero]
      have h7 : (cs.toList.drop 6).take 1 = cs.toList.drop 6 := List.take_of_length_le (by rw [List.length_drop, hlen]; decide)
      rw [h7, List.take_append_drop]
    rw [h6, hlb, e1, hll]
  match lb, hlbl with
  | [a0, a1, a2, a3, a4, a5], _ =>
    exact ⟨⟨⟨⟨a0, a1, a2⟩, ⟨a3, a4, a5⟩⟩, li⟩, A, c, by congr 1; apply Array.ext'; rw [e2]; rfl, hs.sv⟩
end Go.Proofs.YtelhefjikdoihaaDoor

/- Contracts of the layer of fields, grids on: Get, At, Valid, Few; Ranged. -/
namespace Go.Proofs.YtelhefjikdoihaaDoor
open Go Go.RowKit

set_option maxHeartbeats 2000000 in
theorem refGet_out (g : Gr) (A : Option Addr) (c : Nat) (p : Pt) (w : World) (hin : inP p g.box = false) :
    Calls Tryd.prog 27 #[.agg #[.int .i64 g.box.lo.x, .int .i64 g.box.lo.y, .int .i64 g.box.lo.z, .int .i64 g.box.hi.x, .int .i64 g.box.hi.y, .int .i64 g.box.hi.z, .slice A g.cells.length c], .agg #[.int .i64 p.x, .int .i64 p.y, .int .i64 p.z]] w fun e w' => e = .returned (.int .i64 0) ∧ Ext w w' := by
  have HI := Lib.hid (fun w' => refIndex_any g.box p w')
  rw [hin] at HI
  clear hin
  have B0 := Arr.new w 28 [.int .i64 g.box.lo.x, .int .i64 g.box.lo.y, .int .i64 g.box.lo.z, .int .i64 g.box.hi.x, .int .i64 g.box.hi.y, .int .i64 g.box.hi.z, .slice A g.cells.length c]
  have B1 := Arr.new (w.alloc (.cells #[.int .i64 g.box.lo.x, .int .i64 g.box.lo.y, .int .i64 g.box.lo.z, .int .i64 g.box.hi.x, .int .i64 g.box.hi.y, .int .i64 g.box.hi.z, .slice A g.cells.length c] 28)) 23 [.int .i64 p.x, .int .i64 p.y, .int .i64 p.z]
  have B0 := B0.alloc (.cells #[.int .i64 p.x, .int .i64 p.y, .int .i64 p.z] 23)
  simp only [World.size_alloc_] at B1
  have HB0 := Lib.hid B0; have HB1 := Lib.hid B1
  clear B0 B1
  go_enter Tryd.func27, Tryd.ntmps27
  go_wp2_with (first | (refine wpList_load_blk 23 (.tmp 3) rfl rfl HB1.out rfl _ Tryd.underlying23 rfl (by kernel_rfl) ?_) | (refine wpList_load_blk 23 (.tmp 3) rfl rfl (HB1.out.alloc _) rfl _ Tryd.underlying23 rfl (by kernel_rfl) ?_) | (refine wpList_load_blk 23 (.tmp 3) rfl rfl ((HB1.out.alloc _).alloc _) rfl _ Tryd.underlying23 rfl (by kernel_rfl) ?_) | (refine wpList_load_part 25 (.tmp 6) rfl rfl HB0.out 0 [.int .i64 g.box.lo.x, .int .i64 g.box.lo.y, .int .i64 g.box.lo.z, .int .i64 g.box.hi.x, .int .i64 g.box.hi.y, .int .i64 g.box.hi.z] rfl rfl _ Tryd.underlying25 rfl (by kernel_rfl) ?_) | (refine wpList_load_part 25 (.tmp 6) rfl rfl (HB0.out.alloc _) 0 [.int .i64 g.box.lo.x, .int .i64 g.box.lo.y, .int .i64 g.box.lo.z, .int .i64 g.box.hi.x, .int .i64 g.box.hi.y, .int .i64 g.box.hi.z] rfl rfl _ Tryd.underlying25 rfl (by kernel_rfl) ?_) | (go_at_call 44; refine (HI.out _).mono ?_; rintro e wx ⟨rfl, xx⟩; obtain ⟨xc, xf, xl, xe, xn, xm⟩ := xx.look; have xz := xx.size; (try simp only [World.size_alloc_] at xz); (try (have qh := xx.one (b := w.heap.size) (by (try simp only [World.size_alloc_]); omega); obtain ⟨qc, qf, ql, qe, qn, qm⟩ := qh)); (try (have qh := xx.one (b := w.heap.size + 1) (by (try simp only [World.size_alloc_]); omega); obtain ⟨qc, qf, ql, qe, qn, qm⟩ := qh)); (try (have qh := xx.one (b := w.heap.size + 1 + 1) (by (try simp only [World.size_alloc_]); omega); obtain ⟨qc, qf, ql, qe, qn, qm⟩ := qh)); (try (have qh := xx.one (b := w.heap.size + 1 + 1 + 1) (by (try simp only [World.size_alloc_]); omega); obtain ⟨qc, qf, ql, qe, qn, qm⟩ := qh))))
  go_ret
  exact ⟨rfl, (by repeat (first | with_reducible exact Ext.refl _ | with_reducible assumption | with_reducible refine Ext.alloc ?_ _ | with_reducible refine Ext.drew ?_ | (with_reducible refine Ext.setCell ?_ ?_ _; rotate_left; focus (first | (simp; done) | (simp; omega) | omega)) | (with_reducible refine Ext.setRow ?_ ?_ _; rotate_left; focus (first | (simp; done) | (simp; omega) | omega)) | with_reducible refine Ext.trans ?_ (by with_reducible assumption)))⟩
set_option maxHeartbeats 2000000 in
theorem refGet_in (g : Gr) (A : Option Addr) (c : Nat) (p : Pt) (w : World) (hs : Sv w w.heap.size 1 A c (rowsI g.cells)) (hin : inP p g.box = true) (k : Nat) (v : Int) (hk : idxW g.box p = k) (hv : g.cells[k]? = some v) :
    Calls Tryd.prog 27 #[.agg #[.int .i64 g.box.lo.x, .int .i64 g.box.lo.y, .int .i64 g.box.lo.z, .int .i64 g.box.hi.x, .int .i64 g.box.hi.y, .int .i64 g.box.hi.z, .slice A g.cells.length c], .agg #[.int .i64 p.x, .int .i64 p.y, .int .i64 p.z]] w fun e w' => e = .returned (.int .i64 v) ∧ Ext w w' := by
  have HI := Lib.hid (fun w' => refIndex_any g.box p w')
  have hln : g.cells.length ≤ 9223372036854775807 := by have h := hs.len; rw [rowsI_length] at h; exact h
  have hkl : k < g.cells.length := (List.getElem?_eq_some_iff.1 hv).1
  rw [hin, hk] at HI
  simp only [if_true] at HI
  clear hin hk
  obtain ⟨b, off, rfl, hb, h0⟩ := int_row hs hv
  have hb1 : b < w.heap.size + 1 := by omega
  have hb2 : b < w.heap.size + 1 + 1 := by omega
  have hb3 : ¬ (b = w.heap.size) := by omega
  have hb4 : ¬ (b = w.heap.size + 1) := by omega
  clear hs hv
  have B0 := Arr.new w 28 [.int .i64 g.box.lo.x, .int .i64 g.box.lo.y, .int .i64 g.box.lo.z, .int .i64 g.box.hi.x, .int .i64 g.box.hi.y, .int .i64 g.box.hi.z, .slice (some ⟨b, off, none⟩) g.cells.length c]
  have B1 := Arr.new (w.alloc (.cells #[.int .i64 g.box.lo.x, .int .i64 g.box.lo.y, .int .i64 g.box.lo.z, .int .i64 g.box.hi.x, .int .i64 g.box.hi.y, .int .i64 g.box.hi.z, .slice (some ⟨b, off, none⟩) g.cells.length c] 28)) 23 [.int .i64 p.x, .int .i64 p.y, .int .i64 p.z]
  have B0 := B0.alloc (.cells #[.int .i64 p.x, .int .i64 p.y, .int .i64 p.z] 23)
  simp only [World.size_alloc_] at B1
  have HB0 := Lib.hid B0; have HB1 := Lib.hid B1
  clear B0 B1
  go_enter Tryd.func27, Tryd.ntmps27
  go_wp2_with (first | (refine wpList_load_blk 23 (.tmp 3) rfl rfl HB1.out rfl _ Tryd.underlying23 rfl (by kernel_rfl) ?_) | (refine wpList_load_blk 23 (.tmp 3) rfl rfl (HB1.out.alloc _) rfl _ Tryd.underlying23 rfl (by kernel_rfl) ?_) | (refine wpList_load_blk 23 (.tmp 3) rfl rfl ((HB1.out.alloc _).alloc _) rfl _ Tryd.underlying23 rfl (by kernel_rfl) ?_) | (refine wpList_load_part 25 (.tmp 6) rfl rfl HB0.out 0 [.int .i64 g.box.lo.x, .int .i64 g.box.lo.y, .int .i64 g.box.lo.z, .int .i64 g.box.hi.x, .int .i64 g.box.hi.y, .int .i64 g.box.hi.z] rfl rfl _ Tryd.underlying25 rfl (by kernel_rfl) ?_) | (refine wpList_load_part 25 (.tmp 6) rfl rfl (HB0.out.alloc _) 0 [.int .i64 g.box.lo.x, .int .i64 g.box.lo.y, .int .i64 g.box.lo.z, .int .i64 g.box.hi.x, .int .i64 g.box.hi.y, .int .i64 g.box.hi.z] rfl rfl _ Tryd.underlying25 rfl (by kernel_rfl) ?_) | (go_at_call 44; refine (HI.out _).mono ?_; rintro e wx ⟨rfl, xx⟩; obtain ⟨xc, xf, xl, xe, xn, xm⟩ := xx.look; have xz := xx.size; (try simp only [World.size_alloc_] at xz); (try (have qh := xx.one (b := w.heap.size) (by (try simp only [World.size_alloc_]); omega); obtain ⟨qc, qf, ql, qe, qn, qm⟩ := qh)); (try (have qh := xx.one (b := w.heap.size + 1) (by (try simp only [World.size_alloc_]); omega); obtain ⟨qc, qf, ql, qe, qn, qm⟩ := qh)); (try (have qh := xx.one (b := w.heap.size + 1 + 1) (by (try simp only [World.size_alloc_]); omega); obtain ⟨qc, qf, ql, qe, qn, qm⟩ := qh)); (try (have qh := xx.one (b := w.heap.size + 1 + 1 + 1) (by (try simp only [World.size_alloc_]); omega); obtain ⟨qc, qf, ql, qe, qn, qm⟩ := qh))))
  go_ret
  exact ⟨rfl, (by repeat (first | with_reducible exact Ext.refl _ | with_reducible assumption | with_reducible refine Ext.alloc ?_ _ | with_reducible refine Ext.drew ?_ | (with_reducible refine Ext.setCell ?_ ?_ _; rotate_left; focus (first | (simp; done) | (simp; omega) | omega)) | (with_reducible refine Ext.setRow ?_ ?_ _; rotate_left; focus (first | (simp; done) | (simp; omega) | omega)) | with_reducible refine Ext.trans ?_ (by with_reducible assumption)))⟩

set_option maxHeartbeats 4000000 in
theorem refAt_any (b : Bx) (i V sx sy sz : Nat) (w : World) (hV : volP b = V) (hi : i < V) (hS : sizeP b = ⟨sx, sy, sz⟩) (hx : 0 < sx) (hy0 : 0 < sy) (hxx : sx ≤ 4194304) (hyy : sy ≤ 4194304) (hii : i ≤ 4294967296) :
    Calls Tryd.prog 37 #[.agg #[.int .i64 b.lo.x, .int .i64 b.lo.y, .int .i64 b.lo.z, .int .i64 b.hi.x, .int .i64 b.hi.y, .int .i64 b.hi.z], .int .i64 i] w fun e w' => e = .returned (.tuple #[.agg #[.int .i64 (addP b.lo ⟨(i : Int) % sx, (i : Int) / sx % sy, (i : Int) / sx / sy⟩).x, .int .i64 (addP b.lo ⟨(i : Int) % sx, (i : Int) / sx % sy, (i : Int) / sx / sy⟩).y, .int .i64 (addP b.lo ⟨(i : Int) % sx, (i : Int) / sx % sy, (i : Int) / sx / sy⟩).z], .bool true]) ∧ Ext w w' := by
  have hm := mixed
  have hG := near_old
  have HVol := Lib.hid (fun w' => refVolume_any b w')
  have HZ := Lib.hid (fun w' => refSize_any b w')
  rw [hV] at HVol
  rw [hS] at HZ
  have HA := Lib.hid (fun w' => refAdd_any b.lo ⟨(i : Int) % sx, (i : Int) / sx % sy, (i : Int) / sx / sy⟩ w')
  generalize hd : addP b.lo ⟨(i : Int) % sx, (i : Int) / sx % sy, (i : Int) / sx / sy⟩ = d at HA
  clear hV hS hd
  have m0 : (decide ((i : Int) < 0)) = false := by simp
  have m1 : (decide (V ≤ i)) = false := by simp; omega
  have n1 : 0 ≤ (i : Int) / sx := Int.ediv_nonneg (by omega) (by omega)
  have n2 : (i : Int) / sx ≤ i := Int.ediv_le_self _ (by omega)
  have z1 : ((sx : Int) == 0) = false := by simp; omega
  have z2 : ((sy : Int) == 0) = false := by simp; omega
  clear hi
  go_enter Tryd.func37, Tryd.ntmps37
  go_upto_region 1 with fail
  have B0 := Arr.new w 25 [.int .i64 b.lo.x, .int .i64 b.lo.y, .int .i64 b.lo.z, .int .i64 b.hi.x, .int .i64 b.hi.y, .int .i64 b.hi.z]
  have HB0 := Lib.hid (B0.alloc (.cells #[.int .i64 0, .int .i64 0, .int .i64 0] 23))
  clear B0
  go_wp2_with (first | (refine wpList_load_blk 25 (.tmp 2) rfl rfl HB0.out rfl _ Tryd.underlying25 rfl (by kernel_rfl) ?_) | (refine wpList_load_blk 25 (.tmp 2) rfl rfl (HB0.out.alloc _) rfl _ Tryd.underlying25 rfl (by kernel_rfl) ?_) | (refine wpList_load_blk 25 (.tmp 2) rfl rfl ((HB0.out.alloc _).alloc _) rfl _ Tryd.underlying25 rfl (by kernel_rfl) ?_) | (go_at_call 47; refine (HVol.out _).mono ?_; rintro e wx ⟨rfl, xx⟩; obtain ⟨xc, xf, xl, xe, xn, xm⟩ := xx.look; have xz := xx.size; (try simp only [World.size_alloc_] at xz); (try (have qh := xx.one (b := w.heap.size) (by (try simp only [World.size_alloc_]); omega); obtain ⟨qc, qf, ql, qe, qn, qm⟩ := qh)); (try (have qh := xx.one (b := w.heap.size + 1) (by (try simp only [World.size_alloc_]); omega); obtain ⟨qc, qf, ql, qe, qn, qm⟩ := qh)); (try (have qh := xx.one (b := w.heap.size + 1 + 1) (by (try simp only [World.size_alloc_]); omega); obtain ⟨qc, qf, ql, qe, qn, qm⟩ := qh)); (try (have qh := xx.one (b := w.heap.size + 1 + 1 + 1) (by (try simp only [World.size_alloc_]); omega); obtain ⟨qc, qf, ql, qe, qn, qm⟩ := qh))) | (go_at_call 57; refine (HZ.out _).mono ?_; rintro e wx ⟨rfl, xx⟩; obtain ⟨xc, xf, xl, xe, xn, xm⟩ := xx.look; have xz := xx.size; (try simp only [World.size_alloc_, World.size_setCell_] at xz); (try (have qh := xx.one (b := w.heap.size) (by (try simp only [World.size_alloc_, World.size_setCell_]); omega); obtain ⟨qc, qf, ql, qe, qn, qm⟩ := qh)); (try (have qh := xx.one (b := w.heap.size + 1) (by (try simp only [World.size_alloc_, World.size_setCell_]); omega); obtain ⟨qc, qf, ql, qe, qn, qm⟩ := qh)); (try (have qh := xx.one (b := w.heap.size + 1 + 1) (by (try simp only [World.size_alloc_, World.size_setCell_]); omega); obtain ⟨qc, qf, ql, qe, qn, qm⟩ := qh)); (try (have qh := xx.one (b := w.heap.size + 1 + 1 + 1) (by (try simp only [World.size_alloc_, World.size_setCell_]); omega); obtain ⟨qc, qf, ql, qe, qn, qm⟩ := qh))))
  refine wp_region_near_tail 22 (by assumption) (by kernel_rfl) ?_
  simp only [List.take_succ_cons, List.take_zero, List.drop_succ_cons, List.drop_zero]
  repeat (go_big_quiet_step ((go_at_call 58; exact near_call (HA.out _))))
  refine wpQuiet_nil ?_
  intro w1 hw1
  have hy := Ext.of_near hw1
  clear hw1
  obtain ⟨xc, xf, xl, xe, xn, xm⟩ := hy.look
  go_wp2
  refine bodyPost_ret (v := .tuple #[.agg #[.int .i64 d.x, .int .i64 d.y, .int .i64 d.z], .bool true]) ?_ rfl ?_
  · simp (maxDischargeDepth := 9) only [results, Tryd.results37]
    first
      | (go_simp; done)
      | (go_simp; simp; done)
      | (simp (maxDischargeDepth := 9) [go_sem, *]; done)
      | (simp (maxDischargeDepth := 9) [go_sem, *]; simp)
  · exact ⟨rfl, (by repeat (first | with_reducible exact Ext.refl _ | with_reducible assumption | with_reducible refine Ext.alloc ?_ _ | with_reducible refine Ext.drew ?_ | (with_reducible refine Ext.setCell ?_ ?_ _; rotate_left; focus (first | (simp; done) | (simp; omega) | omega)) | (with_reducible refine Ext.setRow ?_ ?_ _; rotate_left; focus (first | (simp; done) | (simp; omega) | omega)) | with_reducible refine Ext.trans ?_ (by with_reducible assumption)))⟩
end Go.Proofs.YtelhefjikdoihaaDoor

/- Contracts of the layer of fields, grids on: Valid, Few; Ranged. -/
namespace Go.Proofs.YtelhefjikdoihaaDoor
open Go Go.RowKit

theorem neqBx_run (a b : Bx) (w : World) : (binOp .neq 25 (.agg #[.int .i64 a.lo.x, .int .i64 a.lo.y, .int .i64 a.lo.z, .int .i64 a.hi.x, .int .i64 a.hi.y, .int .i64 a.hi.z]) (.agg #[.int .i64 b.lo.x, .int .i64 b.lo.y, .int .i64 b.lo.z, .int .i64 b.hi.x, .int .i64 b.hi.y, .int .i64 b.hi.z])).run Tryd.prog w = .ok (.bool (decide (a ≠ b))) w := by
  obtain ⟨⟨a4, a5, a6⟩, ⟨a7, a8, a9⟩⟩ := a
  obtain ⟨⟨b4, b5, b6⟩, ⟨b7, b8, b9⟩⟩ := b
  simp [go_sem]
  by_cases h4 : a4 = b4
  · by_cases h5 : a5 = b5
    · by_cases h6 : a6 = b6
      · by_cases h7 : a7 = b7
        · by_cases h8 : a8 = b8
          · by_cases h9 : a9 = b9 <;> simp [h4, h5, h6, h7, h8, h9]
          · simp [h4, h5, h6, h7, h8]
        · simp [h4, h5, h6, h7]
      · simp [h4, h5, h6]
    · simp [h4, h5]
  · simp [h4]
def shapeG (g : Gr) : Bool := !(((decide (volP g.box = 0) && decide (g.box ≠ zeroBx)) || decide (2097152 < volP g.box)) || decide ((g.cells.length : Int) ≠ volP g.box))
def validG (g : Gr) : Bool := rngP g.box.lo && (rngP g.box.hi && (shapeG g && g.cells.all matN))
theorem all_upto {f : Int → Bool} {l : List Int} (h : ∀ (i : Nat) (y : Int), i < l.length → l[i]? = some y → f y = true) : l.all f = true := by
  rw [List.all_eq_true]
  intro x hx
  obtain ⟨i, hi⟩ := List.getElem?_of_mem hx
  exact h i x (List.getElem?_eq_some_iff.1 hi).1 hi
theorem all_not {f : Int → Bool} {l : List Int} {j : Nat} {v : Int} (hv : l[j]? = some v) (hf : f v = false) : l.all f = false := by
  rw [Bool.eq_false_iff]
  intro h
  rw [List.all_eq_true] at h
  rw [h v (List.mem_of_getElem? hv)] at hf
  cases hf
set_option maxRecDepth 100000 in
set_option maxHeartbeats 4000000 in
theorem refValid_r1 (g : Gr) (A : Option Addr) (c : Nat) (w : World) (hs : Sv w w.heap.size 1 A c (rowsI g.cells)) (h1 : rngP g.box.lo = false) :
    Calls Tryd.prog 31 #[.agg #[.int .i64 g.box.lo.x, .int .i64 g.box.lo.y, .int .i64 g.box.lo.z, .int .i64 g.box.hi.x, .int .i64 g.box.hi.y, .int .i64 g.box.hi.z, .slice A g.cells.length c]] w fun e w' => e = .returned (.bool false) ∧ Ext w w' := by
  have hln : g.cells.length ≤ 9223372036854775807 := by have h := hs.len; rw [rowsI_length] at h; exact h
  have HS := Lib.hid hs; clear hs
  have H1 := Lib.hid (fun w' => h1 ▸ refRanged_any g.box.lo w')
  have H2 := Lib.hid (fun w' => refRanged_any g.box.hi w')
  clear h1
  generalize rngP g.box.hi = b2 at H2
  go_enter Tryd.func31, Tryd.ntmps31
  go_upto_region 1 with fail
  obtain ⟨W0, hW⟩ : ∃ W, W = w.alloc (.cells #[.int .i64 g.box.lo.x, .int .i64 g.box.lo.y, .int .i64 g.box.lo.z, .int .i64 g.box.hi.x, .int .i64 g.box.hi.y, .int .i64 g.box.hi.z, .slice A g.cells.length c] 28) := ⟨_, rfl⟩
  have hx0 : Ext w W0 := by rw [hW]; exact (Ext.refl w).alloc _
  have B0 : Arr W0 w.heap.size 28 [.int .i64 g.box.lo.x, .int .i64 g.box.lo.y, .int .i64 g.box.lo.z, .int .i64 g.box.hi.x, .int .i64 g.box.hi.y, .int .i64 g.box.hi.z, .slice A g.cells.length c] := by rw [hW]; exact Arr.new w _ _
  rw [← hW]
  clear hW
  have cB0 := B0.cell
  have fB0 := B0.frozen
  have lB0 := B0.lt
  go_upto_region 2 with (first | (go_at_call 46; (refine (H1.out _).mono ?_); rintro e wx ⟨rfl, xx⟩; have xz := xx.size; (try simp only [World.size_alloc_, World.size_setCell_] at xz); have B0 := Arr.ext (w' := wx) B0 (by repeat (first | with_reducible exact Ext.refl _ | with_reducible assumption | with_reducible refine Ext.alloc ?_ _ | with_reducible refine Ext.drew ?_ | (with_reducible refine Ext.setCell ?_ ?_ _; rotate_left; focus (first | (simp; done) | (simp; omega) | omega)) | (with_reducible refine Ext.setRow ?_ ?_ _; rotate_left; focus (first | (simp; done) | (simp; omega) | omega)) | with_reducible refine Ext.trans ?_ (by with_reducible assumption))); have cB0 := B0.cell; have fB0 := B0.frozen; have lB0 := B0.lt))
  go_upto_region 3 with (first | (go_at_call 46; (refine (H2.out _).mono ?_); rintro e wx ⟨rfl, xx⟩; have xz := xx.size; (try simp only [World.size_alloc_, World.size_setCell_] at xz); have B0 := Arr.ext (w' := wx) B0 (by repeat (first | with_reducible exact Ext.refl _ | with_reducible assumption | with_reducible refine Ext.alloc ?_ _ | with_reducible refine Ext.drew ?_ | (with_reducible refine Ext.setCell ?_ ?_ _; rotate_left; focus (first | (simp; done) | (simp; omega) | omega)) | (with_reducible refine Ext.setRow ?_ ?_ _; rotate_left; focus (first | (simp; done) | (simp; omega) | omega)) | with_reducible refine Ext.trans ?_ (by with_reducible assumption))); have cB0 := B0.cell; have fB0 := B0.frozen; have lB0 := B0.lt))
  go_wp2
  go_ret
  exact ⟨rfl, (by repeat (first | with_reducible exact Ext.refl _ | with_reducible assumption | with_reducible refine Ext.alloc ?_ _ | with_reducible refine Ext.drew ?_ | (with_reducible refine Ext.setCell ?_ ?_ _; rotate_left; focus (first | (simp; done) | (simp; omega) | omega)) | (with_reducible refine Ext.setRow ?_ ?_ _; rotate_left; focus (first | (simp; done) | (simp; omega) | omega)) | with_reducible refine Ext.trans ?_ (by with_reducible assumption)))⟩
set_option maxRecDepth 100000 in
set_option maxHeartbeats 4000000 in
theorem refValid_r2 (g : Gr) (A : Option Addr) (c : Nat) (w : World) (hs : Sv w w.heap.size 1 A c (rowsI g.cells)) (h1 : rngP g.box.lo = true) (h2 : rngP g.box.hi = false) :
    Calls Tryd.prog 31 #[.agg #[.int .i64 g.box.lo.x, .int .i64 g.box.lo.y, .int .i64 g.box.lo.z, .int .i64 g.box.hi.x, .int .i64 g.box.hi.y, .int .i64 g.box.hi.z, .slice A g.cells.length c]] w fun e w' => e = .returned (.bool false) ∧ Ext w w' := by
  have hln : g.cells.length ≤ 9223372036854775807 := by have h := hs.len; rw [rowsI_length] at h; exact h
  have HS := Lib.hid hs; clear hs
  have H1 := Lib.hid (fun w' => h1 ▸ refRanged_any g.box.lo w')
  have H2 := Lib.hid (fun w' => h2 ▸ refRanged_any g.box.hi w')
  clear h1 h2
  go_enter Tryd.func31, Tryd.ntmps31
  go_upto_region 1 with fail
  obtain ⟨W0, hW⟩ : ∃ W, W = w.alloc (.cells #[.int .i64 g.box.lo.x, .int .i64 g.box.lo.y, .int .i64 g.box.lo.z, .int .i64 g.box.hi.x, .int .i64 g.box.hi.y, .int .i64 g.box.hi.z, .slice A g.cells.length c] 28) := ⟨_, rfl⟩
  have hx0 : Ext w W0 := by rw [hW]; exact (Ext.refl w).alloc _
  have B0 : Arr W0 w.heap.size 28 [.int .i64 g.box.lo.x, .int .i64 g.box.lo.y, .int .i64 g.box.lo.z, .int .i64 g.box.hi.x, .int .i64 g.box.hi.y, .int .i64 g.box.hi.z, .slice A g.cells.length c] := by rw [hW]; exact Arr.new w _ _
  rw [← hW]
  clear hW
  have cB0 := B0.cell
  have fB0 := B0.frozen
  have lB0 := B0.lt
  go_upto_region 2 with (first | (go_at_call 46; (refine (H1.out _).mono ?_); rintro e wx ⟨rfl, xx⟩; have xz := xx.size; (try simp only [World.size_alloc_, World.size_setCell_] at xz); have B0 := Arr.ext (w' := wx) B0 (by repeat (first | with_reducible exact Ext.refl _ | with_reducible assumption | with_reducible refine Ext.alloc ?_ _ | with_reducible refine Ext.drew ?_ | (with_reducible refine Ext.setCell ?_ ?_ _; rotate_left; focus (first | (simp; done) | (simp; omega) | omega)) | (with_reducible refine Ext.setRow ?_ ?_ _; rotate_left; focus (first | (simp; done) | (simp; omega) | omega)) | with_reducible refine Ext.trans ?_ (by with_reducible assumption))); have cB0 := B0.cell; have fB0 := B0.frozen; have lB0 := B0.lt))
  go_upto_region 3 with (first | (go_at_call 46; (refine (H2.out _).mono ?_); rintro e wx ⟨rfl, xx⟩; have xz := xx.size; (try simp only [World.size_alloc_, World.size_setCell_] at xz); have B0 := Arr.ext (w' := wx) B0 (by repeat (first | with_reducible exact Ext.refl _ | with_reducible assumption | with_reducible refine Ext.alloc ?_ _ | with_reducible refine Ext.drew ?_ | (with_reducible refine Ext.setCell ?_ ?_ _; rotate_left; focus (first | (simp; done) | (simp; omega) | omega)) | (with_reducible refine Ext.setRow ?_ ?_ _; rotate_left; focus (first | (simp; done) | (simp; omega) | omega)) | with_reducible refine Ext.trans ?_ (by with_reducible assumption))); have cB0 := B0.cell; have fB0 := B0.frozen; have lB0 := B0.lt))
  go_wp2
  go_ret
  exact ⟨rfl, (by repeat (first | with_reducible exact Ext.refl _ | with_reducible assumption | with_reducible refine Ext.alloc ?_ _ | with_reducible refine Ext.drew ?_ | (with_reducible refine Ext.setCell ?_ ?_ _; rotate_left; focus (first | (simp; done) | (simp; omega) | omega)) | (with_reducible refine Ext.setRow ?_ ?_ _; rotate_left; focus (first | (simp; done) | (simp; omega) | omega)) | with_reducible refine Ext.trans ?_ (by with_reducible assumption)))⟩
set_option maxRecDepth 100000 in
set_option maxHeartbeats 4000000 in
theorem refValid_s (g : Gr) (A : Option Addr) (c : Nat) (w : World) (hs : Sv w w.heap.size 1 A c (rowsI g.cells)) (h1 : rngP g.box.lo = true) (h2 : rngP g.box.hi = true) (V : Int) (hV : volP g.box = V) (nz : Bool) (hnz : decide (g.box ≠ zeroBx) = nz) (q0 q2 q3 : Bool) (e0 : (V == 0) = q0) (e2 : decide (2097152 < V) = q2) (e3 : ((g.cells.length : Int) != V) = q3)
    (hb : (q0 = true ∧ nz = true) ∨ (q0 = false ∧ q2 = true) ∨ (q0 = true ∧ nz = false ∧ q2 = false ∧ q3 = true) ∨ (q0 = false ∧ q2 = false ∧ q3 = true)) :
    Calls Tryd.prog 31 #[.agg #[.int .i64 g.box.lo.x, .int .i64 g.box.lo.y, .int .i64 g.box.lo.z, .int .i64 g.box.hi.x, .int .i64 g.box.hi.y, .int .i64 g.box.hi.z, .slice A g.cells.length c]] w fun e w' => e = .returned (.bool false) ∧ Ext w w' := by
  have hln : g.cells.length ≤ 9223372036854775807 := by have h := hs.len; rw [rowsI_length] at h; exact h
  have HS := Lib.hid hs; clear hs
  have H1 := Lib.hid (fun w' => h1 ▸ refRanged_any g.box.lo w')
  have H2 := Lib.hid (fun w' => h2 ▸ refRanged_any g.box.hi w')
  have HV := Lib.hid (fun w' => hV ▸ refVolume_any g.box w')
  have hnq : ∀ w, (binOp .neq 25 (.agg #[.int .i64 g.box.lo.x, .int .i64 g.box.lo.y, .int .i64 g.box.lo.z, .int .i64 g.box.hi.x, .int .i64 g.box.hi.y, .int .i64 g.box.hi.z]) (.agg #[.int .i64 0, .int .i64 0, .int .i64 0, .int .i64 0, .int .i64 0, .int .i64 0])).run Tryd.prog w = .ok (.bool (decide (g.box ≠ zeroBx))) w := neqBx_run g.box zeroBx
  rw [hnz] at hnq
  have HNQ := Lib.hid hnq
  have E0 := Lib.hid e0; have E2 := Lib.hid e2; have E3 := Lib.hid e3
  clear h1 h2 hV hnz hnq e0 e2 e3
  go_enter Tryd.func31, Tryd.ntmps31
  go_upto_region 1 with fail
  obtain ⟨W0, hW⟩ : ∃ W, W = w.alloc (.cells #[.int .i64 g.box.lo.x, .int .i64 g.box.lo.y, .int .i64 g.box.lo.z, .int .i64 g.box.hi.x, .int .i64 g.box.hi.y, .int .i64 g.box.hi.z, .slice A g.cells.length c] 28) := ⟨_, rfl⟩
  have hx0 : Ext w W0 := by rw [hW]; exact (Ext.refl w).alloc _
  have B0 : Arr W0 w.heap.size 28 [.int .i64 g.box.lo.x, .int .i64 g.box.lo.y, .int .i64 g.box.lo.z, .int .i64 g.box.hi.x, .int .i64 g.box.hi.y, .int .i64 g.box.hi.z, .slice A g.cells.length c] := by rw [hW]; exact Arr.new w _ _
  rw [← hW]
  clear hW
  have cB0 := B0.cell
  have fB0 := B0.frozen
  have lB0 := B0.lt
  go_upto_region 2 with (first | (go_at_call 46; (refine (H1.out _).mono ?_); rintro e wx ⟨rfl, xx⟩; have xz := xx.size; (try simp only [World.size_alloc_, World.size_setCell_] at xz); have B0 := Arr.ext (w' := wx) B0 (by repeat (first | with_reducible exact Ext.refl _ | with_reducible assumption | with_reducible refine Ext.alloc ?_ _ | with_reducible refine Ext.drew ?_ | (with_reducible refine Ext.setCell ?_ ?_ _; rotate_left; focus (first | (simp; done) | (simp; omega) | omega)) | (with_reducible refine Ext.setRow ?_ ?_ _; rotate_left; focus (first | (simp; done) | (simp; omega) | omega)) | with_reducible refine Ext.trans ?_ (by with_reducible assumption))); have cB0 := B0.cell; have fB0 := B0.frozen; have lB0 := B0.lt))
  go_upto_region 3 with (first | (go_at_call 46; (refine (H2.out _).mono ?_); rintro e wx ⟨rfl, xx⟩; have xz := xx.size; (try simp only [World.size_alloc_, World.size_setCell_] at xz); have B0 := Arr.ext (w' := wx) B0 (by repeat (first | with_reducible exact Ext.refl _ | with_reducible assumption | with_reducible refine Ext.alloc ?_ _ | with_reducible refine Ext.drew ?_ | (with_reducible refine Ext.setCell ?_ ?_ _; rotate_left; focus (first | (simp; done) | (simp; omega) | omega)) | (with_reducible refine Ext.setRow ?_ ?_ _; rotate_left; focus (first | (simp; done) | (simp; omega) | omega)) | with_reducible refine Ext.trans ?_ (by with_reducible assumption))); have cB0 := B0.cell; have fB0 := B0.frozen; have lB0 := B0.lt))
  go_upto_region 6 with (first | (go_at_call 47; (refine (HV.out _).mono ?_); rintro e wx ⟨rfl, xx⟩; have xz := xx.size; (try simp only [World.size_alloc_, World.size_setCell_] at xz); have B0 := Arr.ext (w' := wx) B0 (by repeat (first | with_reducible exact Ext.refl _ | with_reducible assumption | with_reducible refine Ext.alloc ?_ _ | with_reducible refine Ext.drew ?_ | (with_reducible refine Ext.setCell ?_ ?_ _; rotate_left; focus (first | (simp; done) | (simp; omega) | omega)) | (with_reducible refine Ext.setRow ?_ ?_ _; rotate_left; focus (first | (simp; done) | (simp; omega) | omega)) | with_reducible refine Ext.trans ?_ (by with_reducible assumption))); have cB0 := B0.cell; have fB0 := B0.frozen; have lB0 := B0.lt))
  have hnq := HNQ.out
  have e0 := E0.out; have e2 := E2.out; have e3 := E3.out
  rcases hb with ⟨rfl, rfl⟩ | ⟨rfl, rfl⟩ | ⟨rfl, rfl, rfl, rfl⟩ | ⟨rfl, rfl, rfl⟩
  · go_wp2
    go_ret
    exact ⟨rfl, (by repeat (first | with_reducible exact Ext.refl _ | with_reducible assumption | with_reducible refine Ext.alloc ?_ _ | with_reducible refine Ext.drew ?_ | (with_reducible refine Ext.setCell ?_ ?_ _; rotate_left; focus (first | (simp; done) | (simp; omega) | omega)) | (with_reducible refine Ext.setRow ?_ ?_ _; rotate_left; focus (first | (simp; done) | (simp; omega) | omega)) | with_reducible refine Ext.trans ?_ (by with_reducible assumption)))⟩
  · go_wp2
    go_ret
    exact ⟨rfl, (by repeat (first | with_reducible exact Ext.refl _ | with_reducible assumption | with_reducible refine Ext.alloc ?_ _ | with_reducible refine Ext.drew ?_ | (with_reducible refine Ext.setCell ?_ ?_ _; rotate_left; focus (first | (simp; done) | (simp; omega) | omega)) | (with_reducible refine Ext.setRow ?_ ?_ _; rotate_left; focus (first | (simp; done) | (simp; omega) | omega)) | with_reducible refine Ext.trans ?_ (by with_reducible assumption)))⟩
  · go_wp2
    go_ret
    exact ⟨rfl, (by repeat (first | with_reducible exact Ext.refl _ | with_reducible assumption | with_reducible refine Ext.alloc ?_ _ | with_reducible refine Ext.drew ?_ | (with_reducible refine Ext.setCell ?_ ?_ _; rotate_left; focus (first | (simp; done) | (simp; omega) | omega)) | (with_reducible refine Ext.setRow ?_ ?_ _; rotate_left; focus (first | (simp; done) | (simp; omega) | omega)) | with_reducible refine Ext.trans ?_ (by with_reducible assumption)))⟩
  · go_wp2
    go_ret
    exact ⟨rfl, (by repeat (first | with_reducible exact Ext.refl _ | with_reducible assumption | with_reducible refine Ext.alloc ?_ _ | with_reducible refine Ext.drew ?_ | (with_reducible refine Ext.setCell ?_ ?_ _; rotate_left; focus (first | (simp; done) | (simp; omega) | omega)) | (with_reducible refine Ext.setRow ?_ ?_ _; rotate_left; focus (first | (simp; done) | (simp; omega) | omega)) | with_reducible refine Ext.trans ?_ (by with_reducible assumption)))⟩
set_option maxRecDepth 100000 in
set_option maxHeartbeats 4000000 in
theorem refValid_l (g : Gr) (A : Option Addr) (c : Nat) (w : World) (hs : Sv w w.heap.size 1 A c (rowsI g.cells)) (h1 : rngP g.box.lo = true) (h2 : rngP g.box.hi = true) (hV : volP g.box = g.cells.length) (nz : Bool) (hnz : decide (g.box ≠ zeroBx) = nz) (q0 : Bool) (e0 : ((g.cells.length : Int) == 0) = q0) (e2 : decide (2097152 < (g.cells.length : Int)) = false)
    (hb : (q0 = true ∧ nz = false) ∨ q0 = false) :
    Calls Tryd.prog 31 #[.agg #[.int .i64 g.box.lo.x, .int .i64 g.box.lo.y, .int .i64 g.box.lo.z, .int .i64 g.box.hi.x, .int .i64 g.box.hi.y, .int .i64 g.box.hi.z, .slice A g.cells.length c]] w fun e w' => e = .returned (.bool (g.cells.all matN)) ∧ Ext w w' := by
  have hln : g.cells.length ≤ 9223372036854775807 := by have h := hs.len; rw [rowsI_length] at h; exact h
  have HS := Lib.hid hs; clear hs
  have H1 := Lib.hid (fun w' => h1 ▸ refRanged_any g.box.lo w')
  have H2 := Lib.hid (fun w' => h2 ▸ refRanged_any g.box.hi w')
  have HV := Lib.hid (fun w' => hV ▸ refVolume_any g.box w')
  have hnq : ∀ w, (binOp .neq 25 (.agg #[.int .i64 g.box.lo.x, .int .i64 g.box.lo.y, .int .i64 g.box.lo.z, .int .i64 g.box.hi.x, .int .i64 g.box.hi.y, .int .i64 g.box.hi.z]) (.agg #[.int .i64 0, .int .i64 0, .int .i64 0, .int .i64 0, .int .i64 0, .int .i64 0])).run Tryd.prog w = .ok (.bool (decide (g.box ≠ zeroBx))) w := neqBx_run g.box zeroBx
  rw [hnz] at hnq
  have HNQ := Lib.hid hnq
  have hl2 : g.cells.length ≤ 2097152 := by simp at e2; omega
  have E0 := Lib.hid e0; have E2 := Lib.hid e2; have E3 := Lib.hid (show ((g.cells.length : Int) != (g.cells.length : Int)) = false by simp)
  clear h1 h2 hV hnz hnq e0 e2
  go_enter Tryd.func31, Tryd.ntmps31
  go_upto_region 1 with fail
  obtain ⟨W0, hW⟩ : ∃ W, W = w.alloc (.cells #[.int .i64 g.box.lo.x, .int .i64 g.box.lo.y, .int .i64 g.box.lo.z, .int .i64 g.box.hi.x, .int .i64 g.box.hi.y, .int .i64 g.box.hi.z, .slice A g.cells.length c] 28) := ⟨_, rfl⟩
  have hx0 : Ext w W0 := by rw [hW]; exact (Ext.refl w).alloc _
  have B0 : Arr W0 w.heap.size 28 [.int .i64 g.box.lo.x, .int .i64 g.box.lo.y, .int .i64 g.box.lo.z, .int .i64 g.box.hi.x, .int .i64 g.box.hi.y, .int .i64 g.box.hi.z, .slice A g.cells.length c] := by rw [hW]; exact Arr.new w _ _
  rw [← hW]
  clear hW
  have cB0 := B0.cell
  have fB0 := B0.frozen
  have lB0 := B0.lt
  go_upto_region 2 with (first | (go_at_call 46; (refine (H1.out _).mono ?_); rintro e wx ⟨rfl, xx⟩; have xz := xx.size; (try simp only [World.size_alloc_, World.size_setCell_] at xz); have B0 := Arr.ext (w' := wx) B0 (by repeat (first | with_reducible exact Ext.refl _ | with_reducible assumption | with_reducible refine Ext.alloc ?_ _ | with_reducible refine Ext.drew ?_ | (with_reducible refine Ext.setCell ?_ ?_ _; rotate_left; focus (first | (simp; done) | (simp; omega) | omega)) | (with_reducible refine Ext.setRow ?_ ?_ _; rotate_left; focus (first | (simp; done) | (simp; omega) | omega)) | with_reducible refine Ext.trans ?_ (by with_reducible assumption))); have cB0 := B0.cell; have fB0 := B0.frozen; have lB0 := B0.lt))
  go_upto_region 3 with (first | (go_at_call 46; (refine (H2.out _).mono ?_); rintro e wx ⟨rfl, xx⟩; have xz := xx.size; (try simp only [World.size_alloc_, World.size_setCell_] at xz); have B0 := Arr.ext (w' := wx) B0 (by repeat (first | with_reducible exact Ext.refl _ | with_reducible assumption | with_reducible refine Ext.alloc ?_ _ | with_reducible refine Ext.drew ?_ | (with_reducible refine Ext.setCell ?_ ?_ _; rotate_left; focus (first | (simp; done) | (simp; omega) | omega)) | (with_reducible refine Ext.setRow ?_ ?_ _; rotate_left; focus (first | (simp; done) | (simp; omega) | omega)) | with_reducible refine Ext.trans ?_ (by with_reducible assumption))); have cB0 := B0.cell; have fB0 := B0.frozen; have lB0 := B0.lt))
  go_upto_region 6 with (first | (go_at_call 47; (refine (HV.out _).mono ?_); rintro e wx ⟨rfl, xx⟩; have xz := xx.size; (try simp only [World.size_alloc_, World.size_setCell_] at xz); have B0 := Arr.ext (w' := wx) B0 (by repeat (first | with_reducible exact Ext.refl _ | with_reducible assumption | with_reducible refine Ext.alloc ?_ _ | with_reducible refine Ext.drew ?_ | (with_reducible refine Ext.setCell ?_ ?_ _; rotate_left; focus (first | (simp; done) | (simp; omega) | omega)) | (with_reducible refine Ext.setRow ?_ ?_ _; rotate_left; focus (first | (simp; done) | (simp; omega) | omega)) | with_reducible refine Ext.trans ?_ (by with_reducible assumption))); have cB0 := B0.cell; have fB0 := B0.frozen; have lB0 := B0.lt))
  have hnq := HNQ.out
  have e0 := E0.out; have e2 := E2.out; have e3 := E3.out
  rcases hb with ⟨rfl, rfl⟩ | rfl <;>
  · go_wp2_with fail
    have hx2 : Ext w wx := (by repeat (first | with_reducible exact Ext.refl _ | with_reducible assumption | with_reducible refine Ext.alloc ?_ _ | with_reducible refine Ext.drew ?_ | (with_reducible refine Ext.setCell ?_ ?_ _; rotate_left; focus (first | (simp; done) | (simp; omega) | omega)) | (with_reducible refine Ext.setRow ?_ ?_ _; rotate_left; focus (first | (simp; done) | (simp; omega) | omega)) | with_reducible refine Ext.trans ?_ (by with_reducible assumption)))
    have HX := Lib.hid hx2
    have HB := Lib.hid B0
    clear hx2 e0 e2 e3 hnq hx0 xz cB0 fB0 lB0 B0
    go_loopw [6] (fun i wr => ∃ j : Nat, j ≤ g.cells.length ∧ i = .int .i64 j ∧ (∀ (i : Nat) (y : Int), i < j → g.cells[i]? = some y → matN y = true) ∧ Ext wx wr) (fun i _ => g.cells.length - (intOf i).toNat)
    case atStart => exact ⟨0, Nat.zero_le _, rfl, fun i y hi => by omega, Ext.refl _⟩
    case round =>
      obtain ⟨j, hj, rfl, hno, hx⟩ := hrel
      have HNO := Lib.hid hno; clear hno
      have B1 := HB.out.ext hx
      have cB := B1.cell 6
      have lB := B1.lt
      simp only [List.getElem?_cons_zero, List.getElem?_cons_succ] at cB
      clear B1
      by_cases hlt : j < g.cells.length
      · obtain ⟨v, hv⟩ : ∃ v, g.cells[j]? = some v := ⟨_, List.getElem?_eq_getElem hlt⟩
        obtain ⟨b', off, rfl, hbl, r0⟩ := int_row (HS.out.ext (HX.out.trans hx)) hv
        have HM := Lib.hid (fun w' => refIsMaterial_any v w')
        have HVV := Lib.hid hv
        generalize hbe : matN v = be at HM
        have HBE := Lib.hid hbe
        have HXX := Lib.hid hx
        clear hv hbe hx
        cases be
        · go_wp2_with fail
          refine (HM.out _).mono ?_
          rintro e wy ⟨rfl, xx⟩
          go_wp2
          go_ret
          exact ⟨ret_bool (all_not HVV.out HBE.out).symm, (HX.out.trans HXX.out).trans xx⟩
        · go_wp2_with fail
          refine (HM.out _).mono ?_
          rintro e wy ⟨rfl, xx⟩
          go_wp2
          go_roundw
          case rel =>
            refine ⟨j + 1, by omega, by go_num, fun i y hi hy => ?_, HXX.out.trans xx⟩
            rcases Nat.lt_succ_iff_lt_or_eq.1 hi with h1 | rfl
            · exact HNO.out i y h1 hy
            · rw [HVV.out] at hy; injection hy with hy; subst hy; exact HBE.out
          case measure => simp [intOf]; omega
      · obtain rfl : j = g.cells.length := by omega
        go_wp2
        go_ret
        exact ⟨ret_bool (all_upto HNO.out).symm, HX.out.trans hx⟩
set_option maxHeartbeats 1000000 in
theorem refValid_any (g : Gr) (A : Option Addr) (c : Nat) (w : World) (hs : Sv w w.heap.size 1 A c (rowsI g.cells)) :
    Calls Tryd.prog 31 #[.agg #[.int .i64 g.box.lo.x, .int .i64 g.box.lo.y, .int .i64 g.box.lo.z, .int .i64 g.box.hi.x, .int .i64 g.box.hi.y, .int .i64 g.box.hi.z, .slice A g.cells.length c]] w fun e w' => e = .returned (.bool (validG g)) ∧ Ext w w' := by
  unfold validG
  cases h1 : rngP g.box.lo
  · exact refValid_r1 g A c w hs h1
  cases h2 : rngP g.box.hi
  · exact refValid_r2 g A c w hs h1 h2
  simp only [Bool.true_and]
  generalize hV : volP g.box = V
  generalize hnz : decide (g.box ≠ zeroBx) = nz
  have HSH : shapeG g = !(((decide (V = 0) && nz) || decide (2097152 < V)) || decide ((g.cells.length : Int) ≠ V)) := by unfold shapeG; rw [hV, hnz]
  have e00 : (V == 0) = decide (V = 0) := rfl
  have e33 : ((g.cells.length : Int) != V) = decide ((g.cells.length : Int) ≠ V) := by simp [bne]; rfl
  cases hsh : shapeG g
  · refine refValid_s g A c w hs h1 h2 V hV nz hnz _ _ _ e00 rfl e33 ?_
    rw [hsh] at HSH
    by_cases h0 : V = 0
    · subst h0
      cases nz
      · refine .inr (.inr (.inl ⟨by simp, rfl, by simp, ?_⟩))
        simpa using HSH
      · exact .inl ⟨by simp, rfl⟩
    · by_cases h2 : 2097152 < V
      · exact .inr (.inl ⟨by simp [h0], by simp [h2]⟩)
      · exact .inr (.inr (.inr ⟨by simp [h0], by simp [h2], by simpa [h0, h2] using HSH⟩))
  · rw [hsh] at HSH
    have h3 : (g.cells.length : Int) = V := by
      by_cases h3 : (g.cells.length : Int) = V
      · exact h3
      · simp [h3] at HSH
    have hlt : decide (2097152 < V) = false := by
      cases hlt : decide (2097152 < V)
      · rfl
      · rw [hlt] at HSH; simp at HSH
    subst h3
    simp only [Bool.true_and]
    refine refValid_l g A c w hs h1 h2 hV nz hnz _ e00 hlt ?_
    by_cases h0 : (g.cells.length : Int) = 0
    · refine .inl ⟨by simpa using h0, ?_⟩
      cases nz
      · rfl
      · rw [h0] at HSH; simp at HSH
    · exact .inr (by simpa using h0)
set_option maxHeartbeats 2000000 in
theorem Few_any (g : Gr) (A : Option Addr) (c : Nat) (w : World) (hs : Sv w w.heap.size 1 A c (rowsI g.cells)) :
    Calls Tryd.prog 9 #[.agg #[.int .i64 g.box.lo.x, .int .i64 g.box.lo.y, .int .i64 g.box.lo.z, .int .i64 g.box.hi.x, .int .i64 g.box.hi.y, .int .i64 g.box.hi.z, .slice A g.cells.length c]] w fun e w' => e = .returned (.bool (decide (g.cells.length ≤ 200) && validG g)) ∧ Ext w w' := by
  have hln : g.cells.length ≤ 9223372036854775807 := by have h := hs.len; rw [rowsI_length] at h; exact h
  have HV := Lib.hid (fun (w' : World) (hx : Ext w w') => refValid_any g A c w' (hs.ext hx))
  clear hs
  generalize validG g = vg at HV
  by_cases h200 : g.cells.length ≤ 200
  · go_enter Tryd.func9, Tryd.ntmps9
    go_upto_region 1 with fail
    obtain ⟨W0, hW⟩ : ∃ W, W = w.alloc (.cells #[.int .i64 g.box.lo.x, .int .i64 g.box.lo.y, .int .i64 g.box.lo.z, .int .i64 g.box.hi.x, .int .i64 g.box.hi.y, .int .i64 g.box.hi.z, .slice A g.cells.length c] 28) := ⟨_, rfl⟩
    have hx0 : Ext w W0 := by rw [hW]; exact (Ext.refl w).alloc _
    have B0 : Arr W0 w.heap.size 28 [.int .i64 g.box.lo.x, .int .i64 g.box.lo.y, .int .i64 g.box.lo.z, .int .i64 g.box.hi.x, .int .i64 g.box.hi.y, .int .i64 g.box.hi.z, .slice A g.cells.length c] := by rw [hW]; exact Arr.new w _ _
    rw [← hW]
    clear hW
    have cB0 := B0.cell
    have fB0 := B0.frozen
    have lB0 := B0.lt
    go_wp2_with (first | (refine wpList_load_blk 28 (.tmp 1) rfl rfl B0 rfl _ Tryd.underlying28 rfl (by kernel_rfl) ?_) | (refine wpList_load_blk 28 (.tmp 1) rfl rfl (B0.alloc _) rfl _ Tryd.underlying28 rfl (by kernel_rfl) ?_) | (refine wpList_load_blk 28 (.tmp 1) rfl rfl ((B0.alloc _).alloc _) rfl _ Tryd.underlying28 rfl (by kernel_rfl) ?_) | (go_at_call 31; (refine (HV.out _ ?_).mono ?_); (exact (by repeat (first | with_reducible exact Ext.refl _ | with_reducible assumption | with_reducible refine Ext.alloc ?_ _ | with_reducible refine Ext.drew ?_ | (with_reducible refine Ext.setCell ?_ ?_ _; rotate_left; focus (first | (simp; done) | (simp; omega) | omega)) | (with_reducible refine Ext.setRow ?_ ?_ _; rotate_left; focus (first | (simp; done) | (simp; omega) | omega)) | with_reducible refine Ext.trans ?_ (by with_reducible assumption)))); rintro e wx ⟨rfl, xx⟩; have xz := xx.size; (try simp only [World.size_alloc_, World.size_setCell_] at xz); have B0 := Arr.ext (w' := wx) B0 (by repeat (first | with_reducible exact Ext.refl _ | with_reducible assumption | with_reducible refine Ext.alloc ?_ _ | with_reducible refine Ext.drew ?_ | (with_reducible refine Ext.setCell ?_ ?_ _; rotate_left; focus (first | (simp; done) | (simp; omega) | omega)) | (with_reducible refine Ext.setRow ?_ ?_ _; rotate_left; focus (first | (simp; done) | (simp; omega) | omega)) | with_reducible refine Ext.trans ?_ (by with_reducible assumption))); have cB0 := B0.cell; have fB0 := B0.frozen; have lB0 := B0.lt))
    go_ret
    exact ⟨ret_bool (by rw [decide_eq_true h200]; rfl), (by repeat (first | with_reducible exact Ext.refl _ | with_reducible assumption | with_reducible refine Ext.alloc ?_ _ | with_reducible refine Ext.drew ?_ | (with_reducible refine Ext.setCell ?_ ?_ _; rotate_left; focus (first | (simp; done) | (simp; omega) | omega)) | (with_reducible refine Ext.setRow ?_ ?_ _; rotate_left; focus (first | (simp; done) | (simp; omega) | omega)) | with_reducible refine Ext.trans ?_ (by with_reducible assumption)))⟩
  · go_enter Tryd.func9, Tryd.ntmps9
    go_upto_region 1 with fail
    obtain ⟨W0, hW⟩ : ∃ W, W = w.alloc (.cells #[.int .i64 g.box.lo.x, .int .i64 g.box.lo.y, .int .i64 g.box.lo.z, .int .i64 g.box.hi.x, .int .i64 g.box.hi.y, .int .i64 g.box.hi.z, .slice A g.cells.length c] 28) := ⟨_, rfl⟩
    have hx0 : Ext w W0 := by rw [hW]; exact (Ext.refl w).alloc _
    have B0 : Arr W0 w.heap.size 28 [.int .i64 g.box.lo.x, .int .i64 g.box.lo.y, .int .i64 g.box.lo.z, .int .i64 g.box.hi.x, .int .i64 g.box.hi.y, .int .i64 g.box.hi.z, .slice A g.cells.length c] := by rw [hW]; exact Arr.new w _ _
    rw [← hW]
    clear hW
    have cB0 := B0.cell
    have fB0 := B0.frozen
    have lB0 := B0.lt
    go_wp2
    go_ret
    exact ⟨ret_bool (by rw [decide_eq_false h200]; rfl), (by repeat (first | with_reducible exact Ext.refl _ | with_reducible assumption | with_reducible refine Ext.alloc ?_ _ | with_reducible refine Ext.drew ?_ | (with_reducible refine Ext.setCell ?_ ?_ _; rotate_left; focus (first | (simp; done) | (simp; omega) | omega)) | (with_reducible refine Ext.setRow ?_ ?_ _; rotate_left; focus (first | (simp; done) | (simp; omega) | omega)) | with_reducible refine Ext.trans ?_ (by with_reducible assumption)))⟩
end Go.Proofs.YtelhefjikdoihaaDoor

/- Append onto a row of the call's own, the source any slice of rows: nil, empty or not. Cuts of such a slice. -/
namespace Go.Proofs.YtelhefjikdoihaaDoor
open Go Go.RowKit

section
variable {P : Program} (w : World)
theorem run_append_ofnil (base : Nat) (t ty e : TypeId) (i : TypeInfo) (size : Nat) (ht : P.underlying t = some (.slice e)) (hi : P.info? e = some i)
    (v : Value) (n : Nat) (xs : List Value) (hown : w.ownsRow base e size v n xs) (c : Nat) : (Builtin.append_ #[t, t] ty #[v, .slice none 0 c]).run P w = .ok v w := by
  rcases hown.2 with ⟨rfl, rfl⟩ | ⟨g, cap, cur, rfl, _, _, hnc, _⟩
  · simp [Builtin.append_, run_underlying ht, sizeOf, typeInfo, hi, Builtin.lenOf, Builtin.firstCells]
  · simp [Builtin.append_, run_underlying ht, sizeOf, typeInfo, hi, Builtin.lenOf, Builtin.firstCells, hnc, storeCells]
theorem run_append_sv (base : Nat) (t ty e : TypeId) (i : TypeInfo) (z : Value) (size bytes : Nat) (ht : P.underlying t = some (.slice e)) (hi : P.info? e = some i) (hz : i.zero = some z)
    (hsize : i.size = size) (hby : i.bytes = bytes) (hzs : z.cells.size = size) (hsz : 0 < size)
    (v : Value) (n : Nat) (xs : List Value) (hown : w.ownsRow base e size v n xs)
    (B : Nat) (A : Option Addr) (m c : Nat) (news : List (List Value)) (hr : Sv w B size A c news) (hm : news.length = m)
    (h63 : n + m ≤ maxLen) (hbytes : (n + m) * bytes ≤ 140737488355328) (hbase : base ≤ w.heap.size) :
    ∃ v' w', (Builtin.append_ #[t, t] ty #[v, .slice A m c]).run P w = .ok v' w' ∧ w'.ownsRow base e size v' (n + m) (xs ++ news.flatten) ∧ w.grownBy w' v.ownBlock ∧
      (v'.ownBlock = v.ownBlock ∨ v'.ownBlock = some w.heap.size) := by
  subst hm
  rcases A with _ | ad
  · have hn : news = [] := by
      rcases Nat.eq_zero_or_pos news.length with h0 | h0
      · exact List.eq_nil_of_length_eq_zero h0
      · obtain ⟨b, off, h, _⟩ := hr.mem h0
        cases h
    subst hn
    exact ⟨v, w, run_append_ofnil w base t ty e i size ht hi v n xs hown c, by simpa using hown, World.grownBy.refl w _, .inl rfl⟩
  · obtain ⟨v', w', hrun, h2, h3, _, h5⟩ := run_append_own_at (P := P) w base t ty e i z size bytes ht hi hz hsize hby hzs hsz v n xs hown ad news.length c news.flatten (flatten_length _ hr.rows.len) hr.news hr.rows.one h63 hbytes hbase
    exact ⟨v', w', hrun, h2, h3, h5⟩
theorem wpList_append_sv {ops : Array Oper} {rest : List Oper} {o : Oper} {a : Act} {Q : Exit → Act → World → Prop} (hgd : o.guard = none) (s x : Operand) (t : TypeId)
    (ho : o.op = .call { callee := .builtin .append, args := #[s, x], argTypes := #[t, t] })
    (base : Nat) (e : TypeId) (i : TypeInfo) (z : Value) (size bytes : Nat) (ht : P.underlying t = some (.slice e)) (hi : P.info? e = some i) (hz : i.zero = some z)
    (hsize : i.size = size) (hby : i.bytes = bytes) (hzs : z.cells.size = size) (hsz : 0 < size)
    (v : Value) (n : Nat) (xs : List Value) (hs : a.eval s = v) (hown : w.ownsRow base e size v n xs)
    (B : Nat) (A : Option Addr) (m c : Nat) (news : List (List Value)) (hx : a.eval x = .slice A m c) (hr : Sv w B size A c news) (hm : news.length = m)
    (h63 : n + m ≤ maxLen) (hbytes : (n + m) * bytes ≤ 140737488355328) (hbase : base ≤ w.heap.size)
    (h : ∀ v' w', w'.ownsRow base e size v' (n + m) (xs ++ news.flatten) → w.grownBy w' v.ownBlock → (v'.ownBlock = v.ownBlock ∨ v'.ownBlock = some w.heap.size) → wpList P ops Q rest (a.put o.dst v') w') : wpList P ops Q (o :: rest) a w := by
  refine wpList_plain hgd fun K hK' => ?_
  obtain ⟨v', w', hrun, r1, r2, r3⟩ := run_append_sv (P := P) w base t o.type e i z size bytes ht hi hz hsize hby hzs hsz v n xs hown B A m c news hr hm h63 hbytes hbase
  unfold Oper.wp
  simp [execOp, ho, resolve, invoke, builtin, hs, hx, hrun, Result.andThen]
  exact hK' _ _ (h v' w' r1 r2 r3)
end

section
variable {w w' : World} {B k c : Nat} {A : Option Addr} {xs : List (List Value)}
theorem Sv.take (h : Sv w B k A c xs) (i : Nat) : Sv w B k A c (xs.take i) :=
  ⟨by have h1 := h.le; rw [List.length_take]; omega, h.max, h.rows.sub fun x hx => List.mem_of_mem_take hx, fun hn => by
    rw [List.length_take] at hn
    obtain ⟨b, off, e, hb, hc⟩ := h.mem (by omega)
    refine ⟨b, off, e, hb, fun j u hu => hc j u ?_⟩
    have e2 : xs.flatten = (xs.take i).flatten ++ (xs.drop i).flatten := by rw [← List.flatten_append, List.take_append_drop]
    rw [e2, List.getElem?_append_left (List.getElem?_eq_some_iff.1 hu).1]
    exact hu⟩
theorem Sv.drop (h : Sv w B k A c xs) {i : Nat} (hi : i ≤ xs.length) : Sv w B k (if c = i then A else A.map (·.add (i * k))) (c - i) (xs.drop i) :=
  ⟨by have h1 := h.le; rw [List.length_drop]; omega, by have h1 := h.max; omega, h.rows.sub fun x hx => List.mem_of_mem_drop hx, fun hn => by
    rw [List.length_drop] at hn
    have h1 := h.le
    obtain ⟨b, off, e, hb, hc⟩ := h.mem (by omega)
    rw [if_neg (by omega), e]
    refine ⟨b, off + i * k, by simp [add_lit], hb, fun j u hu => ?_⟩
    have e2 : xs.flatten = (xs.take i).flatten ++ (xs.drop i).flatten := by rw [← List.flatten_append, List.take_append_drop]
    have e3 : (xs.take i).flatten.length = i * k := by rw [flatten_length _ (fun y hy => h.rows.len y (List.mem_of_mem_take hy)), List.length_take]; congr 1; omega
    rw [Nat.add_assoc]
    refine hc _ u ?_
    rw [e2, List.getElem?_append_right (by omega), e3, Nat.add_sub_cancel_left]
    exact hu⟩
theorem Sv.grown (h : Sv w w.heap.size k A c xs) {row : Option Nat} (hg : w.grownBy w' row) (ha : ∀ a : Addr, A = some a → row ≠ some a.block) : Sv w' w'.heap.size k A c xs :=
  ⟨h.le, h.max, h.rows, fun hn => by
    obtain ⟨b, off, e, hb, hc⟩ := h.mem hn
    refine ⟨b, off, e, Nat.lt_of_lt_of_le hb hg.size, fun j u hu => ?_⟩
    rw [World.cell?_of_block (hg.block b hb (fun e2 => ha _ e e2.symm))]
    exact hc j u hu⟩
end
end Go.Proofs.YtelhefjikdoihaaDoor

/- A slice literal of one row. -/
namespace Go.Proofs.YtelhefjikdoihaaDoor
open Go Go.RowKit

theorem wpList_buildRow {P : Program} {ops : Array Oper} {rest : List Oper} {o : Oper} {a : Act} {w : World} {Q : Exit → Act → World → Prop} (hg : o.guard = none) (t e : TypeId) (s : Nat) (ho : o.op = .buildSlice t 1 #[(0, .tmp s)])
    (k : Nat) (hk : 0 < k) (hk2 : k ≤ 1000) (x : List Value) (hx : x.length = k) (hs : a.eval (.tmp s) = .agg x.toArray) (hu : P.underlying t = some (.slice e)) (hi : (P.info? e).map (·.size) = some k) (hz : ((P.info? e).bind (·.zero)).isSome = true)
    (h : wpList P ops Q rest (a.put o.dst (.slice (some ⟨w.heap.size, 0, none⟩) 1 1)) (w.alloc (.cells x.toArray e))) : wpList P ops Q (o :: rest) a w := by
  cases hie : P.info? e with
  | none => simp [hie] at hi
  | some ie =>
    have hsz : ie.size = k := by simpa [hie] using hi
    obtain ⟨z, hzz⟩ := Option.isSome_iff_exists.1 (by simpa [hie] using hz : (ie.zero).isSome = true)
    refine wpList_buildSlice hg t e 1 _ ho _ ie z hu hie hzz (by rw [hsz]; omega) (by rw [hsz]; omega) ?_ h
    have hf := Great.fill_whole (s := k) hk [.agg x.toArray] ((Array.range (1 * k)).map (z.cells[· % z.cells.size]!)) (fun v hv => by
      simp only [List.mem_singleton] at hv
      subst hv
      simpa [Value.cells] using hx) (by simp)
    rw [hsz]
    simp only [List.map_toArray, List.map_cons, List.map_nil, hs]
    simpa [Value.cells] using hf
end Go.Proofs.YtelhefjikdoihaaDoor

/- Contracts of the layer of fields, the reference's Put. -/
namespace Go.Proofs.YtelhefjikdoihaaDoor
open Go Go.RowKit

def putK (l : List Pt) (p : Pt) : Nat := (l.takeWhile fun y => befP y p).length
def putL (l : List Pt) (p : Pt) : List Pt := if l[putK l p]? = some p then l else l.take (putK l p) ++ (p :: l.drop (putK l p))
theorem putK_le (l : List Pt) (p : Pt) : putK l p ≤ l.length := by
  unfold putK
  exact (List.takeWhile_prefix _).length_le
theorem putK_at {l : List Pt} {p : Pt} {j : Nat} (h : ∀ (i : Nat) (y : Pt), i < j → l[i]? = some y → befP y p = true) (hj : j ≤ l.length) (he : ∀ y, l[j]? = some y → befP y p = false) : putK l p = j := by
  unfold putK
  induction l generalizing j with
  | nil => simp at hj; simp [hj]
  | cons x xs ih =>
    rcases j with _ | j
    · have := he x rfl
      simp [this]
    · have h0 := h 0 x (by omega) rfl
      simp only [List.takeWhile_cons, h0, if_true, List.length_cons]
      rw [ih (j := j) (fun i y hi hy => h (i + 1) y (by omega) (by simpa using hy)) (by simpa using hj) (fun y hy => he y (by simpa using hy))]
theorem infoPt : (Tryd.prog.info? 23).map (fun i => (i.zero, i.size, i.bytes)) = some (some (.agg #[.int .i64 0, .int .i64 0, .int .i64 0]), 3, 24) := by kernel_rfl
theorem Sv.empty (w : World) (B k : Nat) {A : Option Addr} {c : Nat} (hc : c ≤ maxLen) : Sv w B k A c [] := ⟨by simp, hc, fun x h => by simp at h, fun h => absurd h (by simp)⟩
theorem own_zero (w : World) (e : TypeId) (k : Nat) : (w.alloc (.cells #[] e)).ownsRow w.heap.size e k (.slice (some ⟨w.heap.size, 0, none⟩) 0 0) 0 [] :=
  own_of_cur (cur := []) (Nat.le_refl _) (by simpa using heap_alloc_new w (.cells #[] e)) (Nat.le_refl _) (by decide) (by simp) (by simp)
/-- It hands back a slice of points that can be read. -/
def RetP (l : List Pt) (w : World) (en : Ending) (w' : World) : Prop :=
  ∃ A c, en = .returned (.slice A l.length c) ∧ Sv w' w'.heap.size 3 A c (rowsP l) ∧ Ext w w'
theorem RetP.mk {l : List Pt} {w w' : World} {v : Value} {base n : Nat} (ho : w'.ownsRow base 23 3 v n (rowsP l).flatten) (hn : n = l.length) (hx : Ext w w') : RetP l w (.returned v) w' := by
  subst hn
  obtain ⟨A, c, rfl, _⟩ := own_form ho
  exact ⟨A, c, rfl, Sv.of_own ho (rowsP_rwk l) (rowsP_length l), hx⟩
/-- The same; and it lies where A0 says, or in a block of its own. -/
def RetPF (A0 : Option Addr) (l : List Pt) (w : World) (en : Ending) (w' : World) : Prop :=
  ∃ A c, en = .returned (.slice A l.length c) ∧ Sv w' w'.heap.size 3 A c (rowsP l) ∧ (A = A0 ∨ ∀ a : Addr, A = some a → w.heap.size ≤ a.block) ∧ Ext w w'
theorem RetPF.mk {A0 : Option Addr} {l : List Pt} {w w' : World} {v : Value} {base n : Nat} (ho : w'.ownsRow base 23 3 v n (rowsP l).flatten) (hn : n = l.length) (hx : Ext w w') (hb : w.heap.size ≤ base) : RetPF A0 l w (.returned v) w' := by
  subst hn
  obtain ⟨A, c, rfl, _⟩ := own_form ho
  refine ⟨A, c, rfl, Sv.of_own ho (rowsP_rwk l) (rowsP_length l), .inr fun a ha => ?_, hx⟩
  rcases ho.2 with ⟨h1, _⟩ | ⟨g, cap, cur, h1, h2, _⟩
  · injection h1 with h1; subst ha; cases h1
  · injection h1 with h1; subst ha; injection h1 with h1; subst h1; exact Nat.le_trans hb h2
set_option maxRecDepth 100000 in
set_option maxHeartbeats 8000000 in
theorem Put_some (b off : Nat) (c : Nat) (l : List Pt) (p : Pt) (w : World) (hs : Sv w w.heap.size 3 (some ⟨b, off, none⟩) c (rowsP l)) (hb : l.length ≤ 100000) :
    Calls Tryd.prog 39 #[.slice (some ⟨b, off, none⟩) l.length c, .agg #[.int .i64 p.x, .int .i64 p.y, .int .i64 p.z]] w (RetPF (some ⟨b, off, none⟩) (putL l p) w) := by
  have hm := mixed
  have hG := near_old
  have HS := Lib.hid hs; clear hs
  have HP := Lib.hid (fun (j : Nat) h1 h2 h3 => putK_at (l := l) (p := p) (j := j) h1 h2 h3)
  obtain ⟨R, hR⟩ : ∃ R, R = putL l p := ⟨_, rfl⟩
  rw [← hR]
  have HR := Lib.hid hR
  clear hR
  obtain ⟨i0, hi, hz0, hz1, hz2⟩ := info_parts infoPt
  have HI := Lib.hid hi; have HZ := Lib.hid hz0; have HZ1 := Lib.hid hz1; have HZ2 := Lib.hid hz2; clear hi hz0 hz1 hz2
  have HONE := Lib.hid ((rowsP_rwk [p] p.cells (by simp [rowsP])).2)
  go_enter Tryd.func39, Tryd.ntmps39
  go_wp2
  go_loopw [5] (fun i wr => ∃ j : Nat, j ≤ l.length ∧ i = .int .i64 j ∧ (∀ (i : Nat) (y : Pt), i < j → l[i]? = some y → befP y p = true) ∧ Arr wr w.heap.size 23 [.int .i64 p.x, .int .i64 p.y, .int .i64 p.z] ∧ Ext w wr) (fun i _ => l.length - (intOf i).toNat)
  case atStart => exact ⟨0, Nat.zero_le _, rfl, fun i y hi => by omega, Arr.new w _ _, (Ext.refl w).alloc _⟩
  case round =>
    obtain ⟨j, hj, rfl, hno, hB, hx⟩ := hrel
    have HNO := Lib.hid hno; clear hno
    have p0 := hB.cell 0
    have p1 := hB.cell 1
    have p2 := hB.cell 2
    simp only [List.getElem?_cons_zero, List.getElem?_cons_succ] at p0 p1 p2
    have lB := hB.lt
    have HB := Lib.hid hB
    clear hB
    by_cases hlt : j < l.length
    · obtain ⟨q, hq⟩ : ∃ q, l[j]? = some q := ⟨_, List.getElem?_eq_getElem hlt⟩
      obtain ⟨b', off', hA, hbl, r0, r1, r2⟩ := pt_row (HS.out.ext hx) hq
      injection hA with hA
      injection hA with hA1 hA2
      subst hA1 hA2
      have HF := Lib.hid (fun w' => beforeP_any q p w')
      have HQ := Lib.hid hq
      generalize hbe : befP q p = be at HF
      have HBE := Lib.hid hbe
      clear hq hbe
      cases be
      · have hk := HP.out j HNO.out hj (fun y hy => by rw [HQ.out] at hy; injection hy with hy; subst hy; exact HBE.out)
        have HR2 := Lib.hid (show R = if q = p then l else l.take j ++ (p :: l.drop j) by rw [HR.out]; unfold putL; rw [hk, HQ.out]; simp)
        have hn := eqPt_run q p
        have HN := Lib.hid hn
        clear hk hn
        go_wp2_with fail
        refine wp_region_near (by assumption) (by kernel_rfl) ?_
        repeat (go_big_quiet_step ((go_at_call 60; exact near_call (HF.out _))))
        refine wpQuiet_nil ?_
        intro w1 hw1
        have hy := Ext.of_near hw1
        clear hw1
        obtain ⟨xc, xf, xl, xe, xn, xm⟩ := hy.look
        have lB1 := Nat.lt_of_lt_of_le lB hy.size
        have hbl1 := Nat.lt_of_lt_of_le hbl hy.size
        have HX1 := Lib.hid (hx.trans hy)
        have HB1 := Lib.hid (HB.out.ext hy)
        have hn := HN.out
        by_cases hqp : q = p
        · have hb2 : decide (q = p) = true := by simpa using hqp
          rw [hb2] at hn
          have HR3 := Lib.hid (show R = l by rw [HR2.out, if_pos hqp])
          clear hqp hb2
          go_wp2_with fail
          refine wp_region_near (by assumption) (by kernel_rfl) ?_
          repeat (go_big_quiet_step (fail))
          refine wpQuiet_nil ?_
          intro w1 hw1
          have hy := Ext.of_near hw1
          clear hw1
          go_wp2_with fail
          go_ret
          rw [HR3.out]
          exact ⟨_, _, rfl, HS.out.ext (HX1.out.trans hy), .inl rfl, HX1.out.trans hy⟩
        · have hb2 : decide (q = p) = false := by simpa using hqp
          rw [hb2] at hn
          have HR3 := Lib.hid (show R = l.take j ++ (p :: l.drop j) by rw [HR2.out, if_neg hqp])
          clear hqp hb2
          go_wp2_with fail
          refine wp_region_near (by assumption) (by kernel_rfl) ?_
          repeat (go_big_quiet_step (fail))
          refine wpQuiet_nil ?_
          intro w1 hw1
          have hy := Ext.of_near hw1
          clear hw1
          have HXW := Lib.hid (HX1.out.trans hy)
          have HSW := Lib.hid (HS.out.ext HXW.out)
          have HBW := Lib.hid (HB1.out.ext hy)
          clear r0 r1 r2 hn hy xc xf xl xe xn xm hbl hbl1 lB lB1 p0 p1 p2 hx
          have hxz : Ext w1 (w1.alloc (.cells #[] 23)) := (Ext.refl _).alloc _
          have HSL := Lib.hid (HSW.out.ext hxz)
          have HBL := Lib.hid (HBW.out.ext hxz)
          have HXZ := Lib.hid hxz
          clear hxz
          have hle := HSL.out.le
          have hmx := HSL.out.max
          simp only [rowsP_length] at hle
          unfold maxLen at hmx
          go_wp2_with (at_builtin; refine wpList_append_sv _ rfl (.tmp 34) (.tmp 37) 31 rfl w1.heap.size 23 i0 (.agg #[.int .i64 0, .int .i64 0, .int .i64 0]) 3 24 Tryd.underlying31 HI.out HZ.out HZ1.out HZ2.out rfl (by decide) _ 0 [] rfl (own_zero w1 23 3) (w1.alloc (.cells #[] 23)).heap.size (some ⟨b, off, none⟩) (j) c (rowsP (l.take (j))) rfl (by rw [rowsP_take]; exact HSL.out.take _) (by rw [rowsP_length, List.length_take]; omega) (by unfold maxLen; omega) (by omega) HXZ.out.size ?_)
          intro v2 w2 g1 g2 _
          have HX3 := Lib.hid (show Ext w1 w2 from HXZ.out.grown g2 (own_low (own_zero w1 23 3)))
          have HSM := Lib.hid (HSW.out.ext HX3.out)
          have HO3 := Lib.hid (show w2.ownsRow w1.heap.size 23 3 v2 (j) (rowsP (l.take (j))).flatten by simpa using g1)
          have HBM := Lib.hid (HBW.out.ext HX3.out)
          clear g1 g2
          go_wp2_with (first
            | (refine wpList_load_blk 23 (.tmp 3) rfl rfl HBM.out rfl _ Tryd.underlying23 rfl (by kernel_rfl) ?_)
            | (refine wpList_buildRow rfl 31 23 40 rfl 3 (by decide) (by decide) ([.int .i64 p.x, .int .i64 p.y, .int .i64 p.z]) rfl rfl Tryd.underlying31 (by kernel_rfl) (by kernel_rfl) ?_)
            | (at_builtin; refine wpList_append_own _ rfl (.tmp 39) (.tmp 41) 31 rfl w1.heap.size 23 i0 (.agg #[.int .i64 0, .int .i64 0, .int .i64 0]) 3 24 Tryd.underlying31 HI.out HZ.out HZ1.out HZ2.out rfl (by decide) _ (j) (rowsP (l.take (j))).flatten rfl (own_ext HO3.out (Ext.alloc (Ext.refl w2) _)) ⟨w2.heap.size, 0, none⟩ 1 1 ([.int .i64 p.x, .int .i64 p.y, .int .i64 p.z]) rfl rfl ?_ HONE.out (by unfold maxLen; omega) (by omega) ?_ ?_))
          · intro j2 u hu
            rw [add_lit, Nat.zero_add, cell_of_row _ _ _ _ _ _ (heap_alloc_new w2 _)]
            simpa using hu
          · have h1 := HX3.out.size
            simp only [World.size_alloc_]
            omega
          intro v3 w3 g1 g2 _
          have HX4 := Lib.hid (show Ext w1 w3 from (HX3.out.alloc _).grown g2 (own_low (own_ext HO3.out (Ext.alloc (Ext.refl w2) (.cells ([.int .i64 p.x, .int .i64 p.y, .int .i64 p.z] : List Value).toArray 23)))))
          have HO4 := Lib.hid g1
          clear g1 g2
          have HSD := Lib.hid (show Sv w3 w3.heap.size 3 (if c = j then (some ⟨b, off, none⟩) else Option.map (fun z : Addr => z.add ((j) * 3)) (some ⟨b, off, none⟩)) (c - (j)) (rowsP (l.drop (j))) from by rw [rowsP_drop]; exact (HSW.out.ext HX4.out).drop (by rw [rowsP_length]; omega))
          by_cases hca : c = j
          all_goals
            go_wp2_with (at_builtin; refine wpList_append_sv _ rfl (.tmp 43) (.tmp 46) 31 rfl w1.heap.size 23 i0 (.agg #[.int .i64 0, .int .i64 0, .int .i64 0]) 3 24 Tryd.underlying31 HI.out HZ.out HZ1.out HZ2.out rfl (by decide) _ ((j) + 1) _ rfl HO4.out w3.heap.size (if c = j then (some ⟨b, off, none⟩) else Option.map (fun z : Addr => z.add ((j) * 3)) (some ⟨b, off, none⟩)) (l.length - (j)) (c - (j)) (rowsP (l.drop (j))) ?_ HSD.out (by rw [rowsP_length, List.length_drop]) (by unfold maxLen; omega) (by omega) HX4.out.size ?_)
            intro v5 w5 g1 g2 _
            have HX6 := Lib.hid (HX4.out.grown g2 (own_low HO4.out))
            have HO5 := Lib.hid g1
            clear g1 g2
            go_wp2
            go_ret
            rw [HR3.out]
            exact RetPF.mk (base := w1.heap.size) (by simpa [rowsP, Pt.cells] using HO5.out) (by simp <;> omega) (HXW.out.trans HX6.out) HXW.out.size
      · go_wp2_with fail
        refine wp_region_near (by assumption) (by kernel_rfl) ?_
        repeat (go_big_quiet_step ((go_at_call 60; exact near_call (HF.out _))))
        refine wpQuiet_nil ?_
        intro w1 hw1
        have hy := Ext.of_near hw1
        clear hw1
        have hB2 := HB.out.ext hy
        go_wp2
        go_roundw
        case rel => exact ⟨j + 1, by omega, by go_num, no_snoc (f := fun y => !befP y p) (fun i y hi hy => by simp [HNO.out i y hi hy]) HQ.out (by simp [HBE.out]) |> fun h i y hi hy => by simpa using h i y hi hy, hB2, hx.trans hy⟩
        case measure => simp [intOf]; omega
    · obtain rfl : j = l.length := by omega
      have hk := HP.out l.length HNO.out (Nat.le_refl _) (fun y hy => by simp at hy)
      have HR3 := Lib.hid (show R = l.take l.length ++ (p :: l.drop l.length) by rw [HR.out]; unfold putL; rw [hk]; simp)
      clear hk
      go_wp2_with fail
      refine wp_region_near (by assumption) (by kernel_rfl) ?_
      repeat (go_big_quiet_step (fail))
      refine wpQuiet_nil ?_
      intro w1 hw1
      have hy := Ext.of_near hw1
      clear hw1
      obtain ⟨xc, xf, xl, xe, xn, xm⟩ := hy.look
      have lB1 := Nat.lt_of_lt_of_le lB hy.size
      have HX1 := Lib.hid (hx.trans hy)
      have HB1 := Lib.hid (HB.out.ext hy)
      go_wp2_with fail
      refine wp_region_near (by assumption) (by kernel_rfl) ?_
      repeat (go_big_quiet_step (fail))
      refine wpQuiet_nil ?_
      intro w1 hw1
      have hy := Ext.of_near hw1
      clear hw1
      have HXW := Lib.hid (HX1.out.trans hy)
      have HSW := Lib.hid (HS.out.ext HXW.out)
      have HBW := Lib.hid (HB1.out.ext hy)
      clear hy xc xf xl xe xn xm lB lB1 p0 p1 p2 hx
      have hxz : Ext w1 (w1.alloc (.cells #[] 23)) := (Ext.refl _).alloc _
      have HSL := Lib.hid (HSW.out.ext hxz)
      have HBL := Lib.hid (HBW.out.ext hxz)
      have HXZ := Lib.hid hxz
      clear hxz
      have hle := HSL.out.le
      have hmx := HSL.out.max
      simp only [rowsP_length] at hle
      unfold maxLen at hmx
      go_wp2_with (at_builtin; refine wpList_append_sv _ rfl (.tmp 34) (.tmp 37) 31 rfl w1.heap.size 23 i0 (.agg #[.int .i64 0, .int .i64 0, .int .i64 0]) 3 24 Tryd.underlying31 HI.out HZ.out HZ1.out HZ2.out rfl (by decide) _ 0 [] rfl (own_zero w1 23 3) (w1.alloc (.cells #[] 23)).heap.size (some ⟨b, off, none⟩) (l.length) c (rowsP (l.take (l.length))) rfl (by rw [rowsP_take]; exact HSL.out.take _) (by rw [rowsP_length, List.length_take]; omega) (by unfold maxLen; omega) (by omega) HXZ.out.size ?_)
      intro v2 w2 g1 g2 _
      have HX3 := Lib.hid (show Ext w1 w2 from HXZ.out.grown g2 (own_low (own_zero w1 23 3)))
      have HSM := Lib.hid (HSW.out.ext HX3.out)
      have HO3 := Lib.hid (show w2.ownsRow w1.heap.size 23 3 v2 (l.length) (rowsP (l.take (l.length))).flatten by simpa using g1)
      have HBM := Lib.hid (HBW.out.ext HX3.out)
      clear g1 g2
      go_wp2_with (first
        | (refine wpList_load_blk 23 (.tmp 3) rfl rfl HBM.out rfl _ Tryd.underlying23 rfl (by kernel_rfl) ?_)
        | (refine wpList_buildRow rfl 31 23 40 rfl 3 (by decide) (by decide) ([.int .i64 p.x, .int .i64 p.y, .int .i64 p.z]) rfl rfl Tryd.underlying31 (by kernel_rfl) (by kernel_rfl) ?_)
        | (at_builtin; refine wpList_append_own _ rfl (.tmp 39) (.tmp 41) 31 rfl w1.heap.size 23 i0 (.agg #[.int .i64 0, .int .i64 0, .int .i64 0]) 3 24 Tryd.underlying31 HI.out HZ.out HZ1.out HZ2.out rfl (by decide) _ (l.length) (rowsP (l.take (l.length))).flatten rfl (own_ext HO3.out (Ext.alloc (Ext.refl w2) _)) ⟨w2.heap.size, 0, none⟩ 1 1 ([.int .i64 p.x, .int .i64 p.y, .int .i64 p.z]) rfl rfl ?_ HONE.out (by unfold maxLen; omega) (by omega) ?_ ?_))
      · intro j2 u hu
        rw [add_lit, Nat.zero_add, cell_of_row _ _ _ _ _ _ (heap_alloc_new w2 _)]
        simpa using hu
      · have h1 := HX3.out.size
        simp only [World.size_alloc_]
        omega
      intro v3 w3 g1 g2 _
      have HX4 := Lib.hid (show Ext w1 w3 from (HX3.out.alloc _).grown g2 (own_low (own_ext HO3.out (Ext.alloc (Ext.refl w2) (.cells ([.int .i64 p.x, .int .i64 p.y, .int .i64 p.z] : List Value).toArray 23)))))
      have HO4 := Lib.hid g1
      clear g1 g2
      have HSD := Lib.hid (show Sv w3 w3.heap.size 3 (if c = l.length then (some ⟨b, off, none⟩) else Option.map (fun z : Addr => z.add ((l.length) * 3)) (some ⟨b, off, none⟩)) (c - (l.length)) (rowsP (l.drop (l.length))) from by rw [rowsP_drop]; exact (HSW.out.ext HX4.out).drop (by rw [rowsP_length]; omega))
      by_cases hca : c = l.length
      all_goals
        go_wp2_with (at_builtin; refine wpList_append_sv _ rfl (.tmp 43) (.tmp 46) 31 rfl w1.heap.size 23 i0 (.agg #[.int .i64 0, .int .i64 0, .int .i64 0]) 3 24 Tryd.underlying31 HI.out HZ.out HZ1.out HZ2.out rfl (by decide) _ ((l.length) + 1) _ rfl HO4.out w3.heap.size (if c = l.length then (some ⟨b, off, none⟩) else Option.map (fun z : Addr => z.add ((l.length) * 3)) (some ⟨b, off, none⟩)) (l.length - (l.length)) (c - (l.length)) (rowsP (l.drop (l.length))) ?_ HSD.out (by rw [rowsP_length, List.length_drop]) (by unfold maxLen; omega) (by omega) HX4.out.size ?_)
        intro v5 w5 g1 g2 _
        have HX6 := Lib.hid (HX4.out.grown g2 (own_low HO4.out))
        have HO5 := Lib.hid g1
        clear g1 g2
        go_wp2
        go_ret
        rw [HR3.out]
        exact RetPF.mk (base := w1.heap.size) (by simpa [rowsP, Pt.cells] using HO5.out) (by simp <;> omega) (HXW.out.trans HX6.out) HXW.out.size
set_option maxRecDepth 100000 in
set_option maxHeartbeats 8000000 in
theorem Put_nil (A : Option Addr) (c : Nat) (p : Pt) (w : World) (hs : Sv w w.heap.size 3 A c (rowsP ([] : List Pt))) :
    Calls Tryd.prog 39 #[.slice A 0 c, .agg #[.int .i64 p.x, .int .i64 p.y, .int .i64 p.z]] w (RetPF A (putL [] p) w) := by
  have hm := mixed
  have hG := near_old
  have HS := Lib.hid hs; clear hs
  have HR3 := Lib.hid (show putL [] p = [p] from rfl)
  obtain ⟨i0, hi, hz0, hz1, hz2⟩ := info_parts infoPt
  have HI := Lib.hid hi; have HZ := Lib.hid hz0; have HZ1 := Lib.hid hz1; have HZ2 := Lib.hid hz2; clear hi hz0 hz1 hz2
  have HONE := Lib.hid ((rowsP_rwk [p] p.cells (by simp [rowsP])).2)
  go_enter Tryd.func39, Tryd.ntmps39
  go_wp2
  go_loopw [5] (fun i wr => i = .int .i64 0 ∧ Arr wr w.heap.size 23 [.int .i64 p.x, .int .i64 p.y, .int .i64 p.z] ∧ Ext w wr) (fun i _ => 0)
  case atStart => exact ⟨rfl, Arr.new w _ _, (Ext.refl w).alloc _⟩
  case round =>
      obtain ⟨rfl, hB, hx⟩ := hrel
      have lB := hB.lt
      have HB := Lib.hid hB
      clear hB
      go_wp2_with fail
      refine wp_region_near (by assumption) (by kernel_rfl) ?_
      repeat (go_big_quiet_step (fail))
      refine wpQuiet_nil ?_
      intro w1 hw1
      have hy := Ext.of_near hw1
      clear hw1
      obtain ⟨xc, xf, xl, xe, xn, xm⟩ := hy.look
      have lB1 := Nat.lt_of_lt_of_le lB hy.size
      have HX1 := Lib.hid (hx.trans hy)
      have HB1 := Lib.hid (HB.out.ext hy)
      go_wp2_with fail
      refine wp_region_near (by assumption) (by kernel_rfl) ?_
      repeat (go_big_quiet_step (fail))
      refine wpQuiet_nil ?_
      intro w1 hw1
      have hy := Ext.of_near hw1
      clear hw1
      have HXW := Lib.hid (HX1.out.trans hy)
      have HSW := Lib.hid (HS.out.ext HXW.out)
      have HBW := Lib.hid (HB1.out.ext hy)
      clear hy xc xf xl xe xn xm lB lB1 hx
      have hxz : Ext w1 (w1.alloc (.cells #[] 23)) := (Ext.refl _).alloc _
      have HSL := Lib.hid (HSW.out.ext hxz)
      have HBL := Lib.hid (HBW.out.ext hxz)
      have HXZ := Lib.hid hxz
      clear hxz
      have hle := HSL.out.le
      have hmx := HSL.out.max
      simp only [rowsP_length] at hle
      unfold maxLen at hmx
      go_wp2_with (at_builtin; refine wpList_append_sv _ rfl (.tmp 34) (.tmp 37) 31 rfl w1.heap.size 23 i0 (.agg #[.int .i64 0, .int .i64 0, .int .i64 0]) 3 24 Tryd.underlying31 HI.out HZ.out HZ1.out HZ2.out rfl (by decide) _ 0 [] rfl (own_zero w1 23 3) (w1.alloc (.cells #[] 23)).heap.size A 0 c (rowsP (([] : List Pt).take 0)) rfl (by rw [rowsP_take]; exact HSL.out.take _) (by rw [rowsP_length, List.length_take]; omega) (by unfold maxLen; omega) (by omega) HXZ.out.size ?_)
      intro v2 w2 g1 g2 _
      have HX3 := Lib.hid (show Ext w1 w2 from HXZ.out.grown g2 (own_low (own_zero w1 23 3)))
      have HSM := Lib.hid (HSW.out.ext HX3.out)
      have HO3 := Lib.hid (show w2.ownsRow w1.heap.size 23 3 v2 0 (rowsP (([] : List Pt).take 0)).flatten by simpa using g1)
      have HBM := Lib.hid (HBW.out.ext HX3.out)
      clear g1 g2
      go_wp2_with (first
        | (refine wpList_load_blk 23 (.tmp 3) rfl rfl HBM.out rfl _ Tryd.underlying23 rfl (by kernel_rfl) ?_)
        | (refine wpList_buildRow rfl 31 23 40 rfl 3 (by decide) (by decide) ([.int .i64 p.x, .int .i64 p.y, .int .i64 p.z]) rfl rfl Tryd.underlying31 (by kernel_rfl) (by kernel_rfl) ?_)
        | (at_builtin; refine wpList_append_own _ rfl (.tmp 39) (.tmp 41) 31 rfl w1.heap.size 23 i0 (.agg #[.int .i64 0, .int .i64 0, .int .i64 0]) 3 24 Tryd.underlying31 HI.out HZ.out HZ1.out HZ2.out rfl (by decide) _ 0 (rowsP (([] : List Pt).take 0)).flatten rfl (own_ext HO3.out (Ext.alloc (Ext.refl w2) _)) ⟨w2.heap.size, 0, none⟩ 1 1 ([.int .i64 p.x, .int .i64 p.y, .int .i64 p.z]) rfl rfl ?_ HONE.out (by unfold maxLen; omega) (by omega) ?_ ?_))
      · intro j2 u hu
        rw [add_lit, Nat.zero_add, cell_of_row _ _ _ _ _ _ (heap_alloc_new w2 _)]
        simpa using hu
      · have h1 := HX3.out.size
        simp only [World.size_alloc_]
        omega
      intro v3 w3 g1 g2 _
      have HX4 := Lib.hid (show Ext w1 w3 from (HX3.out.alloc _).grown g2 (own_low (own_ext HO3.out (Ext.alloc (Ext.refl w2) (.cells ([.int .i64 p.x, .int .i64 p.y, .int .i64 p.z] : List Value).toArray 23)))))
      have HO4 := Lib.hid g1
      clear g1 g2
      rcases A with _ | ⟨ab, ao, asp⟩ <;> by_cases hca : c = 0
      all_goals
        go_wp2_with (at_builtin; refine wpList_append_sv _ rfl (.tmp 43) (.tmp 46) 31 rfl w1.heap.size 23 i0 (.agg #[.int .i64 0, .int .i64 0, .int .i64 0]) 3 24 Tryd.underlying31 HI.out HZ.out HZ1.out HZ2.out rfl (by decide) _ (0 + 1) _ rfl HO4.out w3.heap.size _ 0 _ [] rfl (Sv.empty _ _ _ (by unfold maxLen; omega)) rfl (by unfold maxLen; omega) (by omega) HX4.out.size ?_)
        intro v5 w5 g1 g2 _
        have HX6 := Lib.hid (HX4.out.grown g2 (own_low HO4.out))
        have HO5 := Lib.hid g1
        clear g1 g2
        go_wp2
        go_ret
        rw [HR3.out]
        exact RetPF.mk (base := w1.heap.size) (by simpa [rowsP, Pt.cells] using HO5.out) (by simp <;> omega) (HXW.out.trans HX6.out) HXW.out.size
theorem Put_fresh (A : Option Addr) (c : Nat) (l : List Pt) (p : Pt) (w : World) (hs : Sv w w.heap.size 3 A c (rowsP l)) (hb : l.length ≤ 100000) :
    Calls Tryd.prog 39 #[.slice A l.length c, .agg #[.int .i64 p.x, .int .i64 p.y, .int .i64 p.z]] w (RetPF A (putL l p) w) := by
  rcases Nat.eq_zero_or_pos l.length with h0 | h0
  · obtain rfl := List.eq_nil_of_length_eq_zero h0
    exact Put_nil A c p w hs
  · obtain ⟨b, off, rfl, _⟩ := hs.mem (by rw [rowsP_length]; exact h0)
    exact Put_some b off c l p w hs hb
theorem Put_any (A : Option Addr) (c : Nat) (l : List Pt) (p : Pt) (w : World) (hs : Sv w w.heap.size 3 A c (rowsP l)) (hb : l.length ≤ 100000) :
    Calls Tryd.prog 39 #[.slice A l.length c, .agg #[.int .i64 p.x, .int .i64 p.y, .int .i64 p.z]] w (RetP (putL l p) w) :=
  (Put_fresh A c l p w hs hb).mono fun _ _ ⟨A', c', h1, h2, _, h3⟩ => ⟨A', c', h1, h2, h3⟩
end Go.Proofs.YtelhefjikdoihaaDoor
