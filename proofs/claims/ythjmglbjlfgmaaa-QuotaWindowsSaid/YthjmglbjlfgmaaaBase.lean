/- Words for memory: a slice that reads as a list of rows of cells, nil let in; kept while memory below a block number stands. -/
import Derived.Test.YthjmglbjlfgmaaaRegion
import Derived.WalkKit
import Derived.WalkSpells
import Derived.WalkLawsBesides
import Derived.BigQuiet
import Derived.Deep.QuietTactic
import Derived.Lib.Hide
import Derived.IntWalk
import Derived.Shelf.Abstract
namespace Go.Proofs.Ythjmglbjlfgmaaa
open Go.RowKit

theorem flatten_at {k : Nat} : ∀ (xs : List (List Value)), (∀ x, x ∈ xs → x.length = k) → ∀ (i : Nat) (x : List Value), xs[i]? = some x → ∀ j u, x[j]? = some u → xs.flatten[i * k + j]? = some u
  | [], _, i, x, hx, _, _, _ => by simp at hx
  | y :: ys, h, 0, x, hx, j, u, hu => by
    simp only [List.getElem?_cons_zero, Option.some.injEq] at hx
    subst hx
    have hj : j < y.length := (List.getElem?_eq_some_iff.1 hu).1
    rw [List.flatten_cons, Nat.zero_mul, Nat.zero_add, List.getElem?_append_left hj]
    exact hu
  | y :: ys, h, i + 1, x, hx, j, u, hu => by
    have hy := h y (List.mem_cons_self ..)
    rw [List.flatten_cons, List.getElem?_append_right (by rw [hy, Nat.succ_mul]; omega), hy, show (i + 1) * k + j - k = i * k + j by rw [Nat.succ_mul]; omega]
    exact flatten_at ys (fun z hz => h z (List.mem_cons_of_mem _ hz)) i x (by simpa using hx) j u hu
theorem flatten_length {k : Nat} : ∀ (xs : List (List Value)), (∀ x, x ∈ xs → x.length = k) → xs.flatten.length = xs.length * k
  | [], _ => by simp
  | y :: ys, h => by
    rw [List.flatten_cons, List.length_append, flatten_length ys (fun z hz => h z (List.mem_cons_of_mem _ hz)), h y (List.mem_cons_self ..), List.length_cons, Nat.succ_mul]; omega

/-- Rows of k ints each. -/
def Rws (k : Nat) (xs : List (List Value)) : Prop := ∀ x, x ∈ xs → ∃ l : List Int, l.length = k ∧ x = l.map (Value.int .i64)
theorem Rws.len {k : Nat} {xs : List (List Value)} (h : Rws k xs) : ∀ x, x ∈ xs → x.length = k := fun x hx => by
  obtain ⟨l, h1, rfl⟩ := h x hx
  simpa using h1
theorem Rws.one {k : Nat} {xs : List (List Value)} (h : Rws k xs) : ∀ u, u ∈ xs.flatten → u.oneCell' = true := fun u hu => by
  obtain ⟨x, hx, hu⟩ := List.mem_flatten.1 hu
  obtain ⟨l, _, rfl⟩ := h x hx
  obtain ⟨n, _, rfl⟩ := List.mem_map.1 hu
  rfl
theorem Rws.sub {k : Nat} {xs ys : List (List Value)} (h : Rws k xs) (hs : ∀ x, x ∈ ys → x ∈ xs) : Rws k ys := fun x hx => h x (hs x hx)
theorem Rws.set {k : Nat} {xs : List (List Value)} (h : Rws k xs) {i : Nat} {x : List Value} (hx : ∃ l : List Int, l.length = k ∧ x = l.map (Value.int .i64)) : Rws k (xs.set i x) := fun y hy => by
  rcases List.mem_or_eq_of_mem_set hy with h1 | rfl
  · exact h y h1
  · exact hx
theorem Rws.row3 {xs : List (List Value)} (h : Rws 3 xs) {x : List Value} (hx : x ∈ xs) : ∃ a b c : Int, x = [.int .i64 a, .int .i64 b, .int .i64 c] := by
  obtain ⟨l, h1, rfl⟩ := h x hx
  match l, h1 with
  | [a, b, c], _ => exact ⟨a, b, c, rfl⟩

/-- The slice value with address A, length xs.length and capacity c holds rows of k cells each; its block lies below B. -/
structure Sl (w : World) (B k : Nat) (A : Option Addr) (c : Nat) (xs : List (List Value)) : Prop where
  le : xs.length ≤ c
  max : c ≤ maxLen
  rows : Rws k xs
  mem : 0 < xs.length → ∃ b off, A = some ⟨b, off, none⟩ ∧ b < B ∧ ∀ (j : Nat) (u : Value), xs.flatten[j]? = some u → w.cell? ⟨b, off + j, none⟩ = some u

section
variable {w w' : World} {B B' k c : Nat} {A : Option Addr} {xs : List (List Value)}
theorem Sl.keep (h : Sl w B k A c xs) (hk : ∀ p : Addr, p.block < B → w'.cell? p = w.cell? p) : Sl w' B k A c xs :=
  ⟨h.le, h.max, h.rows, fun hn => by
    obtain ⟨b, off, e, hb, hc⟩ := h.mem hn
    exact ⟨b, off, e, hb, fun j u hu => (hk _ hb).trans (hc j u hu)⟩⟩
theorem Sl.more (h : Sl w B k A c xs) (hB : B ≤ B') : Sl w B' k A c xs :=
  ⟨h.le, h.max, h.rows, fun hn => by
    obtain ⟨b, off, e, hb, hc⟩ := h.mem hn
    exact ⟨b, off, e, by omega, hc⟩⟩
theorem Sl.below (h : Sl w B k A c xs) (hb : Below B w w') : Sl w' B k A c xs := h.keep fun _ hp => hb.cell hp
theorem Sl.drew (h : Sl w B k A c xs) : Sl w.drew B k A c xs := ⟨h.le, h.max, h.rows, h.mem⟩
theorem Sl.drewN (h : Sl w B k A c xs) (n : Nat) : Sl (w.drewN n) B k A c xs := ⟨h.le, h.max, h.rows, h.mem⟩
theorem Sl.alloc (h : Sl w B k A c xs) (hB : B ≤ w.heap.size) (o : Obj) : Sl (w.alloc o) B k A c xs := h.keep fun p hp => World.cell?_alloc_lt w o p (by omega)
theorem Sl.setCell (h : Sl w B k A c xs) {p : Addr} (hB : B ≤ p.block) (u : Value) : Sl (w.setCell p u) B k A c xs :=
  h.keep fun q hq => World.cell?_setCell_other w p q u (fun e => by subst e; omega)
theorem Sl.ext (h : Sl w B k A c xs) (hx : Ext w w') (hB : B ≤ w.heap.size) : Sl w' B k A c xs := h.below (hx.below.mono hB)
theorem Sl.nil (w : World) (B k : Nat) : Sl w B k none 0 [] := ⟨by simp, by simp, fun _ h => by simp at h, fun h => absurd h (by simp)⟩
theorem Sl.len (h : Sl w B k A c xs) : xs.length ≤ 9223372036854775807 := by have h1 := h.le; have h2 := h.max; unfold maxLen at h2; omega
/-- Row i of a slice of rows of three cells. -/
theorem Sl.at3 (h : Sl w B 3 A c xs) {i : Nat} {u0 u1 u2 : Value} (hx : xs[i]? = some [u0, u1, u2]) :
    ∃ b off, A = some ⟨b, off, none⟩ ∧ b < B ∧ w.cell? ⟨b, off + i * 3, none⟩ = some u0 ∧ w.cell? ⟨b, off + i * 3 + 1, none⟩ = some u1 ∧ w.cell? ⟨b, off + i * 3 + 2, none⟩ = some u2 := by
  obtain ⟨b, off, e, hb, hc⟩ := h.mem (by have := (List.getElem?_eq_some_iff.1 hx).1; omega)
  have hf := flatten_at xs h.rows.len i _ hx
  exact ⟨b, off, e, hb, hc _ _ (hf 0 u0 rfl), by rw [Nat.add_assoc]; exact hc _ _ (hf 1 u1 rfl), by rw [Nat.add_assoc]; exact hc _ _ (hf 2 u2 rfl)⟩
end
end Go.Proofs.Ythjmglbjlfgmaaa
