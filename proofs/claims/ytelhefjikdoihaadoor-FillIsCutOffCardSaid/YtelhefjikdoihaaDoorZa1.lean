/- YtelhefjikdoihaaDoorRegion · YtelhefjikdoihaaDoorBase · YtelhefjikdoihaaDoorOwn · YtelhefjikdoihaaDoorRead · YtelhefjikdoihaaDoorPt · YtelhefjikdoihaaDoorArr · YtelhefjikdoihaaDoorPu · YtelhefjikdoihaaDoorPv · YtelhefjikdoihaaDoorInv · YtelhefjikdoihaaDoorTab · YtelhefjikdoihaaDoorPw · YtelhefjikdoihaaDoorPy -/
import Derived.Test.YtelhefjikdoihaaDoorRows
import Derived.WalkKit
import Derived.Deep.QuietTactic
import Derived.StillTail
import Derived.Laws.OwnMore
import Derived.WalkSpells
import Derived.WalkLawsBesides
import Derived.BigQuiet
import Derived.Lib.Hide
import Derived.IntWalk
import Derived.Shelf.Abstract
import Derived.Laws.CopyOwn
import Derived.Laws.AppendOwnNone
import Derived.ProofKit
import Derived.Lib.SmallJoins
import Derived.Deep.Slices
import Derived.OpenShut
import Derived.Lib.MinMax
/- A region that draws its order: a head of operations that leave every world of a class in the class and yield one value each, and a tail in one forced order. For every class of worlds, head and tail. -/
namespace Go.Proofs.YtelhefjikdoihaaDoor
open Go Go.RowKit

section
variable {P : Program} {ops : Array Oper} {md : Region.Mode} {C : World → Prop}

/-- The head's walk, whatever order is picked: every operation that may come up lies in the head and is quiet in the class. -/
def headQ (P : Program) (md : Region.Mode) (ops : Array Oper) (C : World → Prop) (n : Nat) (L : Array Bool → Act → Prop) : Nat → Array Bool → Act → Prop
  | 0, listed, a => L listed a
  | f + 1, listed, a =>
    Region.ready md ops listed ≠ [] ∧ ∀ i ∈ Region.ready md ops listed, i < n ∧ qOp P ops C i (headQ P md ops C n L f (listed.setIfInBounds i true)) a

theorem wpAny_of_headQ {n g : Nat} {L : Array Bool → Act → Prop} {Q' : Exit → Act → World → Prop} (hL : ∀ listed a w, C w → L listed a → wpAny P md ops Q' g listed a w) :
    ∀ (f : Nat) (listed : Array Bool) (a : Act) (w : World), C w → headQ P md ops C n L f listed a → wpAny P md ops Q' (f + g) listed a w
  | 0, listed, a, w, hw, h => by rw [Nat.zero_add]; exact hL _ _ _ hw h
  | f + 1, listed, a, w, hw, h => by
    rw [show f + 1 + g = (f + g) + 1 by omega]
    exact ⟨fun h0 => absurd h0 h.1, fun i hi => wpOp_of_qOp hw (fun a' w' hw' h' => wpAny_of_headQ hL f _ a' w' hw' h') (h.2 i hi).2⟩

theorem headQ_first {n i : Nat} {oi : Oper} {v : Value} {L : Array Bool → Act → Prop} (hi : ops[i]? = some oi) (hsel : ∀ (j : Nat) (o : Oper) cs b, ops[j]? = some o → o.op ≠ .select cs b)
    (hs : Region.sinkB md ops n = true) (hc : Region.chainB md ops n = true) (hn : n < ops.size) (hin : i < n)
    (hdone : ∀ listed a, L listed a → ∀ j ∈ Region.ready md ops listed, n ≤ j) :
    ∀ (f : Nat) (listed : Array Bool) (a : Act), HeadInv md ops n listed →
      (∀ j oj, ops[j]? = some oj → j ≠ i → listed.getD j true = false → (∀ e ∈ oj.after, Region.binds md e = true → e.on ≠ i) → oi.apart ops oj = true) →
      i ∈ Region.ready md ops listed → YieldsIn P ops C oi v a →
      headQ P md ops C n L f (listed.setIfInBounds i true) (a.put oi.dst v) → headQ P md ops C n L (f + 1) listed a := by
  intro f
  induction f with
  | zero =>
    intro listed a inv _ hr hy H
    refine ⟨fun h => (by rw [h] at hr; cases hr), fun j hj => ?_⟩
    have hjn : j < n := (Nat.lt_or_ge j n).resolve_right fun h => absurd hj (tail_waits hs hc hn inv _ i rfl hin (mem_ready.1 hr).1 j h)
    refine ⟨hjn, ?_⟩
    by_cases hji : j = i
    · subst hji; exact hy.qOp hi H
    · have := hdone _ _ H j (ready_mono hj hji)
      omega
  | succ f ih =>
    intro listed a inv hfree hr hy H
    have hun := (mem_ready.1 hr).1
    refine ⟨fun h => (by rw [h] at hr; cases hr), fun j hj => ?_⟩
    have hjn : j < n := (Nat.lt_or_ge j n).resolve_right fun h => absurd hj (tail_waits hs hc hn inv _ i rfl hin hun j h)
    refine ⟨hjn, ?_⟩
    by_cases hji : j = i
    · subst hji; exact hy.qOp hi H
    · have h1 := (H.2 j (ready_mono hj hji)).2
      obtain ⟨hjun, oj, hoj, hall⟩ := mem_ready.1 hj
      have hnot : ∀ e ∈ oj.after, Region.binds md e = true → e.on ≠ i := fun e he hb heq => by
        have h1 := hall e he hb
        rw [heq, getD_both hun] at h1
        cases h1
      have h2 := qOp_put hoj (hfree j oj hoj hji hjun hnot) (fun cs b => hsel i oi cs b hi) (fun cs b => hsel j oj cs b hoj) hy h1
      have hfree' : ∀ k ok, ops[k]? = some ok → k ≠ i → (listed.setIfInBounds j true).getD k true = false →
          (∀ e ∈ ok.after, Region.binds md e = true → e.on ≠ i) → oi.apart ops ok = true := fun k ok hk hki hun hno => by
        refine hfree k ok hk hki ?_ hno
        by_cases hjk : j = k
        · subst hjk; exact hjun
        · rw [getD_set_ne true hjk] at hun; exact hun
      refine qOp_mono (fun a' h3 => ih (listed.setIfInBounds j true) a' (inv.set hj hjn) hfree' (ready_mono hr (Ne.symm hji)) h3.1 ?_) h2
      rw [Array.setIfInBounds_comm _ _ hji]
      exact h3.2

theorem headQ_lex {n g : Nat} {Lq : Act → Prop} (hsel : Region.noSelect ops = true) (hs : Region.sinkB md ops n = true) (hc : Region.chainB md ops n = true) (hn : n < ops.size) :
    ∀ (l : List Oper) (k : Nat) (listed : Array Bool) (a : Act), (∀ j, j < l.length → l[j]? = ops[k + j]?) → k + l.length = n → HeadInv md ops n listed →
    Region.lexHead md ops g l.length k listed = true → wpQuiet P ops C Lq l a →
    headQ P md ops C n (fun listed' a' => Region.seqB md ops g n listed' = true ∧ Lq a') l.length listed a
  | [], k, listed, a, _, hk, _, hB, h => by
    obtain rfl : k = n := by simpa using hk
    exact ⟨by simpa [Region.lexHead] using hB, h⟩
  | o :: l, k, listed, a, hl, hk, inv, hB, h => by
    have h0 : ops[k]? = some o := by simpa using (hl 0 (by simp)).symm
    simp only [List.length_cons, Region.lexHead, Bool.and_eq_true] at hB
    obtain ⟨⟨hr, hf⟩, hB'⟩ := hB
    have hkn : k < n := by simp only [List.length_cons] at hk; omega
    have hr' : k ∈ Region.ready md ops listed := by simpa using hr
    have hst : qOp P ops C k (wpQuiet P ops C Lq l) a := by unfold qOp; simp only [h0]; exact h
    obtain ⟨v, hy, hK⟩ := yieldsIn_of_qOp h0 hst
    exact headQ_first h0 (Region.noSelect_spec hsel) hs hc hn hkn (fun listed' a' hL => seqB_ready hL.1) l.length listed a inv (Region.free_spec h0 hf) hr' hy
      (headQ_lex hsel hs hc hn l (k + 1) _ _ (fun j hj => by have := hl (j + 1) (by simp; omega); simpa [Nat.add_assoc, Nat.add_comm 1 j] using this) (by simp only [List.length_cons] at hk; omega) (inv.set hr' hkn) hB' hK)

theorem wp_region_head {id : Nat} {Q : Exit → Act → World → Prop} {a : Act} {w : World} {l : List Oper} (n : Nat) (hm : P.follows .mixedOrders = true) (hB : Region.lexTailB .any l.toArray n = true) (hC : C w.drew)
    (h : wpQuiet P l.toArray C (fun a' => ∀ w', C w' → wpList P l.toArray Q (l.drop n) a' w') (l.take n) a) : (Code.region id l.toArray true).wp P Q a w := by
  simp only [Region.lexTailB, Bool.and_eq_true, decide_eq_true_eq] at hB
  obtain ⟨⟨⟨⟨hsel, hn⟩, hs⟩, hc⟩, hlex⟩ := hB
  have hn' : n < l.length := by simpa using hn
  have htl : (l.take n).length = n := by simp; omega
  have hdl : (l.drop n).length = l.toArray.size - n := by simp
  have inv0 : HeadInv .any l.toArray n (Array.replicate l.toArray.size false) :=
    ⟨by simp, fun j oj _ hl => (by rw [getD_replicate_false] at hl; cases hl), fun t _ ht => getD_in (by simpa using ht) (getD_replicate_false _ _)⟩
  have H := headQ_lex (md := .any) (g := l.toArray.size - n) hsel hs hc hn (l.take n) 0 _ a (fun j hj => by
    have hj' : j < n := by rw [htl] at hj; exact hj
    simp [hj']) (by simpa using htl) inv0 (by rw [htl]; exact hlex) h
  refine wp_region_any hm ?_
  have := wpAny_of_headQ (Q' := Q) (g := l.toArray.size - n) (fun listed a' w' hw' hL => by
    have := wpAny_of_seq (md := .any) (Q' := Q) (l.drop n) n listed a' w' (fun j => by simp [List.getElem?_drop]) (by rw [hdl]; exact hL.1) (hL.2 _ hw')
    rwa [hdl] at this) _ _ _ w.drew hC H
  rw [htl, show n + (l.toArray.size - n) = l.toArray.size by omega] at this
  exact this
end

/-- The world w with other draws made and the blocks os laid behind it. -/
def near (w : World) (n : Nat) (os : Array Obj) : World := { w with heap := w.heap ++ os, drawn := n }
/-- How far a world of the class is from w. -/
structure Near where
  n : Nat
  os : Array Obj
  deriving Inhabited
theorem near_drew (w : World) : near w (w.drawn + 1) #[] = w.drew := by unfold near World.drew; rw [Array.append_empty]
theorem near_old (w : World) (n : Nat) (os : Array Obj) (b o : Nat) (h : b < w.heap.size) : (near w n os).cell? ⟨b, o, none⟩ = w.cell? ⟨b, o, none⟩ := by
  simp only [World.cell?, near, Array.getElem?_append, h, if_true]
theorem near_obj (w : World) (n : Nat) (os : Array Obj) (b : Nat) (h : b < w.heap.size) : (near w n os).heap[b]? = w.heap[b]? := by
  simp only [near, Array.getElem?_append, h, if_true]

/-- A region of operations that are quiet in the class of the worlds near w. -/
theorem wp_region_near {P : Program} {id : Nat} {Q : Exit → Act → World → Prop} {a : Act} {w : World} {l : List Oper} (hm : P.follows .mixedOrders = true) (hB : Region.lexB .any l.toArray = true)
    (h : wpQuiet P l.toArray (fun w' => ∃ p : Near, w' = near w p.n p.os) (fun a' => ∀ w', (∃ p : Near, w' = near w p.n p.os) → Q .normal a' w') l a) : (Code.region id l.toArray true).wp P Q a w :=
  wp_region_quiet (C := fun w' => ∃ p : Near, w' = near w p.n p.os) hm hB ⟨⟨w.drawn + 1, #[]⟩, (near_drew w).symm⟩ (by simpa using h)
/-- .. with a tail in one forced order. -/
theorem wp_region_near_tail {P : Program} {id : Nat} {Q : Exit → Act → World → Prop} {a : Act} {w : World} {l : List Oper} (n : Nat) (hm : P.follows .mixedOrders = true) (hB : Region.lexTailB .any l.toArray n = true)
    (h : wpQuiet P l.toArray (fun w' => ∃ p : Near, w' = near w p.n p.os) (fun a' => ∀ w', (∃ p : Near, w' = near w p.n p.os) → wpList P l.toArray Q (l.drop n) a' w') (l.take n) a) : (Code.region id l.toArray true).wp P Q a w :=
  wp_region_head n hm hB ⟨⟨w.drawn + 1, #[]⟩, (near_drew w).symm⟩ h

/-- The world w' is w with draws made and blocks laid behind it: nothing that was there has turned. -/
structure Ext (w w' : World) : Prop where
  below : Below w.heap.size w w'
theorem Ext.refl (w : World) : Ext w w := ⟨Below.refl _ _⟩
theorem Ext.trans {a b c : World} (h : Ext a b) (k : Ext b c) : Ext a c := ⟨h.below.trans (k.below.mono h.below.size)⟩
theorem Ext.drew {a w : World} (h : Ext a w) : Ext a w.drew := ⟨h.below.drew⟩
theorem Ext.drewN {a w : World} (h : Ext a w) (n : Nat) : Ext a (w.drewN n) := ⟨⟨h.below.os, h.below.tape, h.below.output, h.below.size, h.below.block⟩⟩
theorem Ext.alloc {a w : World} (h : Ext a w) (o : Obj) : Ext a (w.alloc o) := ⟨h.below.alloc h.below.size o⟩
theorem Ext.setCell {a w : World} (h : Ext a w) {p : Addr} (hp : a.heap.size ≤ p.block) (u : Value) : Ext a (w.setCell p u) := ⟨h.below.setCell hp u⟩
theorem Ext.grown {a w w' : World} {row : Option Nat} (h : Ext a w) (hg : w.grownBy w' row) (hr : ∀ k, row = some k → a.heap.size ≤ k) : Ext a w' := ⟨h.below.grown hg h.below.size hr⟩
theorem Ext.of_near {w w' : World} (h : ∃ p : Near, w' = near w p.n p.os) : Ext w w' := by
  obtain ⟨⟨n, os⟩, rfl⟩ := h
  exact ⟨⟨rfl, rfl, rfl, by simp [near], fun k hk => near_obj w n os k hk⟩⟩
theorem Ext.near {w w' : World} (h : Ext w w') : ∃ p : Near, w' = Go.Proofs.YtelhefjikdoihaaDoor.near w p.n p.os := by
  refine ⟨⟨w'.drawn, w'.heap.extract w.heap.size w'.heap.size⟩, ?_⟩
  have h1 : w'.heap = w.heap ++ w'.heap.extract w.heap.size w'.heap.size := by
    apply Array.ext_getElem?
    intro k
    rw [Array.getElem?_append]
    split
    · exact h.below.block k (by assumption)
    · have := h.below.size
      rw [Array.getElem?_extract]
      split
      · congr 1; omega
      · rw [Array.getElem?_eq_none]; omega
  have h3 := h.below.os
  have h4 := h.below.tape
  have h5 := h.below.output
  cases w; cases w'
  simp only [Go.Proofs.YtelhefjikdoihaaDoor.near] at *
  subst h3 h4 h5
  congr 1
theorem Ext.cell {w w' : World} (h : Ext w w') {p : Addr} (hp : p.block < w.heap.size) : w'.cell? p = w.cell? p := h.below.cell hp
/-- Block number w.heap.size of a world behind 'w.alloc (.cells cs t)': its cells. -/
theorem Ext.box {w w' : World} {cs : Array Value} {t : TypeId} {m : Nat × Nat} (h : Ext (w.alloc (.cells cs t m)) w') (i : Nat) : w'.cell? ⟨w.heap.size, i, none⟩ = cs[i]? := by
  rw [h.cell (by simp)]
  exact cell_of_row _ _ _ _ _ _ (heap_alloc_new w _)
theorem Ext.look {w w' : World} (h : Ext w w') : (∀ b o, b < w.heap.size → w'.cell? ⟨b, o, none⟩ = w.cell? ⟨b, o, none⟩) ∧ (∀ b o, b < w.heap.size → w'.frozen? ⟨b, o, none⟩ = w.frozen? ⟨b, o, none⟩) ∧
    (∀ b, b < w.heap.size → b < w'.heap.size) ∧ (∀ b, b < w.heap.size → b ≤ w'.heap.size) ∧ (∀ b, b < w.heap.size → ¬ (b = w'.heap.size)) ∧ (∀ b, b < w.heap.size → ¬ (w'.heap.size = b)) :=
  ⟨fun b o k => h.below.cell (p := ⟨b, o, none⟩) k, fun b o k => h.below.frozen (p := ⟨b, o, none⟩) k, fun b k => by have := h.below.size; omega, fun b k => by have := h.below.size; omega,
    fun b k => by have := h.below.size; omega, fun b k => by have := h.below.size; omega⟩
theorem Ext.one {w w' : World} (h : Ext w w') {b : Nat} (hb : b < w.heap.size) : (∀ o, w'.cell? ⟨b, o, none⟩ = w.cell? ⟨b, o, none⟩) ∧ (∀ o, w'.frozen? ⟨b, o, none⟩ = w.frozen? ⟨b, o, none⟩) ∧
    b < w'.heap.size ∧ b ≤ w'.heap.size ∧ ¬ (b = w'.heap.size) ∧ ¬ (w'.heap.size = b) :=
  ⟨fun o => h.look.1 b o hb, fun o => h.look.2.1 b o hb, h.look.2.2.1 b hb, h.look.2.2.2.1 b hb, h.look.2.2.2.2.1 b hb, h.look.2.2.2.2.2 b hb⟩
theorem _root_.Go.World.size_setCell_ (w : World) (p : Addr) (v : Value) : (w.setCell p v).heap.size = w.heap.size := by simp [World.setCell]
theorem _root_.Go.World.size_alloc_ (w : World) (o : Obj) : (w.alloc o).heap.size = w.heap.size + 1 := by simp
theorem Ext.size {w w' : World} (h : Ext w w') : w.heap.size ≤ w'.heap.size := h.below.size
theorem Ext.size1 {w w' : World} {o : Obj} (h : Ext (w.alloc o) w') : w.heap.size < w'.heap.size := by have := h.below.size; simp at this; omega
theorem Ext.un {w w' : World} {o : Obj} (h : Ext (w.alloc o) w') : Ext w w' := ((Ext.refl w).alloc o).trans h
/-- A callee's contract, met in a world of the class: one step on. -/
theorem near_call {P : Program} {f : FuncId} {args : Array Value} {w : World} {n : Nat} {os : Array Obj} {v : Value}
    (h : Calls P f args (near w n os) fun e w' => e = .returned v ∧ Ext (near w n os) w') : Calls P f args (near w n os) fun e w'' => e = .returned v ∧ ∃ p : Near, w'' = near w p.n p.os :=
  h.mono fun _ _ ⟨he, hx⟩ => ⟨he, ((Ext.of_near ⟨⟨n, os⟩, rfl⟩).trans hx).near⟩
theorem near_same {P : Program} {f : FuncId} {args : Array Value} {w : World} {n : Nat} {os : Array Obj} {v : Value}
    (h : Calls P f args (near w n os) fun e w' => e = .returned v ∧ near w n os = w') : Calls P f args (near w n os) fun e w'' => e = .returned v ∧ ∃ p : Near, w'' = near w p.n p.os :=
  h.mono fun _ _ ⟨he, hx⟩ => ⟨he, ⟨⟨n, os⟩, hx.symm⟩⟩
end Go.Proofs.YtelhefjikdoihaaDoor

/- Words for memory: a slice that reads as a list of rows of cells, nil let in; kept while memory below a block number stands. -/
namespace Go.Proofs.YtelhefjikdoihaaDoor
open Go.RowKit

theorem flatten_at {k : Nat} : ∀ (xs : List (List Value)), (∀ x, x ∈ xs → x.length = k) → ∀ (i : Nat) (x : List Value), xs[i]? = some x → ∀ j u, x[j]? = some u → xs.flatten[i * k + j]? = some u
  | [], _, i, x, hx, _, _, _ => by simp at hx
  | y :: ys, h, 0, x, hx, j, u, hu => by
    simp only [List.getElem?_cons_zero, Option.some.injEq] at hx
    subst hx
    have hj : j < y.length := (List.getElem?_eq_some_iff.1 hu).1
    rw [List.flatten_cons, Nat.zero_mul, Nat.zero_add, List.getElem?_append_left hj]
    exact hu
  | y :: ys, h, i + 1, x, hx, j, u, hu => by
    have hy := h y (List.mem_cons_self ..)
    rw [List.flatten_cons, List.getElem?_append_right (by rw [hy, Nat.succ_mul]; omega), hy, show (i + 1) * k + j - k = i * k + j by rw [Nat.succ_mul]; omega]
    exact flatten_at ys (fun z hz => h z (List.mem_cons_of_mem _ hz)) i x (by simpa using hx) j u hu
theorem flatten_length {k : Nat} : ∀ (xs : List (List Value)), (∀ x, x ∈ xs → x.length = k) → xs.flatten.length = xs.length * k
  | [], _ => by simp
  | y :: ys, h => by
    rw [List.flatten_cons, List.length_append, flatten_length ys (fun z hz => h z (List.mem_cons_of_mem _ hz)), h y (List.mem_cons_self ..), List.length_cons, Nat.succ_mul]; omega

/-- Rows of k ints each. -/
def Rws (k : Nat) (xs : List (List Value)) : Prop := ∀ x, x ∈ xs → ∃ l : List Int, l.length = k ∧ x = l.map (Value.int .i64)
theorem Rws.len {k : Nat} {xs : List (List Value)} (h : Rws k xs) : ∀ x, x ∈ xs → x.length = k := fun x hx => by
  obtain ⟨l, h1, rfl⟩ := h x hx
  simpa using h1
theorem Rws.one {k : Nat} {xs : List (List Value)} (h : Rws k xs) : ∀ u, u ∈ xs.flatten → u.oneCell' = true := fun u hu => by
  obtain ⟨x, hx, hu⟩ := List.mem_flatten.1 hu
  obtain ⟨l, _, rfl⟩ := h x hx
  obtain ⟨n, _, rfl⟩ := List.mem_map.1 hu
  rfl
theorem Rws.sub {k : Nat} {xs ys : List (List Value)} (h : Rws k xs) (hs : ∀ x, x ∈ ys → x ∈ xs) : Rws k ys := fun x hx => h x (hs x hx)
theorem Rws.set {k : Nat} {xs : List (List Value)} (h : Rws k xs) {i : Nat} {x : List Value} (hx : ∃ l : List Int, l.length = k ∧ x = l.map (Value.int .i64)) : Rws k (xs.set i x) := fun y hy => by
  rcases List.mem_or_eq_of_mem_set hy with h1 | rfl
  · exact h y h1
  · exact hx
theorem Rws.row3 {xs : List (List Value)} (h : Rws 3 xs) {x : List Value} (hx : x ∈ xs) : ∃ a b c : Int, x = [.int .i64 a, .int .i64 b, .int .i64 c] := by
  obtain ⟨l, h1, rfl⟩ := h x hx
  match l, h1 with
  | [a, b, c], _ => exact ⟨a, b, c, rfl⟩

/-- The slice value with address A, length xs.length and capacity c holds rows of k cells each; its block lies below B. -/
structure Sl (w : World) (B k : Nat) (A : Option Addr) (c : Nat) (xs : List (List Value)) : Prop where
  le : xs.length ≤ c
  max : c ≤ maxLen
  rows : Rws k xs
  mem : 0 < xs.length → ∃ b off, A = some ⟨b, off, none⟩ ∧ b < B ∧ ∀ (j : Nat) (u : Value), xs.flatten[j]? = some u → w.cell? ⟨b, off + j, none⟩ = some u

section
variable {w w' : World} {B B' k c : Nat} {A : Option Addr} {xs : List (List Value)}
theorem Sl.keep (h : Sl w B k A c xs) (hk : ∀ p : Addr, p.block < B → w'.cell? p = w.cell? p) : Sl w' B k A c xs :=
  ⟨h.le, h.max, h.rows, fun hn => by
    obtain ⟨b, off, e, hb, hc⟩ := h.mem hn
    exact ⟨b, off, e, hb, fun j u hu => (hk _ hb).trans (hc j u hu)⟩⟩
theorem Sl.more (h : Sl w B k A c xs) (hB : B ≤ B') : Sl w B' k A c xs :=
  ⟨h.le, h.max, h.rows, fun hn => by
    obtain ⟨b, off, e, hb, hc⟩ := h.mem hn
    exact ⟨b, off, e, by omega, hc⟩⟩
theorem Sl.below (h : Sl w B k A c xs) (hb : Below B w w') : Sl w' B k A c xs := h.keep fun _ hp => hb.cell hp
theorem Sl.drew (h : Sl w B k A c xs) : Sl w.drew B k A c xs := ⟨h.le, h.max, h.rows, h.mem⟩
theorem Sl.drewN (h : Sl w B k A c xs) (n : Nat) : Sl (w.drewN n) B k A c xs := ⟨h.le, h.max, h.rows, h.mem⟩
theorem Sl.alloc (h : Sl w B k A c xs) (hB : B ≤ w.heap.size) (o : Obj) : Sl (w.alloc o) B k A c xs := h.keep fun p hp => World.cell?_alloc_lt w o p (by omega)
theorem Sl.setCell (h : Sl w B k A c xs) {p : Addr} (hB : B ≤ p.block) (u : Value) : Sl (w.setCell p u) B k A c xs :=
  h.keep fun q hq => World.cell?_setCell_other w p q u (fun e => by subst e; omega)
theorem Sl.ext (h : Sl w B k A c xs) (hx : Ext w w') (hB : B ≤ w.heap.size) : Sl w' B k A c xs := h.below (hx.below.mono hB)
theorem Sl.nil (w : World) (B k : Nat) : Sl w B k none 0 [] := ⟨by simp, by simp, fun _ h => by simp at h, fun h => absurd h (by simp)⟩
theorem Sl.len (h : Sl w B k A c xs) : xs.length ≤ 9223372036854775807 := by have h1 := h.le; have h2 := h.max; unfold maxLen at h2; omega
/-- Row i of a slice of rows of three cells. -/
theorem Sl.at3 (h : Sl w B 3 A c xs) {i : Nat} {u0 u1 u2 : Value} (hx : xs[i]? = some [u0, u1, u2]) :
    ∃ b off, A = some ⟨b, off, none⟩ ∧ b < B ∧ w.cell? ⟨b, off + i * 3, none⟩ = some u0 ∧ w.cell? ⟨b, off + i * 3 + 1, none⟩ = some u1 ∧ w.cell? ⟨b, off + i * 3 + 2, none⟩ = some u2 := by
  obtain ⟨b, off, e, hb, hc⟩ := h.mem (by have := (List.getElem?_eq_some_iff.1 hx).1; omega)
  have hf := flatten_at xs h.rows.len i _ hx
  exact ⟨b, off, e, hb, hc _ _ (hf 0 u0 rfl), by rw [Nat.add_assoc]; exact hc _ _ (hf 1 u1 rfl), by rw [Nat.add_assoc]; exact hc _ _ (hf 2 u2 rfl)⟩
end
end Go.Proofs.YtelhefjikdoihaaDoor

/- Memory of the call's own: rows of k cells each; copy, clear, stores; what an owned row reads as. For every program. -/
namespace Go.Proofs.YtelhefjikdoihaaDoor
open Go Go.RowKit

section
variable {w w' : World} {base B k n c g : Nat} {e : TypeId} {A : Option Addr} {v : Value} {xs : List (List Value)}
/-- An owned row, read. -/
theorem Sl.of_own (h : w.ownsRow base e k (.slice A n c) n xs.flatten) (hr : Rws k xs) (hn : xs.length = n) : Sl w w.heap.size k A c xs := by
  subst hn
  rcases h.2 with ⟨h1, h2⟩ | ⟨g, cap, cur, hv, hg, hgg, hle, hmax, hsz, htk⟩
  · have hx : xs = [] := List.eq_nil_of_length_eq_zero h2
    subst hx
    injection h1 with _ _ hc
    subst hc
    exact ⟨by simp, by simp, hr, fun h => absurd h (by simp)⟩
  · injection hv with hA _ hc
    subst hA hc
    refine ⟨hle, hmax, hr, fun _ => ⟨g, 0, rfl, (Array.getElem?_eq_some_iff.1 hgg).1, fun j u h3 => ?_⟩⟩
    rw [Nat.zero_add, cell_of_row w g _ cur e (0, 0) hgg]
    rw [← htk, List.getElem?_take] at h3
    split at h3
    · simpa using h3
    · cases h3
/-- The owned row's form. -/
theorem own_form (h : w.ownsRow base e k v n (xs.flatten)) : ∃ A c, v = .slice A n c ∧ n ≤ c ∧ c ≤ maxLen := by
  rcases h.2 with ⟨rfl, rfl⟩ | ⟨g, cap, cur, rfl, _, _, hle, hmax, _⟩
  · exact ⟨none, 0, rfl, Nat.le_refl _, by simp⟩
  · exact ⟨_, cap, rfl, hle, hmax⟩
theorem add_lit (b off j : Nat) : (⟨b, off, none⟩ : Addr).add j = ⟨b, off + j, none⟩ := by unfold Addr.add; split <;> simp_all
/-- The cells of a slice, as the append laws ask for them. -/
theorem Sl.news {a : Addr} (h : Sl w B k (some a) c xs) : ∀ j u, xs.flatten[j]? = some u → w.cell? (a.add j) = some u := fun j u hu => by
  have hpos : 0 < xs.length := by
    rcases Nat.eq_zero_or_pos xs.length with h0 | h0
    · rw [List.eq_nil_of_length_eq_zero h0] at hu; simp at hu
    · exact h0
  obtain ⟨b, off, e, _, hc⟩ := h.mem hpos
  injection e with e
  subst e
  rw [add_lit]
  exact hc j u hu
end

section
variable {P : Program}
/-- 'copy' of rows of k cells onto a row of one block. -/
theorem run_copy_rows (w : World) (dT sT ty elem : TypeId) (k g o dLen dCap : Nat) (a : Addr) (sLen sCap : Nat) (cur : Array Value) (t : TypeId) (cs : List Value)
    (hu : P.underlying dT = some (.slice elem)) (hs : (P.info? elem).map (·.size) = some k)
    (hg : w.heap[g]? = some (.cells cur t (0, 0))) (hn : cs.length = Nat.min sLen dLen * k)
    (hsrc : ∀ j v, cs[j]? = some v → w.cell? (a.add j) = some v) (hfit : o + cs.length ≤ cur.size) (h1 : ∀ v ∈ cs, v.oneCell' = true) :
    (Builtin.copy_ #[dT, sT] ty #[.slice (some ⟨g, o, none⟩) dLen dCap, .slice (some a) sLen sCap]).run P w =
      .ok (goInt (Nat.min sLen dLen)) (w.setRow g (cur.toList.take o ++ cs ++ cur.toList.drop (o + cs.length)).toArray) := by
  have hl := run_loadCells_list (P := P) w a cs hsrc
  have hst := run_storeCells_at P g o t cs 0 cur w hg (by simpa using hfit) h1
  cases hq : P.info? elem with
  | none => simp [hq] at hs
  | some i =>
    have hi : i.size = k := by simpa [hq] using hs
    simp [Builtin.copy_, run_underlying hu, Builtin.lenOf, Builtin.firstCells, sizeOf, typeInfo, hq, hi, ← hn, hl, hst]

theorem wpList_copy_rows {w : World} {ops : Array Oper} {rest : List Oper} {o : Oper} {a : Act} {Q : Exit → Act → World → Prop} (hgd : o.guard = none) (d s : Operand) (dT sT : TypeId)
    (ho : o.op = .call { callee := .builtin .copy, args := #[d, s], argTypes := #[dT, sT] }) (elem : TypeId) (k : Nat) (hu : P.underlying dT = some (.slice elem)) (hsz : (P.info? elem).map (·.size) = some k)
    (g off dLen dCap : Nat) (ad : Addr) (sLen sCap : Nat) (hd : a.eval d = .slice (some ⟨g, off, none⟩) dLen dCap) (hs : a.eval s = .slice (some ad) sLen sCap)
    (cur : List Value) (t : TypeId) (hg : w.heap[g]? = some (.cells cur.toArray t (0, 0))) (cs : List Value) (hn : cs.length = Nat.min sLen dLen * k)
    (hsrc : ∀ j v, cs[j]? = some v → w.cell? (ad.add j) = some v) (hfit : off + cs.length ≤ cur.length) (h1 : ∀ v ∈ cs, v.oneCell' = true)
    (h : wpList P ops Q rest (a.put o.dst (goInt (Nat.min sLen dLen))) (w.setRow g (splice cur off cs).toArray)) : wpList P ops Q (o :: rest) a w := by
  refine wpList_plain hgd fun K hK => ?_
  have hrun := run_copy_rows (P := P) w dT sT o.type elem k g off dLen dCap ad sLen sCap cur.toArray t cs hu hsz hg hn hsrc (by simpa using hfit) h1
  unfold Oper.wp
  simp [execOp, ho, resolve, invoke, builtin, hd, hs, hrun, Result.andThen]
  refine hK _ _ ?_
  simpa [splice] using h
end

/-- Called with a row of xs as a struct, in whatever world near w (block 'row' apart), function g answers p of it. -/
structure Pred (P : Program) (g : FuncId) (cap : Array Value) (p : List Value → Bool) (xs : List (List Value)) (w : World) (row : Option Nat) : Prop where
  enters : ∀ args w, (callFunc g args).run P w = .ok (.enter g args) w
  call : ∀ x, x ∈ xs → ∀ w', w.grownBy w' row → Calls P g (#[.agg x.toArray] ++ cap) w' fun e w'' => e = .returned (.bool (p x)) ∧ Ext w' w''
theorem Ext.by_ {w w' : World} (h : Ext w w') (row : Option Nat) : w.grownBy w' row := ⟨h.below.os, h.below.tape, h.below.output, h.below.size, fun k hk _ => h.below.block k hk⟩
def idx (p : List Value → Bool) (xs : List (List Value)) : Int := match xs.findIdx? p with | some i => i | none => -1
theorem idx_no {p : List Value → Bool} {xs : List (List Value)} (h : ∀ (i : Nat) (x : List Value), xs[i]? = some x → p x = false) : idx p xs = -1 := by
  unfold idx
  rw [List.findIdx?_eq_none_iff.2 (fun x hx => by obtain ⟨i, hi⟩ := List.getElem?_of_mem hx; simp [h i x hi])]
theorem idx_at {p : List Value → Bool} {xs : List (List Value)} {j : Nat} {x : List Value} (h : ∀ (i : Nat) (x : List Value), i < j → xs[i]? = some x → p x = false) (hx : xs[j]? = some x) (hp : p x = true) : idx p xs = j := by
  unfold idx
  obtain ⟨hj, rfl⟩ := List.getElem?_eq_some_iff.1 hx
  rw [List.findIdx?_eq_some_iff_getElem.2 ⟨hj, hp, fun i hi => by simp [h i xs[i] hi (List.getElem?_eq_getElem _)]⟩]


/-- It hands back an owned row that holds xs; what was there is as it was. -/
def RetOwn (e : TypeId) (k : Nat) (xs : List (List Value)) (w : World) (en : Ending) (w' : World) : Prop :=
  ∃ v, en = .returned v ∧ w'.ownsRow w.heap.size e k v xs.length xs.flatten ∧ Ext w w'

theorem grown_refl (w : World) (row : Option Nat) : w.grownBy w row := ⟨rfl, rfl, rfl, Nat.le_refl _, fun _ _ _ => rfl⟩
theorem grown_trans {a b c : World} {row : Option Nat} (h : a.grownBy b row) (k : b.grownBy c row) : a.grownBy c row :=
  ⟨k.os.trans h.os, k.tape.trans h.tape, k.output.trans h.output, Nat.le_trans h.size k.size, fun i hi hn => (k.block i (Nat.lt_of_lt_of_le hi h.size) hn).trans (h.block i hi hn)⟩
theorem grown_ext {a b c : World} {row : Option Nat} (h : a.grownBy b row) (k : Ext b c) : a.grownBy c row := grown_trans h (k.by_ row)
theorem grown_none {a b : World} (h : a.grownBy b none) (row : Option Nat) : a.grownBy b row := ⟨h.os, h.tape, h.output, h.size, fun i hi _ => h.block i hi (by simp)⟩
theorem grown_set {a w : World} {g : Nat} (h : a.grownBy w (some g)) (o : Nat) (u : Value) : a.grownBy (w.setCell ⟨g, o, none⟩ u) (some g) :=
  ⟨h.os, h.tape, h.output, by simpa [World.setCell] using h.size, fun i hi hne => (Below.heap_setCell w ⟨g, o, none⟩ u i (by rintro rfl; exact hne rfl)).trans (h.block i hi hne)⟩
theorem grown_row {a w : World} {g : Nat} (h : a.grownBy w (some g)) (cs : Array Value) : a.grownBy (w.setRow g cs) (some g) :=
  ⟨h.os, h.tape, h.output, by simpa [World.setRow] using h.size, fun i hi hne => (setRow_other w g i cs (by rintro rfl; exact hne rfl)).trans (h.block i hi hne)⟩
/-- An owned row kept while all but other blocks stand. -/
theorem own_ext {w w' : World} {base n k : Nat} {e : TypeId} {v : Value} {zs : List Value} (h : w.ownsRow base e k v n zs) (hx : Ext w w') : w'.ownsRow base e k v n zs :=
  h.kept (hx.by_ none) (by cases hv : v.ownBlock <;> simp)
theorem own_take {w : World} {base n m k c : Nat} {e : TypeId} {A : Option Addr} {zs : List Value} (h : w.ownsRow base e k (.slice A n c) n zs) (hm : m ≤ n) (hA : A ≠ none) : w.ownsRow base e k (.slice A m c) m (zs.take (m * k)) := by
  have hmk : m * k ≤ n * k := Nat.mul_le_mul_right _ hm
  refine ⟨by rw [List.length_take, h.1]; omega, ?_⟩
  rcases h.2 with ⟨hv, _⟩ | ⟨g, cap, cur, hv, hg, hgg, hle, hmax, hsz, htk⟩
  · injection hv with hA'; exact absurd hA' hA
  · injection hv with hA' _ hc
    subst hA' hc
    exact .inr ⟨g, c, cur, rfl, hg, hgg, by omega, hmax, hsz, by rw [← htk, List.take_take]; congr 1; omega⟩
theorem set_flatten {k : Nat} : ∀ (ys : List (List Value)) (i : Nat) (x : List Value), (∀ y, y ∈ ys → y.length = k) → x.length = k → i < ys.length → (ys.set i x).flatten = splice ys.flatten (i * k) x
  | [], _, _, _, _, hi => absurd hi (by simp)
  | y :: ys, 0, x, hy, hx, _ => by
    have h1 := hy y (List.mem_cons_self ..)
    simp [splice, hx, ← h1]
  | y :: ys, i + 1, x, hy, hx, hi => by
    have h1 := hy y (List.mem_cons_self ..)
    have ih := set_flatten ys i x (fun z hz => hy z (List.mem_cons_of_mem _ hz)) hx (by simpa using hi)
    rw [List.set_cons_succ, List.flatten_cons, ih, List.flatten_cons]
    unfold splice
    have e1 : (i + 1) * k = y.length + i * k := by rw [h1, Nat.succ_mul]; omega
    rw [e1, List.take_length_add_append, Nat.add_assoc, List.drop_length_add_append]
    simp
theorem splice_nil (l : List Value) (o : Nat) : splice l o [] = l := by simp [splice]
theorem splice_step (l : List Value) (o : Nat) (v : Value) (rest : List Value) (h : o + (rest.length + 1) ≤ l.length) : splice (l.set o v) (o + 1) rest = splice l o (v :: rest) := by
  have := list_seg_step l o v rest h
  simpa [splice, List.append_assoc] using this
theorem set3_flatten (ys : List (List Value)) (i : Nat) (u0 u1 u2 : Value) (hy : ∀ y, y ∈ ys → y.length = 3) (hi : i < ys.length) :
    ((ys.flatten.set (i * 3) u0).set (i * 3 + 1) u1).set (i * 3 + 2) u2 = (ys.set i [u0, u1, u2]).flatten := by
  have hl := flatten_length ys hy
  rw [set_flatten ys i [u0, u1, u2] hy rfl hi, ← splice_step _ _ _ _ (by simp only [hl, List.length_cons, List.length_nil]; omega), ← splice_step _ _ _ _ (by simp only [List.length_set, hl, List.length_cons, List.length_nil]; omega),
    ← splice_step _ _ _ _ (by simp only [List.length_set, hl, List.length_nil]; omega), splice_nil]

section
variable {P : Program}
theorem wpList_clear_rows {n : Nat} {w : World} {ops : Array Oper} {rest : List Oper} {o : Oper} {a : Act} {Q : Exit → Act → World → Prop} (hgd : o.guard = none) (s : Operand) (t : TypeId)
    (ho : o.op = .call { callee := .builtin .clear, args := #[s], argTypes := #[t] }) (e : TypeId) (k : Nat) (z : Value) (ht : P.underlying t = some (.slice e)) (hv : ∀ w, (zeroValue e).run P w = .ok z w)
    (hz : z.cells.size = k) (h1 : ∀ u, u ∈ (Builtin.zeroCells z.cells (n + 1)).toList → u.oneCell' = true) (g off c : Nat) (hs : a.eval s = .slice (some ⟨g, off, none⟩) (n + 1) c)
    (cur : List Value) (te : TypeId) (hg : w.heap[g]? = some (.cells cur.toArray te (0, 0))) (hfit : off + (n + 1) * k ≤ cur.length)
    (h : wpList P ops Q rest (a.put o.dst (.tuple #[])) (w.setRow g (splice cur off (Builtin.zeroCells z.cells (n + 1)).toList).toArray)) : wpList P ops Q (o :: rest) a w := by
  refine wpList_plain hgd fun K hK => ?_
  have hl : (Builtin.zeroCells z.cells (n + 1)).toList.length = (n + 1) * k := by rw [Array.length_toList, size_zeroCells, hz]
  have hst := run_storeCells_at P g off te (Builtin.zeroCells z.cells (n + 1)).toList 0 cur.toArray w hg (by rw [hl]; simpa using hfit) h1
  simp only [Nat.add_zero] at hst
  have hrun : (Builtin.clear_ #[t] o.type #[.slice (some ⟨g, off, none⟩) (n + 1) c]).run P w = .ok (.tuple #[]) (w.setRow g (splice cur off (Builtin.zeroCells z.cells (n + 1)).toList).toArray) := by
    simp [Builtin.clear_, run_underlying ht, hv, hst, splice]
  unfold Oper.wp
  simp [execOp, ho, resolve, invoke, builtin, hs, hrun, Result.andThen]
  exact hK _ _ h
end
/-- The row's block and what it holds. -/
theorem own_cur {w : World} {base n k c g : Nat} {e : TypeId} {zs : List Value} (h : w.ownsRow base e k (.slice (some ⟨g, 0, none⟩) n c) n zs) :
    ∃ cur : List Value, base ≤ g ∧ w.heap[g]? = some (.cells cur.toArray e (0, 0)) ∧ n ≤ c ∧ c ≤ maxLen ∧ cur.length = c * k ∧ cur.take (n * k) = zs := by
  rcases h.2 with ⟨hv, _⟩ | ⟨g', cap, cur, hv, hg, hgg, hle, hmax, hsz, htk⟩
  · cases hv
  · injection hv with hA _ hc
    injection hA with hA
    injection hA with hA
    subst hA hc
    exact ⟨cur.toList, hg, hgg, hle, hmax, by simpa using hsz, htk⟩
theorem own_of_cur {w : World} {base n k c g : Nat} {e : TypeId} {zs cur : List Value} (hb : base ≤ g) (hg : w.heap[g]? = some (.cells cur.toArray e (0, 0))) (hn : n ≤ c) (hc : c ≤ maxLen) (hl : cur.length = c * k) (ht : cur.take (n * k) = zs) :
    w.ownsRow base e k (.slice (some ⟨g, 0, none⟩) n c) n zs := by
  have hm : n * k ≤ c * k := Nat.mul_le_mul_right _ hn
  exact ⟨by rw [← ht, List.length_take, hl]; omega, .inr ⟨g, c, cur.toArray, rfl, hb, hg, hn, hc, by simpa using hl, by simpa using ht⟩⟩

/-- A cell of an owned row may be written. -/
theorem own_slot {w : World} {base n k c g : Nat} {e : TypeId} {zs : List Value} (h : w.ownsRow base e k (.slice (some ⟨g, 0, none⟩) n c) n zs) (j : Nat) (hj : j < n * k) : ∃ v, w.cell? ⟨g, j, none⟩ = some v := by
  have hl : j < zs.length := by rw [h.1]; exact hj
  exact ⟨zs[j], by rw [h.cellAt j hj]; exact List.getElem?_eq_getElem hl⟩
theorem flatten_take {k : Nat} : ∀ (ys : List (List Value)) (i : Nat), (∀ y, y ∈ ys → y.length = k) → i ≤ ys.length → (ys.take i).flatten = ys.flatten.take (i * k)
  | _, 0, _, _ => by simp
  | [], i + 1, _, hi => absurd hi (by simp)
  | y :: ys, i + 1, h, hi => by
    have h1 := h y (List.mem_cons_self ..)
    rw [List.take_succ_cons, List.flatten_cons, flatten_take ys i (fun z hz => h z (List.mem_cons_of_mem _ hz)) (by simpa using hi), List.flatten_cons, show (i + 1) * k = y.length + i * k by rw [h1, Nat.succ_mul]; omega, List.take_length_add_append]
theorem zeros_one (z : Array Value) (n : Nat) (hz : 0 < z.size) (h : ∀ i, i < z.size → z[i]!.oneCell' = true) : ∀ u, u ∈ (Builtin.zeroCells z n).toList → u.oneCell' = true := fun u hu => by
  simp only [Builtin.zeroCells, Array.toList_map, List.mem_map] at hu
  obtain ⟨i, _, rfl⟩ := hu
  exact h _ (Nat.mod_lt _ hz)
theorem splice_take (l : List Value) (o : Nat) (cs : List Value) (h : o ≤ l.length) : (splice l o cs).take o = l.take o := by
  unfold splice
  rw [List.take_append_of_le_length (by simp; omega), List.take_take]
  congr 1; omega
theorem news_new (w : World) (cs : List Value) (e : TypeId) : ∀ (j : Nat) (u : Value), cs[j]? = some u → (w.alloc (.cells cs.toArray e)).cell? ((⟨w.heap.size, 0, none⟩ : Addr).add j) = some u := fun j u hu => by
  rw [add_lit, Nat.zero_add, cell_of_row _ _ _ _ _ _ (heap_alloc_new w _)]
  simpa using hu
theorem Ext.own {a w w' : World} {base n k : Nat} {e : TypeId} {v : Value} {zs : List Value} (h : Ext a w) (ho : w.ownsRow base e k v n zs) (hg : w.grownBy w' v.ownBlock) (hb : a.heap.size ≤ base) : Ext a w' :=
  h.grown hg fun k hk => Nat.le_trans hb (ho.lt k hk).1
end Go.Proofs.YtelhefjikdoihaaDoor

/- Reading of arguments: a type all of whose cells are ints; a slice of such; a struct by value; the step from a walk to a law's row. For every program that the seat's is. -/
namespace Go.Proofs.YtelhefjikdoihaaDoor
open Go Go.RowKit Go.ChangeShapes Go.WideShapes Go.ChangeAt

section
variable {P : Program}
/-- Whatever reads at type t is a row of ints. -/
def IntsT (P : Program) (t : TypeId) : Prop := ∀ (H : Type) (enc : TypeId × Value → H) (w : World) (base : Nat) (spare : Nat → Bool) (held : Bool) (fuel : Nat) (cs : List Value) (x : DataW H × List MemPlace),
  DataW.trod enc P w base spare held fuel t cs = some x → cs.length = P.cellsOf t ∧ ∀ (c : Value), c ∈ cs → ∃ n : Int, c = .int .i64 n ∧ (Lit.int .i64 n).wf = true
theorem ints_int {t : TypeId} (ht : P.underlying t = some (.int .i64)) (hc : P.cellsOf t = 1) : IntsT P t := fun H enc w base spare held fuel cs x h => by
  obtain ⟨n, rfl, _, hw⟩ := DataW.trod_int ht h
  exact ⟨by rw [hc]; rfl, fun c hc => by simp only [List.mem_singleton] at hc; exact ⟨n, hc, hw⟩⟩
theorem ints_struct {t : TypeId} {fs : Array Field} (ht : P.underlying t = some (.struct fs)) (hf : ∀ (i : Nat) (f : Field), fs[i]? = some f → IntsT P f.type)
    (hcov : ∀ j, j < P.cellsOf t → ∃ (i : Nat) (f : Field), fs[i]? = some f ∧ f.offset ≤ j ∧ j < f.offset + P.cellsOf f.type) : IntsT P t := fun H enc w base spare held fuel cs x h => by
  obtain ⟨xs, n, _, _, hlen, hxl, hg⟩ := DataW.trod_struct ht h
  refine ⟨hlen, fun c hc => ?_⟩
  obtain ⟨j, hj⟩ := List.getElem?_of_mem hc
  have hjl := (List.getElem?_eq_some_iff.1 hj).1
  obtain ⟨i, f, hif, h1, h2⟩ := hcov j (by omega)
  have hx : ∃ y, xs[i]? = some y := ⟨xs[i]'(by rw [hxl]; exact (Array.getElem?_eq_some_iff.1 hif).1), List.getElem?_eq_getElem _⟩
  obtain ⟨y, hy⟩ := hx
  have h3 := hg i f hif
  rw [hy] at h3
  obtain ⟨_, h5⟩ := hf i f hif H enc w base spare held n _ y h3
  refine h5 c ?_
  have : ((cs.drop f.offset).take (P.cellsOf f.type))[j - f.offset]? = some c := by
    rw [List.getElem?_take, if_pos (by omega), List.getElem?_drop, show f.offset + (j - f.offset) = j by omega, hj]
  exact List.mem_of_getElem? this
theorem ints_list {cs : List Value} (h : ∀ (c : Value), c ∈ cs → ∃ n : Int, c = .int .i64 n ∧ (Lit.int .i64 n).wf = true) : ∃ l : List Int, cs = l.map (Value.int .i64) ∧ ∀ n, n ∈ l → (Lit.int .i64 n).wf = true := by
  induction cs with
  | nil => exact ⟨[], rfl, fun n hn => by simp at hn⟩
  | cons c cs ih =>
    obtain ⟨n, rfl, hw⟩ := h c (List.mem_cons_self ..)
    obtain ⟨l, rfl, hl⟩ := ih (fun d hd => h d (List.mem_cons_of_mem _ hd))
    exact ⟨n :: l, rfl, fun m hm => by rcases List.mem_cons.1 hm with rfl | hm; exact hw; exact hl m hm⟩

variable {H : Type} {enc : TypeId × Value → H} {W : World}
/-- A slice of such rows that came in. -/
theorem read_rows {t e : TypeId} {k : Nat} (ht : P.underlying t = some (.slice e)) (hc : P.cellsOf e = k) (hk : 0 < k) (hi : IntsT P e) {base : Nat} {r : Reach} {v : Value} {d : DataW H} {ps : List MemPlace}
    (hv : Value.okWide P W r base t v) (h : DataW.Trod enc P W 0 (fun _ => true) true t v d ps) :
    ∃ (A : Option Addr) (c : Nat) (ls : List (List Int)), v = .slice A ls.length c ∧ Sl W W.heap.size k A c (ls.map fun l => l.map (Value.int .i64)) ∧ ∀ l, l ∈ ls → l.length = k ∧ ∀ n, n ∈ l → (Lit.int .i64 n).wf = true := by
  obtain ⟨a0, len0, cap0, rfl⟩ := okWide_slice ht hv
  obtain ⟨fuel, hf⟩ := h
  have hf' : DataW.trod enc P W 0 (fun _ => true) true fuel t [.slice a0 len0 cap0] = some (d, ps) := by simpa [Value.cells] using hf
  rcases Go.Deep.open_slice ht hf' with ⟨hcs, _⟩ | ⟨a, len, cap, m, n, D, Pl, hcs, _, hl, hm, hmm, _, hel⟩
  · simp only [List.cons.injEq, and_true, Value.slice.injEq] at hcs
    obtain ⟨rfl, rfl, rfl⟩ := hcs
    exact ⟨none, 0, [], rfl, Sl.nil _ _ _, fun l hl => by simp at hl⟩
  · simp only [List.cons.injEq, and_true, Value.slice.injEq] at hcs
    obtain ⟨rfl, rfl, rfl⟩ := hcs
    have hmc : len0 ≤ m := by rw [hmm]; simp; exact hl
    have hall : ∀ i, ∃ l : List Int, i < len0 → l.length = k ∧ (∀ n, n ∈ l → (Lit.int .i64 n).wf = true) ∧ ∀ (j : Nat) (u : Value), (l.map (Value.int .i64))[j]? = some u → W.cell? (a.add (i * k + j)) = some u := by
      intro i
      by_cases hi2 : i < len0
      · obtain ⟨cs', hcells, htr⟩ := hel i (by omega)
        rw [hc] at hcells
        obtain ⟨h1, h2⟩ := hi H enc W 0 (fun _ => true) true n cs' _ htr
        obtain ⟨l, rfl, hw⟩ := ints_list h2
        obtain ⟨_, h3, h4⟩ := World.cells?_some hcells
        refine ⟨l, fun _ => ⟨by simpa using h3, hw, fun j u hu => ?_⟩⟩
        have hj : j < k := by have := (List.getElem?_eq_some_iff.1 hu).1; simp at this h3; omega
        rw [← Go.Deep.add_add, h4 j hj]
        exact hu
      · exact ⟨[], fun h => absurd h hi2⟩
    obtain ⟨f, hfs⟩ := Classical.axiomOfChoice hall
    refine ⟨some a, cap0, (List.range len0).map f, by simp, ⟨by simpa using hl, hm, ?_, fun hpos => ?_⟩, ?_⟩
    · intro x hx
      simp only [List.map_map, List.mem_map, List.mem_range, Function.comp] at hx
      obtain ⟨i, hi2, rfl⟩ := hx
      exact ⟨f i, (hfs i hi2).1, rfl⟩
    · have hpos' : 0 < len0 := by simpa using hpos
      have h0 : ∃ u, W.cell? a = some u := by
        obtain ⟨h1, _, h3⟩ := hfs 0 hpos'
        have hl0 : 0 < ((f 0).map (Value.int .i64)).length := by simp; omega
        have := h3 0 _ (List.getElem?_eq_getElem hl0)
        simp only [Nat.zero_mul, Nat.add_zero] at this
        have ha : a.add 0 = a := by unfold Addr.add; simp
        rw [ha] at this
        exact ⟨_, this⟩
      obtain ⟨u0, h0⟩ := h0
      have hsp := World.cell?_spot h0
      obtain ⟨b, off, spot⟩ := a
      simp only at hsp
      subst hsp
      refine ⟨b, off, rfl, World.block_lt_of_cell? W _ h0, fun j u hu => ?_⟩
      have hlen : ∀ x, x ∈ ((List.range len0).map f).map (fun l => l.map (Value.int .i64)) → x.length = k := by
        intro x hx
        simp only [List.map_map, List.mem_map, List.mem_range, Function.comp] at hx
        obtain ⟨i, hi2, rfl⟩ := hx
        simpa using (hfs i hi2).1
      have hjl : j < (((List.range len0).map f).map (fun l => l.map (Value.int .i64))).flatten.length := (List.getElem?_eq_some_iff.1 hu).1
      rw [flatten_length _ hlen] at hjl
      simp only [List.length_map, List.length_range] at hjl
      have hi2 : j / k < len0 := Nat.div_lt_of_lt_mul (by rw [Nat.mul_comm]; exact hjl)
      have hr : j % k < k := Nat.mod_lt _ hk
      have hj : j = j / k * k + j % k := by rw [Nat.mul_comm]; exact (Nat.div_add_mod j k).symm
      have hrow : (((List.range len0).map f).map (fun l => l.map (Value.int .i64)))[j / k]? = some ((f (j / k)).map (Value.int .i64)) := by
        simp [hi2]
      have hrl : j % k < ((f (j / k)).map (Value.int .i64)).length := by simp [(hfs _ hi2).1]; exact hr
      have h5 := flatten_at _ hlen (j / k) _ hrow (j % k) _ (List.getElem?_eq_getElem hrl)
      rw [← hj, hu] at h5
      have h6 := (hfs _ hi2).2.2 (j % k) _ (List.getElem?_eq_getElem hrl)
      rw [add_lit, ← hj] at h6
      rw [h5]; exact h6
    · intro l hl2
      simp only [List.mem_map, List.mem_range] at hl2
      obtain ⟨i, hi2, rfl⟩ := hl2
      exact ⟨(hfs i hi2).1, (hfs i hi2).2.1⟩

/-- A struct of ints, by value. -/
theorem read_struct {t : TypeId} {fs : Array Field} (ht : P.underlying t = some (.struct fs)) (hi : IntsT P t) {base : Nat} {r : Reach} {v : Value} {d : DataW H} {ps : List MemPlace}
    (hv : Value.okWide P W r base t v) (h : DataW.Trod enc P W 0 (fun _ => true) true t v d ps) :
    ∃ l : List Int, v = .agg (l.map (Value.int .i64)).toArray ∧ l.length = P.cellsOf t ∧ ∀ n, n ∈ l → (Lit.int .i64 n).wf = true := by
  obtain ⟨cs, rfl, hsz⟩ := okWide_struct ht hv
  obtain ⟨fuel, hf⟩ := h
  obtain ⟨h1, h2⟩ := hi H enc W 0 (fun _ => true) true fuel cs.toList _ (by simpa [Value.cells] using hf)
  obtain ⟨l, hl, hw⟩ := ints_list h2
  refine ⟨l, by rw [← hl], ?_, hw⟩
  have := congrArg List.length hl
  simp at this
  omega

/-- The arguments, read again behind a call that leaves what was there alone. -/
theorem args_below (hl : laidOutB P = true) : ∀ (ts : List TypeId) (vs : List Value) (ds : List (DataW H)) (ps : List MemPlace) (W' : World), (∀ t, t ∈ ts → P.readableRec t = true ∧ t < P.types.size) →
    DataW.TrodAll enc P W 0 (fun _ => true) true ts vs ds ps → Below W.heap.size W W' → (∀ x, x ∈ ps → x.block < W.heap.size) → DataW.TrodAll enc P W' 0 (fun b => decide (b < W.heap.size)) true ts vs ds ps
  | [], vs, ds, ps, W', _, h, _, _ => by
    obtain ⟨rfl, rfl, rfl⟩ := trodAll_nil h
    exact rfl
  | t :: ts, vs, ds, ps, W', hr, h, hb, hlt => by
    obtain ⟨v, vs', d, ds', p, q, rfl, rfl, rfl, h1, h2⟩ := trodAll_cons h
    obtain ⟨r1, r2⟩ := hr t (List.mem_cons_self ..)
    exact ⟨p, q, Below.trod hl r1 r2 h1 hb (fun x hx => hlt x (List.mem_append.2 (.inl hx))), args_below hl ts vs' ds' q W' (fun t ht => hr t (List.mem_cons_of_mem _ ht)) h2 hb (fun x hx => hlt x (List.mem_append.2 (.inr hx))), rfl⟩
theorem wf_bounds {n : Int} (h : (Lit.int .i64 n).wf = true) : -9223372036854775808 ≤ n ∧ n ≤ 9223372036854775807 := by
  have h1 : IntKind.i64.min = -9223372036854775808 := rfl
  have h2 : IntKind.i64.max = 9223372036854775807 := rfl
  simp [Lit.wf, h1, h2] at h
  exact h
end
end Go.Proofs.YtelhefjikdoihaaDoor

/- Contracts of the layer of points: In, Empty, list, greater, lesser, Cube, Add, Scale, Sub. -/
namespace Go.Proofs.YtelhefjikdoihaaDoor
open Go Go.RowKit

theorem ret_bool {a b : Bool} (h : a = b) : Ending.returned (.bool a) = .returned (.bool b) := by rw [h]
theorem ret_int {k : IntKind} {a b : Int} (h : a = b) : Ending.returned (.int k a) = .returned (.int k b) := by rw [h]
theorem int_eq {k : IntKind} {a b : Int} (h : a = b) : Value.int k a = .int k b := by rw [h]
theorem mixed : Tryd.prog.follows .mixedOrders = true := by kernel_rfl

structure Pt where
  x : Int
  y : Int
  z : Int
  deriving DecidableEq
structure Bx where
  lo : Pt
  hi : Pt
  deriving DecidableEq
def Pt.cells (p : Pt) : List Value := [.int .i64 p.x, .int .i64 p.y, .int .i64 p.z]
def Bx.cells (b : Bx) : List Value := [.int .i64 b.lo.x, .int .i64 b.lo.y, .int .i64 b.lo.z, .int .i64 b.hi.x, .int .i64 b.hi.y, .int .i64 b.hi.z]
def inP (p : Pt) (b : Bx) : Bool := decide (b.lo.x ≤ p.x) && (decide (p.x < b.hi.x) && (decide (b.lo.y ≤ p.y) && (decide (p.y < b.hi.y) && (decide (b.lo.z ≤ p.z) && decide (p.z < b.hi.z)))))
def emptyB (b : Bx) : Bool := !inP b.lo b

set_option maxHeartbeats 1000000 in
theorem In_any (p : Pt) (b : Bx) (w : World) :
    Calls Tryd.prog 80 #[.agg #[.int .i64 p.x, .int .i64 p.y, .int .i64 p.z], .agg #[.int .i64 b.lo.x, .int .i64 b.lo.y, .int .i64 b.lo.z, .int .i64 b.hi.x, .int .i64 b.hi.y, .int .i64 b.hi.z]] w fun e w' => e = .returned (.bool (inP p b)) ∧ Ext w w' := by
  go_enter Tryd.func80, Tryd.ntmps80
  go_wp2
  all_goals
    go_ret
    refine ⟨ret_bool ?_, ((Ext.refl w).alloc _).alloc _⟩
    rw [Bool.eq_iff_iff]
    simp [inP]
    try omega

set_option maxHeartbeats 1000000 in
theorem Empty_any (b : Bx) (w : World) :
    Calls Tryd.prog 61 #[.agg #[.int .i64 b.lo.x, .int .i64 b.lo.y, .int .i64 b.lo.z, .int .i64 b.hi.x, .int .i64 b.hi.y, .int .i64 b.hi.z]] w fun e w' => e = .returned (.bool (emptyB b)) ∧ Ext w w' := by
  go_enter Tryd.func61, Tryd.ntmps61
  go_wp2_with (go_at_call 80; refine (In_any b.lo b _).mono ?_; rintro e w1 ⟨rfl, x1⟩)
  go_ret
  exact ⟨rfl, x1.un⟩

set_option maxHeartbeats 1000000 in
theorem list_any (x y z : Int) (w : World) :
    Calls Tryd.prog 81 #[.agg #[.int .i64 x, .int .i64 y, .int .i64 z]] w fun e w' => e = .returned (.agg #[.int .i64 x, .int .i64 y, .int .i64 z]) ∧ Ext w w' := by
  go_enter Tryd.func81, Tryd.ntmps81
  go_wp2
  exact bodyPost_ret (v := .agg #[.int .i64 x, .int .i64 y, .int .i64 z]) (by simp [results, Tryd.results81, go_sem]) rfl ⟨rfl, ((Ext.refl w).alloc _).alloc _⟩

set_option maxHeartbeats 1000000 in
theorem greater_any (x y : Int) (w : World) :
    Calls Tryd.prog 64 #[.int .i64 x, .int .i64 y] w fun e w' => e = .returned (.int .i64 (max x y)) ∧ Ext w w' := by
  go_enter Tryd.func64, Tryd.ntmps64
  go_wp2
  go_ret
  exact ⟨rfl, Ext.refl w⟩
set_option maxHeartbeats 1000000 in
theorem lesser_any (x y : Int) (w : World) :
    Calls Tryd.prog 63 #[.int .i64 x, .int .i64 y] w fun e w' => e = .returned (.int .i64 (min x y)) ∧ Ext w w' := by
  go_enter Tryd.func63, Tryd.ntmps63
  go_wp2
  go_ret
  exact ⟨rfl, Ext.refl w⟩
end Go.Proofs.YtelhefjikdoihaaDoor

/- A block of cells of one's own, read and written: what a local array or struct holds. -/
namespace Go.Proofs.YtelhefjikdoihaaDoor
open Go Go.RowKit

/-- Block b holds the cells vs. -/
def Arr (w : World) (b : Nat) (t : TypeId) (vs : List Value) : Prop := w.heap[b]? = some (.cells vs.toArray t (0, 0))
theorem Arr.lt {w : World} {b : Nat} {t : TypeId} {vs : List Value} (h : Arr w b t vs) : b < w.heap.size := (Array.getElem?_eq_some_iff.1 h).1
theorem Arr.cell {w : World} {b : Nat} {t : TypeId} {vs : List Value} (h : Arr w b t vs) (j : Nat) : w.cell? ⟨b, j, none⟩ = vs[j]? := by
  rw [cell_of_row _ _ _ _ _ _ h]; simp
theorem Arr.frozen {w : World} {b : Nat} {t : TypeId} {vs : List Value} (h : Arr w b t vs) (j : Nat) : w.frozen? ⟨b, j, none⟩ = false := frozen_of_row w b j _ t h
theorem Arr.ext {w w' : World} {b : Nat} {t : TypeId} {vs : List Value} (h : Arr w b t vs) (hx : Ext w w') : Arr w' b t vs := by
  unfold Arr at *
  rw [hx.below.block b (Arr.lt h)]
  exact h
theorem Arr.set {w : World} {b : Nat} {t : TypeId} {vs : List Value} (h : Arr w b t vs) (j : Nat) (v : Value) : Arr (w.setCell ⟨b, j, none⟩ v) b t (vs.set j v) := by
  have h1 := heap_setCell_same w b j _ t v h
  unfold Arr
  rw [h1]
  simp
theorem Arr.other {w : World} {b : Nat} {t : TypeId} {vs : List Value} (h : Arr w b t vs) {p : Addr} (hp : b ≠ p.block) (v : Value) : Arr (w.setCell p v) b t vs := by
  unfold Arr
  rw [heap_setCell_other w p b v hp]
  exact h
theorem Arr.new (w : World) (t : TypeId) (vs : List Value) : Arr (w.alloc (.cells vs.toArray t)) w.heap.size t vs := heap_alloc_new w _
theorem Arr.new1 (w : World) (o : Obj) (t : TypeId) (vs : List Value) : Arr ((w.alloc o).alloc (.cells vs.toArray t)) (w.heap.size + 1) t vs := by
  have h := Arr.new (w.alloc o) t vs
  have e : (w.alloc o).heap.size = w.heap.size + 1 := by simp
  rw [e] at h
  exact h
theorem Arr.alloc {w : World} {b : Nat} {t : TypeId} {vs : List Value} (h : Arr w b t vs) (o : Obj) : Arr (w.alloc o) b t vs := by
  unfold Arr
  rw [heap_alloc_old w o (Arr.lt h)]
  exact h
/-- A whole variable of a struct's or an array's type, loaded. -/
theorem wpList_load_blk {P : Program} {ops : Array Oper} {rest : List Oper} {o : Oper} {a : Act} {w : World} {Q : Exit → Act → World → Prop} (ty : TypeId) (x : Operand) (ho : o.op = .load ty x) (hw : Region.wanted o (yielded ops a.tmps) = true)
    {b : Nat} {t : TypeId} {vs : List Value} (hB : Arr w b t vs) (hx : a.eval x = .pointer (some ⟨b, 0, none⟩)) (d : TypeDesc) (hu : P.underlying ty = some d)
    (hd : (match d with | .struct _ | .array _ _ => true | _ => false) = true) (hi : (P.info? ty).map (·.size) = some vs.length) (h : wpList P ops Q rest (a.put o.dst (.agg vs.toArray)) w) : wpList P ops Q (o :: rest) a w := by
  refine wpList_step fun K hK => ?_
  rw [if_pos hw]
  exact wp_load_row ty x ho b hx t vs.toArray (0, 0) d hB hu hd (by simpa using hi) (hK _ _ h)
theorem Arr.setRow {w : World} {b : Nat} {t : TypeId} {vs : List Value} (h : Arr w b t vs) (cs : List Value) : Arr (w.setRow b cs.toArray) b t cs := setRow_heap w b _ _ t (0, 0) h
theorem Arr.setRow_other {w : World} {b g : Nat} {t : TypeId} {vs : List Value} (h : Arr w b t vs) (hne : b ≠ g) (cs : Array Value) : Arr (w.setRow g cs) b t vs := by
  unfold Arr
  rw [Go.setRow_other w g b cs hne]
  exact h
theorem Ext.setRow {a w : World} (h : Ext a w) {g : Nat} (hg : a.heap.size ≤ g) (cs : Array Value) : Ext a (w.setRow g cs) :=
  ⟨⟨h.below.os, h.below.tape, h.below.output, by simpa [World.setRow] using h.below.size, fun k hk => (Go.setRow_other w g k cs (by omega)).trans (h.below.block k hk)⟩⟩
/-- A whole variable of a struct's or an array's type, stored into. -/
theorem wpList_store_blk {P : Program} {ops : Array Oper} {rest : List Oper} {o : Oper} {a : Act} {w : World} {Q : Exit → Act → World → Prop} (ty : TypeId) (x y : Operand) (ho : o.op = .store ty x y) (hw : Region.wanted o (yielded ops a.tmps) = true)
    {b : Nat} {t : TypeId} {vs : List Value} (hB : Arr w b t vs) (cs : List Value) (hx : a.eval x = .pointer (some ⟨b, 0, none⟩)) (hy : a.eval y = .agg cs.toArray) (hi : (P.info? ty).map (·.size) = some cs.length)
    (hl : vs.length = cs.length) (h1 : cs.all (·.oneCell') = true) (h : wpList P ops Q rest (a.put o.dst undef) (w.setRow b cs.toArray)) : wpList P ops Q (o :: rest) a w := by
  refine wpList_step fun K hK => ?_
  rw [if_pos hw]
  exact wp_store_row ty x y ho b cs.toArray hx hy t vs.toArray hB (by simpa using hi) (by simpa using hl) (by simpa using h1) (hK _ _ h)
end Go.Proofs.YtelhefjikdoihaaDoor

/- Contracts of the layer of points, on: each, the closures of join, join, Intersect. -/
namespace Go.Proofs.YtelhefjikdoihaaDoor
open Go Go.RowKit

def valsAt (r0 r1 r2 : Int) : Nat → List Value
  | 0 => [.int .i64 0, .int .i64 0, .int .i64 0]
  | 1 => [.int .i64 r0, .int .i64 0, .int .i64 0]
  | 2 => [.int .i64 r0, .int .i64 r1, .int .i64 0]
  | _ => [.int .i64 r0, .int .i64 r1, .int .i64 r2]

set_option maxHeartbeats 2000000 in
theorem each_any (g : FuncId) (lb : Array Value) (r0 r1 r2 : Int) (w : World) (eg : ∀ args w, (callFunc g args).run Tryd.prog w = .ok (.enter g args) w)
    (h0 : ∀ w', Ext w w' → Calls Tryd.prog g (#[.int .i64 0] ++ lb) w' fun e w'' => e = .returned (.int .i64 r0) ∧ Ext w' w'')
    (h1 : ∀ w', Ext w w' → Calls Tryd.prog g (#[.int .i64 1] ++ lb) w' fun e w'' => e = .returned (.int .i64 r1) ∧ Ext w' w'')
    (h2 : ∀ w', Ext w w' → Calls Tryd.prog g (#[.int .i64 2] ++ lb) w' fun e w'' => e = .returned (.int .i64 r2) ∧ Ext w' w'') :
    Calls Tryd.prog 82 #[.func (.func g) #[] lb] w fun e w' => e = .returned (.agg #[.int .i64 r0, .int .i64 r1, .int .i64 r2]) ∧ Ext w w' := by
  have H0 := Lib.hid h0; have H1 := Lib.hid h1; have H2 := Lib.hid h2
  clear h0 h1 h2
  go_enter Tryd.func82, Tryd.ntmps82
  go_wp2
  go_loopw [5] (fun i wr => ∃ k : Nat, k ≤ 3 ∧ i = .int .i64 k ∧ Arr wr w.heap.size 23 (valsAt 0 0 0 0) ∧ Arr wr (w.heap.size + 1) 113 (valsAt r0 r1 r2 k) ∧ Ext w wr) (fun i _ => 3 - (intOf i).toNat)
  case atStart => exact ⟨0, by omega, rfl, (Arr.new w _ (valsAt 0 0 0 0)).alloc _, Arr.new1 w _ _ (valsAt 0 0 0 0), ((Ext.refl w).alloc _).alloc _⟩
  case round =>
    obtain ⟨k, hk, rfl, hA, hB, hx⟩ := hrel
    have hz := hB.lt
    have hz0 := hA.lt
    obtain rfl | rfl | rfl | rfl : k = 0 ∨ k = 1 ∨ k = 2 ∨ k = 3 := by omega
    · go_wp2_with (go_at_fn g; refine (H0.out _ hx).mono ?_; rintro e w1 ⟨rfl, x1⟩; have B1 := hB.ext x1; have A1 := hA.ext x1; have d0 := B1.cell 0; have df := B1.frozen 0; simp only [valsAt, List.getElem?_cons_zero] at d0)
      go_roundw
      case rel => exact ⟨1, by omega, rfl, A1.other (by simp) _, B1.set 0 (.int .i64 r0), (hx.trans x1).setCell (by simp) _⟩
      case measure => simp [intOf]
    · go_wp2_with (go_at_fn g; refine (H1.out _ hx).mono ?_; rintro e w1 ⟨rfl, x1⟩; have B1 := hB.ext x1; have A1 := hA.ext x1; have d0 := B1.cell 1; have df := B1.frozen 1; simp only [valsAt, List.getElem?_cons_zero, List.getElem?_cons_succ] at d0)
      go_roundw
      case rel => exact ⟨2, by omega, rfl, A1.other (by simp) _, B1.set 1 (.int .i64 r1), (hx.trans x1).setCell (by simp) _⟩
      case measure => simp [intOf]
    · go_wp2_with (go_at_fn g; refine (H2.out _ hx).mono ?_; rintro e w1 ⟨rfl, x1⟩; have B1 := hB.ext x1; have A1 := hA.ext x1; have d0 := B1.cell 2; have df := B1.frozen 2; simp only [valsAt, List.getElem?_cons_zero, List.getElem?_cons_succ] at d0)
      go_roundw
      case rel => exact ⟨3, by omega, rfl, A1.other (by simp) _, B1.set 2 (.int .i64 r2), (hx.trans x1).setCell (by simp) _⟩
      case measure => simp [intOf]
    · have d0 := hB.cell 0
      have d1 := hB.cell 1
      have d2 := hB.cell 2
      have a0 := hA.cell 0
      have a1 := hA.cell 1
      have a2 := hA.cell 2
      have f0 := hA.frozen 0
      have f1 := hA.frozen 1
      have f2 := hA.frozen 2
      simp only [valsAt, List.getElem?_cons_zero, List.getElem?_cons_succ] at d0 d1 d2 a0 a1 a2
      go_wp2_with fail
      exact bodyPost_ret (v := .agg #[.int .i64 r0, .int .i64 r1, .int .i64 r2]) (by simp [results, Tryd.results82, go_sem, *]) rfl ⟨rfl, ((hx.setCell (by simp) _).setCell (by simp) _).setCell (by simp) _⟩
end Go.Proofs.YtelhefjikdoihaaDoor

/- Contracts of the layer of points, on: the closures of join, join, Intersect. -/
namespace Go.Proofs.YtelhefjikdoihaaDoor
open Go Go.RowKit

/-- A function of two numbers, as a value. -/
structure Two (P : Program) (g : FuncId) (F : Int → Int → Int) : Prop where
  enters : ∀ args w, (callFunc g args).run P w = .ok (.enter g args) w
  call : ∀ x y w, Calls P g #[.int .i64 x, .int .i64 y] w fun e w' => e = .returned (.int .i64 (F x y)) ∧ Ext w w'
theorem two_greater : Two Tryd.prog 64 max := ⟨fun _ _ => by kernel_rfl, greater_any⟩
theorem two_lesser : Two Tryd.prog 63 min := ⟨fun _ _ => by kernel_rfl, lesser_any⟩

set_option maxHeartbeats 2000000 in
theorem join1_any (i : Nat) (hi : i < 3) (g : FuncId) (F : Int → Int → Int) (hF : Two Tryd.prog g F) (b0 b1 b2 : Nat) (x y : Int) (w : World) (e0 : w.cell? ⟨b0, 0, none⟩ = some (.func (.func g) #[] #[])) (e1 : w.cell? ⟨b1, i, none⟩ = some (.int .i64 x)) (e2 : w.cell? ⟨b2, i, none⟩ = some (.int .i64 y)) :
    Calls Tryd.prog 83 #[.int .i64 i, .pointer (some ⟨b0, 0, none⟩), .pointer (some ⟨b1, 0, none⟩), .pointer (some ⟨b2, 0, none⟩)] w fun e w' => e = .returned (.int .i64 (F x y)) ∧ Ext w w' := by
  have hm := mixed
  have hG := near_old
  have eg := hF.enters
  have HF := Lib.hid hF.call
  have q0 := World.block_lt_of_cell? w _ e0
  have q1 := World.block_lt_of_cell? w _ e1
  have q2 := World.block_lt_of_cell? w _ e2
  simp only at q0 q1 q2
  clear hF
  go_enter Tryd.func83, Tryd.ntmps83
  go_wp2
  refine wp_region_near (by assumption) (by kernel_rfl) ?_
  repeat (go_big_quiet_step ((go_at_fn g; exact near_call (HF.out _ _ _))))
  refine wpQuiet_nil ?_
  intro w1 hw1
  have hy := Ext.of_near hw1
  clear hw1
  go_wp2
  go_ret
  exact ⟨rfl, hy⟩
set_option maxHeartbeats 2000000 in
theorem join2_any (i : Nat) (hi : i < 3) (g : FuncId) (F : Int → Int → Int) (hF : Two Tryd.prog g F) (b0 b1 b2 : Nat) (x y : Int) (w : World) (e0 : w.cell? ⟨b0, 0, none⟩ = some (.func (.func g) #[] #[])) (e1 : w.cell? ⟨b1, i, none⟩ = some (.int .i64 x)) (e2 : w.cell? ⟨b2, i, none⟩ = some (.int .i64 y)) :
    Calls Tryd.prog 84 #[.int .i64 i, .pointer (some ⟨b0, 0, none⟩), .pointer (some ⟨b1, 0, none⟩), .pointer (some ⟨b2, 0, none⟩)] w fun e w' => e = .returned (.int .i64 (F x y)) ∧ Ext w w' := by
  have hm := mixed
  have hG := near_old
  have eg := hF.enters
  have HF := Lib.hid hF.call
  have q0 := World.block_lt_of_cell? w _ e0
  have q1 := World.block_lt_of_cell? w _ e1
  have q2 := World.block_lt_of_cell? w _ e2
  simp only at q0 q1 q2
  clear hF
  go_enter Tryd.func84, Tryd.ntmps84
  go_wp2
  refine wp_region_near (by assumption) (by kernel_rfl) ?_
  repeat (go_big_quiet_step ((go_at_fn g; exact near_call (HF.out _ _ _))))
  refine wpQuiet_nil ?_
  intro w1 hw1
  have hy := Ext.of_near hw1
  clear hw1
  go_wp2
  go_ret
  exact ⟨rfl, hy⟩

end Go.Proofs.YtelhefjikdoihaaDoor

/- A region that draws its order, by an invariant over what has been done. -/
namespace Go.Proofs.YtelhefjikdoihaaDoor
open Go Go.RowKit

section
variable {P : Program} {ops : Array Oper} {md : Region.Mode} {Q : Exit → Act → World → Prop}
/-- How many operations are not yet done. -/
def undone (ops : Array Oper) (listed : Array Bool) : Nat := (List.range ops.size).countP fun i => !listed.getD i true
theorem ready_undone {listed : Array Bool} {i : Nat} (h : i ∈ Region.ready md ops listed) : i < ops.size ∧ listed.getD i true = false := by
  obtain ⟨h1, oi, h2, _⟩ := mem_ready.1 h
  exact ⟨(Array.getElem?_eq_some_iff.1 h2).1, h1⟩
theorem undone_set {listed : Array Bool} {i : Nat} (hi : i < ops.size) (hl : listed.getD i true = false) : undone ops (listed.setIfInBounds i true) + 1 = undone ops listed := by
  unfold undone
  have hil : i < listed.size := by
    by_cases h : i < listed.size
    · exact h
    · simp [Array.getD, h] at hl
  have key : ∀ (n : Nat), i < n → (List.range n).countP (fun j => !(listed.setIfInBounds i true).getD j true) + 1 = (List.range n).countP (fun j => !listed.getD j true) := by
    intro n
    induction n with
    | zero => intro h; omega
    | succ n ih =>
      intro h
      rw [List.range_succ, List.countP_append, List.countP_append]
      by_cases hin : i = n
      · subst hin
        have e1 : (List.range i).countP (fun j => !(listed.setIfInBounds i true).getD j true) = (List.range i).countP (fun j => !listed.getD j true) := by
          apply List.countP_congr
          intro j hj
          have : i ≠ j := by have := List.mem_range.1 hj; omega
          rw [getD_set_ne true this]
        rw [e1]
        have e2 : (listed.setIfInBounds i true).getD i true = true := by simp [Array.getD, hil]
        simp only [List.countP_cons, List.countP_nil, e2, hl]
        rfl
      · have := ih (by omega)
        rw [← this]
        have e3 : (listed.setIfInBounds i true).getD n true = listed.getD n true := getD_set_ne true hin
        simp only [List.countP_cons, List.countP_nil, e3]
        omega
  exact key ops.size hi
theorem undone_zero {listed : Array Bool} (h : undone ops listed = 0) : Region.ready md ops listed = [] := by
  rw [List.eq_nil_iff_forall_not_mem]
  intro i hi
  obtain ⟨h1, h2⟩ := ready_undone hi
  unfold undone at h
  rw [List.countP_eq_zero] at h
  exact h i (List.mem_range.2 h1) (by simp [h2])
theorem wpAny_inv {I : Array Bool → Act → World → Prop}
    (hstep : ∀ listed a w i, I listed a w → i ∈ Region.ready md ops listed → wpOp P ops Q i (I (listed.setIfInBounds i true)) a w)
    (hend : ∀ listed a w, I listed a w → Region.ready md ops listed = [] → Q .normal a w) :
    ∀ (fuel : Nat) (listed : Array Bool) (a : Act) (w : World), undone ops listed ≤ fuel → I listed a w → wpAny P md ops Q fuel listed a w
  | 0, listed, a, w, hu, h => by
    have hr := undone_zero (md := md) (by omega : undone ops listed = 0)
    exact ⟨hr, hend _ _ _ h hr⟩
  | fuel + 1, listed, a, w, hu, h => by
    refine ⟨fun hr => hend _ _ _ h hr, fun i hi => ?_⟩
    obtain ⟨h1, h2⟩ := ready_undone hi
    have := undone_set h1 h2
    exact wpOp_mono (fun a' w' h' => wpAny_inv hstep hend fuel _ a' w' (by omega) h') (hstep _ _ _ _ h hi)
theorem undone_le (listed : Array Bool) : undone ops listed ≤ ops.size := by
  unfold undone
  have := List.countP_le_length (p := fun i => !listed.getD i true) (l := List.range ops.size)
  simpa using this
/-- The law: what holds of what has been done is kept by each operation that may come next. -/
theorem wp_region_inv {id : Nat} {a : Act} {w : World} {l : List Oper} (I : Array Bool → Act → World → Prop) (hm : P.follows .mixedOrders = true)
    (h0 : I (Array.replicate l.length false) a w.drew)
    (hstep : ∀ listed a w i, I listed a w → i ∈ Region.ready .any l.toArray listed → wpOp P l.toArray Q i (I (listed.setIfInBounds i true)) a w)
    (hend : ∀ listed a w, I listed a w → Region.ready .any l.toArray listed = [] → Q .normal a w) : (Code.region id l.toArray true).wp P Q a w := by
  refine wp_region_any hm ?_
  exact wpAny_inv hstep hend _ _ _ _ (undone_le _) (by simpa using h0)
end
end Go.Proofs.YtelhefjikdoihaaDoor

/- A region that draws its order, by a table: what each slot holds once its operation is done. -/
namespace Go.Proofs.YtelhefjikdoihaaDoor
open Go Go.RowKit

section
variable {P : Program} {ops : Array Oper} {md : Region.Mode} {Q : Exit → Act → World → Prop}
def dstOf (ops : Array Oper) (i : Nat) : Option Nat := (ops[i]?).bind (·.dst)
def fillN (ops : Array Oper) (V : Nat → Value) (listed : Array Bool) (a : Act) : Nat → Act
  | 0 => a
  | n + 1 => if listed.getD n true then (fillN ops V listed a n).put (dstOf ops n) (V n) else fillN ops V listed a n
/-- The frame behind the operations that are done. -/
def fill (ops : Array Oper) (V : Nat → Value) (listed : Array Bool) (a : Act) : Act := fillN ops V listed a ops.size
/-- No two operations have one slot. -/
def Slots (ops : Array Oper) : Prop := ∀ i j d, dstOf ops i = some d → dstOf ops j = some d → i = j
theorem put_size (a : Act) (o : Option Tmp) (v : Value) : (a.put o v).tmps.size = a.tmps.size := by cases o <;> simp [Act.put]
theorem put_defers (a : Act) (o : Option Tmp) (v : Value) : (a.put o v).defers = a.defers := by cases o <;> rfl
theorem put_get (a : Act) (o : Option Tmp) (v : Value) (d : Nat) : (a.put o v).tmps[d]? = if o = some d ∧ d < a.tmps.size then some v else a.tmps[d]? := by
  cases o with
  | none => simp [Act.put]
  | some e =>
    simp only [Act.put, Array.getElem?_setIfInBounds, Option.some.injEq]
    by_cases h : e = d
    · subst h
      by_cases h2 : e < a.tmps.size
      · simp [h2]
      · simp [h2]
    · simp [h]
variable {V V' : Nat → Value} {listed : Array Bool} {a : Act}
theorem fillN_size : ∀ n, (fillN ops V listed a n).tmps.size = a.tmps.size
  | 0 => rfl
  | n + 1 => by unfold fillN; split <;> simp [put_size, fillN_size n]
theorem fillN_defers : ∀ n, (fillN ops V listed a n).defers = a.defers
  | 0 => rfl
  | n + 1 => by unfold fillN; split <;> simp [put_defers, fillN_defers n]
theorem fillN_hit (hs : Slots ops) {i d : Nat} (hl : listed.getD i true = true) (hd : dstOf ops i = some d) (hds : d < a.tmps.size) : ∀ n, i < n → (fillN ops V listed a n).tmps[d]? = some (V i)
  | 0, h => by omega
  | n + 1, h => by
    unfold fillN
    by_cases hin : i = n
    · subst hin
      rw [if_pos hl, put_get, if_pos ⟨hd, by rw [fillN_size]; exact hds⟩]
    · have ih := fillN_hit hs hl hd hds n (by omega)
      split
      · rw [put_get, if_neg (fun h => hin (hs i n d hd h.1)), ih]
      · exact ih
theorem fillN_miss {d : Nat} : ∀ n, (∀ i, i < n → listed.getD i true = true → dstOf ops i ≠ some d) → (fillN ops V listed a n).tmps[d]? = a.tmps[d]?
  | 0, _ => rfl
  | n + 1, h => by
    have ih := fillN_miss n (fun i hi => h i (by omega))
    unfold fillN
    split
    · rename_i hl
      rw [put_get, if_neg (fun hh => h n (by omega) hl hh.1), ih]
    · exact ih
theorem fill_hit (hs : Slots ops) {i d : Nat} (hi : i < ops.size) (hl : listed.getD i true = true) (hd : dstOf ops i = some d) (hds : d < a.tmps.size) : (fill ops V listed a).tmps[d]? = some (V i) := fillN_hit hs hl hd hds _ hi
theorem fill_miss {d : Nat} (h : ∀ i, i < ops.size → listed.getD i true = true → dstOf ops i ≠ some d) : (fill ops V listed a).tmps[d]? = a.tmps[d]? := fillN_miss _ h
theorem act_ext {x y : Act} (h1 : x.defers = y.defers) (h2 : ∀ d : Nat, x.tmps[d]? = y.tmps[d]?) : x = y := by
  cases x; cases y
  simp only at h1 h2
  subst h1
  congr 1
  exact Array.ext_getElem? h2
theorem fill_put (hs : Slots ops) {i : Nat} (hi : i < ops.size) (hun : listed.getD i true = false) :
    (fill ops V listed a).put (dstOf ops i) (V i) = fill ops V (listed.setIfInBounds i true) a := by
  have hil : i < listed.size := by
    by_cases h : i < listed.size
    · exact h
    · simp [Array.getD, h] at hun
  have hset : ∀ j, (listed.setIfInBounds i true).getD j true = true ↔ (j = i ∨ listed.getD j true = true) := fun j => by
    by_cases h : i = j
    · subst h; simp [Array.getD, hil]
    · rw [getD_set_ne true h]
      constructor
      · exact .inr
      · rintro (h2 | h2)
        · exact absurd h2.symm h
        · exact h2
  refine act_ext (by rw [put_defers]; unfold fill; rw [fillN_defers, fillN_defers]) fun d => ?_
  rw [put_get]
  have hsz : (fill ops V listed a).tmps.size = a.tmps.size := fillN_size _
  rw [hsz]
  by_cases hd : dstOf ops i = some d
  · by_cases hds : d < a.tmps.size
    · rw [if_pos ⟨hd, hds⟩, fill_hit hs hi ((hset i).2 (.inl rfl)) hd hds]
    · rw [if_neg (fun h => hds h.2), Array.getElem?_eq_none (by rw [hsz]; omega), Array.getElem?_eq_none (by unfold fill; rw [fillN_size]; omega)]
  · rw [if_neg (fun h => hd h.1)]
    by_cases hds : d < a.tmps.size
    · by_cases hj : ∃ j, j < ops.size ∧ listed.getD j true = true ∧ dstOf ops j = some d
      · obtain ⟨j, h1, h2, h3⟩ := hj
        rw [fill_hit hs h1 h2 h3 hds, fill_hit hs h1 ((hset j).2 (.inr h2)) h3 hds]
      · rw [fill_miss (fun j h1 h2 h3 => hj ⟨j, h1, h2, h3⟩), fill_miss (fun j h1 h2 h3 => by
          rcases (hset j).1 h2 with h4 | h4
          · subst h4; exact hd h3
          · exact hj ⟨j, h1, h4, h3⟩)]
    · rw [Array.getElem?_eq_none (by rw [hsz]; omega), Array.getElem?_eq_none (by unfold fill; rw [fillN_size]; omega)]
theorem fill_congr (h : ∀ i, listed.getD i true = true → i < ops.size → V i = V' i) : fill ops V listed a = fill ops V' listed a := by
  have : ∀ n, n ≤ ops.size → fillN ops V listed a n = fillN ops V' listed a n := by
    intro n
    induction n with
    | zero => intro _; rfl
    | succ n ih =>
      intro hn
      unfold fillN
      rw [ih (by omega)]
      split
      · rename_i hl; rw [h n hl (by omega)]
      · rfl
  exact this _ (Nat.le_refl _)
def fillAllN (ops : Array Oper) (V : Nat → Value) (a : Act) : Nat → Act
  | 0 => a
  | n + 1 => (fillAllN ops V a n).put (dstOf ops n) (V n)
theorem fill_done {l : List Oper} (h : ∀ i, i < l.length → listed.getD i true = true) : fill l.toArray V listed a = fillAllN l.toArray V a l.length := by
  have : ∀ n, n ≤ l.length → fillN l.toArray V listed a n = fillAllN l.toArray V a n := by
    intro n
    induction n with
    | zero => intro _; rfl
    | succ n ih =>
      intro hn
      unfold fillN fillAllN
      rw [ih (by omega), if_pos (h n (by omega))]
  have := this l.length (Nat.le_refl _)
  simpa [fill] using this
/-- Every edge goes back. -/
def Back (ops : Array Oper) : Prop := ∀ (i : Nat) (o : Oper), ops[i]? = some o → ∀ e, e ∈ o.after → e.on < i
theorem all_done (hb : Back ops) {listed : Array Bool} (hr : Region.ready md ops listed = []) : ∀ i, i < ops.size → listed.getD i true = true := by
  intro i
  induction i using Nat.strongRecOn with
  | ind i ih =>
    intro hi
    by_cases h : listed.getD i true = true
    · exact h
    · exfalso
      have h1 : i ∈ Region.ready md ops listed := mem_ready.2 ⟨by simpa using h, ops[i], Array.getElem?_eq_getElem hi, fun e he _ => by
        have h2 := hb i _ (Array.getElem?_eq_getElem hi) e he
        have h3 := ih e.on h2 (by omega)
        have hsz : ∀ k, listed.getD k true = true → listed.getD i true = false → k < i → listed.getD k false = true := fun k h4 h5 h6 => by
          have hil : i < listed.size := by
            by_cases h7 : i < listed.size
            · exact h7
            · simp [Array.getD, h7] at h5
          have hkl : k < listed.size := by omega
          simpa [Array.getD, hkl] using h4
        exact hsz e.on h3 (by simpa using h) h2⟩
      rw [hr] at h1
      cases h1
/-- The law by a table. -/
theorem wp_region_tab {G : Type} {id : Nat} {a : Act} {w : World} {l : List Oper} (V : G → Nat → Value) (R : World → Array Bool → G → World → Prop) (g0 : G) (hm : P.follows .mixedOrders = true) (hs : Slots l.toArray) (hb : Back l.toArray)
    (hg : ∀ (i : Nat) (o : Oper), l[i]? = some o → o.guard = none) (h0 : R w (Array.replicate l.length false) g0 w.drew)
    (hstep : ∀ listed g w1 i o, l[i]? = some o → listed.getD i true = false → (∀ e, e ∈ o.after → Region.binds .any e = true → listed.getD e.on false = true) → R w listed g w1 →
      ∀ K : Act → World → Prop, (∀ g' w', R w (listed.setIfInBounds i true) g' w' → (∀ j, j < l.length → listed.getD j true = true → V g' j = V g j) → K ((fill l.toArray (V g) listed a).put o.dst (V g' i)) w') → o.wp P (fill l.toArray (V g) listed a) w1 K Q)
    (hend : ∀ listed g w1, (∀ i, i < l.length → listed.getD i true = true) → R w listed g w1 → Q .normal (fill l.toArray (V g) listed a) w1) : (Code.region id l.toArray true).wp P Q a w := by
  refine wp_region_inv (fun listed b w1 => ∃ g, b = fill l.toArray (V g) listed a ∧ R w listed g w1) hm ⟨g0, ?_, h0⟩ ?_ ?_
  · have : ∀ n, fillN l.toArray (V g0) (Array.replicate l.length false) a n = a ∨ l.length < n := by
      intro n
      induction n with
      | zero => exact .inl rfl
      | succ n ih =>
        by_cases hn : l.length < n + 1
        · exact .inr hn
        · rcases ih with ih | ih
          · refine .inl ?_
            unfold fillN
            rw [if_neg (by simp [Array.getD]; omega), ih]
          · omega
    rcases this l.toArray.size with h | h
    · exact h.symm
    · simp at h
  · rintro listed b w1 i ⟨g, rfl, hR⟩ hi
    obtain ⟨hun, o, ho, hdeps⟩ := mem_ready.1 hi
    have ho' : l[i]? = some o := by simpa using ho
    have hi2 : i < l.toArray.size := (Array.getElem?_eq_some_iff.1 ho).1
    refine wpOp_step ho fun K hK => ?_
    rw [if_pos (by simp [Region.wanted, hg i o ho'])]
    refine hstep listed g w1 i o ho' hun hdeps hR K fun g' w' hR' hV => ?_
    refine hK _ _ ⟨g', ?_, hR'⟩
    have hd : dstOf l.toArray i = o.dst := by simp [dstOf, ho']
    rw [← hd, fill_congr (V' := V g') (fun j hl hj => (hV j (by simpa using hj) hl).symm), fill_put hs hi2 hun]
  · rintro listed b w1 ⟨g, rfl, hR⟩ hr
    exact hend listed g w1 (fun i hi => all_done hb hr i (by simpa using hi)) hR
theorem fill_eval_hit (hs : Slots ops) (i : Nat) {d : Nat} (hi : i < ops.size) (hl : listed.getD i true = true) (hd : dstOf ops i = some d) (hds : d < a.tmps.size) : (fill ops V listed a).eval (.tmp d) = V i := by
  have h := fill_hit (V := V) hs hi hl hd hds
  simp [Act.eval, Array.getD_eq_getD_getElem?, h]
theorem fill_eval_miss {d : Nat} (h : ∀ i, i < ops.size → dstOf ops i ≠ some d) : (fill ops V listed a).eval (.tmp d) = a.eval (.tmp d) := by
  have h := fill_miss (V := V) (listed := listed) (a := a) (d := d) (fun i hi _ => h i hi)
  simp [Act.eval, Array.getD_eq_getD_getElem?, h]
/-- Read off a table of slots. -/
def missB (ops : Array Oper) (d : Nat) : Bool := (List.range ops.size).all fun i => !(dstOf ops i == some d)
theorem missB_spec {d : Nat} (h : missB ops d = true) : ∀ i, i < ops.size → dstOf ops i ≠ some d := fun i hi => by
  unfold missB at h
  simp only [List.all_eq_true, List.mem_range, Bool.not_eq_true', beq_eq_false_iff_ne] at h
  exact h i hi
def slotsB (ops : Array Oper) : Bool := (List.range ops.size).all fun i => (List.range ops.size).all fun j => i == j || (dstOf ops i).isNone || !(dstOf ops i == dstOf ops j)
theorem slotsB_spec (h : slotsB ops = true) : Slots ops := fun i j d hi hj => by
  have lt : ∀ k, dstOf ops k = some d → k < ops.size := fun k hk => by
    unfold dstOf at hk
    cases ho : ops[k]? with
    | none => rw [ho] at hk; simp at hk
    | some o => exact (Array.getElem?_eq_some_iff.1 ho).1
  unfold slotsB at h
  simp only [List.all_eq_true, List.mem_range, Bool.or_eq_true, beq_iff_eq, Bool.not_eq_true', beq_eq_false_iff_ne] at h
  rcases h i (lt i hi) j (lt j hj) with (h1 | h1) | h1
  · exact h1
  · rw [hi] at h1; simp at h1
  · exact absurd (hi.trans hj.symm) h1
def backB (ops : Array Oper) : Bool := (List.range ops.size).all fun i => match ops[i]? with | some o => o.after.all fun e => decide (e.on < i) | none => true
theorem backB_spec (h : backB ops = true) : Back ops := fun i o ho e he => by
  unfold backB at h
  simp only [List.all_eq_true, List.mem_range] at h
  have h1 := h i (Array.getElem?_eq_some_iff.1 ho).1
  rw [ho] at h1
  simp only [Array.all_eq_true'] at h1
  simpa using h1 e he
theorem getD_up {l : Array Bool} {k : Nat} (h : l.getD k false = true) : l.getD k true = true := by
  by_cases hk : k < l.size
  · simpa [Array.getD, hk] using h
  · simp [Array.getD, hk]
/-- The law by a table, each step in a frame of which one knows what its slots hold. -/
theorem wp_region_slots {G : Type} {id : Nat} {a : Act} {w : World} {l : List Oper} (V : G → Nat → Value) (R : World → Array Bool → G → World → Prop) (g0 : G) (hm : P.follows .mixedOrders = true) (hs : slotsB l.toArray = true) (hb : backB l.toArray = true)
    (hg : ∀ (i : Nat) (o : Oper), l[i]? = some o → o.guard = none) (h0 : R w (Array.replicate l.length false) g0 w.drew)
    (hstep : ∀ listed g w1 i o, l[i]? = some o → listed.getD i true = false → (∀ e, e ∈ o.after → Region.binds .any e = true → listed.getD e.on false = true) → R w listed g w1 →
      ∀ (b : Act) (K : Act → World → Prop), (∀ d : Nat, missB l.toArray d = true → b.tmps[d]? = a.tmps[d]?) → (∀ j d, j < l.length → listed.getD j true = true → dstOf l.toArray j = some d → d < a.tmps.size → b.tmps[d]? = some (V g j)) →
      (∀ g' w', R w (listed.setIfInBounds i true) g' w' → (∀ j, j < l.length → listed.getD j true = true → V g' j = V g j) → K (b.put o.dst (V g' i)) w') → o.wp P b w1 K Q)
    (hend : ∀ listed g w1, (∀ i, i < l.length → listed.getD i true = true) → R w listed g w1 → Q .normal (fill l.toArray (V g) listed a) w1) : (Code.region id l.toArray true).wp P Q a w :=
  wp_region_tab V R g0 hm (slotsB_spec hs) (backB_spec hb) hg h0
    (fun listed g w1 i o ho hun hdep hR K hK => hstep listed g w1 i o ho hun hdep hR (fill l.toArray (V g) listed a) K (fun d hd => fill_miss (fun i hi _ => missB_spec hd i hi)) (fun j d hj hl hd hds => fill_hit (slotsB_spec hs) (by simpa using hj) hl hd hds) hK) hend
end
end Go.Proofs.YtelhefjikdoihaaDoor

/- Contracts of the layer of points, on: join. -/
namespace Go.Proofs.YtelhefjikdoihaaDoor
open Go Go.RowKit

def pv (x y z : Int) : Value := .agg #[.int .i64 x, .int .i64 y, .int .i64 z]
/-- What each slot of join's drawn region holds. -/
def joinV (a b : Bx) (n : Nat) (g : Nat → Nat) : Nat → Value
  | 0 => .pointer (some ⟨n, 0, none⟩)
  | 1 => pv a.lo.x a.lo.y a.lo.z
  | 2 => pv a.lo.x a.lo.y a.lo.z
  | 3 => .pointer (some ⟨n + 1, 0, none⟩)
  | 4 => pv b.lo.x b.lo.y b.lo.z
  | 5 => pv b.lo.x b.lo.y b.lo.z
  | 6 => .pointer (some ⟨n, 3, none⟩)
  | 7 => pv a.hi.x a.hi.y a.hi.z
  | 8 => pv a.hi.x a.hi.y a.hi.z
  | 9 => .pointer (some ⟨n + 1, 3, none⟩)
  | 10 => pv b.hi.x b.hi.y b.hi.z
  | 11 => pv b.hi.x b.hi.y b.hi.z
  | 12 => .pointer (some ⟨g 12, 0, none⟩)
  | 13 => .pointer (some ⟨g 13, 0, none⟩)
  | 14 => .pointer (some ⟨g 14, 0, none⟩)
  | 15 => .pointer (some ⟨g 15, 0, none⟩)
  | _ => undef
def joinC (a b : Bx) : Nat → List Value
  | 12 => [.int .i64 a.lo.x, .int .i64 a.lo.y, .int .i64 a.lo.z]
  | 13 => [.int .i64 b.lo.x, .int .i64 b.lo.y, .int .i64 b.lo.z]
  | 14 => [.int .i64 a.hi.x, .int .i64 a.hi.y, .int .i64 a.hi.z]
  | _ => [.int .i64 b.hi.x, .int .i64 b.hi.y, .int .i64 b.hi.z]
structure JoinR (a b : Bx) (W : World) (listed : Array Bool) (g : Nat → Nat) (w : World) : Prop where
  ext : Ext W w
  laid : ∀ k, 12 ≤ k → k < 16 → listed.getD k true = true → W.heap.size ≤ g k ∧ Arr w (g k) 113 (if listed.getD (k + 4) true = true then joinC a b k else [.int .i64 0, .int .i64 0, .int .i64 0])
  apart : ∀ k k', 12 ≤ k → k < 16 → 12 ≤ k' → k' < 16 → listed.getD k true = true → listed.getD k' true = true → k ≠ k' → g k ≠ g k'
  st : ∀ k, 12 ≤ k → k < 16 → listed.getD (k + 4) true = true → listed.getD k true = true

theorem JoinR.keep {a b : Bx} {W w w' : World} {listed : Array Bool} {g : Nat → Nat} (h : JoinR a b W listed g w) {i : Nat} (hi : i < 12) (hx : Ext w w') : JoinR a b W (listed.setIfInBounds i true) g w' := by
  have hset : ∀ k, 12 ≤ k → (listed.setIfInBounds i true).getD k true = listed.getD k true := fun k hk => getD_set_ne true (by omega)
  refine ⟨h.ext.trans hx, fun k h1 h2 h3 => ?_, fun k k' h1 h2 h3 h4 h5 h6 => ?_, fun k h1 h2 h3 => by rw [hset k h1]; rw [hset _ (by omega)] at h3; exact h.st k h1 h2 h3⟩
  · rw [hset k h1] at h3
    rw [hset _ (by omega)]
    obtain ⟨h4, h5⟩ := h.laid k h1 h2 h3
    exact ⟨h4, h5.ext hx⟩
  · rw [hset k h1] at h5
    rw [hset k' h3] at h6
    exact h.apart k k' h1 h2 h3 h4 h5 h6

theorem JoinR.lay {a b : Bx} {W w : World} {listed : Array Bool} {g : Nat → Nat} (h : JoinR a b W listed g w) {i : Nat} (hi : 12 ≤ i) (hi2 : i < 16) (hun : listed.getD i true = false) :
    JoinR a b W (listed.setIfInBounds i true) (fun k => if k = i then w.heap.size else g k) (w.alloc (.cells #[.int .i64 0, .int .i64 0, .int .i64 0] 113)) := by
  have hset : ∀ k, k ≠ i → (listed.setIfInBounds i true).getD k true = listed.getD k true := fun k hk => getD_set_ne true (by omega)
  have hno : ¬ listed.getD (i + 4) true = true := fun hh => by rw [h.st i hi hi2 hh] at hun; cases hun
  refine ⟨h.ext.alloc _, fun k h1 h2 h3 => ?_, fun k k' h1 h2 h3 h4 h5 h6 h7 => ?_, fun k h1 h2 h3 => ?_⟩
  · by_cases hk : k = i
    · subst hk
      rw [hset (k + 4) (by omega), if_neg hno]
      simp only [if_true]
      exact ⟨h.ext.size, Arr.new w _ _⟩
    · rw [hset k hk] at h3
      rw [hset (k + 4) (by omega)]
      simp only [if_neg hk]
      obtain ⟨q1, q2⟩ := h.laid k h1 h2 h3
      exact ⟨q1, q2.alloc _⟩
  · by_cases hk : k = i
    · rw [if_pos hk, if_neg (by omega)]
      rw [hset k' (by omega)] at h6
      have := (h.laid k' h3 h4 h6).2.lt
      omega
    · rw [if_neg hk]
      rw [hset k hk] at h5
      by_cases hk' : k' = i
      · rw [if_pos hk']
        have := (h.laid k h1 h2 h5).2.lt
        omega
      · rw [if_neg hk']
        rw [hset k' hk'] at h6
        exact h.apart k k' h1 h2 h3 h4 h5 h6 h7
  · rw [hset (k + 4) (by omega)] at h3
    have h4 := h.st k h1 h2 h3
    by_cases hk : k = i
    · subst hk; rw [h4] at hun; cases hun
    · rw [hset k hk]; exact h4

theorem JoinR.stored {a b : Bx} {W w : World} {listed : Array Bool} {g : Nat → Nat} (h : JoinR a b W listed g w) (k : Nat) (hk : 12 ≤ k) (hk2 : k < 16) (hl : listed.getD k true = true) {v0 v1 v2 : Value} (hc : joinC a b k = [v0, v1, v2])
    (hun : listed.getD (k + 4) true = false) : JoinR a b W (listed.setIfInBounds (k + 4) true) g (((w.setCell ⟨g k, 0, none⟩ v0).setCell ⟨g k, 1, none⟩ v1).setCell ⟨g k, 2, none⟩ v2) := by
  have hset : ∀ j, j ≠ k + 4 → (listed.setIfInBounds (k + 4) true).getD j true = listed.getD j true := fun j hj => getD_set_ne true (by omega)
  obtain ⟨q1, q2⟩ := h.laid k hk hk2 hl
  rw [if_neg (by rw [hun]; simp)] at q2
  refine ⟨((h.ext.setCell q1 _).setCell q1 _).setCell q1 _, fun j h1 h2 h3 => ?_, fun j j' h1 h2 h3 h4 h5 h6 h7 => ?_, fun j h1 h2 h3 => ?_⟩
  · rw [hset j (by omega)] at h3
    by_cases hj : j = k
    · subst hj
      refine ⟨q1, ?_⟩
      have hil : (j + 4) < listed.size := by
        by_cases h9 : j + 4 < listed.size
        · exact h9
        · simp [Array.getD, h9] at hun
      rw [if_pos (by simp [Array.getD, hil]), hc]
      exact ((q2.set 0 v0).set 1 v1).set 2 v2
    · rw [hset (j + 4) (by omega)]
      obtain ⟨p1, p2⟩ := h.laid j h1 h2 h3
      have hne := h.apart j k h1 h2 hk hk2 h3 hl hj
      exact ⟨p1, ((p2.other hne v0).other hne v1).other hne v2⟩
  · rw [hset j (by omega)] at h5
    rw [hset j' (by omega)] at h6
    exact h.apart j j' h1 h2 h3 h4 h5 h6 h7
  · rw [hset j (by omega)]
    by_cases hj : j = k
    · subst hj; exact hl
    · rw [hset (j + 4) (by omega)] at h3
      exact h.st j h1 h2 h3

set_option maxHeartbeats 2000000 in
theorem join_any (a b : Bx) (g1 g2 : FuncId) (F1 F2 : Int → Int → Int) (hF1 : Two Tryd.prog g1 F1) (hF2 : Two Tryd.prog g2 F2) (w : World) :
    Calls Tryd.prog 62 #[.agg #[.int .i64 a.lo.x, .int .i64 a.lo.y, .int .i64 a.lo.z, .int .i64 a.hi.x, .int .i64 a.hi.y, .int .i64 a.hi.z], .agg #[.int .i64 b.lo.x, .int .i64 b.lo.y, .int .i64 b.lo.z, .int .i64 b.hi.x, .int .i64 b.hi.y, .int .i64 b.hi.z], .func (.func g1) #[] #[], .func (.func g2) #[] #[]] w fun e w' =>
      e = .returned (.agg #[.int .i64 (F1 a.lo.x b.lo.x), .int .i64 (F1 a.lo.y b.lo.y), .int .i64 (F1 a.lo.z b.lo.z), .int .i64 (F2 a.hi.x b.hi.x), .int .i64 (F2 a.hi.y b.hi.y), .int .i64 (F2 a.hi.z b.hi.z)]) ∧ Ext w w' := by
  have hm := mixed
  have hG := near_old
  have HF1 := Lib.hid hF1
  have HF2 := Lib.hid hF2
  clear hF1 hF2
  go_enter Tryd.func62, Tryd.ntmps62
  go_wp2
  refine wp_region_slots (joinV a b w.heap.size) (JoinR a b) (fun _ => 0) (by assumption) (by kernel_rfl) (by kernel_rfl) ?_ ?_ ?_ ?_
  · intro i o ho
    have h := List.mem_of_getElem? ho
    clear ho
    simp only [List.mem_cons, List.not_mem_nil, or_false] at h
    rcases h with h | h | h | h | h | h | h | h | h | h | h | h | h | h | h | h | h | h | h | h <;> rw [h]
  · refine ⟨(Ext.refl _).drew, fun k _ _ hl => ?_, fun k k' _ _ _ _ hl => ?_, fun k _ _ hl => ?_⟩
    · simp [Array.getD] at hl; omega
    · simp [Array.getD] at hl; omega
    · simp [Array.getD] at hl; omega
  · intro listed g w' i o ho hun hdep hR b' K E0 E1 hK
    have hA := (((((Ext.refl (w.alloc _)).alloc _).alloc _).alloc _).alloc _).trans hR.ext
    have hB := ((((Ext.refl ((w.alloc _).alloc _)).alloc _).alloc _).alloc _).trans hR.ext
    have a0 := hA.box 0
    have a1 := hA.box 1
    have a2 := hA.box 2
    have a3 := hA.box 3
    have a4 := hA.box 4
    have a5 := hA.box 5
    have c0 := hB.box 0
    have c1 := hB.box 1
    have c2 := hB.box 2
    have c3 := hB.box 3
    have c4 := hB.box 4
    have c5 := hB.box 5
    have esz : ∀ o : Obj, (w.alloc o).heap.size = w.heap.size + 1 := fun o => by simp
    simp only [List.getElem?_toArray, List.getElem?_cons_zero, List.getElem?_cons_succ, esz] at a0 a1 a2 a3 a4 a5 c0 c1 c2 c3 c4 c5
    clear hA hB esz
    match i, ho with
    | 0, ho =>
      injection ho with ho
      subst ho
      have e4 := E0 4 (by kernel_rfl)
      simp only [List.getElem?_toArray, List.getElem?_cons_zero, List.getElem?_cons_succ] at e4
      have hK2 := hK g w' (hR.keep (i := 0) (by omega) (Ext.refl _)) (fun _ _ _ => rfl)
      clear hK hR hun ho HF1 HF2 hG hm E0 E1 hdep
      unfold Oper.wp
      simp [execOp, e4, go_sem]
      exact hK2
    | 1, ho =>
      injection ho with ho
      subst ho
      have d1 := hdep ⟨0, .data⟩ (by simp) rfl
      have e4 := E1 0 13 (by decide) (getD_up d1) rfl (by simp)
      simp only [joinV] at e4
      have hK2 := hK g w' (hR.keep (i := 1) (by omega) (Ext.refl _)) (fun _ _ _ => rfl)
      clear hK hR hun ho HF1 HF2 hG hm E0 E1 hdep
      unfold Oper.wp
      simp [execOp, go_sem, *]
      exact hK2
    | 2, ho =>
      injection ho with ho
      subst ho
      have d1 := hdep ⟨1, .data⟩ (by simp) rfl
      have e4 := E1 1 14 (by decide) (getD_up d1) rfl (by simp)
      simp only [joinV, pv] at e4
      have hK2 := fun w2 hx => hK g w2 (hR.keep (i := 2) (by omega) hx) (fun _ _ _ => rfl)
      clear hK hR hun ho HF1 HF2 hG hm E0 E1 hdep
      unfold Oper.wp
      simp [e4, go_sem]
      refine (list_any _ _ _ _).mono ?_
      rintro e w2 ⟨rfl, hx⟩
      exact hK2 w2 hx
    | 3, ho =>
      injection ho with ho
      subst ho
      have e4 := E0 5 (by kernel_rfl)
      simp only [List.getElem?_toArray, List.getElem?_cons_zero, List.getElem?_cons_succ] at e4
      have hK2 := hK g w' (hR.keep (i := 3) (by omega) (Ext.refl _)) (fun _ _ _ => rfl)
      clear hK hR hun ho HF1 HF2 hG hm E0 E1 hdep
      unfold Oper.wp
      simp [execOp, e4, go_sem]
      exact hK2
    | 4, ho =>
      injection ho with ho
      subst ho
      have d1 := hdep ⟨3, .data⟩ (by simp) rfl
      have e4 := E1 3 16 (by decide) (getD_up d1) rfl (by simp)
      simp only [joinV] at e4
      have hK2 := hK g w' (hR.keep (i := 4) (by omega) (Ext.refl _)) (fun _ _ _ => rfl)
      clear hK hR hun ho HF1 HF2 hG hm E0 E1 hdep
      unfold Oper.wp
      simp [execOp, go_sem, *]
      exact hK2
    | 5, ho =>
      injection ho with ho
      subst ho
      have d1 := hdep ⟨4, .data⟩ (by simp) rfl
      have e4 := E1 4 17 (by decide) (getD_up d1) rfl (by simp)
      simp only [joinV, pv] at e4
      have hK2 := fun w2 hx => hK g w2 (hR.keep (i := 5) (by omega) hx) (fun _ _ _ => rfl)
      clear hK hR hun ho HF1 HF2 hG hm E0 E1 hdep
      unfold Oper.wp
      simp [e4, go_sem]
      refine (list_any _ _ _ _).mono ?_
      rintro e w2 ⟨rfl, hx⟩
      exact hK2 w2 hx
    | 6, ho =>
      injection ho with ho
      subst ho
      have e4 := E0 4 (by kernel_rfl)
      simp only [List.getElem?_toArray, List.getElem?_cons_zero, List.getElem?_cons_succ] at e4
      have hK2 := hK g w' (hR.keep (i := 6) (by omega) (Ext.refl _)) (fun _ _ _ => rfl)
      clear hK hR hun ho HF1 HF2 hG hm E0 E1 hdep
      unfold Oper.wp
      simp [execOp, e4, go_sem]
      exact hK2
    | 7, ho =>
      injection ho with ho
      subst ho
      have d1 := hdep ⟨6, .data⟩ (by simp) rfl
      have e4 := E1 6 19 (by decide) (getD_up d1) rfl (by simp)
      simp only [joinV] at e4
      have hK2 := hK g w' (hR.keep (i := 7) (by omega) (Ext.refl _)) (fun _ _ _ => rfl)
      clear hK hR hun ho HF1 HF2 hG hm E0 E1 hdep
      unfold Oper.wp
      simp [execOp, go_sem, *]
      exact hK2
    | 8, ho =>
      injection ho with ho
      subst ho
      have d1 := hdep ⟨7, .data⟩ (by simp) rfl
      have e4 := E1 7 20 (by decide) (getD_up d1) rfl (by simp)
      simp only [joinV, pv] at e4
      have hK2 := fun w2 hx => hK g w2 (hR.keep (i := 8) (by omega) hx) (fun _ _ _ => rfl)
      clear hK hR hun ho HF1 HF2 hG hm E0 E1 hdep
      unfold Oper.wp
      simp [e4, go_sem]
      refine (list_any _ _ _ _).mono ?_
      rintro e w2 ⟨rfl, hx⟩
      exact hK2 w2 hx
    | 9, ho =>
      injection ho with ho
      subst ho
      have e4 := E0 5 (by kernel_rfl)
      simp only [List.getElem?_toArray, List.getElem?_cons_zero, List.getElem?_cons_succ] at e4
      have hK2 := hK g w' (hR.keep (i := 9) (by omega) (Ext.refl _)) (fun _ _ _ => rfl)
      clear hK hR hun ho HF1 HF2 hG hm E0 E1 hdep
      unfold Oper.wp
      simp [execOp, e4, go_sem]
      exact hK2
    | 10, ho =>
      injection ho with ho
      subst ho
      have d1 := hdep ⟨9, .data⟩ (by simp) rfl
      have e4 := E1 9 22 (by decide) (getD_up d1) rfl (by simp)
      simp only [joinV] at e4
      have hK2 := hK g w' (hR.keep (i := 10) (by omega) (Ext.refl _)) (fun _ _ _ => rfl)
      clear hK hR hun ho HF1 HF2 hG hm E0 E1 hdep
      unfold Oper.wp
      simp [execOp, go_sem, *]
      exact hK2
    | 11, ho =>
      injection ho with ho
      subst ho
      have d1 := hdep ⟨10, .data⟩ (by simp) rfl
      have e4 := E1 10 23 (by decide) (getD_up d1) rfl (by simp)
      simp only [joinV, pv] at e4
      have hK2 := fun w2 hx => hK g w2 (hR.keep (i := 11) (by omega) hx) (fun _ _ _ => rfl)
      clear hK hR hun ho HF1 HF2 hG hm E0 E1 hdep
      unfold Oper.wp
      simp [e4, go_sem]
      refine (list_any _ _ _ _).mono ?_
      rintro e w2 ⟨rfl, hx⟩
      exact hK2 w2 hx
    | 12, ho =>
      injection ho with ho
      subst ho
      have hK2 := hK _ _ (hR.lay (i := 12) (by omega) (by omega) hun) (fun j hj hl => by
        have hne : j ≠ 12 := fun e => by subst e; rw [hl] at hun; cases hun
        clear hK ho hdep E0 E1
        unfold joinV
        split <;> first | rfl | simp at hne ⊢)
      clear hK hR hun ho HF1 HF2 hG hm E0 E1 hdep
      unfold Oper.wp
      simp [execOp, go_sem]
      exact hK2
    | 13, ho =>
      injection ho with ho
      subst ho
      have hK2 := hK _ _ (hR.lay (i := 13) (by omega) (by omega) hun) (fun j hj hl => by
        have hne : j ≠ 13 := fun e => by subst e; rw [hl] at hun; cases hun
        clear hK ho hdep E0 E1
        unfold joinV
        split <;> first | rfl | simp at hne ⊢)
      clear hK hR hun ho HF1 HF2 hG hm E0 E1 hdep
      unfold Oper.wp
      simp [execOp, go_sem]
      exact hK2
    | 14, ho =>
      injection ho with ho
      subst ho
      have hK2 := hK _ _ (hR.lay (i := 14) (by omega) (by omega) hun) (fun j hj hl => by
        have hne : j ≠ 14 := fun e => by subst e; rw [hl] at hun; cases hun
        clear hK ho hdep E0 E1
        unfold joinV
        split <;> first | rfl | simp at hne ⊢)
      clear hK hR hun ho HF1 HF2 hG hm E0 E1 hdep
      unfold Oper.wp
      simp [execOp, go_sem]
      exact hK2
    | 15, ho =>
      injection ho with ho
      subst ho
      have hK2 := hK _ _ (hR.lay (i := 15) (by omega) (by omega) hun) (fun j hj hl => by
        have hne : j ≠ 15 := fun e => by subst e; rw [hl] at hun; cases hun
        clear hK ho hdep E0 E1
        unfold joinV
        split <;> first | rfl | simp at hne ⊢)
      clear hK hR hun ho HF1 HF2 hG hm E0 E1 hdep
      unfold Oper.wp
      simp [execOp, go_sem]
      exact hK2
    | 16, ho =>
      injection ho with ho
      subst ho
      have d1 := getD_up (hdep ⟨12, .data⟩ (by simp) rfl)
      have d2 := getD_up (hdep ⟨2, .data⟩ (by simp) rfl)
      have e4 := E1 12 9 (by decide) d1 rfl (by simp)
      have e5 := E1 2 15 (by decide) d2 rfl (by simp)
      simp only [joinV, pv] at e4 e5
      obtain ⟨_, hz⟩ := hR.laid 12 (by omega) (by omega) d1
      rw [if_neg (by rw [hun]; simp)] at hz
      have z0 := hz.cell 0
      have z1 := hz.cell 1
      have z2 := hz.cell 2
      have f0 := hz.frozen 0
      have f1 := hz.frozen 1
      have f2 := hz.frozen 2
      have zl := hz.lt
      simp only [List.getElem?_cons_zero, List.getElem?_cons_succ] at z0 z1 z2
      have hK2 := hK g _ (hR.stored 12 (by omega) (by omega) d1 rfl hun) (fun _ _ _ => rfl)
      clear hK hR ho HF1 HF2 hG hm E0 E1 hdep hz a0 a1 a2 a3 a4 a5 c0 c1 c2 c3 c4 c5
      unfold Oper.wp
      simp [execOp, go_sem, *]
      exact hK2
    | 17, ho =>
      injection ho with ho
      subst ho
      have d1 := getD_up (hdep ⟨13, .data⟩ (by simp) rfl)
      have d2 := getD_up (hdep ⟨5, .data⟩ (by simp) rfl)
      have e4 := E1 13 10 (by decide) d1 rfl (by simp)
      have e5 := E1 5 18 (by decide) d2 rfl (by simp)
      simp only [joinV, pv] at e4 e5
      obtain ⟨_, hz⟩ := hR.laid 13 (by omega) (by omega) d1
      rw [if_neg (by rw [hun]; simp)] at hz
      have z0 := hz.cell 0
      have z1 := hz.cell 1
      have z2 := hz.cell 2
      have f0 := hz.frozen 0
      have f1 := hz.frozen 1
      have f2 := hz.frozen 2
      have zl := hz.lt
      simp only [List.getElem?_cons_zero, List.getElem?_cons_succ] at z0 z1 z2
      have hK2 := hK g _ (hR.stored 13 (by omega) (by omega) d1 rfl hun) (fun _ _ _ => rfl)
      clear hK hR ho HF1 HF2 hG hm E0 E1 hdep hz a0 a1 a2 a3 a4 a5 c0 c1 c2 c3 c4 c5
      unfold Oper.wp
      simp [execOp, go_sem, *]
      exact hK2
    | 18, ho =>
      injection ho with ho
      subst ho
      have d1 := getD_up (hdep ⟨14, .data⟩ (by simp) rfl)
      have d2 := getD_up (hdep ⟨8, .data⟩ (by simp) rfl)
      have e4 := E1 14 11 (by decide) d1 rfl (by simp)
      have e5 := E1 8 21 (by decide) d2 rfl (by simp)
      simp only [joinV, pv] at e4 e5
      obtain ⟨_, hz⟩ := hR.laid 14 (by omega) (by omega) d1
      rw [if_neg (by rw [hun]; simp)] at hz
      have z0 := hz.cell 0
      have z1 := hz.cell 1
      have z2 := hz.cell 2
      have f0 := hz.frozen 0
      have f1 := hz.frozen 1
      have f2 := hz.frozen 2
      have zl := hz.lt
      simp only [List.getElem?_cons_zero, List.getElem?_cons_succ] at z0 z1 z2
      have hK2 := hK g _ (hR.stored 14 (by omega) (by omega) d1 rfl hun) (fun _ _ _ => rfl)
      clear hK hR ho HF1 HF2 hG hm E0 E1 hdep hz a0 a1 a2 a3 a4 a5 c0 c1 c2 c3 c4 c5
      unfold Oper.wp
      simp [execOp, go_sem, *]
      exact hK2
    | 19, ho =>
      injection ho with ho
      subst ho
      have d1 := getD_up (hdep ⟨15, .data⟩ (by simp) rfl)
      have d2 := getD_up (hdep ⟨11, .data⟩ (by simp) rfl)
      have e4 := E1 15 12 (by decide) d1 rfl (by simp)
      have e5 := E1 11 24 (by decide) d2 rfl (by simp)
      simp only [joinV, pv] at e4 e5
      obtain ⟨_, hz⟩ := hR.laid 15 (by omega) (by omega) d1
      rw [if_neg (by rw [hun]; simp)] at hz
      have z0 := hz.cell 0
      have z1 := hz.cell 1
      have z2 := hz.cell 2
      have f0 := hz.frozen 0
      have f1 := hz.frozen 1
      have f2 := hz.frozen 2
      have zl := hz.lt
      simp only [List.getElem?_cons_zero, List.getElem?_cons_succ] at z0 z1 z2
      have hK2 := hK g _ (hR.stored 15 (by omega) (by omega) d1 rfl hun) (fun _ _ _ => rfl)
      clear hK hR ho HF1 HF2 hG hm E0 E1 hdep hz a0 a1 a2 a3 a4 a5 c0 c1 c2 c3 c4 c5
      unfold Oper.wp
      simp [execOp, go_sem, *]
      exact hK2
    | n + 20, ho => simp at ho
  · intro listed g w' hall hR
    have hl : ∀ k, k < 20 → listed.getD k true = true := fun k hk => hall k hk
    rw [fill_done hall]
    clear hall
    obtain ⟨p12, q12⟩ := hR.laid 12 (by omega) (by omega) (hl 12 (by omega))
    obtain ⟨p13, q13⟩ := hR.laid 13 (by omega) (by omega) (hl 13 (by omega))
    obtain ⟨p14, q14⟩ := hR.laid 14 (by omega) (by omega) (hl 14 (by omega))
    obtain ⟨p15, q15⟩ := hR.laid 15 (by omega) (by omega) (hl 15 (by omega))
    rw [if_pos (hl 16 (by omega))] at q12
    rw [if_pos (hl 17 (by omega))] at q13
    rw [if_pos (hl 18 (by omega))] at q14
    rw [if_pos (hl 19 (by omega))] at q15
    have hx := hR.ext
    clear hR hl
    simp only [List.length_cons, List.length_nil, fillAllN, dstOf, joinV, pv, Act.put, List.getElem?_toArray, List.getElem?_cons_zero, List.getElem?_cons_succ, Option.bind_some, joinC] at q12 q13 q14 q15 p12 p13 p14 p15 ⊢
    have hC := ((Ext.refl (((w.alloc _).alloc _).alloc _)).alloc _).alloc _ |>.trans hx
    have hD := ((Ext.refl ((((w.alloc _).alloc _).alloc _).alloc _)).alloc _).trans hx
    have hE := (Ext.refl (((((w.alloc _).alloc _).alloc _).alloc _).alloc _)).trans hx
    have hx0 := (((((Ext.refl w).alloc _).alloc _).alloc _).alloc _).alloc _ |>.trans hx
    have e1 := hC.box 0
    have e2 := hD.box 0
    have r0 := hE.box 0
    have r1 := hE.box 1
    have r2 := hE.box 2
    have r3 := hE.box 3
    have r4 := hE.box 4
    have r5 := hE.box 5
    have z1 := hx.size
    have esz : ∀ (w : World) (o : Obj), (w.alloc o).heap.size = w.heap.size + 1 := fun w o => by simp
    simp only [esz, List.getElem?_toArray, List.getElem?_cons_zero, List.getElem?_cons_succ] at e1 e2 r0 r1 r2 r3 r4 r5 p12 p13 p14 p15 z1
    have hA : Arr w' (w.heap.size + 1 + 1 + 1 + 1) 25 [.int .i64 0, .int .i64 0, .int .i64 0, .int .i64 0, .int .i64 0, .int .i64 0] := by
      have h := (Arr.new ((((w.alloc _).alloc _).alloc _).alloc _) 25 [.int .i64 0, .int .i64 0, .int .i64 0, .int .i64 0, .int .i64 0, .int .i64 0]).ext hx
      simpa only [esz] using h
    generalize g 12 = n12 at *
    generalize g 13 = n13 at *
    generalize g 14 = n14 at *
    generalize g 15 = n15 at *
    clear hC hD hE hx
    have c1 := Lib.hid (fun (k : Nat) (w2 : World) (x : Ext w' w2) => (And.intro ((x.cell (World.block_lt_of_cell? w' _ e1)).trans e1) (And.intro ((q12.ext x).cell k) ((q13.ext x).cell k))))
    have c2 := Lib.hid (fun (k : Nat) (w2 : World) (x : Ext w' w2) => (And.intro ((x.cell (World.block_lt_of_cell? w' _ e2)).trans e2) (And.intro ((q14.ext x).cell k) ((q15.ext x).cell k))))
    have HA := Lib.hid hA
    have HX := Lib.hid hx0
    have h1 := each_any 83 #[.pointer (some ⟨w.heap.size + 1 + 1, 0, none⟩), .pointer (some ⟨n12, 0, none⟩), .pointer (some ⟨n13, 0, none⟩)] (F1 a.lo.x b.lo.x) (F1 a.lo.y b.lo.y) (F1 a.lo.z b.lo.z) w' (fun _ _ => by kernel_rfl)
      (fun w2 x => join1_any 0 (by omega) g1 F1 HF1.out _ _ _ _ _ w2 (c1.out 0 w2 x).1 (c1.out 0 w2 x).2.1 (c1.out 0 w2 x).2.2)
      (fun w2 x => join1_any 1 (by omega) g1 F1 HF1.out _ _ _ _ _ w2 (c1.out 1 w2 x).1 (c1.out 1 w2 x).2.1 (c1.out 1 w2 x).2.2)
      (fun w2 x => join1_any 2 (by omega) g1 F1 HF1.out _ _ _ _ _ w2 (c1.out 2 w2 x).1 (c1.out 2 w2 x).2.1 (c1.out 2 w2 x).2.2)
    have h2 := fun (w1 : World) (x1 : Ext w' w1) => each_any 84 #[.pointer (some ⟨w.heap.size + 1 + 1 + 1, 0, none⟩), .pointer (some ⟨n14, 0, none⟩), .pointer (some ⟨n15, 0, none⟩)] (F2 a.hi.x b.hi.x) (F2 a.hi.y b.hi.y) (F2 a.hi.z b.hi.z) w1 (fun _ _ => by kernel_rfl)
      (fun w2 x => join2_any 0 (by omega) g2 F2 HF2.out _ _ _ _ _ w2 (c2.out 0 w2 (x1.trans x)).1 (c2.out 0 w2 (x1.trans x)).2.1 (c2.out 0 w2 (x1.trans x)).2.2)
      (fun w2 x => join2_any 1 (by omega) g2 F2 HF2.out _ _ _ _ _ w2 (c2.out 1 w2 (x1.trans x)).1 (c2.out 1 w2 (x1.trans x)).2.1 (c2.out 1 w2 (x1.trans x)).2.2)
      (fun w2 x => join2_any 2 (by omega) g2 F2 HF2.out _ _ _ _ _ w2 (c2.out 2 w2 (x1.trans x)).1 (c2.out 2 w2 (x1.trans x)).2.1 (c2.out 2 w2 (x1.trans x)).2.2)
    have H1 := Lib.hid h1
    have H2 := Lib.hid h2
    clear h1 h2 c1 c2 e1 e2 r0 r1 r2 r3 r4 r5 q12 q13 q14 q15 hA hx0 HF1 HF2 hG hm esz
    simp
    go_wp2_with fail
    refine H1.out.mono ?_
    rintro e w1 ⟨rfl, x1⟩
    go_wp2_with fail
    refine (H2.out _ x1).mono ?_
    rintro e w2 ⟨rfl, x2⟩
    have hA := HA.out.ext (x1.trans x2)
    have d0 := hA.cell 0
    have d1 := hA.cell 1
    have d2 := hA.cell 2
    have d3 := hA.cell 3
    have d4 := hA.cell 4
    have d5 := hA.cell 5
    have f0 := hA.frozen 0
    have f1 := hA.frozen 1
    have f2 := hA.frozen 2
    have f3 := hA.frozen 3
    have f4 := hA.frozen 4
    have f5 := hA.frozen 5
    have zl := hA.lt
    simp only [List.getElem?_cons_zero, List.getElem?_cons_succ] at d0 d1 d2 d3 d4 d5
    clear hA
    go_wp2_with fail
    exact bodyPost_ret (v := .agg #[.int .i64 (F1 a.lo.x b.lo.x), .int .i64 (F1 a.lo.y b.lo.y), .int .i64 (F1 a.lo.z b.lo.z), .int .i64 (F2 a.hi.x b.hi.x), .int .i64 (F2 a.hi.y b.hi.y), .int .i64 (F2 a.hi.z b.hi.z)]) (by simp [results, Tryd.results62, go_sem, *]) rfl ⟨rfl, ((((((HX.out.trans (x1.trans x2)).setCell (by simp; omega) _).setCell (by simp; omega) _).setCell (by simp; omega) _).setCell (by simp; omega) _).setCell (by simp; omega) _).setCell (by simp; omega) _⟩
end Go.Proofs.YtelhefjikdoihaaDoor

/- Contracts of the layer of points, on: Intersect, Add, Scale, Sub; and the reference's. -/
namespace Go.Proofs.YtelhefjikdoihaaDoor
open Go Go.RowKit

def zeroPt : Pt := ⟨0, 0, 0⟩
def zeroBx : Bx := ⟨⟨0, 0, 0⟩, ⟨0, 0, 0⟩⟩
def meetB (a b : Bx) : Bx := ⟨⟨max a.lo.x b.lo.x, max a.lo.y b.lo.y, max a.lo.z b.lo.z⟩, ⟨min a.hi.x b.hi.x, min a.hi.y b.hi.y, min a.hi.z b.hi.z⟩⟩
def interB (a b : Bx) : Bx := if emptyB (meetB a b) then zeroBx else meetB a b

def addP (p q : Pt) : Pt := ⟨wrap64 (p.x + q.x), wrap64 (p.y + q.y), wrap64 (p.z + q.z)⟩
def subP (p q : Pt) : Pt := ⟨wrap64 (p.x - q.x), wrap64 (p.y - q.y), wrap64 (p.z - q.z)⟩
def scaleP (p : Pt) (n : Int) : Pt := ⟨wrap64 (n * p.x), wrap64 (n * p.y), wrap64 (n * p.z)⟩
set_option maxHeartbeats 1000000 in
theorem Add_any (p q : Pt) (w : World) :
    Calls Tryd.prog 43 #[.agg #[.int .i64 p.x, .int .i64 p.y, .int .i64 p.z], .agg #[.int .i64 q.x, .int .i64 q.y, .int .i64 q.z]] w fun e w' => e = .returned (.agg #[.int .i64 (addP p q).x, .int .i64 (addP p q).y, .int .i64 (addP p q).z]) ∧ Ext w w' := by
  go_enter Tryd.func43, Tryd.ntmps43
  go_wp2
  refine bodyPost_ret (v := .agg #[.int .i64 (addP p q).x, .int .i64 (addP p q).y, .int .i64 (addP p q).z]) ?_ rfl ?_
  · simp (maxDischargeDepth := 9) only [results, Tryd.results43]
    first
      | (go_simp; done)
      | (go_simp; simp [addP]; done)
      | (simp (maxDischargeDepth := 9) [go_sem, *]; done)
      | (simp (maxDischargeDepth := 9) [go_sem, *]; simp [addP])
  · exact ⟨rfl, (by repeat (first | with_reducible exact Ext.refl _ | with_reducible assumption | with_reducible refine Ext.alloc ?_ _ | with_reducible refine Ext.drew ?_ | (with_reducible refine Ext.setCell ?_ ?_ _; rotate_left; focus (first | (simp; done) | (simp; omega) | omega)) | (with_reducible refine Ext.setRow ?_ ?_ _; rotate_left; focus (first | (simp; done) | (simp; omega) | omega)) | with_reducible refine Ext.trans ?_ (by with_reducible assumption)))⟩
set_option maxHeartbeats 1000000 in
theorem refSub_any (p q : Pt) (w : World) :
    Calls Tryd.prog 65 #[.agg #[.int .i64 p.x, .int .i64 p.y, .int .i64 p.z], .agg #[.int .i64 q.x, .int .i64 q.y, .int .i64 q.z]] w fun e w' => e = .returned (.agg #[.int .i64 (subP p q).x, .int .i64 (subP p q).y, .int .i64 (subP p q).z]) ∧ Ext w w' := by
  go_enter Tryd.func65, Tryd.ntmps65
  go_wp2
  refine bodyPost_ret (v := .agg #[.int .i64 (subP p q).x, .int .i64 (subP p q).y, .int .i64 (subP p q).z]) ?_ rfl ?_
  · simp (maxDischargeDepth := 9) only [results, Tryd.results65]
    first
      | (go_simp; done)
      | (go_simp; simp [subP]; done)
      | (simp (maxDischargeDepth := 9) [go_sem, *]; done)
      | (simp (maxDischargeDepth := 9) [go_sem, *]; simp [subP])
  · exact ⟨rfl, (by repeat (first | with_reducible exact Ext.refl _ | with_reducible assumption | with_reducible refine Ext.alloc ?_ _ | with_reducible refine Ext.drew ?_ | (with_reducible refine Ext.setCell ?_ ?_ _; rotate_left; focus (first | (simp; done) | (simp; omega) | omega)) | (with_reducible refine Ext.setRow ?_ ?_ _; rotate_left; focus (first | (simp; done) | (simp; omega) | omega)) | with_reducible refine Ext.trans ?_ (by with_reducible assumption)))⟩
def emptyR (b : Bx) : Bool := decide (b.lo.x ≥ b.hi.x) || (decide (b.lo.y ≥ b.hi.y) || decide (b.lo.z ≥ b.hi.z))
theorem emptyR_eq (b : Bx) : emptyR b = emptyB b := by
  rw [Bool.eq_iff_iff]; simp [emptyR, emptyB, inP]
set_option maxHeartbeats 1000000 in
theorem refEmpty_any (b : Bx) (w : World) :
    Calls Tryd.prog 79 #[.agg #[.int .i64 b.lo.x, .int .i64 b.lo.y, .int .i64 b.lo.z, .int .i64 b.hi.x, .int .i64 b.hi.y, .int .i64 b.hi.z]] w fun e w' => e = .returned (.bool (emptyB b)) ∧ Ext w w' := by
  rw [← emptyR_eq]
  go_enter Tryd.func79, Tryd.ntmps79
  go_wp2
  all_goals
    go_ret
    refine ⟨ret_bool ?_, (by repeat (first | with_reducible exact Ext.refl _ | with_reducible assumption | with_reducible refine Ext.alloc ?_ _ | with_reducible refine Ext.drew ?_ | (with_reducible refine Ext.setCell ?_ ?_ _; rotate_left; focus (first | (simp; done) | (simp; omega) | omega)) | (with_reducible refine Ext.setRow ?_ ?_ _; rotate_left; focus (first | (simp; done) | (simp; omega) | omega)) | with_reducible refine Ext.trans ?_ (by with_reducible assumption)))⟩
    rw [Bool.eq_iff_iff]
    simp [emptyR]
    try omega
set_option maxHeartbeats 1000000 in
theorem refIn_any (p : Pt) (b : Bx) (w : World) :
    Calls Tryd.prog 26 #[.agg #[.int .i64 p.x, .int .i64 p.y, .int .i64 p.z], .agg #[.int .i64 b.lo.x, .int .i64 b.lo.y, .int .i64 b.lo.z, .int .i64 b.hi.x, .int .i64 b.hi.y, .int .i64 b.hi.z]] w fun e w' => e = .returned (.bool (inP p b)) ∧ Ext w w' := by
  go_enter Tryd.func26, Tryd.ntmps26
  go_wp2
  all_goals
    go_ret
    refine ⟨ret_bool ?_, (by repeat (first | with_reducible exact Ext.refl _ | with_reducible assumption | with_reducible refine Ext.alloc ?_ _ | with_reducible refine Ext.drew ?_ | (with_reducible refine Ext.setCell ?_ ?_ _; rotate_left; focus (first | (simp; done) | (simp; omega) | omega)) | (with_reducible refine Ext.setRow ?_ ?_ _; rotate_left; focus (first | (simp; done) | (simp; omega) | omega)) | with_reducible refine Ext.trans ?_ (by with_reducible assumption)))⟩
    rw [Bool.eq_iff_iff]
    simp [inP]
    try omega
def sizeP (b : Bx) : Pt := if emptyB b then zeroPt else subP b.hi b.lo
def volP (b : Bx) : Int := wrap64 (wrap64 ((sizeP b).x * (sizeP b).y) * (sizeP b).z)
set_option maxHeartbeats 1000000 in
theorem refSize_any (b : Bx) (w : World) :
    Calls Tryd.prog 57 #[.agg #[.int .i64 b.lo.x, .int .i64 b.lo.y, .int .i64 b.lo.z, .int .i64 b.hi.x, .int .i64 b.hi.y, .int .i64 b.hi.z]] w fun e w' => e = .returned (.agg #[.int .i64 (sizeP b).x, .int .i64 (sizeP b).y, .int .i64 (sizeP b).z]) ∧ Ext w w' := by
  have hc := fun w' : World => refEmpty_any b w'
  unfold sizeP
  cases hq : emptyB b
  · rw [hq] at hc
    have HC := Lib.hid hc
    clear hc hq
    simp only [Bool.false_eq_true, if_false]
    go_enter Tryd.func57, Tryd.ntmps57
    go_wp2_with (first | (go_at_call 79; refine (HC.out _).mono ?_; rintro e wx ⟨rfl, xx⟩; obtain ⟨xc, xf, xl, xe, xn, xm⟩ := xx.look; have xz := xx.size; (try simp only [World.size_alloc_] at xz); (try (have qh := xx.one (b := w.heap.size) (by (try simp only [World.size_alloc_]); omega); obtain ⟨qc, qf, ql, qe, qn, qm⟩ := qh)); (try (have qh := xx.one (b := w.heap.size + 1) (by (try simp only [World.size_alloc_]); omega); obtain ⟨qc, qf, ql, qe, qn, qm⟩ := qh)); (try (have qh := xx.one (b := w.heap.size + 1 + 1) (by (try simp only [World.size_alloc_]); omega); obtain ⟨qc, qf, ql, qe, qn, qm⟩ := qh)); (try (have qh := xx.one (b := w.heap.size + 1 + 1 + 1) (by (try simp only [World.size_alloc_]); omega); obtain ⟨qc, qf, ql, qe, qn, qm⟩ := qh))) | (go_at_call 65; refine (refSub_any b.hi b.lo _).mono ?_; rintro e wx ⟨rfl, xx⟩; obtain ⟨xc, xf, xl, xe, xn, xm⟩ := xx.look; have xz := xx.size; (try simp only [World.size_alloc_, World.size_setCell_] at xz); (try (have qh := xx.one (b := w.heap.size) (by (try simp only [World.size_alloc_, World.size_setCell_]); omega); obtain ⟨qc, qf, ql, qe, qn, qm⟩ := qh)); (try (have qh := xx.one (b := w.heap.size + 1) (by (try simp only [World.size_alloc_, World.size_setCell_]); omega); obtain ⟨qc, qf, ql, qe, qn, qm⟩ := qh)); (try (have qh := xx.one (b := w.heap.size + 1 + 1) (by (try simp only [World.size_alloc_, World.size_setCell_]); omega); obtain ⟨qc, qf, ql, qe, qn, qm⟩ := qh)); (try (have qh := xx.one (b := w.heap.size + 1 + 1 + 1) (by (try simp only [World.size_alloc_, World.size_setCell_]); omega); obtain ⟨qc, qf, ql, qe, qn, qm⟩ := qh))))
    refine bodyPost_ret (v := .agg #[.int .i64 (subP b.hi b.lo).x, .int .i64 (subP b.hi b.lo).y, .int .i64 (subP b.hi b.lo).z]) ?_ rfl ?_
    · simp (maxDischargeDepth := 9) only [results, Tryd.results57]
      first
        | (go_simp; done)
        | (go_simp; simp; done)
        | (simp (maxDischargeDepth := 9) [go_sem, *]; done)
        | (simp (maxDischargeDepth := 9) [go_sem, *]; simp)
    · exact ⟨rfl, (by repeat (first | with_reducible exact Ext.refl _ | with_reducible assumption | with_reducible refine Ext.alloc ?_ _ | with_reducible refine Ext.drew ?_ | (with_reducible refine Ext.setCell ?_ ?_ _; rotate_left; focus (first | (simp; done) | (simp; omega) | omega)) | (with_reducible refine Ext.setRow ?_ ?_ _; rotate_left; focus (first | (simp; done) | (simp; omega) | omega)) | with_reducible refine Ext.trans ?_ (by with_reducible assumption)))⟩
  · rw [hq] at hc
    have HC := Lib.hid hc
    clear hc hq
    simp only [if_true]
    go_enter Tryd.func57, Tryd.ntmps57
    go_wp2_with (first | (go_at_call 79; refine (HC.out _).mono ?_; rintro e wx ⟨rfl, xx⟩; obtain ⟨xc, xf, xl, xe, xn, xm⟩ := xx.look; have xz := xx.size; (try simp only [World.size_alloc_] at xz); (try (have qh := xx.one (b := w.heap.size) (by (try simp only [World.size_alloc_]); omega); obtain ⟨qc, qf, ql, qe, qn, qm⟩ := qh)); (try (have qh := xx.one (b := w.heap.size + 1) (by (try simp only [World.size_alloc_]); omega); obtain ⟨qc, qf, ql, qe, qn, qm⟩ := qh)); (try (have qh := xx.one (b := w.heap.size + 1 + 1) (by (try simp only [World.size_alloc_]); omega); obtain ⟨qc, qf, ql, qe, qn, qm⟩ := qh)); (try (have qh := xx.one (b := w.heap.size + 1 + 1 + 1) (by (try simp only [World.size_alloc_]); omega); obtain ⟨qc, qf, ql, qe, qn, qm⟩ := qh))))
    refine bodyPost_ret (v := .agg #[.int .i64 zeroPt.x, .int .i64 zeroPt.y, .int .i64 zeroPt.z]) ?_ rfl ?_
    · simp (maxDischargeDepth := 9) only [results, Tryd.results57]
      first
        | (go_simp; done)
        | (go_simp; simp [zeroPt]; done)
        | (simp (maxDischargeDepth := 9) [go_sem, *]; done)
        | (simp (maxDischargeDepth := 9) [go_sem, *]; simp [zeroPt])
    · exact ⟨rfl, (by repeat (first | with_reducible exact Ext.refl _ | with_reducible assumption | with_reducible refine Ext.alloc ?_ _ | with_reducible refine Ext.drew ?_ | (with_reducible refine Ext.setCell ?_ ?_ _; rotate_left; focus (first | (simp; done) | (simp; omega) | omega)) | (with_reducible refine Ext.setRow ?_ ?_ _; rotate_left; focus (first | (simp; done) | (simp; omega) | omega)) | with_reducible refine Ext.trans ?_ (by with_reducible assumption)))⟩
set_option maxHeartbeats 1000000 in
theorem refVolume_any (b : Bx) (w : World) :
    Calls Tryd.prog 47 #[.agg #[.int .i64 b.lo.x, .int .i64 b.lo.y, .int .i64 b.lo.z, .int .i64 b.hi.x, .int .i64 b.hi.y, .int .i64 b.hi.z]] w fun e w' => e = .returned (.int .i64 (volP b)) ∧ Ext w w' := by
  go_enter Tryd.func47, Tryd.ntmps47
  go_wp2_with (first | (go_at_call 57; refine (refSize_any b _).mono ?_; rintro e wx ⟨rfl, xx⟩; obtain ⟨xc, xf, xl, xe, xn, xm⟩ := xx.look; have xz := xx.size; (try simp only [World.size_alloc_] at xz); (try (have qh := xx.one (b := w.heap.size) (by (try simp only [World.size_alloc_]); omega); obtain ⟨qc, qf, ql, qe, qn, qm⟩ := qh)); (try (have qh := xx.one (b := w.heap.size + 1) (by (try simp only [World.size_alloc_]); omega); obtain ⟨qc, qf, ql, qe, qn, qm⟩ := qh)); (try (have qh := xx.one (b := w.heap.size + 1 + 1) (by (try simp only [World.size_alloc_]); omega); obtain ⟨qc, qf, ql, qe, qn, qm⟩ := qh)); (try (have qh := xx.one (b := w.heap.size + 1 + 1 + 1) (by (try simp only [World.size_alloc_]); omega); obtain ⟨qc, qf, ql, qe, qn, qm⟩ := qh))))
  go_ret
  exact ⟨rfl, (by repeat (first | with_reducible exact Ext.refl _ | with_reducible assumption | with_reducible refine Ext.alloc ?_ _ | with_reducible refine Ext.drew ?_ | (with_reducible refine Ext.setCell ?_ ?_ _; rotate_left; focus (first | (simp; done) | (simp; omega) | omega)) | (with_reducible refine Ext.setRow ?_ ?_ _; rotate_left; focus (first | (simp; done) | (simp; omega) | omega)) | with_reducible refine Ext.trans ?_ (by with_reducible assumption)))⟩
end Go.Proofs.YtelhefjikdoihaaDoor
