/- YtcfebfblmmbeaaaDoorRegion · YtcfebfblmmbeaaaDoorBase · YtcfebfblmmbeaaaDoorOwn · YtcfebfblmmbeaaaDoorRead · YtcfebfblmmbeaaaDoorPt · YtcfebfblmmbeaaaDoorArr · YtcfebfblmmbeaaaDoorPu · YtcfebfblmmbeaaaDoorPv · YtcfebfblmmbeaaaDoorInv · YtcfebfblmmbeaaaDoorTab · YtcfebfblmmbeaaaDoorPw · YtcfebfblmmbeaaaDoorPy -/
import Derived.Test.YtcfebfblmmbeaaaDoorRows
import Derived.WalkKit
import Derived.Deep.QuietTactic
import Derived.StillTail
import Derived.Laws.OwnMore
import Derived.WalkSpells
import Derived.WalkLawsBesides
import Derived.BigQuiet
import Derived.Lib.Hide
import Derived.IntWalk
import Derived.Shelf.Abstract
import Derived.Laws.CopyOwn
import Derived.Laws.AppendOwnNone
import Derived.ProofKit
import Derived.Lib.SmallJoins
import Derived.Deep.Slices
import Derived.OpenShut
import Derived.Lib.MinMax
/- A region that draws its order: a head of operations that leave every world of a class in the class and yield one value each, and a tail in one forced order. For every class of worlds, head and tail. -/
namespace Go.Proofs.YtcfebfblmmbeaaaDoor
open Go Go.RowKit

section
variable {P : Program} {ops : Array Oper} {md : Region.Mode} {C : World → Prop}

/-- The head's walk, whatever order is picked: every operation that may come up lies in the head and is quiet in the class. -/
def headQ (P : Program) (md : Region.Mode) (ops : Array Oper) (C : World → Prop) (n : Nat) (L : Array Bool → Act → Prop) : Nat → Array Bool → Act → Prop
  | 0, listed, a => L listed a
  | f + 1, listed, a =>
    Region.ready md ops listed ≠ [] ∧ ∀ i ∈ Region.ready md ops listed, i < n ∧ qOp P ops C i (headQ P md ops C n L f (listed.setIfInBounds i true)) a

theorem wpAny_of_headQ {n g : Nat} {L : Array Bool → Act → Prop} {Q' : Exit → Act → World → Prop} (hL : ∀ listed a w, C w → L listed a → wpAny P md ops Q' g listed a w) :
    ∀ (f : Nat) (listed : Array Bool) (a : Act) (w : World), C w → headQ P md ops C n L f listed a → wpAny P md ops Q' (f + g) listed a w
  | 0, listed, a, w, hw, h => by rw [Nat.zero_add]; exact hL _ _ _ hw h
  | f + 1, listed, a, w, hw, h => by
    rw [show f + 1 + g = (f + g) + 1 by omega]
    exact ⟨fun h0 => absurd h0 h.1, fun i hi => wpOp_of_qOp hw (fun a' w' hw' h' => wpAny_of_headQ hL f _ a' w' hw' h') (h.2 i hi).2⟩

theorem headQ_first {n i : Nat} {oi : Oper} {v : Value} {L : Array Bool → Act → Prop} (hi : ops[i]? = some oi) (hsel : ∀ (j : Nat) (o : Oper) cs b, ops[j]? = some o → o.op ≠ .select cs b)
    (hs : Region.sinkB md ops n = true) (hc : Region.chainB md ops n = true) (hn : n < ops.size) (hin : i < n)
    (hdone : ∀ listed a, L listed a → ∀ j ∈ Region.ready md ops listed, n ≤ j) :
    ∀ (f : Nat) (listed : Array Bool) (a : Act), HeadInv md ops n listed →
      (∀ j oj, ops[j]? = some oj → j ≠ i → listed.getD j true = false → (∀ e ∈ oj.after, Region.binds md e = true → e.on ≠ i) → oi.apart ops oj = true) →
      i ∈ Region.ready md ops listed → YieldsIn P ops C oi v a →
      headQ P md ops C n L f (listed.setIfInBounds i true) (a.put oi.dst v) → headQ P md ops C n L (f + 1) listed a := by
  intro f
  induction f with
  | zero =>
    intro listed a inv _ hr hy H
    refine ⟨fun h => (by rw [h] at hr; cases hr), fun j hj => ?_⟩
    have hjn : j < n := (Nat.lt_or_ge j n).resolve_right fun h => absurd hj (tail_waits hs hc hn inv _ i rfl hin (mem_ready.1 hr).1 j h)
    refine ⟨hjn, ?_⟩
    by_cases hji : j = i
    · subst hji; exact hy.qOp hi H
    · have := hdone _ _ H j (ready_mono hj hji)
      omega
  | succ f ih =>
    intro listed a inv hfree hr hy H
    have hun := (mem_ready.1 hr).1
    refine ⟨fun h => (by rw [h] at hr; cases hr), fun j hj => ?_⟩
    have hjn : j < n := (Nat.lt_or_ge j n).resolve_right fun h => absurd hj (tail_waits hs hc hn inv _ i rfl hin hun j h)
    refine ⟨hjn, ?_⟩
    by_cases hji : j = i
    · subst hji; exact hy.qOp hi H
    · have h1 := (H.2 j (ready_mono hj hji)).2
      obtain ⟨hjun, oj, hoj, hall⟩ := mem_ready.1 hj
      have hnot : ∀ e ∈ oj.after, Region.binds md e = true → e.on ≠ i := fun e he hb heq => by
        have h1 := hall e he hb
        rw [heq, getD_both hun] at h1
        cases h1
      have h2 := qOp_put hoj (hfree j oj hoj hji hjun hnot) (fun cs b => hsel i oi cs b hi) (fun cs b => hsel j oj cs b hoj) hy h1
      have hfree' : ∀ k ok, ops[k]? = some ok → k ≠ i → (listed.setIfInBounds j true).getD k true = false →
          (∀ e ∈ ok.after, Region.binds md e = true → e.on ≠ i) → oi.apart ops ok = true := fun k ok hk hki hun hno => by
        refine hfree k ok hk hki ?_ hno
        by_cases hjk : j = k
        · subst hjk; exact hjun
        · rw [getD_set_ne true hjk] at hun; exact hun
      refine qOp_mono (fun a' h3 => ih (listed.setIfInBounds j true) a' (inv.set hj hjn) hfree' (ready_mono hr (Ne.symm hji)) h3.1 ?_) h2
      rw [Array.setIfInBounds_comm _ _ hji]
      exact h3.2

theorem headQ_lex {n g : Nat} {Lq : Act → Prop} (hsel : Region.noSelect ops = true) (hs : Region.sinkB md ops n = true) (hc : Region.chainB md ops n = true) (hn : n < ops.size) :
    ∀ (l : List Oper) (k : Nat) (listed : Array Bool) (a : Act), (∀ j, j < l.length → l[j]? = ops[k + j]?) → k + l.length = n → HeadInv md ops n listed →
    Region.lexHead md ops g l.length k listed = true → wpQuiet P ops C Lq l a →
    headQ P md ops C n (fun listed' a' => Region.seqB md ops g n listed' = true ∧ Lq a') l.length listed a
  | [], k, listed, a, _, hk, _, hB, h => by
    obtain rfl : k = n := by simpa using hk
    exact ⟨by simpa [Region.lexHead] using hB, h⟩
  | o :: l, k, listed, a, hl, hk, inv, hB, h => by
    have h0 : ops[k]? = some o := by simpa using (hl 0 (by simp)).symm
    simp only [List.length_cons, Region.lexHead, Bool.and_eq_true] at hB
    obtain ⟨⟨hr, hf⟩, hB'⟩ := hB
    have hkn : k < n := by simp only [List.length_cons] at hk; omega
    have hr' : k ∈ Region.ready md ops listed := by simpa using hr
    have hst : qOp P ops C k (wpQuiet P ops C Lq l) a := by unfold qOp; simp only [h0]; exact h
    obtain ⟨v, hy, hK⟩ := yieldsIn_of_qOp h0 hst
    exact headQ_first h0 (Region.noSelect_spec hsel) hs hc hn hkn (fun listed' a' hL => seqB_ready hL.1) l.length listed a inv (Region.free_spec h0 hf) hr' hy
      (headQ_lex hsel hs hc hn l (k + 1) _ _ (fun j hj => by have := hl (j + 1) (by simp; omega); simpa [Nat.add_assoc, Nat.add_comm 1 j] using this) (by simp only [List.length_cons] at hk; omega) (inv.set hr' hkn) hB' hK)

theorem wp_region_head {id : Nat} {Q : Exit → Act → World → Prop} {a : Act} {w : World} {l : List Oper} (n : Nat) (hm : P.follows .mixedOrders = true) (hB : Region.lexTailB .any l.toArray n = true) (hC : C w.drew)
    (h : wpQuiet P l.toArray C (fun a' => ∀ w', C w' → wpList P l.toArray Q (l.drop n) a' w') (l.take n) a) : (Code.region id l.toArray true).wp P Q a w := by
  simp only [Region.lexTailB, Bool.and_eq_true, decide_eq_true_eq] at hB
  obtain ⟨⟨⟨⟨hsel, hn⟩, hs⟩, hc⟩, hlex⟩ := hB
  have hn' : n < l.length := by simpa using hn
  have htl : (l.take n).length = n := by simp; omega
  have hdl : (l.drop n).length = l.toArray.size - n := by simp
  have inv0 : HeadInv .any l.toArray n (Array.replicate l.toArray.size false) :=
    ⟨by simp, fun j oj _ hl => (by rw [getD_replicate_false] at hl; cases hl), fun t _ ht => getD_in (by simpa using ht) (getD_replicate_false _ _)⟩
  have H := headQ_lex (md := .any) (g := l.toArray.size - n) hsel hs hc hn (l.take n) 0 _ a (fun j hj => by
    have hj' : j < n := by rw [htl] at hj; exact hj
    simp [hj']) (by simpa using htl) inv0 (by rw [htl]; exact hlex) h
  refine wp_region_any hm ?_
  have := wpAny_of_headQ (Q' := Q) (g := l.toArray.size - n) (fun listed a' w' hw' hL => by
    have := wpAny_of_seq (md := .any) (Q' := Q) (l.drop n) n listed a' w' (fun j => by simp [List.getElem?_drop]) (by rw [hdl]; exact hL.1) (hL.2 _ hw')
    rwa [hdl] at this) _ _ _ w.drew hC H
  rw [htl, show n + (l.toArray.size - n) = l.toArray.size by omega] at this
  exact this
end

/-- The world w with other draws made and the blocks os laid behind it. -/
def near (w : World) (n : Nat) (os : Array Obj) : World := { w with heap := w.heap ++ os, drawn := n }
/-- How far a world of the class is from w. -/
structure Near where
  n : Nat
  os : Array Obj
  deriving Inhabited
theorem near_drew (w : World) : near w (w.drawn + 1) #[] = w.drew := by unfold near World.drew; rw [Array.append_empty]
theorem near_old (w : World) (n : Nat) (os : Array Obj) (b o : Nat) (h : b < w.heap.size) : (near w n os).cell? ⟨b, o, none⟩ = w.cell? ⟨b, o, none⟩ := by
  simp only [World.cell?, near, Array.getElem?_append, h, if_true]
theorem near_obj (w : World) (n : Nat) (os : Array Obj) (b : Nat) (h : b < w.heap.size) : (near w n os).heap[b]? = w.heap[b]? := by
  simp only [near, Array.getElem?_append, h, if_true]

/-- A region of operations that are quiet in the class of the worlds near w. -/
theorem wp_region_near {P : Program} {id : Nat} {Q : Exit → Act → World → Prop} {a : Act} {w : World} {l : List Oper} (hm : P.follows .mixedOrders = true) (hB : Region.lexB .any l.toArray = true)
    (h : wpQuiet P l.toArray (fun w' => ∃ p : Near, w' = near w p.n p.os) (fun a' => ∀ w', (∃ p : Near, w' = near w p.n p.os) → Q .normal a' w') l a) : (Code.region id l.toArray true).wp P Q a w :=
  wp_region_quiet (C := fun w' => ∃ p : Near, w' = near w p.n p.os) hm hB ⟨⟨w.drawn + 1, #[]⟩, (near_drew w).symm⟩ (by simpa using h)
/-- .. with a tail in one forced order. -/
theorem wp_region_near_tail {P : Program} {id : Nat} {Q : Exit → Act → World → Prop} {a : Act} {w : World} {l : List Oper} (n : Nat) (hm : P.follows .mixedOrders = true) (hB : Region.lexTailB .any l.toArray n = true)
    (h : wpQuiet P l.toArray (fun w' => ∃ p : Near, w' = near w p.n p.os) (fun a' => ∀ w', (∃ p : Near, w' = near w p.n p.os) → wpList P l.toArray Q (l.drop n) a' w') (l.take n) a) : (Code.region id l.toArray true).wp P Q a w :=
  wp_region_head n hm hB ⟨⟨w.drawn + 1, #[]⟩, (near_drew w).symm⟩ h

/-- The world w' is w with draws made and blocks laid behind it: nothing that was there has turned. -/
structure Ext (w w' : World) : Prop where
  below : Below w.heap.size w w'
theorem Ext.refl (w : World) : Ext w w := ⟨Below.refl _ _⟩
theorem Ext.trans {a b c : World} (h : Ext a b) (k : Ext b c) : Ext a c := ⟨h.below.trans (k.below.mono h.below.size)⟩
theorem Ext.drew {a w : World} (h : Ext a w) : Ext a w.drew := ⟨h.below.drew⟩
theorem Ext.drewN {a w : World} (h : Ext a w) (n : Nat) : Ext a (w.drewN n) := ⟨⟨h.below.os, h.below.tape, h.below.output, h.below.size, h.below.block⟩⟩
theorem Ext.alloc {a w : World} (h : Ext a w) (o : Obj) : Ext a (w.alloc o) := ⟨h.below.alloc h.below.size o⟩
theorem Ext.setCell {a w : World} (h : Ext a w) {p : Addr} (hp : a.heap.size ≤ p.block) (u : Value) : Ext a (w.setCell p u) := ⟨h.below.setCell hp u⟩
theorem Ext.grown {a w w' : World} {row : Option Nat} (h : Ext a w) (hg : w.grownBy w' row) (hr : ∀ k, row = some k → a.heap.size ≤ k) : Ext a w' := ⟨h.below.grown hg h.below.size hr⟩
theorem Ext.of_near {w w' : World} (h : ∃ p : Near, w' = near w p.n p.os) : Ext w w' := by
  obtain ⟨⟨n, os⟩, rfl⟩ := h
  exact ⟨⟨rfl, rfl, rfl, by simp [near], fun k hk => near_obj w n os k hk⟩⟩
theorem Ext.near {w w' : World} (h : Ext w w') : ∃ p : Near, w' = Go.Proofs.YtcfebfblmmbeaaaDoor.near w p.n p.os := by
  refine ⟨⟨w'.drawn, w'.heap.extract w.heap.size w'.heap.size⟩, ?_⟩
  have h1 : w'.heap = w.heap ++ w'.heap.extract w.heap.size w'.heap.size := by
    apply Array.ext_getElem?
    intro k
    rw [Array.getElem?_append]
    split
    · exact h.below.block k (by assumption)
    · have := h.below.size
      rw [Array.getElem?_extract]
      split
      · congr 1; omega
      · rw [Array.getElem?_eq_none]; omega
  have h3 := h.below.os
  have h4 := h.below.tape
  have h5 := h.below.output
  cases w; cases w'
  simp only [Go.Proofs.YtcfebfblmmbeaaaDoor.near] at *
  subst h3 h4 h5
  congr 1
theorem Ext.cell {w w' : World} (h : Ext w w') {p : Addr} (hp : p.block < w.heap.size) : w'.cell? p = w.cell? p := h.below.cell hp
/-- Block number w.heap.size of a world behind 'w.alloc (.cells cs t)': its cells. -/
theorem Ext.box {w w' : World} {cs : Array Value} {t : TypeId} {m : Nat × Nat} (h : Ext (w.alloc (.cells cs t m)) w') (i : Nat) : w'.cell? ⟨w.heap.size, i, none⟩ = cs[i]? := by
  rw [h.cell (by simp)]
  exact cell_of_row _ _ _ _ _ _ (heap_alloc_new w _)
theorem Ext.look {w w' : World} (h : Ext w w') : (∀ b o, b < w.heap.size → w'.cell? ⟨b, o, none⟩ = w.cell? ⟨b, o, none⟩) ∧ (∀ b o, b < w.heap.size → w'.frozen? ⟨b, o, none⟩ = w.frozen? ⟨b, o, none⟩) ∧
    (∀ b, b < w.heap.size → b < w'.heap.size) ∧ (∀ b, b < w.heap.size → b ≤ w'.heap.size) ∧ (∀ b, b < w.heap.size → ¬ (b = w'.heap.size)) ∧ (∀ b, b < w.heap.size → ¬ (w'.heap.size = b)) :=
  ⟨fun b o k => h.below.cell (p := ⟨b, o, none⟩) k, fun b o k => h.below.frozen (p := ⟨b, o, none⟩) k, fun b k => by have := h.below.size; omega, fun b k => by have := h.below.size; omega,
    fun b k => by have := h.below.size; omega, fun b k => by have := h.below.size; omega⟩
theorem Ext.one {w w' : World} (h : Ext w w') {b : Nat} (hb : b < w.heap.size) : (∀ o, w'.cell? ⟨b, o, none⟩ = w.cell? ⟨b, o, none⟩) ∧ (∀ o, w'.frozen? ⟨b, o, none⟩ = w.frozen? ⟨b, o, none⟩) ∧
    b < w'.heap.size ∧ b ≤ w'.heap.size ∧ ¬ (b = w'.heap.size) ∧ ¬ (w'.heap.size = b) :=
  ⟨fun o => h.look.1 b o hb, fun o => h.look.2.1 b o hb, h.look.2.2.1 b hb, h.look.2.2.2.1 b hb, h.look.2.2.2.2.1 b hb, h.look.2.2.2.2.2 b hb⟩
theorem _root_.Go.World.size_setCell_ (w : World) (p : Addr) (v : Value) : (w.setCell p v).heap.size = w.heap.size := by simp [World.setCell]
theorem _root_.Go.World.size_alloc_ (w : World) (o : Obj) : (w.alloc o).heap.size = w.heap.size + 1 := by simp
theorem Ext.size {w w' : World} (h : Ext w w') : w.heap.size ≤ w'.heap.size := h.below.size
theorem Ext.size1 {w w' : World} {o : Obj} (h : Ext (w.alloc o) w') : w.heap.size < w'.heap.size := by have := h.below.size; simp at this; omega
theorem Ext.un {w w' : World} {o : Obj} (h : Ext (w.alloc o) w') : Ext w w' := ((Ext.refl w).alloc o).trans h
/-- A callee's contract, met in a world of the class: one step on. -/
theorem near_call {P : Program} {f : FuncId} {args : Array Value} {w : World} {n : Nat} {os : Array Obj} {v : Value}
    (h : Calls P f args (near w n os) fun e w' => e = .returned v ∧ Ext (near w n os) w') : Calls P f args (near w n os) fun e w'' => e = .returned v ∧ ∃ p : Near, w'' = near w p.n p.os :=
  h.mono fun _ _ ⟨he, hx⟩ => ⟨he, ((Ext.of_near ⟨⟨n, os⟩, rfl⟩).trans hx).near⟩
theorem near_same {P : Program} {f : FuncId} {args : Array Value} {w : World} {n : Nat} {os : Array Obj} {v : Value}
    (h : Calls P f args (near w n os) fun e w' => e = .returned v ∧ near w n os = w') : Calls P f args (near w n os) fun e w'' => e = .returned v ∧ ∃ p : Near, w'' = near w p.n p.os :=
  h.mono fun _ _ ⟨he, hx⟩ => ⟨he, ⟨⟨n, os⟩, hx.symm⟩⟩
end Go.Proofs.YtcfebfblmmbeaaaDoor

/- Words for memory: a slice that reads as a list of rows of cells, nil let in; kept while memory below a block number stands. -/
namespace Go.Proofs.YtcfebfblmmbeaaaDoor
open Go.RowKit

theorem flatten_at {k : Nat} : ∀ (xs : List (List Value)), (∀ x, x ∈ xs → x.length = k) → ∀ (i : Nat) (x : List Value), xs[i]? = some x → ∀ j u, x[j]? = some u → xs.flatten[i * k + j]? = some u
  | [], _, i, x, hx, _, _, _ => by simp at hx
  | y :: ys, h, 0, x, hx, j, u, hu => by
    simp only [List.getElem?_cons_zero, Option.some.injEq] at hx
    subst hx
    have hj : j < y.length := (List.getElem?_eq_some_iff.1 hu).1
    rw [List.flatten_cons, Nat.zero_mul, Nat.zero_add, List.getElem?_append_left hj]
    exact hu
  | y :: ys, h, i + 1, x, hx, j, u, hu => by
    have hy := h y (List.mem_cons_self ..)
    rw [List.flatten_cons, List.getElem?_append_right (by rw [hy, Nat.succ_mul]; omega), hy, show (i + 1) * k + j - k = i * k + j by rw [Nat.succ_mul]; omega]
    exact flatten_at ys (fun z hz => h z (List.mem_cons_of_mem _ hz)) i x (by simpa using hx) j u hu
theorem flatten_length {k : Nat} : ∀ (xs : List (List Value)), (∀ x, x ∈ xs → x.length = k) → xs.flatten.length = xs.length * k
  | [], _ => by simp
  | y :: ys, h => by
    rw [List.flatten_cons, List.length_append, flatten_length ys (fun z hz => h z (List.mem_cons_of_mem _ hz)), h y (List.mem_cons_self ..), List.length_cons, Nat.succ_mul]; omega

/-- Rows of k ints each. -/
def Rws (k : Nat) (xs : List (List Value)) : Prop := ∀ x, x ∈ xs → ∃ l : List Int, l.length = k ∧ x = l.map (Value.int .i64)
theorem Rws.len {k : Nat} {xs : List (List Value)} (h : Rws k xs) : ∀ x, x ∈ xs → x.length = k := fun x hx => by
  obtain ⟨l, h1, rfl⟩ := h x hx
  simpa using h1
theorem Rws.one {k : Nat} {xs : List (List Value)} (h : Rws k xs) : ∀ u, u ∈ xs.flatten → u.oneCell' = true := fun u hu => by
  obtain ⟨x, hx, hu⟩ := List.mem_flatten.1 hu
  obtain ⟨l, _, rfl⟩ := h x hx
  obtain ⟨n, _, rfl⟩ := List.mem_map.1 hu
  rfl
theorem Rws.sub {k : Nat} {xs ys : List (List Value)} (h : Rws k xs) (hs : ∀ x, x ∈ ys → x ∈ xs) : Rws k ys := fun x hx => h x (hs x hx)
theorem Rws.set {k : Nat} {xs : List (List Value)} (h : Rws k xs) {i : Nat} {x : List Value} (hx : ∃ l : List Int, l.length = k ∧ x = l.map (Value.int .i64)) : Rws k (xs.set i x) := fun y hy => by
  rcases List.mem_or_eq_of_mem_set hy with h1 | rfl
  · exact h y h1
  · exact hx
theorem Rws.row3 {xs : List (List Value)} (h : Rws 3 xs) {x : List Value} (hx : x ∈ xs) : ∃ a b c : Int, x = [.int .i64 a, .int .i64 b, .int .i64 c] := by
  obtain ⟨l, h1, rfl⟩ := h x hx
  match l, h1 with
  | [a, b, c], _ => exact ⟨a, b, c, rfl⟩

/-- The slice value with address A, length xs.length and capacity c holds rows of k cells each; its block lies below B. -/
structure Sl (w : World) (B k : Nat) (A : Option Addr) (c : Nat) (xs : List (List Value)) : Prop where
  le : xs.length ≤ c
  max : c ≤ maxLen
  rows : Rws k xs
  mem : 0 < xs.length → ∃ b off, A = some ⟨b, off, none⟩ ∧ b < B ∧ ∀ (j : Nat) (u : Value), xs.flatten[j]? = some u → w.cell? ⟨b, off + j, none⟩ = some u

section
variable {w w' : World} {B B' k c : Nat} {A : Option Addr} {xs : List (List Value)}
theorem Sl.keep (h : Sl w B k A c xs) (hk : ∀ p : Addr, p.block < B → w'.cell? p = w.cell? p) : Sl w' B k A c xs :=
  ⟨h.le, h.max, h.rows, fun hn => by
    obtain ⟨b, off, e, hb, hc⟩ := h.mem hn
    exact ⟨b, off, e, hb, fun j u hu => (hk _ hb).trans (hc j u hu)⟩⟩
theorem Sl.more (h : Sl w B k A c xs) (hB : B ≤ B') : Sl w B' k A c xs :=
  ⟨h.le, h.max, h.rows, fun hn => by
    obtain ⟨b, off, e, hb, hc⟩ := h.mem hn
    exact ⟨b, off, e, by omega, hc⟩⟩
theorem Sl.below (h : Sl w B k A c xs) (hb : Below B w w') : Sl w' B k A c xs := h.keep fun _ hp => hb.cell hp
theorem Sl.drew (h : Sl w B k A c xs) : Sl w.drew B k A c xs := ⟨h.le, h.max, h.rows, h.mem⟩
theorem Sl.drewN (h : Sl w B k A c xs) (n : Nat) : Sl (w.drewN n) B k A c xs := ⟨h.le, h.max, h.rows, h.mem⟩
theorem Sl.alloc (h : Sl w B k A c xs) (hB : B ≤ w.heap.size) (o : Obj) : Sl (w.alloc o) B k A c xs := h.keep fun p hp => World.cell?_alloc_lt w o p (by omega)
theorem Sl.setCell (h : Sl w B k A c xs) {p : Addr} (hB : B ≤ p.block) (u : Value) : Sl (w.setCell p u) B k A c xs :=
  h.keep fun q hq => World.cell?_setCell_other w p q u (fun e => by subst e; omega)
theorem Sl.ext (h : Sl w B k A c xs) (hx : Ext w w') (hB : B ≤ w.heap.size) : Sl w' B k A c xs := h.below (hx.below.mono hB)
theorem Sl.nil (w : World) (B k : Nat) : Sl w B k none 0 [] := ⟨by simp, by simp, fun _ h => by simp at h, fun h => absurd h (by simp)⟩
theorem Sl.len (h : Sl w B k A c xs) : xs.length ≤ 9223372036854775807 := by have h1 := h.le; have h2 := h.max; unfold maxLen at h2; omega
/-- Row i of a slice of rows of three cells. -/
theorem Sl.at3 (h : Sl w B 3 A c xs) {i : Nat} {u0 u1 u2 : Value} (hx : xs[i]? = some [u0, u1, u2]) :
    ∃ b off, A = some ⟨b, off, none⟩ ∧ b < B ∧ w.cell? ⟨b, off + i * 3, none⟩ = some u0 ∧ w.cell? ⟨b, off + i * 3 + 1, none⟩ = some u1 ∧ w.cell? ⟨b, off + i * 3 + 2, none⟩ = some u2 := by
  obtain ⟨b, off, e, hb, hc⟩ := h.mem (by have := (List.getElem?_eq_some_iff.1 hx).1; omega)
  have hf := flatten_at xs h.rows.len i _ hx
  exact ⟨b, off, e, hb, hc _ _ (hf 0 u0 rfl), by rw [Nat.add_assoc]; exact hc _ _ (hf 1 u1 rfl), by rw [Nat.add_assoc]; exact hc _ _ (hf 2 u2 rfl)⟩
end
end Go.Proofs.YtcfebfblmmbeaaaDoor

/- Memory of the call's own: rows of k cells each; copy, clear, stores; what an owned row reads as. For every program. -/
namespace Go.Proofs.YtcfebfblmmbeaaaDoor
open Go Go.RowKit

section
variable {w w' : World} {base B k n c g : Nat} {e : TypeId} {A : Option Addr} {v : Value} {xs : List (List Value)}
/-- An owned row, read. -/
theorem Sl.of_own (h : w.ownsRow base e k (.slice A n c) n xs.flatten) (hr : Rws k xs) (hn : xs.length = n) : Sl w w.heap.size k A c xs := by
  subst hn
  rcases h.2 with ⟨h1, h2⟩ | ⟨g, cap, cur, hv, hg, hgg, hle, hmax, hsz, htk⟩
  · have hx : xs = [] := List.eq_nil_of_length_eq_zero h2
    subst hx
    injection h1 with _ _ hc
    subst hc
    exact ⟨by simp, by simp, hr, fun h => absurd h (by simp)⟩
  · injection hv with hA _ hc
    subst hA hc
    refine ⟨hle, hmax, hr, fun _ => ⟨g, 0, rfl, (Array.getElem?_eq_some_iff.1 hgg).1, fun j u h3 => ?_⟩⟩
    rw [Nat.zero_add, cell_of_row w g _ cur e (0, 0) hgg]
    rw [← htk, List.getElem?_take] at h3
    split at h3
    · simpa using h3
    · cases h3
/-- The owned row's form. -/
theorem own_form (h : w.ownsRow base e k v n (xs.flatten)) : ∃ A c, v = .slice A n c ∧ n ≤ c ∧ c ≤ maxLen := by
  rcases h.2 with ⟨rfl, rfl⟩ | ⟨g, cap, cur, rfl, _, _, hle, hmax, _⟩
  · exact ⟨none, 0, rfl, Nat.le_refl _, by simp⟩
  · exact ⟨_, cap, rfl, hle, hmax⟩
theorem add_lit (b off j : Nat) : (⟨b, off, none⟩ : Addr).add j = ⟨b, off + j, none⟩ := by unfold Addr.add; split <;> simp_all
/-- The cells of a slice, as the append laws ask for them. -/
theorem Sl.news {a : Addr} (h : Sl w B k (some a) c xs) : ∀ j u, xs.flatten[j]? = some u → w.cell? (a.add j) = some u := fun j u hu => by
  have hpos : 0 < xs.length := by
    rcases Nat.eq_zero_or_pos xs.length with h0 | h0
    · rw [List.eq_nil_of_length_eq_zero h0] at hu; simp at hu
    · exact h0
  obtain ⟨b, off, e, _, hc⟩ := h.mem hpos
  injection e with e
  subst e
  rw [add_lit]
  exact hc j u hu
end

section
variable {P : Program}
/-- 'copy' of rows of k cells onto a row of one block. -/
theorem run_copy_rows (w : World) (dT sT ty elem : TypeId) (k g o dLen dCap : Nat) (a : Addr) (sLen sCap : Nat) (cur : Array Value) (t : TypeId) (cs : List Value)
    (hu : P.underlying dT = some (.slice elem)) (hs : (P.info? elem).map (·.size) = some k)
    (hg : w.heap[g]? = some (.cells cur t (0, 0))) (hn : cs.length = Nat.min sLen dLen * k)
    (hsrc : ∀ j v, cs[j]? = some v → w.cell? (a.add j) = some v) (hfit : o + cs.length ≤ cur.size) (h1 : ∀ v ∈ cs, v.oneCell' = true) :
    (Builtin.copy_ #[dT, sT] ty #[.slice (some ⟨g, o, none⟩) dLen dCap, .slice (some a) sLen sCap]).run P w =
      .ok (goInt (Nat.min sLen dLen)) (w.setRow g (cur.toList.take o ++ cs ++ cur.toList.drop (o + cs.length)).toArray) := by
  have hl := run_loadCells_list (P := P) w a cs hsrc
  have hst := run_storeCells_at P g o t cs 0 cur w hg (by simpa using hfit) h1
  cases hq : P.info? elem with
  | none => simp [hq] at hs
  | some i =>
    have hi : i.size = k := by simpa [hq] using hs
    simp [Builtin.copy_, run_underlying hu, Builtin.lenOf, Builtin.firstCells, sizeOf, typeInfo, hq, hi, ← hn, hl, hst]

theorem wpList_copy_rows {w : World} {ops : Array Oper} {rest : List Oper} {o : Oper} {a : Act} {Q : Exit → Act → World → Prop} (hgd : o.guard = none) (d s : Operand) (dT sT : TypeId)
    (ho : o.op = .call { callee := .builtin .copy, args := #[d, s], argTypes := #[dT, sT] }) (elem : TypeId) (k : Nat) (hu : P.underlying dT = some (.slice elem)) (hsz : (P.info? elem).map (·.size) = some k)
    (g off dLen dCap : Nat) (ad : Addr) (sLen sCap : Nat) (hd : a.eval d = .slice (some ⟨g, off, none⟩) dLen dCap) (hs : a.eval s = .slice (some ad) sLen sCap)
    (cur : List Value) (t : TypeId) (hg : w.heap[g]? = some (.cells cur.toArray t (0, 0))) (cs : List Value) (hn : cs.length = Nat.min sLen dLen * k)
    (hsrc : ∀ j v, cs[j]? = some v → w.cell? (ad.add j) = some v) (hfit : off + cs.length ≤ cur.length) (h1 : ∀ v ∈ cs, v.oneCell' = true)
    (h : wpList P ops Q rest (a.put o.dst (goInt (Nat.min sLen dLen))) (w.setRow g (splice cur off cs).toArray)) : wpList P ops Q (o :: rest) a w := by
  refine wpList_plain hgd fun K hK => ?_
  have hrun := run_copy_rows (P := P) w dT sT o.type elem k g off dLen dCap ad sLen sCap cur.toArray t cs hu hsz hg hn hsrc (by simpa using hfit) h1
  unfold Oper.wp
  simp [execOp, ho, resolve, invoke, builtin, hd, hs, hrun, Result.andThen]
  refine hK _ _ ?_
  simpa [splice] using h
end

/-- Called with a row of xs as a struct, in whatever world near w (block 'row' apart), function g answers p of it. -/
structure Pred (P : Program) (g : FuncId) (cap : Array Value) (p : List Value → Bool) (xs : List (List Value)) (w : World) (row : Option Nat) : Prop where
  enters : ∀ args w, (callFunc g args).run P w = .ok (.enter g args) w
  call : ∀ x, x ∈ xs → ∀ w', w.grownBy w' row → Calls P g (#[.agg x.toArray] ++ cap) w' fun e w'' => e = .returned (.bool (p x)) ∧ Ext w' w''
theorem Ext.by_ {w w' : World} (h : Ext w w') (row : Option Nat) : w.grownBy w' row := ⟨h.below.os, h.below.tape, h.below.output, h.below.size, fun k hk _ => h.below.block k hk⟩
def idx (p : List Value → Bool) (xs : List (List Value)) : Int := match xs.findIdx? p with | some i => i | none => -1
theorem idx_no {p : List Value → Bool} {xs : List (List Value)} (h : ∀ (i : Nat) (x : List Value), xs[i]? = some x → p x = false) : idx p xs = -1 := by
  unfold idx
  rw [List.findIdx?_eq_none_iff.2 (fun x hx => by obtain ⟨i, hi⟩ := List.getElem?_of_mem hx; simp [h i x hi])]
theorem idx_at {p : List Value → Bool} {xs : List (List Value)} {j : Nat} {x : List Value} (h : ∀ (i : Nat) (x : List Value), i < j → xs[i]? = some x → p x = false) (hx : xs[j]? = some x) (hp : p x = true) : idx p xs = j := by
  unfold idx
  obtain ⟨hj, rfl⟩ := List.getElem?_eq_some_iff.1 hx
  rw [List.findIdx?_eq_some_iff_getElem.2 ⟨hj, hp, fun i hi => by simp [h i xs[i] hi (List.getElem?_eq_getElem _)]⟩]


/-- It hands back an owned row that holds xs; what was there is as it was. -/
def RetOwn (e : TypeId) (k : Nat) (xs : List (List Value)) (w : World) (en : Ending) (w' : World) : Prop :=
  ∃ v, en = .returned v ∧ w'.ownsRow w.heap.size e k v xs.length xs.flatten ∧ Ext w w'

theorem grown_refl (w : World) (row : Option Nat) : w.grownBy w row := ⟨rfl, rfl, rfl, Nat.le_refl _, fun _ _ _ => rfl⟩
theorem grown_trans {a b c : World} {row : Option Nat} (h : a.grownBy b row) (k : b.grownBy c row) : a.grownBy c row :=
  ⟨k.os.trans h.os, k.tape.trans h.tape, k.output.trans h.output, Nat.le_trans h.size k.size, fun i hi hn => (k.block i (Nat.lt_of_lt_of_le hi h.size) hn).trans (h.block i hi hn)⟩
theorem grown_ext {a b c : World} {row : Option Nat} (h : a.grownBy b row) (k : Ext b c) : a.grownBy c row := grown_trans h (k.by_ row)
theorem grown_none {a b : World} (h : a.grownBy b none) (row : Option Nat) : a.grownBy b row := ⟨h.os, h.tape, h.output, h.size, fun i hi _ => h.block i hi (by simp)⟩
theorem grown_set {a w : World} {g : Nat} (h : a.grownBy w (some g)) (o : Nat) (u : Value) : a.grownBy (w.setCell ⟨g, o, none⟩ u) (some g) :=
  ⟨h.os, h.tape, h.output, by simpa [World.setCell] using h.size, fun i hi hne => (Below.heap_setCell w ⟨g, o, none⟩ u i (by rintro rfl; exact hne rfl)).trans (h.block i hi hne)⟩
theorem grown_row {a w : World} {g : Nat} (h : a.grownBy w (some g)) (cs : Array Value) : a.grownBy (w.setRow g cs) (some g) :=
  ⟨h.os, h.tape, h.output, by simpa [World.setRow] using h.size, fun i hi hne => (setRow_other w g i cs (by rintro rfl; exact hne rfl)).trans (h.block i hi hne)⟩
/-- An owned row kept while all but other blocks stand. -/
theorem own_ext {w w' : World} {base n k : Nat} {e : TypeId} {v : Value} {zs : List Value} (h : w.ownsRow base e k v n zs) (hx : Ext w w') : w'.ownsRow base e k v n zs :=
  h.kept (hx.by_ none) (by cases hv : v.ownBlock <;> simp)
theorem own_take {w : World} {base n m k c : Nat} {e : TypeId} {A : Option Addr} {zs : List Value} (h : w.ownsRow base e k (.slice A n c) n zs) (hm : m ≤ n) (hA : A ≠ none) : w.ownsRow base e k (.slice A m c) m (zs.take (m * k)) := by
  have hmk : m * k ≤ n * k := Nat.mul_le_mul_right _ hm
  refine ⟨by rw [List.length_take, h.1]; omega, ?_⟩
  rcases h.2 with ⟨hv, _⟩ | ⟨g, cap, cur, hv, hg, hgg, hle, hmax, hsz, htk⟩
  · injection hv with hA'; exact absurd hA' hA
  · injection hv with hA' _ hc
    subst hA' hc
    exact .inr ⟨g, c, cur, rfl, hg, hgg, by omega, hmax, hsz, by rw [← htk, List.take_take]; congr 1; omega⟩
theorem set_flatten {k : Nat} : ∀ (ys : List (List Value)) (i : Nat) (x : List Value), (∀ y, y ∈ ys → y.length = k) → x.length = k → i < ys.length → (ys.set i x).flatten = splice ys.flatten (i * k) x
  | [], _, _, _, _, hi => absurd hi (by simp)
  | y :: ys, 0, x, hy, hx, _ => by
    have h1 := hy y (List.mem_cons_self ..)
    simp [splice, hx, ← h1]
  | y :: ys, i + 1, x, hy, hx, hi => by
    have h1 := hy y (List.mem_cons_self ..)
    have ih := set_flatten ys i x (fun z hz => hy z (List.mem_cons_of_mem _ hz)) hx (by simpa using hi)
    rw [List.set_cons_succ, List.flatten_cons, ih, List.flatten_cons]
    unfold splice
    have e1 : (i + 1) * k = y.length + i * k := by rw [h1, Nat.succ_mul]; omega
    rw [e1, List.take_length_add_append, Nat.add_assoc, List.drop_length_add_append]
    simp
theorem splice_nil (l : List Value) (o : Nat) : splice l o [] = l := by simp [splice]
theorem splice_step (l : List Value) (o : Nat) (v : Value) (rest : List Value) (h : o + (rest.length + 1) ≤ l.length) : splice (l.set o v) (o + 1) rest = splice l o (v :: rest) := by
  have := list_seg_step l o v rest h
  simpa [splice, List.append_assoc] using this
theorem set3_flatten (ys : List (List Value)) (i : Nat) (u0 u1 u2 : Value) (hy : ∀ y, y ∈ ys → y.length = 3) (hi : i < ys.length) :
    ((ys.flatten.set (i * 3) u0).set (i * 3 + 1) u1).set (i * 3 + 2) u2 = (ys.set i [u0, u1, u2]).flatten := by
  have hl := flatten_length ys hy
  rw [set_flatten ys i [u0, u1, u2] hy rfl hi, ← splice_step _ _ _ _ (by simp only [hl, List.length_cons, List.length_nil]; omega), ← splice_step _ _ _ _ (by simp only [List.length_set, hl, List.length_cons, List.length_nil]; omega),
    ← splice_step _ _ _ _ (by simp only [List.length_set, hl, List.length_nil]; omega), splice_nil]

section
variable {P : Program}
theorem wpList_clear_rows {n : Nat} {w : World} {ops : Array Oper} {rest : List Oper} {o : Oper} {a : Act} {Q : Exit → Act → World → Prop} (hgd : o.guard = none) (s : Operand) (t : TypeId)
    (ho : o.op = .call { callee := .builtin .clear, args := #[s], argTypes := #[t] }) (e : TypeId) (k : Nat) (z : Value) (ht : P.underlying t = some (.slice e)) (hv : ∀ w, (zeroValue e).run P w = .ok z w)
    (hz : z.cells.size = k) (h1 : ∀ u, u ∈ (Builtin.zeroCells z.cells (n + 1)).toList → u.oneCell' = true) (g off c : Nat) (hs : a.eval s = .slice (some ⟨g, off, none⟩) (n + 1) c)
    (cur : List Value) (te : TypeId) (hg : w.heap[g]? = some (.cells cur.toArray te (0, 0))) (hfit : off + (n + 1) * k ≤ cur.length)
    (h : wpList P ops Q rest (a.put o.dst (.tuple #[])) (w.setRow g (splice cur off (Builtin.zeroCells z.cells (n + 1)).toList).toArray)) : wpList P ops Q (o :: rest) a w := by
  refine wpList_plain hgd fun K hK => ?_
  have hl : (Builtin.zeroCells z.cells (n + 1)).toList.length = (n + 1) * k := by rw [Array.length_toList, size_zeroCells, hz]
  have hst := run_storeCells_at P g off te (Builtin.zeroCells z.cells (n + 1)).toList 0 cur.toArray w hg (by rw [hl]; simpa using hfit) h1
  simp only [Nat.add_zero] at hst
  have hrun : (Builtin.clear_ #[t] o.type #[.slice (some ⟨g, off, none⟩) (n + 1) c]).run P w = .ok (.tuple #[]) (w.setRow g (splice cur off (Builtin.zeroCells z.cells (n + 1)).toList).toArray) := by
    simp [Builtin.clear_, run_underlying ht, hv, hst, splice]
  unfold Oper.wp
  simp [execOp, ho, resolve, invoke, builtin, hs, hrun, Result.andThen]
  exact hK _ _ h
end
/-- The row's block and what it holds. -/
theorem own_cur {w : World} {base n k c g : Nat} {e : TypeId} {zs : List Value} (h : w.ownsRow base e k (.slice (some ⟨g, 0, none⟩) n c) n zs) :
    ∃ cur : List Value, base ≤ g ∧ w.heap[g]? = some (.cells cur.toArray e (0, 0)) ∧ n ≤ c ∧ c ≤ maxLen ∧ cur.length = c * k ∧ cur.take (n * k) = zs := by
  rcases h.2 with ⟨hv, _⟩ | ⟨g', cap, cur, hv, hg, hgg, hle, hmax, hsz, htk⟩
  · cases hv
  · injection hv with hA _ hc
    injection hA with hA
    injection hA with hA
    subst hA hc
    exact ⟨cur.toList, hg, hgg, hle, hmax, by simpa using hsz, htk⟩
theorem own_of_cur {w : World} {base n k c g : Nat} {e : TypeId} {zs cur : List Value} (hb : base ≤ g) (hg : w.heap[g]? = some (.cells cur.toArray e (0, 0))) (hn : n ≤ c) (hc : c ≤ maxLen) (hl : cur.length = c * k) (ht : cur.take (n * k) = zs) :
    w.ownsRow base e k (.slice (some ⟨g, 0, none⟩) n c) n zs := by
  have hm : n * k ≤ c * k := Nat.mul_le_mul_right _ hn
  exact ⟨by rw [← ht, List.length_take, hl]; omega, .inr ⟨g, c, cur.toArray, rfl, hb, hg, hn, hc, by simpa using hl, by simpa using ht⟩⟩

/-- A cell of an owned row may be written. -/
theorem own_slot {w : World} {base n k c g : Nat} {e : TypeId} {zs : List Value} (h : w.ownsRow base e k (.slice (some ⟨g, 0, none⟩) n c) n zs) (j : Nat) (hj : j < n * k) : ∃ v, w.cell? ⟨g, j, none⟩ = some v := by
  have hl : j < zs.length := by rw [h.1]; exact hj
  exact ⟨zs[j], by rw [h.cellAt j hj]; exact List.getElem?_eq_getElem hl⟩
theorem flatten_take {k : Nat} : ∀ (ys : List (List Value)) (i : Nat), (∀ y, y ∈ ys → y.length = k) → i ≤ ys.length → (ys.take i).flatten = ys.flatten.take (i * k)
  | _, 0, _, _ => by simp
  | [], i + 1, _, hi => absurd hi (by simp)
  | y :: ys, i + 1, h, hi => by
    have h1 := h y (List.mem_cons_self ..)
    rw [List.take_succ_cons, List.flatten_cons, flatten_take ys i (fun z hz => h z (List.mem_cons_of_mem _ hz)) (by simpa using hi), List.flatten_cons, show (i + 1) * k = y.length + i * k by rw [h1, Nat.succ_mul]; omega, List.take_length_add_append]
theorem zeros_one (z : Array Value) (n : Nat) (hz : 0 < z.size) (h : ∀ i, i < z.size → z[i]!.oneCell' = true) : ∀ u, u ∈ (Builtin.zeroCells z n).toList → u.oneCell' = true := fun u hu => by
  simp only [Builtin.zeroCells, Array.toList_map, List.mem_map] at hu
  obtain ⟨i, _, rfl⟩ := hu
  exact h _ (Nat.mod_lt _ hz)
theorem splice_take (l : List Value) (o : Nat) (cs : List Value) (h : o ≤ l.length) : (splice l o cs).take o = l.take o := by
  unfold splice
  rw [List.take_append_of_le_length (by simp; omega), List.take_take]
  congr 1; omega
theorem news_new (w : World) (cs : List Value) (e : TypeId) : ∀ (j : Nat) (u : Value), cs[j]? = some u → (w.alloc (.cells cs.toArray e)).cell? ((⟨w.heap.size, 0, none⟩ : Addr).add j) = some u := fun j u hu => by
  rw [add_lit, Nat.zero_add, cell_of_row _ _ _ _ _ _ (heap_alloc_new w _)]
  simpa using hu
theorem Ext.own {a w w' : World} {base n k : Nat} {e : TypeId} {v : Value} {zs : List Value} (h : Ext a w) (ho : w.ownsRow base e k v n zs) (hg : w.grownBy w' v.ownBlock) (hb : a.heap.size ≤ base) : Ext a w' :=
  h.grown hg fun k hk => Nat.le_trans hb (ho.lt k hk).1
end Go.Proofs.YtcfebfblmmbeaaaDoor

/- Reading of arguments: a type all of whose cells are ints; a slice of such; a struct by value; the step from a walk to a law's row. For every program that the seat's is. -/
namespace Go.Proofs.YtcfebfblmmbeaaaDoor
open Go Go.RowKit Go.ChangeShapes Go.WideShapes Go.ChangeAt

section
variable {P : Program}
/-- Whatever reads at type t is a row of ints. -/
def IntsT (P : Program) (t : TypeId) : Prop := ∀ (H : Type) (enc : TypeId × Value → H) (w : World) (base : Nat) (spare : Nat → Bool) (held : Bool) (fuel : Nat) (cs : List Value) (x : DataW H × List MemPlace),
  DataW.trod enc P w base spare held fuel t cs = some x → cs.length = P.cellsOf t ∧ ∀ (c : Value), c ∈ cs → ∃ n : Int, c = .int .i64 n ∧ (Lit.int .i64 n).wf = true
theorem ints_int {t : TypeId} (ht : P.underlying t = some (.int .i64)) (hc : P.cellsOf t = 1) : IntsT P t := fun H enc w base spare held fuel cs x h => by
  obtain ⟨n, rfl, _, hw⟩ := DataW.trod_int ht h
  exact ⟨by rw [hc]; rfl, fun c hc => by simp only [List.mem_singleton] at hc; exact ⟨n, hc, hw⟩⟩
theorem ints_struct {t : TypeId} {fs : Array Field} (ht : P.underlying t = some (.struct fs)) (hf : ∀ (i : Nat) (f : Field), fs[i]? = some f → IntsT P f.type)
    (hcov : ∀ j, j < P.cellsOf t → ∃ (i : Nat) (f : Field), fs[i]? = some f ∧ f.offset ≤ j ∧ j < f.offset + P.cellsOf f.type) : IntsT P t := fun H enc w base spare held fuel cs x h => by
  obtain ⟨xs, n, _, _, hlen, hxl, hg⟩ := DataW.trod_struct ht h
  refine ⟨hlen, fun c hc => ?_⟩
  obtain ⟨j, hj⟩ := List.getElem?_of_mem hc
  have hjl := (List.getElem?_eq_some_iff.1 hj).1
  obtain ⟨i, f, hif, h1, h2⟩ := hcov j (by omega)
  have hx : ∃ y, xs[i]? = some y := ⟨xs[i]'(by rw [hxl]; exact (Array.getElem?_eq_some_iff.1 hif).1), List.getElem?_eq_getElem _⟩
  obtain ⟨y, hy⟩ := hx
  have h3 := hg i f hif
  rw [hy] at h3
  obtain ⟨_, h5⟩ := hf i f hif H enc w base spare held n _ y h3
  refine h5 c ?_
  have : ((cs.drop f.offset).take (P.cellsOf f.type))[j - f.offset]? = some c := by
    rw [List.getElem?_take, if_pos (by omega), List.getElem?_drop, show f.offset + (j - f.offset) = j by omega, hj]
  exact List.mem_of_getElem? this
theorem ints_list {cs : List Value} (h : ∀ (c : Value), c ∈ cs → ∃ n : Int, c = .int .i64 n ∧ (Lit.int .i64 n).wf = true) : ∃ l : List Int, cs = l.map (Value.int .i64) ∧ ∀ n, n ∈ l → (Lit.int .i64 n).wf = true := by
  induction cs with
  | nil => exact ⟨[], rfl, fun n hn => by simp at hn⟩
  | cons c cs ih =>
    obtain ⟨n, rfl, hw⟩ := h c (List.mem_cons_self ..)
    obtain ⟨l, rfl, hl⟩ := ih (fun d hd => h d (List.mem_cons_of_mem _ hd))
    exact ⟨n :: l, rfl, fun m hm => by rcases List.mem_cons.1 hm with rfl | hm; exact hw; exact hl m hm⟩

variable {H : Type} {enc : TypeId × Value → H} {W : World}
/-- A slice of such rows that came in. -/
theorem read_rows {t e : TypeId} {k : Nat} (ht : P.underlying t = some (.slice e)) (hc : P.cellsOf e = k) (hk : 0 < k) (hi : IntsT P e) {base : Nat} {r : Reach} {v : Value} {d : DataW H} {ps : List MemPlace}
    (hv : Value.okWide P W r base t v) (h : DataW.Trod enc P W 0 (fun _ => true) true t v d ps) :
    ∃ (A : Option Addr) (c : Nat) (ls : List (List Int)), v = .slice A ls.length c ∧ Sl W W.heap.size k A c (ls.map fun l => l.map (Value.int .i64)) ∧ ∀ l, l ∈ ls → l.length = k ∧ ∀ n, n ∈ l → (Lit.int .i64 n).wf = true := by
  obtain ⟨a0, len0, cap0, rfl⟩ := okWide_slice ht hv
  obtain ⟨fuel, hf⟩ := h
  have hf' : DataW.trod enc P W 0 (fun _ => true) true fuel t [.slice a0 len0 cap0] = some (d, ps) := by simpa [Value.cells] using hf
  rcases Go.Deep.open_slice ht hf' with ⟨hcs, _⟩ | ⟨a, len, cap, m, n, D, Pl, hcs, _, hl, hm, hmm, _, hel⟩
  · simp only [List.cons.injEq, and_true, Value.slice.injEq] at hcs
    obtain ⟨rfl, rfl, rfl⟩ := hcs
    exact ⟨none, 0, [], rfl, Sl.nil _ _ _, fun l hl => by simp at hl⟩
  · simp only [List.cons.injEq, and_true, Value.slice.injEq] at hcs
    obtain ⟨rfl, rfl, rfl⟩ := hcs
    have hmc : len0 ≤ m := by rw [hmm]; simp; exact hl
    have hall : ∀ i, ∃ l : List Int, i < len0 → l.length = k ∧ (∀ n, n ∈ l → (Lit.int .i64 n).wf = true) ∧ ∀ (j : Nat) (u : Value), (l.map (Value.int .i64))[j]? = some u → W.cell? (a.add (i * k + j)) = some u := by
      intro i
      by_cases hi2 : i < len0
      · obtain ⟨cs', hcells, htr⟩ := hel i (by omega)
        rw [hc] at hcells
        obtain ⟨h1, h2⟩ := hi H enc W 0 (fun _ => true) true n cs' _ htr
        obtain ⟨l, rfl, hw⟩ := ints_list h2
        obtain ⟨_, h3, h4⟩ := World.cells?_some hcells
        refine ⟨l, fun _ => ⟨by simpa using h3, hw, fun j u hu => ?_⟩⟩
        have hj : j < k := by have := (List.getElem?_eq_some_iff.1 hu).1; simp at this h3; omega
        rw [← Go.Deep.add_add, h4 j hj]
        exact hu
      · exact ⟨[], fun h => absurd h hi2⟩
    obtain ⟨f, hfs⟩ := Classical.axiomOfChoice hall
    refine ⟨some a, cap0, (List.range len0).map f, by simp, ⟨by simpa using hl, hm, ?_, fun hpos => ?_⟩, ?_⟩
    · intro x hx
      simp only [List.map_map, List.mem_map, List.mem_range, Function.comp] at hx
      obtain ⟨i, hi2, rfl⟩ := hx
      exact ⟨f i, (hfs i hi2).1, rfl⟩
    · have hpos' : 0 < len0 := by simpa using hpos
      have h0 : ∃ u, W.cell? a = some u := by
        obtain ⟨h1, _, h3⟩ := hfs 0 hpos'
        have hl0 : 0 < ((f 0).map (Value.int .i64)).length := by simp; omega
        have := h3 0 _ (List.getElem?_eq_getElem hl0)
        simp only [Nat.zero_mul, Nat.add_zero] at this
        have ha : a.add 0 = a := by unfold Addr.add; simp
        rw [ha] at this
        exact ⟨_, this⟩
      obtain ⟨u0, h0⟩ := h0
      have hsp := World.cell?_spot h0
      obtain ⟨b, off, spot⟩ := a
      simp only at hsp
      subst hsp
      refine ⟨b, off, rfl, World.block_lt_of_cell? W _ h0, fun j u hu => ?_⟩
      have hlen : ∀ x, x ∈ ((List.range len0).map f).map (fun l => l.map (Value.int .i64)) → x.length = k := by
        intro x hx
        simp only [List.map_map, List.mem_map, List.mem_range, Function.comp] at hx
        obtain ⟨i, hi2, rfl⟩ := hx
        simpa using (hfs i hi2).1
      have hjl : j < (((List.range len0).map f).map (fun l => l.map (Value.int .i64))).flatten.length := (List.getElem?_eq_some_iff.1 hu).1
      rw [flatten_length _ hlen] at hjl
      simp only [List.length_map, List.length_range] at hjl
      have hi2 : j / k < len0 := Nat.div_lt_of_lt_mul (by rw [Nat.mul_comm]; exact hjl)
      have hr : j % k < k := Nat.mod_lt _ hk
      have hj : j = j / k * k + j % k := by rw [Nat.mul_comm]; exact (Nat.div_add_mod j k).symm
      have hrow : (((List.range len0).map f).map (fun l => l.map (Value.int .i64)))[j / k]? = some ((f (j / k)).map (Value.int .i64)) := by
        simp [hi2]
      have hrl : j % k < ((f (j / k)).map (Value.int .i64)).length := by simp [(hfs _ hi2).1]; exact hr
      have h5 := flatten_at _ hlen (j / k) _ hrow (j % k) _ (List.getElem?_eq_getElem hrl)
      rw [← hj, hu] at h5
      have h6 := (hfs _ hi2).2.2 (j % k) _ (List.getElem?_eq_getElem hrl)
      rw [add_lit, ← hj] at h6
      rw [h5]; exact h6
    · intro l hl2
      simp only [List.mem_map, List.mem_range] at hl2
      obtain ⟨i, hi2, rfl⟩ := hl2
      exact ⟨(hfs i hi2).1, (hfs i hi2).2.1⟩

/-- A struct of ints, by value. -/
theorem read_struct {t : TypeId} {fs : Array Field} (ht : P.underlying t = some (.struct fs)) (hi : IntsT P t) {base : Nat} {r : Reach} {v : Value} {d : DataW H} {ps : List MemPlace}
    (hv : Value.okWide P W r base t v) (h : DataW.Trod enc P W 0 (fun _ => true) true t v d ps) :
    ∃ l : List Int, v = .agg (l.map (Value.int .i64)).toArray ∧ l.length = P.cellsOf t ∧ ∀ n, n ∈ l → (Lit.int .i64 n).wf = true := by
  obtain ⟨cs, rfl, hsz⟩ := okWide_struct ht hv
  obtain ⟨fuel, hf⟩ := h
  obtain ⟨h1, h2⟩ := hi H enc W 0 (fun _ => true) true fuel cs.toList _ (by simpa [Value.cells] using hf)
  obtain ⟨l, hl, hw⟩ := ints_list h2
  refine ⟨l, by rw [← hl], ?_, hw⟩
  have := congrArg List.length hl
  simp at this
  omega

/-- The arguments, read again behind a call that leaves what was there alone. -/
theorem args_below (hl : laidOutB P = true) : ∀ (ts : List TypeId) (vs : List Value) (ds : List (DataW H)) (ps : List MemPlace) (W' : World), (∀ t, t ∈ ts → P.readableRec t = true ∧ t < P.types.size) →
    DataW.TrodAll enc P W 0 (fun _ => true) true ts vs ds ps → Below W.heap.size W W' → (∀ x, x ∈ ps → x.block < W.heap.size) → DataW.TrodAll enc P W' 0 (fun b => decide (b < W.heap.size)) true ts vs ds ps
  | [], vs, ds, ps, W', _, h, _, _ => by
    obtain ⟨rfl, rfl, rfl⟩ := trodAll_nil h
    exact rfl
  | t :: ts, vs, ds, ps, W', hr, h, hb, hlt => by
    obtain ⟨v, vs', d, ds', p, q, rfl, rfl, rfl, h1, h2⟩ := trodAll_cons h
    obtain ⟨r1, r2⟩ := hr t (List.mem_cons_self ..)
    exact ⟨p, q, Below.trod hl r1 r2 h1 hb (fun x hx => hlt x (List.mem_append.2 (.inl hx))), args_below hl ts vs' ds' q W' (fun t ht => hr t (List.mem_cons_of_mem _ ht)) h2 hb (fun x hx => hlt x (List.mem_append.2 (.inr hx))), rfl⟩
theorem wf_bounds {n : Int} (h : (Lit.int .i64 n).wf = true) : -9223372036854775808 ≤ n ∧ n ≤ 9223372036854775807 := by
  have h1 : IntKind.i64.min = -9223372036854775808 := rfl
  have h2 : IntKind.i64.max = 9223372036854775807 := rfl
  simp [Lit.wf, h1, h2] at h
  exact h
end
end Go.Proofs.YtcfebfblmmbeaaaDoor

/- Contracts of the layer of points: In, Empty, list, greater, lesser, Cube, Add, Scale, Sub. -/
namespace Go.Proofs.YtcfebfblmmbeaaaDoor
open Go Go.RowKit

theorem ret_bool {a b : Bool} (h : a = b) : Ending.returned (.bool a) = .returned (.bool b) := by rw [h]
theorem ret_int {k : IntKind} {a b : Int} (h : a = b) : Ending.returned (.int k a) = .returned (.int k b) := by rw [h]
theorem int_eq {k : IntKind} {a b : Int} (h : a = b) : Value.int k a = .int k b := by rw [h]
theorem mixed : Tryd.prog.follows .mixedOrders = true := by kernel_rfl

structure Pt where
  x : Int
  y : Int
  z : Int
  deriving DecidableEq
structure Bx where
  lo : Pt
  hi : Pt
  deriving DecidableEq
def Pt.cells (p : Pt) : List Value := [.int .i64 p.x, .int .i64 p.y, .int .i64 p.z]
def Bx.cells (b : Bx) : List Value := [.int .i64 b.lo.x, .int .i64 b.lo.y, .int .i64 b.lo.z, .int .i64 b.hi.x, .int .i64 b.hi.y, .int .i64 b.hi.z]
def inP (p : Pt) (b : Bx) : Bool := decide (b.lo.x ≤ p.x) && (decide (p.x < b.hi.x) && (decide (b.lo.y ≤ p.y) && (decide (p.y < b.hi.y) && (decide (b.lo.z ≤ p.z) && decide (p.z < b.hi.z)))))
def emptyB (b : Bx) : Bool := !inP b.lo b

end Go.Proofs.YtcfebfblmmbeaaaDoor

/- A block of cells of one's own, read and written: what a local array or struct holds. -/
namespace Go.Proofs.YtcfebfblmmbeaaaDoor
open Go Go.RowKit

/-- Block b holds the cells vs. -/
def Arr (w : World) (b : Nat) (t : TypeId) (vs : List Value) : Prop := w.heap[b]? = some (.cells vs.toArray t (0, 0))
theorem Arr.lt {w : World} {b : Nat} {t : TypeId} {vs : List Value} (h : Arr w b t vs) : b < w.heap.size := (Array.getElem?_eq_some_iff.1 h).1
theorem Arr.cell {w : World} {b : Nat} {t : TypeId} {vs : List Value} (h : Arr w b t vs) (j : Nat) : w.cell? ⟨b, j, none⟩ = vs[j]? := by
  rw [cell_of_row _ _ _ _ _ _ h]; simp
theorem Arr.frozen {w : World} {b : Nat} {t : TypeId} {vs : List Value} (h : Arr w b t vs) (j : Nat) : w.frozen? ⟨b, j, none⟩ = false := frozen_of_row w b j _ t h
theorem Arr.ext {w w' : World} {b : Nat} {t : TypeId} {vs : List Value} (h : Arr w b t vs) (hx : Ext w w') : Arr w' b t vs := by
  unfold Arr at *
  rw [hx.below.block b (Arr.lt h)]
  exact h
theorem Arr.set {w : World} {b : Nat} {t : TypeId} {vs : List Value} (h : Arr w b t vs) (j : Nat) (v : Value) : Arr (w.setCell ⟨b, j, none⟩ v) b t (vs.set j v) := by
  have h1 := heap_setCell_same w b j _ t v h
  unfold Arr
  rw [h1]
  simp
theorem Arr.other {w : World} {b : Nat} {t : TypeId} {vs : List Value} (h : Arr w b t vs) {p : Addr} (hp : b ≠ p.block) (v : Value) : Arr (w.setCell p v) b t vs := by
  unfold Arr
  rw [heap_setCell_other w p b v hp]
  exact h
theorem Arr.new (w : World) (t : TypeId) (vs : List Value) : Arr (w.alloc (.cells vs.toArray t)) w.heap.size t vs := heap_alloc_new w _
theorem Arr.new1 (w : World) (o : Obj) (t : TypeId) (vs : List Value) : Arr ((w.alloc o).alloc (.cells vs.toArray t)) (w.heap.size + 1) t vs := by
  have h := Arr.new (w.alloc o) t vs
  have e : (w.alloc o).heap.size = w.heap.size + 1 := by simp
  rw [e] at h
  exact h
theorem Arr.alloc {w : World} {b : Nat} {t : TypeId} {vs : List Value} (h : Arr w b t vs) (o : Obj) : Arr (w.alloc o) b t vs := by
  unfold Arr
  rw [heap_alloc_old w o (Arr.lt h)]
  exact h
/-- A whole variable of a struct's or an array's type, loaded. -/
theorem wpList_load_blk {P : Program} {ops : Array Oper} {rest : List Oper} {o : Oper} {a : Act} {w : World} {Q : Exit → Act → World → Prop} (ty : TypeId) (x : Operand) (ho : o.op = .load ty x) (hw : Region.wanted o (yielded ops a.tmps) = true)
    {b : Nat} {t : TypeId} {vs : List Value} (hB : Arr w b t vs) (hx : a.eval x = .pointer (some ⟨b, 0, none⟩)) (d : TypeDesc) (hu : P.underlying ty = some d)
    (hd : (match d with | .struct _ | .array _ _ => true | _ => false) = true) (hi : (P.info? ty).map (·.size) = some vs.length) (h : wpList P ops Q rest (a.put o.dst (.agg vs.toArray)) w) : wpList P ops Q (o :: rest) a w := by
  refine wpList_step fun K hK => ?_
  rw [if_pos hw]
  exact wp_load_row ty x ho b hx t vs.toArray (0, 0) d hB hu hd (by simpa using hi) (hK _ _ h)
theorem Arr.setRow {w : World} {b : Nat} {t : TypeId} {vs : List Value} (h : Arr w b t vs) (cs : List Value) : Arr (w.setRow b cs.toArray) b t cs := setRow_heap w b _ _ t (0, 0) h
theorem Arr.setRow_other {w : World} {b g : Nat} {t : TypeId} {vs : List Value} (h : Arr w b t vs) (hne : b ≠ g) (cs : Array Value) : Arr (w.setRow g cs) b t vs := by
  unfold Arr
  rw [Go.setRow_other w g b cs hne]
  exact h
theorem Ext.setRow {a w : World} (h : Ext a w) {g : Nat} (hg : a.heap.size ≤ g) (cs : Array Value) : Ext a (w.setRow g cs) :=
  ⟨⟨h.below.os, h.below.tape, h.below.output, by simpa [World.setRow] using h.below.size, fun k hk => (Go.setRow_other w g k cs (by omega)).trans (h.below.block k hk)⟩⟩
/-- A whole variable of a struct's or an array's type, stored into. -/
theorem wpList_store_blk {P : Program} {ops : Array Oper} {rest : List Oper} {o : Oper} {a : Act} {w : World} {Q : Exit → Act → World → Prop} (ty : TypeId) (x y : Operand) (ho : o.op = .store ty x y) (hw : Region.wanted o (yielded ops a.tmps) = true)
    {b : Nat} {t : TypeId} {vs : List Value} (hB : Arr w b t vs) (cs : List Value) (hx : a.eval x = .pointer (some ⟨b, 0, none⟩)) (hy : a.eval y = .agg cs.toArray) (hi : (P.info? ty).map (·.size) = some cs.length)
    (hl : vs.length = cs.length) (h1 : cs.all (·.oneCell') = true) (h : wpList P ops Q rest (a.put o.dst undef) (w.setRow b cs.toArray)) : wpList P ops Q (o :: rest) a w := by
  refine wpList_step fun K hK => ?_
  rw [if_pos hw]
  exact wp_store_row ty x y ho b cs.toArray hx hy t vs.toArray hB (by simpa using hi) (by simpa using hl) (by simpa using h1) (hK _ _ h)
end Go.Proofs.YtcfebfblmmbeaaaDoor

/- Contracts of the layer of points, on: each, the closures of join, join, Intersect. -/
namespace Go.Proofs.YtcfebfblmmbeaaaDoor
open Go Go.RowKit

def valsAt (r0 r1 r2 : Int) : Nat → List Value
  | 0 => [.int .i64 0, .int .i64 0, .int .i64 0]
  | 1 => [.int .i64 r0, .int .i64 0, .int .i64 0]
  | 2 => [.int .i64 r0, .int .i64 r1, .int .i64 0]
  | _ => [.int .i64 r0, .int .i64 r1, .int .i64 r2]

end Go.Proofs.YtcfebfblmmbeaaaDoor

/- Contracts of the layer of points, on: the closures of join, join, Intersect. -/
namespace Go.Proofs.YtcfebfblmmbeaaaDoor
open Go Go.RowKit

/-- A function of two numbers, as a value. -/
structure Two (P : Program) (g : FuncId) (F : Int → Int → Int) : Prop where
  enters : ∀ args w, (callFunc g args).run P w = .ok (.enter g args) w
  call : ∀ x y w, Calls P g #[.int .i64 x, .int .i64 y] w fun e w' => e = .returned (.int .i64 (F x y)) ∧ Ext w w'
end Go.Proofs.YtcfebfblmmbeaaaDoor

/- A region that draws its order, by an invariant over what has been done. -/
namespace Go.Proofs.YtcfebfblmmbeaaaDoor
open Go Go.RowKit

section
variable {P : Program} {ops : Array Oper} {md : Region.Mode} {Q : Exit → Act → World → Prop}
/-- How many operations are not yet done. -/
def undone (ops : Array Oper) (listed : Array Bool) : Nat := (List.range ops.size).countP fun i => !listed.getD i true
theorem ready_undone {listed : Array Bool} {i : Nat} (h : i ∈ Region.ready md ops listed) : i < ops.size ∧ listed.getD i true = false := by
  obtain ⟨h1, oi, h2, _⟩ := mem_ready.1 h
  exact ⟨(Array.getElem?_eq_some_iff.1 h2).1, h1⟩
theorem undone_set {listed : Array Bool} {i : Nat} (hi : i < ops.size) (hl : listed.getD i true = false) : undone ops (listed.setIfInBounds i true) + 1 = undone ops listed := by
  unfold undone
  have hil : i < listed.size := by
    by_cases h : i < listed.size
    · exact h
    · simp [Array.getD, h] at hl
  have key : ∀ (n : Nat), i < n → (List.range n).countP (fun j => !(listed.setIfInBounds i true).getD j true) + 1 = (List.range n).countP (fun j => !listed.getD j true) := by
    intro n
    induction n with
    | zero => intro h; omega
    | succ n ih =>
      intro h
      rw [List.range_succ, List.countP_append, List.countP_append]
      by_cases hin : i = n
      · subst hin
        have e1 : (List.range i).countP (fun j => !(listed.setIfInBounds i true).getD j true) = (List.range i).countP (fun j => !listed.getD j true) := by
          apply List.countP_congr
          intro j hj
          have : i ≠ j := by have := List.mem_range.1 hj; omega
          rw [getD_set_ne true this]
        rw [e1]
        have e2 : (listed.setIfInBounds i true).getD i true = true := by simp [Array.getD, hil]
        simp only [List.countP_cons, List.countP_nil, e2, hl]
        rfl
      · have := ih (by omega)
        rw [← this]
        have e3 : (listed.setIfInBounds i true).getD n true = listed.getD n true := getD_set_ne true hin
        simp only [List.countP_cons, List.countP_nil, e3]
        omega
  exact key ops.size hi
theorem undone_zero {listed : Array Bool} (h : undone ops listed = 0) : Region.ready md ops listed = [] := by
  rw [List.eq_nil_iff_forall_not_mem]
  intro i hi
  obtain ⟨h1, h2⟩ := ready_undone hi
  unfold undone at h
  rw [List.countP_eq_zero] at h
  exact h i (List.mem_range.2 h1) (by simp [h2])
theorem wpAny_inv {I : Array Bool → Act → World → Prop}
    (hstep : ∀ listed a w i, I listed a w → i ∈ Region.ready md ops listed → wpOp P ops Q i (I (listed.setIfInBounds i true)) a w)
    (hend : ∀ listed a w, I listed a w → Region.ready md ops listed = [] → Q .normal a w) :
    ∀ (fuel : Nat) (listed : Array Bool) (a : Act) (w : World), undone ops listed ≤ fuel → I listed a w → wpAny P md ops Q fuel listed a w
  | 0, listed, a, w, hu, h => by
    have hr := undone_zero (md := md) (by omega : undone ops listed = 0)
    exact ⟨hr, hend _ _ _ h hr⟩
  | fuel + 1, listed, a, w, hu, h => by
    refine ⟨fun hr => hend _ _ _ h hr, fun i hi => ?_⟩
    obtain ⟨h1, h2⟩ := ready_undone hi
    have := undone_set h1 h2
    exact wpOp_mono (fun a' w' h' => wpAny_inv hstep hend fuel _ a' w' (by omega) h') (hstep _ _ _ _ h hi)
theorem undone_le (listed : Array Bool) : undone ops listed ≤ ops.size := by
  unfold undone
  have := List.countP_le_length (p := fun i => !listed.getD i true) (l := List.range ops.size)
  simpa using this
/-- The law: what holds of what has been done is kept by each operation that may come next. -/
theorem wp_region_inv {id : Nat} {a : Act} {w : World} {l : List Oper} (I : Array Bool → Act → World → Prop) (hm : P.follows .mixedOrders = true)
    (h0 : I (Array.replicate l.length false) a w.drew)
    (hstep : ∀ listed a w i, I listed a w → i ∈ Region.ready .any l.toArray listed → wpOp P l.toArray Q i (I (listed.setIfInBounds i true)) a w)
    (hend : ∀ listed a w, I listed a w → Region.ready .any l.toArray listed = [] → Q .normal a w) : (Code.region id l.toArray true).wp P Q a w := by
  refine wp_region_any hm ?_
  exact wpAny_inv hstep hend _ _ _ _ (undone_le _) (by simpa using h0)
end
end Go.Proofs.YtcfebfblmmbeaaaDoor

/- A region that draws its order, by a table: what each slot holds once its operation is done. -/
namespace Go.Proofs.YtcfebfblmmbeaaaDoor
open Go Go.RowKit

section
variable {P : Program} {ops : Array Oper} {md : Region.Mode} {Q : Exit → Act → World → Prop}
def dstOf (ops : Array Oper) (i : Nat) : Option Nat := (ops[i]?).bind (·.dst)
def fillN (ops : Array Oper) (V : Nat → Value) (listed : Array Bool) (a : Act) : Nat → Act
  | 0 => a
  | n + 1 => if listed.getD n true then (fillN ops V listed a n).put (dstOf ops n) (V n) else fillN ops V listed a n
/-- The frame behind the operations that are done. -/
def fill (ops : Array Oper) (V : Nat → Value) (listed : Array Bool) (a : Act) : Act := fillN ops V listed a ops.size
/-- No two operations have one slot. -/
def Slots (ops : Array Oper) : Prop := ∀ i j d, dstOf ops i = some d → dstOf ops j = some d → i = j
theorem put_size (a : Act) (o : Option Tmp) (v : Value) : (a.put o v).tmps.size = a.tmps.size := by cases o <;> simp [Act.put]
theorem put_defers (a : Act) (o : Option Tmp) (v : Value) : (a.put o v).defers = a.defers := by cases o <;> rfl
theorem put_get (a : Act) (o : Option Tmp) (v : Value) (d : Nat) : (a.put o v).tmps[d]? = if o = some d ∧ d < a.tmps.size then some v else a.tmps[d]? := by
  cases o with
  | none => simp [Act.put]
  | some e =>
    simp only [Act.put, Array.getElem?_setIfInBounds, Option.some.injEq]
    by_cases h : e = d
    · subst h
      by_cases h2 : e < a.tmps.size
      · simp [h2]
      · simp [h2]
    · simp [h]
variable {V V' : Nat → Value} {listed : Array Bool} {a : Act}
theorem fillN_size : ∀ n, (fillN ops V listed a n).tmps.size = a.tmps.size
  | 0 => rfl
  | n + 1 => by unfold fillN; split <;> simp [put_size, fillN_size n]
theorem fillN_defers : ∀ n, (fillN ops V listed a n).defers = a.defers
  | 0 => rfl
  | n + 1 => by unfold fillN; split <;> simp [put_defers, fillN_defers n]
theorem fillN_hit (hs : Slots ops) {i d : Nat} (hl : listed.getD i true = true) (hd : dstOf ops i = some d) (hds : d < a.tmps.size) : ∀ n, i < n → (fillN ops V listed a n).tmps[d]? = some (V i)
  | 0, h => by omega
  | n + 1, h => by
    unfold fillN
    by_cases hin : i = n
    · subst hin
      rw [if_pos hl, put_get, if_pos ⟨hd, by rw [fillN_size]; exact hds⟩]
    · have ih := fillN_hit hs hl hd hds n (by omega)
      split
      · rw [put_get, if_neg (fun h => hin (hs i n d hd h.1)), ih]
      · exact ih
theorem fillN_miss {d : Nat} : ∀ n, (∀ i, i < n → listed.getD i true = true → dstOf ops i ≠ some d) → (fillN ops V listed a n).tmps[d]? = a.tmps[d]?
  | 0, _ => rfl
  | n + 1, h => by
    have ih := fillN_miss n (fun i hi => h i (by omega))
    unfold fillN
    split
    · rename_i hl
      rw [put_get, if_neg (fun hh => h n (by omega) hl hh.1), ih]
    · exact ih
theorem fill_hit (hs : Slots ops) {i d : Nat} (hi : i < ops.size) (hl : listed.getD i true = true) (hd : dstOf ops i = some d) (hds : d < a.tmps.size) : (fill ops V listed a).tmps[d]? = some (V i) := fillN_hit hs hl hd hds _ hi
theorem fill_miss {d : Nat} (h : ∀ i, i < ops.size → listed.getD i true = true → dstOf ops i ≠ some d) : (fill ops V listed a).tmps[d]? = a.tmps[d]? := fillN_miss _ h
theorem act_ext {x y : Act} (h1 : x.defers = y.defers) (h2 : ∀ d : Nat, x.tmps[d]? = y.tmps[d]?) : x = y := by
  cases x; cases y
  simp only at h1 h2
  subst h1
  congr 1
  exact Array.ext_getElem? h2
theorem fill_put (hs : Slots ops) {i : Nat} (hi : i < ops.size) (hun : listed.getD i true = false) :
    (fill ops V listed a).put (dstOf ops i) (V i) = fill ops V (listed.setIfInBounds i true) a := by
  have hil : i < listed.size := by
    by_cases h : i < listed.size
    · exact h
    · simp [Array.getD, h] at hun
  have hset : ∀ j, (listed.setIfInBounds i true).getD j true = true ↔ (j = i ∨ listed.getD j true = true) := fun j => by
    by_cases h : i = j
    · subst h; simp [Array.getD, hil]
    · rw [getD_set_ne true h]
      constructor
      · exact .inr
      · rintro (h2 | h2)
        · exact absurd h2.symm h
        · exact h2
  refine act_ext (by rw [put_defers]; unfold fill; rw [fillN_defers, fillN_defers]) fun d => ?_
  rw [put_get]
  have hsz : (fill ops V listed a).tmps.size = a.tmps.size := fillN_size _
  rw [hsz]
  by_cases hd : dstOf ops i = some d
  · by_cases hds : d < a.tmps.size
    · rw [if_pos ⟨hd, hds⟩, fill_hit hs hi ((hset i).2 (.inl rfl)) hd hds]
    · rw [if_neg (fun h => hds h.2), Array.getElem?_eq_none (by rw [hsz]; omega), Array.getElem?_eq_none (by unfold fill; rw [fillN_size]; omega)]
  · rw [if_neg (fun h => hd h.1)]
    by_cases hds : d < a.tmps.size
    · by_cases hj : ∃ j, j < ops.size ∧ listed.getD j true = true ∧ dstOf ops j = some d
      · obtain ⟨j, h1, h2, h3⟩ := hj
        rw [fill_hit hs h1 h2 h3 hds, fill_hit hs h1 ((hset j).2 (.inr h2)) h3 hds]
      · rw [fill_miss (fun j h1 h2 h3 => hj ⟨j, h1, h2, h3⟩), fill_miss (fun j h1 h2 h3 => by
          rcases (hset j).1 h2 with h4 | h4
          · subst h4; exact hd h3
          · exact hj ⟨j, h1, h4, h3⟩)]
    · rw [Array.getElem?_eq_none (by rw [hsz]; omega), Array.getElem?_eq_none (by unfold fill; rw [fillN_size]; omega)]
theorem fill_congr (h : ∀ i, listed.getD i true = true → i < ops.size → V i = V' i) : fill ops V listed a = fill ops V' listed a := by
  have : ∀ n, n ≤ ops.size → fillN ops V listed a n = fillN ops V' listed a n := by
    intro n
    induction n with
    | zero => intro _; rfl
    | succ n ih =>
      intro hn
      unfold fillN
      rw [ih (by omega)]
      split
      · rename_i hl; rw [h n hl (by omega)]
      · rfl
  exact this _ (Nat.le_refl _)
def fillAllN (ops : Array Oper) (V : Nat → Value) (a : Act) : Nat → Act
  | 0 => a
  | n + 1 => (fillAllN ops V a n).put (dstOf ops n) (V n)
theorem fill_done {l : List Oper} (h : ∀ i, i < l.length → listed.getD i true = true) : fill l.toArray V listed a = fillAllN l.toArray V a l.length := by
  have : ∀ n, n ≤ l.length → fillN l.toArray V listed a n = fillAllN l.toArray V a n := by
    intro n
    induction n with
    | zero => intro _; rfl
    | succ n ih =>
      intro hn
      unfold fillN fillAllN
      rw [ih (by omega), if_pos (h n (by omega))]
  have := this l.length (Nat.le_refl _)
  simpa [fill] using this
/-- Every edge goes back. -/
def Back (ops : Array Oper) : Prop := ∀ (i : Nat) (o : Oper), ops[i]? = some o → ∀ e, e ∈ o.after → e.on < i
theorem all_done (hb : Back ops) {listed : Array Bool} (hr : Region.ready md ops listed = []) : ∀ i, i < ops.size → listed.getD i true = true := by
  intro i
  induction i using Nat.strongRecOn with
  | ind i ih =>
    intro hi
    by_cases h : listed.getD i true = true
    · exact h
    · exfalso
      have h1 : i ∈ Region.ready md ops listed := mem_ready.2 ⟨by simpa using h, ops[i], Array.getElem?_eq_getElem hi, fun e he _ => by
        have h2 := hb i _ (Array.getElem?_eq_getElem hi) e he
        have h3 := ih e.on h2 (by omega)
        have hsz : ∀ k, listed.getD k true = true → listed.getD i true = false → k < i → listed.getD k false = true := fun k h4 h5 h6 => by
          have hil : i < listed.size := by
            by_cases h7 : i < listed.size
            · exact h7
            · simp [Array.getD, h7] at h5
          have hkl : k < listed.size := by omega
          simpa [Array.getD, hkl] using h4
        exact hsz e.on h3 (by simpa using h) h2⟩
      rw [hr] at h1
      cases h1
/-- The law by a table. -/
theorem wp_region_tab {G : Type} {id : Nat} {a : Act} {w : World} {l : List Oper} (V : G → Nat → Value) (R : World → Array Bool → G → World → Prop) (g0 : G) (hm : P.follows .mixedOrders = true) (hs : Slots l.toArray) (hb : Back l.toArray)
    (hg : ∀ (i : Nat) (o : Oper), l[i]? = some o → o.guard = none) (h0 : R w (Array.replicate l.length false) g0 w.drew)
    (hstep : ∀ listed g w1 i o, l[i]? = some o → listed.getD i true = false → (∀ e, e ∈ o.after → Region.binds .any e = true → listed.getD e.on false = true) → R w listed g w1 →
      ∀ K : Act → World → Prop, (∀ g' w', R w (listed.setIfInBounds i true) g' w' → (∀ j, j < l.length → listed.getD j true = true → V g' j = V g j) → K ((fill l.toArray (V g) listed a).put o.dst (V g' i)) w') → o.wp P (fill l.toArray (V g) listed a) w1 K Q)
    (hend : ∀ listed g w1, (∀ i, i < l.length → listed.getD i true = true) → R w listed g w1 → Q .normal (fill l.toArray (V g) listed a) w1) : (Code.region id l.toArray true).wp P Q a w := by
  refine wp_region_inv (fun listed b w1 => ∃ g, b = fill l.toArray (V g) listed a ∧ R w listed g w1) hm ⟨g0, ?_, h0⟩ ?_ ?_
  · have : ∀ n, fillN l.toArray (V g0) (Array.replicate l.length false) a n = a ∨ l.length < n := by
      intro n
      induction n with
      | zero => exact .inl rfl
      | succ n ih =>
        by_cases hn : l.length < n + 1
        · exact .inr hn
        · rcases ih with ih | ih
          · refine .inl ?_
            unfold fillN
            rw [if_neg (by simp [Array.getD]; omega), ih]
          · omega
    rcases this l.toArray.size with h | h
    · exact h.symm
    · simp at h
  · rintro listed b w1 i ⟨g, rfl, hR⟩ hi
    obtain ⟨hun, o, ho, hdeps⟩ := mem_ready.1 hi
    have ho' : l[i]? = some o := by simpa using ho
    have hi2 : i < l.toArray.size := (Array.getElem?_eq_some_iff.1 ho).1
    refine wpOp_step ho fun K hK => ?_
    rw [if_pos (by simp [Region.wanted, hg i o ho'])]
    refine hstep listed g w1 i o ho' hun hdeps hR K fun g' w' hR' hV => ?_
    refine hK _ _ ⟨g', ?_, hR'⟩
    have hd : dstOf l.toArray i = o.dst := by simp [dstOf, ho']
    rw [← hd, fill_congr (V' := V g') (fun j hl hj => (hV j (by simpa using hj) hl).symm), fill_put hs hi2 hun]
  · rintro listed b w1 ⟨g, rfl, hR⟩ hr
    exact hend listed g w1 (fun i hi => all_done hb hr i (by simpa using hi)) hR
theorem fill_eval_hit (hs : Slots ops) (i : Nat) {d : Nat} (hi : i < ops.size) (hl : listed.getD i true = true) (hd : dstOf ops i = some d) (hds : d < a.tmps.size) : (fill ops V listed a).eval (.tmp d) = V i := by
  have h := fill_hit (V := V) hs hi hl hd hds
  simp [Act.eval, Array.getD_eq_getD_getElem?, h]
theorem fill_eval_miss {d : Nat} (h : ∀ i, i < ops.size → dstOf ops i ≠ some d) : (fill ops V listed a).eval (.tmp d) = a.eval (.tmp d) := by
  have h := fill_miss (V := V) (listed := listed) (a := a) (d := d) (fun i hi _ => h i hi)
  simp [Act.eval, Array.getD_eq_getD_getElem?, h]
/-- Read off a table of slots. -/
def missB (ops : Array Oper) (d : Nat) : Bool := (List.range ops.size).all fun i => !(dstOf ops i == some d)
theorem missB_spec {d : Nat} (h : missB ops d = true) : ∀ i, i < ops.size → dstOf ops i ≠ some d := fun i hi => by
  unfold missB at h
  simp only [List.all_eq_true, List.mem_range, Bool.not_eq_true', beq_eq_false_iff_ne] at h
  exact h i hi
def slotsB (ops : Array Oper) : Bool := (List.range ops.size).all fun i => (List.range ops.size).all fun j => i == j || (dstOf ops i).isNone || !(dstOf ops i == dstOf ops j)
theorem slotsB_spec (h : slotsB ops = true) : Slots ops := fun i j d hi hj => by
  have lt : ∀ k, dstOf ops k = some d → k < ops.size := fun k hk => by
    unfold dstOf at hk
    cases ho : ops[k]? with
    | none => rw [ho] at hk; simp at hk
    | some o => exact (Array.getElem?_eq_some_iff.1 ho).1
  unfold slotsB at h
  simp only [List.all_eq_true, List.mem_range, Bool.or_eq_true, beq_iff_eq, Bool.not_eq_true', beq_eq_false_iff_ne] at h
  rcases h i (lt i hi) j (lt j hj) with (h1 | h1) | h1
  · exact h1
  · rw [hi] at h1; simp at h1
  · exact absurd (hi.trans hj.symm) h1
def backB (ops : Array Oper) : Bool := (List.range ops.size).all fun i => match ops[i]? with | some o => o.after.all fun e => decide (e.on < i) | none => true
theorem backB_spec (h : backB ops = true) : Back ops := fun i o ho e he => by
  unfold backB at h
  simp only [List.all_eq_true, List.mem_range] at h
  have h1 := h i (Array.getElem?_eq_some_iff.1 ho).1
  rw [ho] at h1
  simp only [Array.all_eq_true'] at h1
  simpa using h1 e he
theorem getD_up {l : Array Bool} {k : Nat} (h : l.getD k false = true) : l.getD k true = true := by
  by_cases hk : k < l.size
  · simpa [Array.getD, hk] using h
  · simp [Array.getD, hk]
/-- The law by a table, each step in a frame of which one knows what its slots hold. -/
theorem wp_region_slots {G : Type} {id : Nat} {a : Act} {w : World} {l : List Oper} (V : G → Nat → Value) (R : World → Array Bool → G → World → Prop) (g0 : G) (hm : P.follows .mixedOrders = true) (hs : slotsB l.toArray = true) (hb : backB l.toArray = true)
    (hg : ∀ (i : Nat) (o : Oper), l[i]? = some o → o.guard = none) (h0 : R w (Array.replicate l.length false) g0 w.drew)
    (hstep : ∀ listed g w1 i o, l[i]? = some o → listed.getD i true = false → (∀ e, e ∈ o.after → Region.binds .any e = true → listed.getD e.on false = true) → R w listed g w1 →
      ∀ (b : Act) (K : Act → World → Prop), (∀ d : Nat, missB l.toArray d = true → b.tmps[d]? = a.tmps[d]?) → (∀ j d, j < l.length → listed.getD j true = true → dstOf l.toArray j = some d → d < a.tmps.size → b.tmps[d]? = some (V g j)) →
      (∀ g' w', R w (listed.setIfInBounds i true) g' w' → (∀ j, j < l.length → listed.getD j true = true → V g' j = V g j) → K (b.put o.dst (V g' i)) w') → o.wp P b w1 K Q)
    (hend : ∀ listed g w1, (∀ i, i < l.length → listed.getD i true = true) → R w listed g w1 → Q .normal (fill l.toArray (V g) listed a) w1) : (Code.region id l.toArray true).wp P Q a w :=
  wp_region_tab V R g0 hm (slotsB_spec hs) (backB_spec hb) hg h0
    (fun listed g w1 i o ho hun hdep hR K hK => hstep listed g w1 i o ho hun hdep hR (fill l.toArray (V g) listed a) K (fun d hd => fill_miss (fun i hi _ => missB_spec hd i hi)) (fun j d hj hl hd hds => fill_hit (slotsB_spec hs) (by simpa using hj) hl hd hds) hK) hend
end
end Go.Proofs.YtcfebfblmmbeaaaDoor

/- Contracts of the layer of points, on: join. -/
namespace Go.Proofs.YtcfebfblmmbeaaaDoor
open Go Go.RowKit

def pv (x y z : Int) : Value := .agg #[.int .i64 x, .int .i64 y, .int .i64 z]
/-- What each slot of join's drawn region holds. -/
def joinV (a b : Bx) (n : Nat) (g : Nat → Nat) : Nat → Value
  | 0 => .pointer (some ⟨n, 0, none⟩)
  | 1 => pv a.lo.x a.lo.y a.lo.z
  | 2 => pv a.lo.x a.lo.y a.lo.z
  | 3 => .pointer (some ⟨n + 1, 0, none⟩)
  | 4 => pv b.lo.x b.lo.y b.lo.z
  | 5 => pv b.lo.x b.lo.y b.lo.z
  | 6 => .pointer (some ⟨n, 3, none⟩)
  | 7 => pv a.hi.x a.hi.y a.hi.z
  | 8 => pv a.hi.x a.hi.y a.hi.z
  | 9 => .pointer (some ⟨n + 1, 3, none⟩)
  | 10 => pv b.hi.x b.hi.y b.hi.z
  | 11 => pv b.hi.x b.hi.y b.hi.z
  | 12 => .pointer (some ⟨g 12, 0, none⟩)
  | 13 => .pointer (some ⟨g 13, 0, none⟩)
  | 14 => .pointer (some ⟨g 14, 0, none⟩)
  | 15 => .pointer (some ⟨g 15, 0, none⟩)
  | _ => undef
def joinC (a b : Bx) : Nat → List Value
  | 12 => [.int .i64 a.lo.x, .int .i64 a.lo.y, .int .i64 a.lo.z]
  | 13 => [.int .i64 b.lo.x, .int .i64 b.lo.y, .int .i64 b.lo.z]
  | 14 => [.int .i64 a.hi.x, .int .i64 a.hi.y, .int .i64 a.hi.z]
  | _ => [.int .i64 b.hi.x, .int .i64 b.hi.y, .int .i64 b.hi.z]
end Go.Proofs.YtcfebfblmmbeaaaDoor

/- Contracts of the layer of points, on: Intersect, Add, Scale, Sub; and the reference's. -/
namespace Go.Proofs.YtcfebfblmmbeaaaDoor
open Go Go.RowKit

def zeroPt : Pt := ⟨0, 0, 0⟩
def zeroBx : Bx := ⟨⟨0, 0, 0⟩, ⟨0, 0, 0⟩⟩
def meetB (a b : Bx) : Bx := ⟨⟨max a.lo.x b.lo.x, max a.lo.y b.lo.y, max a.lo.z b.lo.z⟩, ⟨min a.hi.x b.hi.x, min a.hi.y b.hi.y, min a.hi.z b.hi.z⟩⟩
def interB (a b : Bx) : Bx := if emptyB (meetB a b) then zeroBx else meetB a b

def addP (p q : Pt) : Pt := ⟨wrap64 (p.x + q.x), wrap64 (p.y + q.y), wrap64 (p.z + q.z)⟩
def subP (p q : Pt) : Pt := ⟨wrap64 (p.x - q.x), wrap64 (p.y - q.y), wrap64 (p.z - q.z)⟩
def scaleP (p : Pt) (n : Int) : Pt := ⟨wrap64 (n * p.x), wrap64 (n * p.y), wrap64 (n * p.z)⟩
def emptyR (b : Bx) : Bool := decide (b.lo.x ≥ b.hi.x) || (decide (b.lo.y ≥ b.hi.y) || decide (b.lo.z ≥ b.hi.z))
theorem emptyR_eq (b : Bx) : emptyR b = emptyB b := by
  rw [Bool.eq_iff_iff]; simp [emptyR, emptyB, inP]
def sizeP (b : Bx) : Pt := if emptyB b then zeroPt else subP b.hi b.lo
def volP (b : Bx) : Int := wrap64 (wrap64 ((sizeP b).x * (sizeP b).y) * (sizeP b).z)
end Go.Proofs.YtcfebfblmmbeaaaDoor
