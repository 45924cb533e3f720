/- YtlinhgannajfpaaGreatDoorRegion · YtlinhgannajfpaaGreatDoorBase · YtlinhgannajfpaaGreatDoorWp · YtlinhgannajfpaaGreatDoorWs · YtlinhgannajfpaaGreatDoorVw · YtlinhgannajfpaaGreatDoorPt · YtlinhgannajfpaaGreatDoorVr · YtlinhgannajfpaaGreatDoorWq · YtlinhgannajfpaaGreatDoorOwn · YtlinhgannajfpaaGreatDoorGrow · YtlinhgannajfpaaGreatDoorArr · YtlinhgannajfpaaGreatDoorLp -/
import Derived.Test.YtlinhgannajfpaaGreatDoorRows
import Derived.WalkKit
import Derived.Deep.QuietTactic
import Derived.StillTail
import Derived.Laws.OwnMore
import Derived.WalkSpells
import Derived.WalkLawsBesides
import Derived.BigQuiet
import Derived.Lib.Hide
import Derived.IntWalk
import Derived.Shelf.Abstract
import Derived.Laws.BitsAllLaws
import Derived.Lib.MinMax
import Derived.Laws.CopyOwn
import Derived.Laws.AppendOwnNone
import Derived.Deep.DeepAppendRoom
import Derived.Deep.MidRow
/- A region that draws its order: a head of operations that leave every world of a class in the class and yield one value each, and a tail in one forced order. For every class of worlds, head and tail. -/
namespace Go.Proofs.YtlinhgannajfpaaGreatDoor
open Go Go.RowKit

section
variable {P : Program} {ops : Array Oper} {md : Region.Mode} {C : World → Prop}

def headQ (P : Program) (md : Region.Mode) (ops : Array Oper) (C : World → Prop) (n : Nat) (L : Array Bool → Act → Prop) : Nat → Array Bool → Act → Prop
 | 0, listed, a => L listed a
 | f + 1, listed, a =>
   Region.ready md ops listed ≠ [] ∧ ∀ i ∈ Region.ready md ops listed, i < n ∧ qOp P ops C i (headQ P md ops C n L f (listed.setIfInBounds i true)) a

theorem wpAny_of_headQ {n g : Nat} {L : Array Bool → Act → Prop} {Q' : Exit → Act → World → Prop} (hL : ∀ listed a w, C w → L listed a → wpAny P md ops Q' g listed a w) :
    ∀ (f : Nat) (listed : Array Bool) (a : Act) (w : World), C w → headQ P md ops C n L f listed a → wpAny P md ops Q' (f + g) listed a w
 | 0, listed, a, w, hw, h => by rw [Nat.zero_add]; exact hL _ _ _ hw h
 | f + 1, listed, a, w, hw, h => by
   rw [show f + 1 + g = (f + g) + 1 by omega]
   exact ⟨fun h0 => absurd h0 h.1, fun i hi => wpOp_of_qOp hw (fun a' w' hw' h' => wpAny_of_headQ hL f _ a' w' hw' h') (h.2 i hi).2⟩

theorem headQ_first {n i : Nat} {oi : Oper} {v : Value} {L : Array Bool → Act → Prop} (hi : ops[i]? = some oi) (hsel : ∀ (j : Nat) (o : Oper) cs b, ops[j]? = some o → o.op ≠ .select cs b)
    (hs : Region.sinkB md ops n = true) (hc : Region.chainB md ops n = true) (hn : n < ops.size) (hin : i < n)
    (hdone : ∀ listed a, L listed a → ∀ j ∈ Region.ready md ops listed, n ≤ j) :
    ∀ (f : Nat) (listed : Array Bool) (a : Act), HeadInv md ops n listed →
      (∀ j oj, ops[j]? = some oj → j ≠ i → listed.getD j true = false → (∀ e ∈ oj.after, Region.binds md e = true → e.on ≠ i) → oi.apart ops oj = true) →
      i ∈ Region.ready md ops listed → YieldsIn P ops C oi v a →
      headQ P md ops C n L f (listed.setIfInBounds i true) (a.put oi.dst v) → headQ P md ops C n L (f + 1) listed a := by
 intro f
 induction f with
 | zero =>
   intro listed a inv _ hr hy H
   refine ⟨fun h => (by rw [h] at hr; cases hr), fun j hj => ?_⟩
   have hjn : j < n := (Nat.lt_or_ge j n).resolve_right fun h => absurd hj (tail_waits hs hc hn inv _ i rfl hin (mem_ready.1 hr).1 j h)
   refine ⟨hjn, ?_⟩
   by_cases hji : j = i
   · subst hji; exact hy.qOp hi H
   · have := hdone _ _ H j (ready_mono hj hji)
     omega
 | succ f ih =>
   intro listed a inv hfree hr hy H
   have hun := (mem_ready.1 hr).1
   refine ⟨fun h => (by rw [h] at hr; cases hr), fun j hj => ?_⟩
   have hjn : j < n := (Nat.lt_or_ge j n).resolve_right fun h => absurd hj (tail_waits hs hc hn inv _ i rfl hin hun j h)
   refine ⟨hjn, ?_⟩
   by_cases hji : j = i
   · subst hji; exact hy.qOp hi H
   · have h1 := (H.2 j (ready_mono hj hji)).2
     obtain ⟨hjun, oj, hoj, hall⟩ := mem_ready.1 hj
     have hnot : ∀ e ∈ oj.after, Region.binds md e = true → e.on ≠ i := fun e he hb heq => by
      have h1 := hall e he hb
      rw [heq, getD_both hun] at h1
      cases h1
     have h2 := qOp_put hoj (hfree j oj hoj hji hjun hnot) (fun cs b => hsel i oi cs b hi) (fun cs b => hsel j oj cs b hoj) hy h1
     have hfree' : ∀ k ok, ops[k]? = some ok → k ≠ i → (listed.setIfInBounds j true).getD k true = false →
         (∀ e ∈ ok.after, Region.binds md e = true → e.on ≠ i) → oi.apart ops ok = true := fun k ok hk hki hun hno => by
      refine hfree k ok hk hki ?_ hno
      by_cases hjk : j = k
      · subst hjk; exact hjun
      · rw [getD_set_ne true hjk] at hun; exact hun
     refine qOp_mono (fun a' h3 => ih (listed.setIfInBounds j true) a' (inv.set hj hjn) hfree' (ready_mono hr (Ne.symm hji)) h3.1 ?_) h2
     rw [Array.setIfInBounds_comm _ _ hji]
     exact h3.2

theorem headQ_lex {n g : Nat} {Lq : Act → Prop} (hsel : Region.noSelect ops = true) (hs : Region.sinkB md ops n = true) (hc : Region.chainB md ops n = true) (hn : n < ops.size) :
    ∀ (l : List Oper) (k : Nat) (listed : Array Bool) (a : Act), (∀ j, j < l.length → l[j]? = ops[k + j]?) → k + l.length = n → HeadInv md ops n listed →
    Region.lexHead md ops g l.length k listed = true → wpQuiet P ops C Lq l a →
    headQ P md ops C n (fun listed' a' => Region.seqB md ops g n listed' = true ∧ Lq a') l.length listed a
 | [], k, listed, a, _, hk, _, hB, h => by
   obtain rfl : k = n := by simpa using hk
   exact ⟨by simpa [Region.lexHead] using hB, h⟩
 | o :: l, k, listed, a, hl, hk, inv, hB, h => by
   have h0 : ops[k]? = some o := by simpa using (hl 0 (by simp)).symm
   simp only [List.length_cons, Region.lexHead, Bool.and_eq_true] at hB
   obtain ⟨⟨hr, hf⟩, hB'⟩ := hB
   have hkn : k < n := by simp only [List.length_cons] at hk; omega
   have hr' : k ∈ Region.ready md ops listed := by simpa using hr
   have hst : qOp P ops C k (wpQuiet P ops C Lq l) a := by unfold qOp; simp only [h0]; exact h
   obtain ⟨v, hy, hK⟩ := yieldsIn_of_qOp h0 hst
   exact headQ_first h0 (Region.noSelect_spec hsel) hs hc hn hkn (fun listed' a' hL => seqB_ready hL.1) l.length listed a inv (Region.free_spec h0 hf) hr' hy
    (headQ_lex hsel hs hc hn l (k + 1) _ _ (fun j hj => by have := hl (j + 1) (by simp; omega); simpa [Nat.add_assoc, Nat.add_comm 1 j] using this) (by simp only [List.length_cons] at hk; omega) (inv.set hr' hkn) hB' hK)

theorem wp_region_head {id : Nat} {Q : Exit → Act → World → Prop} {a : Act} {w : World} {l : List Oper} (n : Nat) (hm : P.follows .mixedOrders = true) (hB : Region.lexTailB .any l.toArray n = true) (hC : C w.drew)
    (h : wpQuiet P l.toArray C (fun a' => ∀ w', C w' → wpList P l.toArray Q (l.drop n) a' w') (l.take n) a) : (Code.region id l.toArray true).wp P Q a w := by
 simp only [Region.lexTailB, Bool.and_eq_true, decide_eq_true_eq] at hB
 obtain ⟨⟨⟨⟨hsel, hn⟩, hs⟩, hc⟩, hlex⟩ := hB
 have hn' : n < l.length := by simpa using hn
 have htl : (l.take n).length = n := by simp; omega
 have hdl : (l.drop n).length = l.toArray.size - n := by simp
 have inv0 : HeadInv .any l.toArray n (Array.replicate l.toArray.size false) :=
  ⟨by simp, fun j oj _ hl => (by rw [getD_replicate_false] at hl; cases hl), fun t _ ht => getD_in (by simpa using ht) (getD_replicate_false _ _)⟩
 have H := headQ_lex (md := .any) (g := l.toArray.size - n) hsel hs hc hn (l.take n) 0 _ a (fun j hj => by
  have hj' : j < n := by rw [htl] at hj; exact hj
  simp [hj']) (by simpa using htl) inv0 (by rw [htl]; exact hlex) h
 refine wp_region_any hm ?_
 have := wpAny_of_headQ (Q' := Q) (g := l.toArray.size - n) (fun listed a' w' hw' hL => by
  have := wpAny_of_seq (md := .any) (Q' := Q) (l.drop n) n listed a' w' (fun j => by simp [List.getElem?_drop]) (by rw [hdl]; exact hL.1) (hL.2 _ hw')
  rwa [hdl] at this) _ _ _ w.drew hC H
 rw [htl, show n + (l.toArray.size - n) = l.toArray.size by omega] at this
 exact this
end

def near (w : World) (n : Nat) (os : Array Obj) : World := { w with heap := w.heap ++ os, drawn := n }
structure Near where
 n : Nat
 os : Array Obj
 deriving Inhabited
theorem near_drew (w : World) : near w (w.drawn + 1) #[] = w.drew := by unfold near World.drew; rw [Array.append_empty]
theorem near_old (w : World) (n : Nat) (os : Array Obj) (b o : Nat) (h : b < w.heap.size) : (near w n os).cell? ⟨b, o, none⟩ = w.cell? ⟨b, o, none⟩ := by
 simp only [World.cell?, near, Array.getElem?_append, h, if_true]
theorem near_obj (w : World) (n : Nat) (os : Array Obj) (b : Nat) (h : b < w.heap.size) : (near w n os).heap[b]? = w.heap[b]? := by
 simp only [near, Array.getElem?_append, h, if_true]

theorem wp_region_near {P : Program} {id : Nat} {Q : Exit → Act → World → Prop} {a : Act} {w : World} {l : List Oper} (hm : P.follows .mixedOrders = true) (hB : Region.lexB .any l.toArray = true)
    (h : wpQuiet P l.toArray (fun w' => ∃ p : Near, w' = near w p.n p.os) (fun a' => ∀ w', (∃ p : Near, w' = near w p.n p.os) → Q .normal a' w') l a) : (Code.region id l.toArray true).wp P Q a w :=
 wp_region_quiet (C := fun w' => ∃ p : Near, w' = near w p.n p.os) hm hB ⟨⟨w.drawn + 1, #[]⟩, (near_drew w).symm⟩ (by simpa using h)
theorem wp_region_near_tail {P : Program} {id : Nat} {Q : Exit → Act → World → Prop} {a : Act} {w : World} {l : List Oper} (n : Nat) (hm : P.follows .mixedOrders = true) (hB : Region.lexTailB .any l.toArray n = true)
    (h : wpQuiet P l.toArray (fun w' => ∃ p : Near, w' = near w p.n p.os) (fun a' => ∀ w', (∃ p : Near, w' = near w p.n p.os) → wpList P l.toArray Q (l.drop n) a' w') (l.take n) a) : (Code.region id l.toArray true).wp P Q a w :=
 wp_region_head n hm hB ⟨⟨w.drawn + 1, #[]⟩, (near_drew w).symm⟩ h

structure Ext (w w' : World) : Prop where
 below : Below w.heap.size w w'
theorem Ext.refl (w : World) : Ext w w := ⟨Below.refl _ _⟩
theorem Ext.trans {a b c : World} (h : Ext a b) (k : Ext b c) : Ext a c := ⟨h.below.trans (k.below.mono h.below.size)⟩
theorem Ext.drew {a w : World} (h : Ext a w) : Ext a w.drew := ⟨h.below.drew⟩
theorem Ext.drewN {a w : World} (h : Ext a w) (n : Nat) : Ext a (w.drewN n) := ⟨⟨h.below.os, h.below.tape, h.below.output, h.below.size, h.below.block⟩⟩
theorem Ext.alloc {a w : World} (h : Ext a w) (o : Obj) : Ext a (w.alloc o) := ⟨h.below.alloc h.below.size o⟩
theorem Ext.setCell {a w : World} (h : Ext a w) {p : Addr} (hp : a.heap.size ≤ p.block) (u : Value) : Ext a (w.setCell p u) := ⟨h.below.setCell hp u⟩
theorem Ext.grown {a w w' : World} {row : Option Nat} (h : Ext a w) (hg : w.grownBy w' row) (hr : ∀ k, row = some k → a.heap.size ≤ k) : Ext a w' := ⟨h.below.grown hg h.below.size hr⟩
theorem Ext.of_near {w w' : World} (h : ∃ p : Near, w' = near w p.n p.os) : Ext w w' := by
 obtain ⟨⟨n, os⟩, rfl⟩ := h
 exact ⟨⟨rfl, rfl, rfl, by simp [near], fun k hk => near_obj w n os k hk⟩⟩
theorem Ext.near {w w' : World} (h : Ext w w') : ∃ p : Near, w' = Go.Proofs.YtlinhgannajfpaaGreatDoor.near w p.n p.os := by
 refine ⟨⟨w'.drawn, w'.heap.extract w.heap.size w'.heap.size⟩, ?_⟩
 have h1 : w'.heap = w.heap ++ w'.heap.extract w.heap.size w'.heap.size := by
  apply Array.ext_getElem?
  intro k
  rw [Array.getElem?_append]
  split
  · exact h.below.block k (by assumption)
  · have := h.below.size
    rw [Array.getElem?_extract]
    split
    · congr 1; omega
    · rw [Array.getElem?_eq_none]; omega
 have h3 := h.below.os
 have h4 := h.below.tape
 have h5 := h.below.output
 cases w; cases w'
 simp only [Go.Proofs.YtlinhgannajfpaaGreatDoor.near] at *
 subst h3 h4 h5
 congr 1
theorem Ext.cell {w w' : World} (h : Ext w w') {p : Addr} (hp : p.block < w.heap.size) : w'.cell? p = w.cell? p := h.below.cell hp
theorem Ext.box {w w' : World} {cs : Array Value} {t : TypeId} {m : Nat × Nat} (h : Ext (w.alloc (.cells cs t m)) w') (i : Nat) : w'.cell? ⟨w.heap.size, i, none⟩ = cs[i]? := by
 rw [h.cell (by simp)]
 exact cell_of_row _ _ _ _ _ _ (heap_alloc_new w _)
theorem Ext.look {w w' : World} (h : Ext w w') : (∀ b o, b < w.heap.size → w'.cell? ⟨b, o, none⟩ = w.cell? ⟨b, o, none⟩) ∧ (∀ b o, b < w.heap.size → w'.frozen? ⟨b, o, none⟩ = w.frozen? ⟨b, o, none⟩) ∧
    (∀ b, b < w.heap.size → b < w'.heap.size) ∧ (∀ b, b < w.heap.size → b ≤ w'.heap.size) ∧ (∀ b, b < w.heap.size → ¬ (b = w'.heap.size)) ∧ (∀ b, b < w.heap.size → ¬ (w'.heap.size = b)) :=
 ⟨fun b o k => h.below.cell (p := ⟨b, o, none⟩) k, fun b o k => h.below.frozen (p := ⟨b, o, none⟩) k, fun b k => by have := h.below.size; omega, fun b k => by have := h.below.size; omega,
   fun b k => by have := h.below.size; omega, fun b k => by have := h.below.size; omega⟩
theorem Ext.one {w w' : World} (h : Ext w w') {b : Nat} (hb : b < w.heap.size) : (∀ o, w'.cell? ⟨b, o, none⟩ = w.cell? ⟨b, o, none⟩) ∧ (∀ o, w'.frozen? ⟨b, o, none⟩ = w.frozen? ⟨b, o, none⟩) ∧
    b < w'.heap.size ∧ b ≤ w'.heap.size ∧ ¬ (b = w'.heap.size) ∧ ¬ (w'.heap.size = b) :=
 ⟨fun o => h.look.1 b o hb, fun o => h.look.2.1 b o hb, h.look.2.2.1 b hb, h.look.2.2.2.1 b hb, h.look.2.2.2.2.1 b hb, h.look.2.2.2.2.2 b hb⟩
theorem _root_.Go.World.size_setCell_ (w : World) (p : Addr) (v : Value) : (w.setCell p v).heap.size = w.heap.size := by simp [World.setCell]
theorem _root_.Go.World.size_alloc_ (w : World) (o : Obj) : (w.alloc o).heap.size = w.heap.size + 1 := by simp
theorem Ext.size {w w' : World} (h : Ext w w') : w.heap.size ≤ w'.heap.size := h.below.size
theorem Ext.size1 {w w' : World} {o : Obj} (h : Ext (w.alloc o) w') : w.heap.size < w'.heap.size := by have := h.below.size; simp at this; omega
theorem Ext.un {w w' : World} {o : Obj} (h : Ext (w.alloc o) w') : Ext w w' := ((Ext.refl w).alloc o).trans h
theorem near_call {P : Program} {f : FuncId} {args : Array Value} {w : World} {n : Nat} {os : Array Obj} {v : Value}
    (h : Calls P f args (near w n os) fun e w' => e = .returned v ∧ Ext (near w n os) w') : Calls P f args (near w n os) fun e w'' => e = .returned v ∧ ∃ p : Near, w'' = near w p.n p.os :=
 h.mono fun _ _ ⟨he, hx⟩ => ⟨he, ((Ext.of_near ⟨⟨n, os⟩, rfl⟩).trans hx).near⟩
theorem near_same {P : Program} {f : FuncId} {args : Array Value} {w : World} {n : Nat} {os : Array Obj} {v : Value}
    (h : Calls P f args (near w n os) fun e w' => e = .returned v ∧ near w n os = w') : Calls P f args (near w n os) fun e w'' => e = .returned v ∧ ∃ p : Near, w'' = near w p.n p.os :=
 h.mono fun _ _ ⟨he, hx⟩ => ⟨he, ⟨⟨n, os⟩, hx.symm⟩⟩
end Go.Proofs.YtlinhgannajfpaaGreatDoor

/- Words for memory: a slice that reads as a list of rows of cells, nil let in; kept while memory below a block number stands. -/
namespace Go.Proofs.YtlinhgannajfpaaGreatDoor
open Go.RowKit

theorem flatten_at {k : Nat} : ∀ (xs : List (List Value)), (∀ x, x ∈ xs → x.length = k) → ∀ (i : Nat) (x : List Value), xs[i]? = some x → ∀ j u, x[j]? = some u → xs.flatten[i * k + j]? = some u
 | [], _, i, x, hx, _, _, _ => by simp at hx
 | y :: ys, h, 0, x, hx, j, u, hu => by
   simp only [List.getElem?_cons_zero, Option.some.injEq] at hx
   subst hx
   have hj : j < y.length := (List.getElem?_eq_some_iff.1 hu).1
   rw [List.flatten_cons, Nat.zero_mul, Nat.zero_add, List.getElem?_append_left hj]
   exact hu
 | y :: ys, h, i + 1, x, hx, j, u, hu => by
   have hy := h y (List.mem_cons_self ..)
   rw [List.flatten_cons, List.getElem?_append_right (by rw [hy, Nat.succ_mul]; omega), hy, show (i + 1) * k + j - k = i * k + j by rw [Nat.succ_mul]; omega]
   exact flatten_at ys (fun z hz => h z (List.mem_cons_of_mem _ hz)) i x (by simpa using hx) j u hu
theorem flatten_length {k : Nat} : ∀ (xs : List (List Value)), (∀ x, x ∈ xs → x.length = k) → xs.flatten.length = xs.length * k
 | [], _ => by simp
 | y :: ys, h => by
   rw [List.flatten_cons, List.length_append, flatten_length ys (fun z hz => h z (List.mem_cons_of_mem _ hz)), h y (List.mem_cons_self ..), List.length_cons, Nat.succ_mul]; omega

def Rws (k : Nat) (xs : List (List Value)) : Prop := ∀ x, x ∈ xs → ∃ l : List Int, l.length = k ∧ x = l.map (Value.int .i64)
theorem Rws.len {k : Nat} {xs : List (List Value)} (h : Rws k xs) : ∀ x, x ∈ xs → x.length = k := fun x hx => by
 obtain ⟨l, h1, rfl⟩ := h x hx
 simpa using h1
theorem Rws.one {k : Nat} {xs : List (List Value)} (h : Rws k xs) : ∀ u, u ∈ xs.flatten → u.oneCell' = true := fun u hu => by
 obtain ⟨x, hx, hu⟩ := List.mem_flatten.1 hu
 obtain ⟨l, _, rfl⟩ := h x hx
 obtain ⟨n, _, rfl⟩ := List.mem_map.1 hu
 rfl
theorem Rws.sub {k : Nat} {xs ys : List (List Value)} (h : Rws k xs) (hs : ∀ x, x ∈ ys → x ∈ xs) : Rws k ys := fun x hx => h x (hs x hx)
theorem Rws.set {k : Nat} {xs : List (List Value)} (h : Rws k xs) {i : Nat} {x : List Value} (hx : ∃ l : List Int, l.length = k ∧ x = l.map (Value.int .i64)) : Rws k (xs.set i x) := fun y hy => by
 rcases List.mem_or_eq_of_mem_set hy with h1 | rfl
 · exact h y h1
 · exact hx
theorem Rws.row3 {xs : List (List Value)} (h : Rws 3 xs) {x : List Value} (hx : x ∈ xs) : ∃ a b c : Int, x = [.int .i64 a, .int .i64 b, .int .i64 c] := by
 obtain ⟨l, h1, rfl⟩ := h x hx
 match l, h1 with
 | [a, b, c], _ => exact ⟨a, b, c, rfl⟩

structure Sl (w : World) (B k : Nat) (A : Option Addr) (c : Nat) (xs : List (List Value)) : Prop where
 le : xs.length ≤ c
 max : c ≤ maxLen
 rows : Rws k xs
 mem : 0 < xs.length → ∃ b off, A = some ⟨b, off, none⟩ ∧ b < B ∧ ∀ (j : Nat) (u : Value), xs.flatten[j]? = some u → w.cell? ⟨b, off + j, none⟩ = some u

section
variable {w w' : World} {B B' k c : Nat} {A : Option Addr} {xs : List (List Value)}
theorem Sl.keep (h : Sl w B k A c xs) (hk : ∀ p : Addr, p.block < B → w'.cell? p = w.cell? p) : Sl w' B k A c xs :=
 ⟨h.le, h.max, h.rows, fun hn => by
   obtain ⟨b, off, e, hb, hc⟩ := h.mem hn
   exact ⟨b, off, e, hb, fun j u hu => (hk _ hb).trans (hc j u hu)⟩⟩
theorem Sl.more (h : Sl w B k A c xs) (hB : B ≤ B') : Sl w B' k A c xs :=
 ⟨h.le, h.max, h.rows, fun hn => by
   obtain ⟨b, off, e, hb, hc⟩ := h.mem hn
   exact ⟨b, off, e, by omega, hc⟩⟩
theorem Sl.below (h : Sl w B k A c xs) (hb : Below B w w') : Sl w' B k A c xs := h.keep fun _ hp => hb.cell hp
theorem Sl.drew (h : Sl w B k A c xs) : Sl w.drew B k A c xs := ⟨h.le, h.max, h.rows, h.mem⟩
theorem Sl.drewN (h : Sl w B k A c xs) (n : Nat) : Sl (w.drewN n) B k A c xs := ⟨h.le, h.max, h.rows, h.mem⟩
theorem Sl.alloc (h : Sl w B k A c xs) (hB : B ≤ w.heap.size) (o : Obj) : Sl (w.alloc o) B k A c xs := h.keep fun p hp => World.cell?_alloc_lt w o p (by omega)
theorem Sl.setCell (h : Sl w B k A c xs) {p : Addr} (hB : B ≤ p.block) (u : Value) : Sl (w.setCell p u) B k A c xs :=
 h.keep fun q hq => World.cell?_setCell_other w p q u (fun e => by subst e; omega)
theorem Sl.ext (h : Sl w B k A c xs) (hx : Ext w w') (hB : B ≤ w.heap.size) : Sl w' B k A c xs := h.below (hx.below.mono hB)
theorem Sl.nil (w : World) (B k : Nat) : Sl w B k none 0 [] := ⟨by simp, by simp, fun _ h => by simp at h, fun h => absurd h (by simp)⟩
theorem Sl.len (h : Sl w B k A c xs) : xs.length ≤ 9223372036854775807 := by have h1 := h.le; have h2 := h.max; unfold maxLen at h2; omega
theorem Sl.at3 (h : Sl w B 3 A c xs) {i : Nat} {u0 u1 u2 : Value} (hx : xs[i]? = some [u0, u1, u2]) :
    ∃ b off, A = some ⟨b, off, none⟩ ∧ b < B ∧ w.cell? ⟨b, off + i * 3, none⟩ = some u0 ∧ w.cell? ⟨b, off + i * 3 + 1, none⟩ = some u1 ∧ w.cell? ⟨b, off + i * 3 + 2, none⟩ = some u2 := by
 obtain ⟨b, off, e, hb, hc⟩ := h.mem (by have := (List.getElem?_eq_some_iff.1 hx).1; omega)
 have hf := flatten_at xs h.rows.len i _ hx
 exact ⟨b, off, e, hb, hc _ _ (hf 0 u0 rfl), by rw [Nat.add_assoc]; exact hc _ _ (hf 1 u1 rfl), by rw [Nat.add_assoc]; exact hc _ _ (hf 2 u2 rfl)⟩
end
end Go.Proofs.YtlinhgannajfpaaGreatDoor

/- Wire, plainly: zigzag numbers, digits to the base 128, lists of numbers; what is decoded is the encoding of the result. -/
namespace Go.Proofs.YtlinhgannajfpaaGreatDoor
open Go Go.RowKit

def zz (n : Int) : Nat := if 0 ≤ n then (2 * n).toNat else (-2 * n - 1).toNat
def unzz (z : Nat) : Int := if z % 2 = 0 then ((z / 2 : Nat) : Int) else -((z / 2 : Nat) : Int) - 1
theorem unzz_zz (n : Int) : unzz (zz n) = n := by
 unfold zz unzz
 split <;> split <;> omega
theorem zz_unzz (z : Nat) : zz (unzz z) = z := by
 unfold zz unzz
 split <;> split <;> omega
theorem zz_lt {n : Int} (h : -9223372036854775808 ≤ n ∧ n ≤ 9223372036854775807) : zz n < 18446744073709551616 := by
 unfold zz
 split <;> omega
theorem unzz_fit {z : Nat} (h : z < 18446744073709551616) : -9223372036854775808 ≤ unzz z ∧ unzz z ≤ 9223372036854775807 := by
 unfold unzz
 split <;> omega
def vint (z : Nat) : List UInt8 := if z < 128 then [UInt8.ofNat z] else UInt8.ofNat (z % 128 + 128) :: vint (z / 128)
termination_by z
decreasing_by omega
theorem vint_small {z : Nat} (h : z < 128) : vint z = [UInt8.ofNat z] := by rw [vint, if_pos h]
theorem vint_big {z : Nat} (h : ¬ z < 128) : vint z = UInt8.ofNat (z % 128 + 128) :: vint (z / 128) := by rw [vint, if_neg h]
theorem u8_nat {n : Nat} (h : n < 256) : (UInt8.ofNat n).toNat = n := by
 rw [UInt8.toNat_ofNat']
 omega
theorem u8_self (b : UInt8) : UInt8.ofNat b.toNat = b := UInt8.ofNat_toNat
theorem vint_len : ∀ (k z : Nat), z < 128 ^ (k + 1) → (vint z).length ≤ k + 1
 | 0, z, h => by rw [vint_small (by simpa using h)]; simp
 | k + 1, z, h => by
   by_cases hz : z < 128
   · rw [vint_small hz]; simp
   · rw [vint_big hz, List.length_cons]
     have h1 : z / 128 < 128 ^ (k + 1) := by
      rw [Nat.div_lt_iff_lt_mul (by decide)]
      rw [Nat.pow_succ] at h
      omega
     have := vint_len k (z / 128) h1
     omega
theorem vint_pos (z : Nat) : 0 < (vint z).length := by
 by_cases hz : z < 128
 · rw [vint_small hz]; simp
 · rw [vint_big hz]; simp
def getV : Nat → Nat → List UInt8 → Nat ⊕ (Nat × Nat)
 | _, _, [] => .inl 1
 | k, z, c :: r => if (k = 9 ∧ 1 < c.toNat) ∨ (0 < k ∧ c.toNat = 0) then .inl 2 else if c.toNat < 128 then .inr (z + c.toNat * 128 ^ k, k + 1) else getV (k + 1) (z + (c.toNat % 128) * 128 ^ k) r
theorem getV_vint : ∀ (n k z v : Nat) (r : List UInt8), k + n = 9 → v < 2 * 128 ^ n → (0 < k → 0 < v) → getV k z (vint v ++ r) = .inr (z + v * 128 ^ k, k + (vint v).length) := by
 intro n
 induction n with
 | zero =>
   intro k z v r hk hv h0
   have hv2 : v < 2 := by simpa using hv
   have hk9 : k = 9 := by omega
   have hv0 := h0 (by omega)
   rw [vint_small (by omega)]
   show getV k z (UInt8.ofNat v :: r) = _
   unfold getV
   rw [u8_nat (by omega), if_neg (by omega), if_pos (by omega)]
   rfl
 | succ n ih =>
   intro k z v r hk hv h0
   by_cases hz : v < 128
   · rw [vint_small hz]
     show getV k z (UInt8.ofNat v :: r) = _
     unfold getV
     rw [u8_nat (by omega), if_neg (by omega), if_pos hz]
     rfl
   · rw [vint_big hz]
     show getV k z (UInt8.ofNat (v % 128 + 128) :: (vint (v / 128) ++ r)) = _
     unfold getV
     rw [u8_nat (by omega), if_neg (by omega), if_neg (by omega)]
     have h1 : v / 128 < 2 * 128 ^ n := by
      rw [Nat.div_lt_iff_lt_mul (by decide)]
      rw [Nat.pow_succ] at hv
      omega
     rw [ih (k + 1) _ (v / 128) r (by omega) h1 (fun _ => by omega)]
     rw [List.length_cons]
     congr 2
     · have e1 : (v % 128 + 128) % 128 = v % 128 := by omega
       rw [e1, Nat.pow_succ, Nat.add_assoc]
       congr 1
       have e2 : v / 128 * (128 ^ k * 128) = (128 * (v / 128)) * 128 ^ k := by rw [Nat.mul_comm (128 ^ k) 128, ← Nat.mul_assoc, Nat.mul_comm (v / 128) 128]
       rw [e2, ← Nat.add_mul]
       congr 1
       omega
     · omega
theorem getV_back : ∀ (b : List UInt8) (k z v u : Nat), k ≤ 9 → getV k z b = .inr (v, u) → ∃ x, v = z + x * 128 ^ k ∧ k < u ∧ u - k ≤ b.length ∧ u ≤ 10 ∧ b.take (u - k) = vint x ∧ x < 2 * 128 ^ (9 - k) ∧ (0 < k → 0 < x)
 | [], _, _, _, _, _, h => by unfold getV at h; cases h
 | c :: r, k, z, v, u, hk, h => by
   unfold getV at h
   have hc := c.toNat_lt
   split at h
   · cases h
   · rename_i hno
     split at h
     · rename_i hs
       injection h with h
       injection h with h1 h2
       subst h1 h2
       refine ⟨c.toNat, rfl, by omega, by simp, by omega, ?_, ?_, by omega⟩
       · rw [vint_small hs, u8_self, show k + 1 - k = 1 by omega]
         simp
       · rcases Nat.lt_or_ge k 9 with h9 | h9
         · have : 128 ^ 1 ≤ 128 ^ (9 - k) := Nat.pow_le_pow_right (by decide) (by omega)
           omega
         · have : k = 9 := by omega
           subst this
           simp
           omega
     · rename_i hs
       have hk8 : k + 1 ≤ 9 := by omega
       obtain ⟨x, h1, h2, h3, h4, h5, h6, h7⟩ := getV_back r (k + 1) _ v u hk8 h
       have hx := h7 (by omega)
       refine ⟨c.toNat % 128 + 128 * x, ?_, by omega, by simp; omega, h4, ?_, ?_, fun _ => by omega⟩
       · rw [h1, Nat.pow_succ, Nat.add_assoc]
         congr 1
         rw [Nat.add_mul]
         congr 1
         rw [Nat.mul_comm (128 ^ k) 128, ← Nat.mul_assoc, Nat.mul_comm x 128]
       · rw [vint_big (by omega), show (c.toNat % 128 + 128 * x) % 128 = c.toNat % 128 by omega, show (c.toNat % 128 + 128 * x) / 128 = x by omega, show c.toNat % 128 + 128 = c.toNat by omega, u8_self, ← h5]
         have : u - k = (u - (k + 1)) + 1 := by omega
         rw [this, List.take_succ_cons]
       · have e : 9 - k = (9 - (k + 1)) + 1 := by omega
         rw [e, Nat.pow_succ]
         omega
def getI (b : List UInt8) : Nat ⊕ (Int × Nat) := match getV 0 0 b with | .inl e => .inl e | .inr (z, u) => .inr (unzz z, u)
def encI (n : Int) : List UInt8 := vint (zz n)
theorem getI_enc {n : Int} (h : -9223372036854775808 ≤ n ∧ n ≤ 9223372036854775807) (r : List UInt8) : getI (encI n ++ r) = .inr (n, (encI n).length) := by
 unfold getI encI
 rw [getV_vint 9 0 0 (zz n) r rfl (by have := zz_lt h; omega) (fun h => absurd h (by decide))]
 simp [unzz_zz]
theorem getI_back {b : List UInt8} {n : Int} {u : Nat} (h : getI b = .inr (n, u)) : b.take u = encI n ∧ 0 < u ∧ u ≤ b.length ∧ (-9223372036854775808 ≤ n ∧ n ≤ 9223372036854775807) := by
 unfold getI at h
 split at h
 · cases h
 · rename_i z u' hv
   injection h with h
   injection h with h1 h2
   subst h1 h2
   obtain ⟨x, e, k1, k2, _, k3, k4, _⟩ := getV_back b 0 0 z u' (by decide) hv
   have : z = x := by omega
   subst this
   refine ⟨?_, k1, by simpa using k2, unzz_fit (by omega)⟩
   unfold encI
   rw [zz_unzz]
   simpa using k3
end Go.Proofs.YtlinhgannajfpaaGreatDoor

/- SHA-256, plainly: words, the schedule of a block, rounds, blocks, the padding; a message that comes in pieces. -/
namespace Go.Proofs.YtlinhgannajfpaaGreatDoor
open Go Go.RowKit

abbrev W32 := BitVec 32
def rr (x : W32) (n : Nat) : W32 := x >>> n ||| x <<< (32 - n)
structure S8 where
 a : W32
 b : W32
 c : W32
 d : W32
 e : W32
 f : W32
 g : W32
 h : W32
 deriving DecidableEq
def kL : List Nat := [0x428a2f98, 0x71374491, 0xb5c0fbcf, 0xe9b5dba5, 0x3956c25b, 0x59f111f1, 0x923f82a4, 0xab1c5ed5,
 0xd807aa98, 0x12835b01, 0x243185be, 0x550c7dc3, 0x72be5d74, 0x80deb1fe, 0x9bdc06a7, 0xc19bf174,
 0xe49b69c1, 0xefbe4786, 0x0fc19dc6, 0x240ca1cc, 0x2de92c6f, 0x4a7484aa, 0x5cb0a9dc, 0x76f988da,
 0x983e5152, 0xa831c66d, 0xb00327c8, 0xbf597fc7, 0xc6e00bf3, 0xd5a79147, 0x06ca6351, 0x14292967,
 0x27b70a85, 0x2e1b2138, 0x4d2c6dfc, 0x53380d13, 0x650a7354, 0x766a0abb, 0x81c2c92e, 0x92722c85,
 0xa2bfe8a1, 0xa81a664b, 0xc24b8b70, 0xc76c51a3, 0xd192e819, 0xd6990624, 0xf40e3585, 0x106aa070,
 0x19a4c116, 0x1e376c08, 0x2748774c, 0x34b0bcb5, 0x391c0cb3, 0x4ed8aa4a, 0x5b9cca4f, 0x682e6ff3,
 0x748f82ee, 0x78a5636f, 0x84c87814, 0x8cc70208, 0x90befffa, 0xa4506ceb, 0xbef9a3f7, 0xc67178f2]
def kW (t : Nat) : W32 := BitVec.ofNat 32 (kL.getD t 0)
def iS : S8 := ⟨0x6a09e667, 0xbb67ae85, 0x3c6ef372, 0xa54ff53a, 0x510e527f, 0x9b05688c, 0x1f83d9ab, 0x5be0cd19⟩
def wd (b : List UInt8) (t : Nat) : W32 := BitVec.ofNat 32 ((b.getD (4 * t) 0).toNat * 16777216 + (b.getD (4 * t + 1) 0).toNat * 65536 + (b.getD (4 * t + 2) 0).toNat * 256 + (b.getD (4 * t + 3) 0).toNat)
def nextW (b : List UInt8) (t : Nat) (ws : List W32) : W32 :=
 if t < 16 then wd b t else ws.getD (t - 16) 0 + (rr (ws.getD (t - 15) 0) 7 ^^^ rr (ws.getD (t - 15) 0) 18 ^^^ (ws.getD (t - 15) 0) >>> 3) + ws.getD (t - 7) 0 + (rr (ws.getD (t - 2) 0) 17 ^^^ rr (ws.getD (t - 2) 0) 19 ^^^ (ws.getD (t - 2) 0) >>> 10)
def schedL (b : List UInt8) : Nat → List W32
 | 0 => []
 | t + 1 => schedL b t ++ [nextW b t (schedL b t)]
theorem schedL_len (b : List UInt8) : ∀ t, (schedL b t).length = t
 | 0 => rfl
 | t + 1 => by rw [schedL, List.length_append, schedL_len b t]; rfl
def rnd (s : S8) (k w : W32) : S8 :=
 let x := s.h + (rr s.e 6 ^^^ rr s.e 11 ^^^ rr s.e 25) + ((s.e &&& s.f) ^^^ (~~~s.e &&& s.g)) + k + w
 let y := (rr s.a 2 ^^^ rr s.a 13 ^^^ rr s.a 22) + ((s.a &&& s.b) ^^^ (s.a &&& s.c) ^^^ (s.b &&& s.c))
 ⟨x + y, s.a, s.b, s.c, s.d + x, s.e, s.f, s.g⟩
def rnds (ws : List W32) (s : S8) : Nat → S8
 | 0 => s
 | t + 1 => rnd (rnds ws s t) (kW t) (ws.getD t 0)
def addS (s v : S8) : S8 := ⟨s.a + v.a, s.b + v.b, s.c + v.c, s.d + v.d, s.e + v.e, s.f + v.f, s.g + v.g, s.h + v.h⟩
def comp (s : S8) (b : List UInt8) : S8 := addS s (rnds (schedL b 64) s 64)
def hashB (s : S8) (m : List UInt8) : S8 := if m.length < 64 then s else hashB (comp s (m.take 64)) (m.drop 64)
termination_by m.length
decreasing_by
 rw [List.length_drop]
 omega
theorem hashB_short {s : S8} {m : List UInt8} (h : m.length < 64) : hashB s m = s := by rw [hashB, if_pos h]
theorem hashB_step {s : S8} {m : List UInt8} (h : ¬ m.length < 64) : hashB s m = hashB (comp s (m.take 64)) (m.drop 64) := by rw [hashB, if_neg h]
def restB (m : List UInt8) : List UInt8 := m.drop (m.length / 64 * 64)
theorem restB_len (m : List UInt8) : (restB m).length = m.length % 64 := by
 unfold restB
 rw [List.length_drop]
 omega
theorem hashB_append : ∀ (n : Nat) (s : S8) (a b : List UInt8), a.length = n * 64 → hashB s (a ++ b) = hashB (hashB s a) b
 | 0, s, a, b, h => by
   have : a = [] := List.eq_nil_of_length_eq_zero (by omega)
   subst this
   rw [List.nil_append, hashB_short (s := s) (m := []) (by simp)]
 | n + 1, s, a, b, h => by
   rw [hashB_step (m := a ++ b) (by rw [List.length_append]; omega), hashB_step (m := a) (by omega)]
   rw [List.take_append_of_le_length (by omega), List.drop_append_of_le_length (by omega)]
   exact hashB_append n _ _ _ (by rw [List.length_drop]; omega)
theorem hashB_rest (s : S8) (m : List UInt8) : hashB s (m.take (m.length / 64 * 64)) = hashB s m := by
 have h := hashB_append (m.length / 64) s (m.take (m.length / 64 * 64)) (restB m) (by rw [List.length_take]; omega)
 unfold restB at h
 rw [List.take_append_drop] at h
 rw [h]
 exact (hashB_short (by rw [List.length_drop]; omega)).symm
theorem hashB_more {s : S8} {m p : List UInt8} (h : m.length % 64 + p.length < 64) : hashB s (m ++ p) = hashB s m ∧ restB (m ++ p) = restB m ++ p := by
 have hd : (m ++ p).length / 64 = m.length / 64 := by rw [List.length_append]; omega
 have hl : m.length / 64 * 64 ≤ m.length := by omega
 constructor
 · rw [← hashB_rest s (m ++ p), hd, List.take_append_of_le_length hl, hashB_rest]
 · unfold restB
   rw [hd, List.drop_append_of_le_length hl]
theorem hashB_full {s : S8} {m p : List UInt8} (h : m.length % 64 + p.length = 64) : hashB s (m ++ p) = comp (hashB s m) (restB m ++ p) ∧ restB (m ++ p) = [] := by
 have hl : m.length / 64 * 64 ≤ m.length := by omega
 constructor
 · have e : m ++ p = m.take (m.length / 64 * 64) ++ (restB m ++ p) := by unfold restB; rw [← List.append_assoc, List.take_append_drop]
   rw [e, hashB_append (m.length / 64) s _ _ (by rw [List.length_take]; omega), hashB_rest]
   have hlen : (restB m ++ p).length = 64 := by rw [List.length_append, restB_len]; exact h
   rw [hashB_step (by omega), List.take_of_length_le (by omega), List.drop_of_length_le (by omega), hashB_short (by simp)]
 · apply List.eq_nil_of_length_eq_zero
   rw [restB_len, List.length_append]
   omega
def len8 (n : Nat) : List UInt8 := (List.range 8).map fun i => UInt8.ofNat (8 * n % 18446744073709551616 / 256 ^ (7 - i) % 256)
def padN (n : Nat) : Nat := (119 - n % 64) % 64
def padL (n : Nat) : List UInt8 := 128 :: (List.replicate (padN n) 0 ++ len8 n)
theorem len8_len (n : Nat) : (len8 n).length = 8 := by simp [len8]
theorem padL_len (n : Nat) : (n + (padL n).length) % 64 = 0 := by
 unfold padL padN
 rw [List.length_cons, List.length_append, List.length_replicate, len8_len]
 omega
def b4 (x : W32) : List UInt8 := [UInt8.ofNat (x.toNat / 16777216), UInt8.ofNat (x.toNat / 65536), UInt8.ofNat (x.toNat / 256), UInt8.ofNat x.toNat]
def b32 (s : S8) : List UInt8 := b4 s.a ++ b4 s.b ++ b4 s.c ++ b4 s.d ++ b4 s.e ++ b4 s.f ++ b4 s.g ++ b4 s.h
def sha (m : List UInt8) : List UInt8 := b32 (hashB iS (m ++ padL m.length))
theorem sha_len (m : List UInt8) : (sha m).length = 32 := rfl
theorem sha_empty : sha [] = [0xe3, 0xb0, 0xc4, 0x42, 0x98, 0xfc, 0x1c, 0x14, 0x9a, 0xfb, 0xf4, 0xc8, 0x99, 0x6f, 0xb9, 0x24, 0x27, 0xae, 0x41, 0xe4, 0x64, 0x9b, 0x93, 0x4c, 0xa4, 0x95, 0x99, 0x1b, 0x78, 0x52, 0xb8, 0x55] := by
 have e : sha [] = b32 (comp iS ([] ++ padL 0)) := by
  unfold sha
  rw [hashB_step (by decide), List.take_of_length_le (by decide), List.drop_of_length_le (by decide), hashB_short (by simp)]
  rfl
 rw [e]
 decide +kernel
theorem schedL_zero (b : List UInt8) : schedL b 0 = [] := rfl
theorem schedL_succ (b : List UInt8) (t : Nat) : schedL b (t + 1) = schedL b t ++ [nextW b t (schedL b t)] := rfl
theorem rnds_zero (ws : List W32) (s : S8) : rnds ws s 0 = s := rfl
theorem rnds_succ (ws : List W32) (s : S8) (t : Nat) : rnds ws s (t + 1) = rnd (rnds ws s t) (kW t) (ws.getD t 0) := rfl
/- Kept closed: they call themselves twice over. -/
attribute [irreducible] schedL rnds
end Go.Proofs.YtlinhgannajfpaaGreatDoor

/- Words of 32 bits: what the model's operations on them give, said of BitVec 32. -/
namespace Go.Proofs.YtlinhgannajfpaaGreatDoor
open Go Go.RowKit

def wn (x : W32) : Nat := x.toNat
theorem wn_lt (x : W32) : wn x < 4294967296 := x.isLt
theorem w_lt (x : W32) : (wn x : Int) < 4294967296 := by have := wn_lt x; omega
@[go_sem] theorem w_add (x y : W32) : IntKind.u32.wrap ((wn x : Int) + (wn y : Int)) = (wn (x + y) : Int) := by
 rw [IntKind.wrap_u32']; unfold wn; rw [BitVec.toNat_add]; omega
@[go_sem] theorem w_add' (x y : W32) : ((wn x : Int) + (wn y : Int)) % 4294967296 = (wn (x + y) : Int) := by
 unfold wn; rw [BitVec.toNat_add]; omega
@[go_sem] theorem w_xor (x y : W32) : bits .xor .u32 (wn x : Int) (wn y : Int) = (wn (x ^^^ y) : Int) := by
 unfold wn; rw [u32_xor_nat _ _ x.isLt y.isLt, BitVec.toNat_xor]
@[go_sem] theorem w_and (x y : W32) : bits .and .u32 (wn x : Int) (wn y : Int) = (wn (x &&& y) : Int) := by
 unfold wn; rw [u32_and_nat _ _ x.isLt y.isLt, BitVec.toNat_and]
@[go_sem] theorem w_or (x y : W32) : bits .or .u32 (wn x : Int) (wn y : Int) = (wn (x ||| y) : Int) := by
 unfold wn; rw [u32_or_nat _ _ x.isLt y.isLt, BitVec.toNat_or]
theorem w_shr (x : W32) (n : Nat) : (wn x : Int) / 2 ^ n = (wn (x >>> n) : Int) := by
 unfold wn; rw [BitVec.toNat_ushiftRight, Nat.shiftRight_eq_div_pow]; simp
theorem w_shl (x : W32) (n : Nat) : (wn x : Int) * 2 ^ n % 4294967296 = (wn (x <<< n) : Int) := by
 unfold wn; rw [BitVec.toNat_shiftLeft, Nat.shiftLeft_eq]; simp
@[go_sem] theorem w_not (x : W32) : bits .xor .u32 (wn x : Int) 4294967295 = (wn (~~~x) : Int) := by
 have h := w_xor x 4294967295#32
 rw [show (wn 4294967295#32 : Int) = 4294967295 from rfl] at h
 rw [h]
 congr 2
 exact BitVec.xor_allOnes
@[go_sem] theorem w_not2 (x : W32) : bits .xor .u32 (if IntKind.u32.signed = true then -1 else IntKind.u32.max) (wn x : Int) = (wn (~~~x) : Int) := by
 rw [show (if IntKind.u32.signed = true then (-1 : Int) else IntKind.u32.max) = 4294967295 from rfl]
 have h := w_xor 4294967295#32 x
 rw [show (wn 4294967295#32 : Int) = 4294967295 from rfl] at h
 rw [h]
 rw [BitVec.xor_comm]
 exact congrArg (fun z => (wn z : Int)) BitVec.xor_allOnes
def wv (x : W32) : Value := .int .u32 (wn x : Int)
def wvs (l : List W32) : List Value := l.map wv
def s8w (s : S8) : List W32 := [s.a, s.b, s.c, s.d, s.e, s.f, s.g, s.h]
theorem wvs_len (l : List W32) : (wvs l).length = l.length := by simp [wvs]
theorem wvs_get {l : List W32} {k : Nat} {x : W32} (h : l[k]? = some x) : (wvs l)[k]? = some (.int .u32 (wn x : Int)) := by simp [wvs, h, wv]
end Go.Proofs.YtlinhgannajfpaaGreatDoor

/- Contracts of the layer of points: In, Empty, list, greater, lesser, Cube, Add, Scale, Sub. -/
namespace Go.Proofs.YtlinhgannajfpaaGreatDoor
open Go Go.RowKit

theorem ret_bool {a b : Bool} (h : a = b) : Ending.returned (.bool a) = .returned (.bool b) := by rw [h]
theorem ret_int {k : IntKind} {a b : Int} (h : a = b) : Ending.returned (.int k a) = .returned (.int k b) := by rw [h]
theorem int_eq {k : IntKind} {a b : Int} (h : a = b) : Value.int k a = .int k b := by rw [h]
theorem mixed : Tryz.prog.follows .mixedOrders = true := by kernel_rfl

structure Pt where
 x : Int
 y : Int
 z : Int
 deriving DecidableEq
structure Bx where
 lo : Pt
 hi : Pt
 deriving DecidableEq
def Pt.cells (p : Pt) : List Value := [.int .i64 p.x, .int .i64 p.y, .int .i64 p.z]
def Bx.cells (b : Bx) : List Value := [.int .i64 b.lo.x, .int .i64 b.lo.y, .int .i64 b.lo.z, .int .i64 b.hi.x, .int .i64 b.hi.y, .int .i64 b.hi.z]
def inP (p : Pt) (b : Bx) : Bool := decide (b.lo.x ≤ p.x) && (decide (p.x < b.hi.x) && (decide (b.lo.y ≤ p.y) && (decide (p.y < b.hi.y) && (decide (b.lo.z ≤ p.z) && decide (p.z < b.hi.z)))))
def emptyB (b : Bx) : Bool := !inP b.lo b

set_option maxHeartbeats 1000000 in
theorem In_any (p : Pt) (b : Bx) (w : World) :
    Calls Tryz.prog 50 #[.agg #[.int .i64 p.x, .int .i64 p.y, .int .i64 p.z], .agg #[.int .i64 b.lo.x, .int .i64 b.lo.y, .int .i64 b.lo.z, .int .i64 b.hi.x, .int .i64 b.hi.y, .int .i64 b.hi.z]] w fun e w' => e = .returned (.bool (inP p b)) ∧ Ext w w' := by
 go_enter Tryz.func50, Tryz.ntmps50
 go_wp2
 all_goals
  go_ret
  refine ⟨ret_bool ?_, ((Ext.refl w).alloc _).alloc _⟩
  rw [Bool.eq_iff_iff]
  simp [inP]
  try omega

set_option maxHeartbeats 1000000 in
theorem Empty_any (b : Bx) (w : World) :
    Calls Tryz.prog 49 #[.agg #[.int .i64 b.lo.x, .int .i64 b.lo.y, .int .i64 b.lo.z, .int .i64 b.hi.x, .int .i64 b.hi.y, .int .i64 b.hi.z]] w fun e w' => e = .returned (.bool (emptyB b)) ∧ Ext w w' := by
 go_enter Tryz.func49, Tryz.ntmps49
 go_wp2_with (go_at_call 50; refine (In_any b.lo b _).mono ?_; rintro e w1 ⟨rfl, x1⟩)
 go_ret
 exact ⟨rfl, x1.un⟩

set_option maxHeartbeats 1000000 in
theorem list_any (x y z : Int) (w : World) :
    Calls Tryz.prog 123 #[.agg #[.int .i64 x, .int .i64 y, .int .i64 z]] w fun e w' => e = .returned (.agg #[.int .i64 x, .int .i64 y, .int .i64 z]) ∧ Ext w w' := by
 go_enter Tryz.func123, Tryz.ntmps123
 go_wp2
 exact bodyPost_ret (v := .agg #[.int .i64 x, .int .i64 y, .int .i64 z]) (by simp [results, Tryz.results123, go_sem]) rfl ⟨rfl, ((Ext.refl w).alloc _).alloc _⟩

set_option maxHeartbeats 1000000 in
theorem greater_any (x y : Int) (w : World) :
    Calls Tryz.prog 95 #[.int .i64 x, .int .i64 y] w fun e w' => e = .returned (.int .i64 (max x y)) ∧ Ext w w' := by
 go_enter Tryz.func95, Tryz.ntmps95
 go_wp2
 go_ret
 exact ⟨rfl, Ext.refl w⟩
set_option maxHeartbeats 1000000 in
theorem lesser_any (x y : Int) (w : World) :
    Calls Tryz.prog 94 #[.int .i64 x, .int .i64 y] w fun e w' => e = .returned (.int .i64 (min x y)) ∧ Ext w w' := by
 go_enter Tryz.func94, Tryz.ntmps94
 go_wp2
 go_ret
 exact ⟨rfl, Ext.refl w⟩
set_option maxHeartbeats 1000000 in
theorem Cube_any (n : Int) (w : World) :
    Calls Tryz.prog 45 #[.int .i64 n] w fun e w' => e = .returned (.agg #[.int .i64 0, .int .i64 0, .int .i64 0, .int .i64 n, .int .i64 n, .int .i64 n]) ∧ Ext w w' := by
 go_enter Tryz.func45, Tryz.ntmps45
 go_wp2
 exact bodyPost_ret (v := .agg #[.int .i64 0, .int .i64 0, .int .i64 0, .int .i64 n, .int .i64 n, .int .i64 n]) (by simp [results, Tryz.results45, go_sem]) rfl ⟨rfl, ((Ext.refl w).alloc _)⟩
end Go.Proofs.YtlinhgannajfpaaGreatDoor

/- Rotations of words: bits.RotateLeft32, hash.mix, the reference's rotr. -/
namespace Go.Proofs.YtlinhgannajfpaaGreatDoor
open Go Go.RowKit

theorem w_rot (x : W32) (i : Nat) (h1 : 0 < i) (h2 : i < 32) : bits .or .u32 ((wn x : Int) * 2 ^ (32 - i) % 4294967296) ((wn x : Int) / 2 ^ (32 - (32 - i))) = (wn (rr x i) : Int) := by
 rw [w_shl, w_shr, w_or, show 32 - (32 - i) = i by omega]
 unfold rr
 rw [BitVec.or_comm]
set_option maxHeartbeats 2000000 in
theorem rotl_any (x : W32) (i : Nat) (h1 : 0 < i) (h2 : i < 32) (w : World) :
    Calls Tryz.prog 156 #[.int .u32 (wn x : Int), .int .i64 (-(i : Int))] w fun e w' => e = .returned (.int .u32 (wn (rr x i) : Int)) ∧ w' = w := by
 have e1 : bits .and .u64 (IntKind.u64.wrap (-(i : Int))) 31 = ((32 - i : Nat) : Int) := by
  have : IntKind.u64.wrap (-(i : Int)) = ((18446744073709551616 - i : Nat) : Int) := by rw [IntKind.wrap_u64]; omega
  rw [this]
  have h := u64_and_nat (18446744073709551616 - i) 31 (by omega) (by decide)
  rw [nat_mask5] at h
  rw [show ((31 : Nat) : Int) = 31 from rfl] at h
  rw [h]
  omega
 have hlt := wn_lt x
 have HW := Lib.hid (w_rot x i h1 h2)
 go_enter Tryz.func156, Tryz.ntmps156
 go_wp2_with fail
 rw [HW.out]
 go_ret
 exact ⟨rfl, rfl⟩
def mixW (x : W32) (i j k : Nat) : W32 := rr x i ^^^ rr x j ^^^ rr x k
set_option maxHeartbeats 2000000 in
theorem mix_any (x : W32) (i j k : Nat) (h1 : 0 < i ∧ i < 32) (h2 : 0 < j ∧ j < 32) (h3 : 0 < k ∧ k < 32) (w : World) :
    Calls Tryz.prog 151 #[.int .u32 (wn x : Int), .int .i64 (i : Int), .int .i64 (j : Int), .int .i64 (k : Int)] w fun e w' => e = .returned (.int .u32 (wn (mixW x i j k) : Int)) ∧ w' = w := by
 have n1 : IntKind.i64.wrap (-(i : Int)) = -(i : Int) := by rw [IntKind.wrap_i64]; omega
 have n2 : IntKind.i64.wrap (-(j : Int)) = -(j : Int) := by rw [IntKind.wrap_i64]; omega
 have n3 : IntKind.i64.wrap (-(k : Int)) = -(k : Int) := by rw [IntKind.wrap_i64]; omega
 have H1 := Lib.hid (rotl_any x i h1.1 h1.2); have H2 := Lib.hid (rotl_any x j h2.1 h2.2); have H3 := Lib.hid (rotl_any x k h3.1 h3.2)
 go_enter Tryz.func151, Tryz.ntmps151
 go_wp2_with (go_at_call 156; (first | (with_reducible refine (H1.out _).mono ?_) | (with_reducible refine (H2.out _).mono ?_) | (with_reducible refine (H3.out _).mono ?_)); (rintro e w1 ⟨rfl, rfl⟩))
 rw [show rr x i ^^^ rr x j ^^^ rr x k = mixW x i j k from rfl]
 go_ret
 exact ⟨rfl, rfl⟩
theorem w_rotr (x : W32) (i : Nat) : bits .or .u32 ((wn x : Int) / 2 ^ i) ((wn x : Int) * 2 ^ (32 - i) % 4294967296) = (wn (rr x i) : Int) := by
 rw [w_shl, w_shr, w_or]
 rfl
set_option maxHeartbeats 2000000 in
theorem rotr_any (x : W32) (i : Nat) (h1 : 0 < i) (h2 : i < 32) (w : World) :
    Calls Tryz.prog 154 #[.int .u32 (wn x : Int), .int .i64 (i : Int)] w fun e w' => e = .returned (.int .u32 (wn (rr x i) : Int)) ∧ Ext w w' := by
 have hm := mixed
 have hlt := wn_lt x
 have e1 : IntKind.i64.wrap (32 - (i : Int)) = ((32 - i : Nat) : Int) := by rw [IntKind.wrap_i64]; omega
 have e0 : (0 : Int) ≤ (i : Int) := by omega
 have e2 : (0 : Int) ≤ 32 - (i : Int) := by omega
 have HW := Lib.hid (w_rotr x i)
 go_enter Tryz.func154, Tryz.ntmps154
 go_wp2_with fail
 refine wp_region_near (by assumption) (by kernel_rfl) ?_
 repeat (go_big_quiet_step (fail))
 refine wpQuiet_nil ?_
 intro w1 hw1
 have hy := Ext.of_near hw1
 clear hw1
 rw [HW.out]
 go_wp2
 go_ret
 exact ⟨rfl, hy⟩
end Go.Proofs.YtlinhgannajfpaaGreatDoor

/- Wire, plainly: lists of numbers. -/
namespace Go.Proofs.YtlinhgannajfpaaGreatDoor
open Go Go.RowKit

def fit64 (n : Int) : Prop := -9223372036854775808 ≤ n ∧ n ≤ 9223372036854775807
def getSeq : Nat → List UInt8 → Nat ⊕ (List Int × Nat)
 | 0, _ => .inr ([], 0)
 | n + 1, b => match getI b with
   | .inl e => .inl e
   | .inr (x, u) => match getSeq n (b.drop u) with
     | .inl e => .inl e
     | .inr (l, k) => .inr (x :: l, u + k)
def encL (l : List Int) : List UInt8 := encI (l.length : Nat) ++ l.flatMap encI
def getL (b : List UInt8) : Nat ⊕ (List Int × Nat) := match getI b with
 | .inl e => .inl e
 | .inr (n, u) => if n < 0 then .inl 2 else if ((b.length - u : Nat) : Int) < n then .inl 1 else match getSeq n.toNat (b.drop u) with
   | .inl e => .inl e
   | .inr (l, k) => .inr (l, u + k)
theorem encI_pos (n : Int) : 0 < (encI n).length := vint_pos _
theorem encI_len {n : Int} (h : fit64 n) : (encI n).length ≤ 10 := vint_len 9 _ (by have := zz_lt h; omega)
theorem flat_len_ge (l : List Int) : l.length ≤ (l.flatMap encI).length := by
 induction l with
 | nil => simp
 | cons x xs ih =>
   have := encI_pos x
   simp only [List.flatMap_cons, List.length_append, List.length_cons]
   omega
theorem flat_len_le {l : List Int} (h : ∀ n, n ∈ l → fit64 n) : (l.flatMap encI).length ≤ 10 * l.length := by
 induction l with
 | nil => simp
 | cons x xs ih =>
   have h1 := encI_len (h x (List.mem_cons_self ..))
   have h2 := ih fun n hn => h n (List.mem_cons_of_mem _ hn)
   simp only [List.flatMap_cons, List.length_append, List.length_cons]
   omega
theorem getSeq_enc : ∀ (l : List Int) (r : List UInt8), (∀ n, n ∈ l → fit64 n) → getSeq l.length (l.flatMap encI ++ r) = .inr (l, (l.flatMap encI).length)
 | [], r, _ => rfl
 | x :: xs, r, h => by
   rw [List.length_cons, List.flatMap_cons, List.append_assoc]
   unfold getSeq
   rw [getI_enc (h x (List.mem_cons_self ..))]
   simp only [List.drop_left']
   rw [getSeq_enc xs r fun n hn => h n (List.mem_cons_of_mem _ hn)]
   simp
theorem getL_enc {l : List Int} (h : ∀ n, n ∈ l → fit64 n) (hl : l.length ≤ 1000000) (r : List UInt8) : getL (encL l ++ r) = .inr (l, (encL l).length) := by
 unfold getL encL
 rw [List.append_assoc, getI_enc ⟨by omega, by omega⟩]
 have h1 := flat_len_ge l
 simp only [List.drop_left', List.length_append]
 rw [if_neg (by omega), if_neg (by omega), Int.toNat_natCast, getSeq_enc l r h]
theorem getSeq_back : ∀ (n : Nat) (b : List UInt8) (l : List Int) (k : Nat), getSeq n b = .inr (l, k) → l.length = n ∧ k ≤ b.length ∧ b.take k = l.flatMap encI ∧ ∀ x, x ∈ l → fit64 x
 | 0, b, l, k, h => by
   unfold getSeq at h
   injection h with h
   injection h with h1 h2
   subst h1 h2
   exact ⟨rfl, by simp, by simp, fun x hx => by cases hx⟩
 | n + 1, b, l, k, h => by
   unfold getSeq at h
   split at h
   · cases h
   · rename_i x u hx
     split at h
     · cases h
     · rename_i l' k' hl
       injection h with h
       injection h with h1 h2
       subst h1 h2
       obtain ⟨a1, a2, a3, a4⟩ := getI_back hx
       obtain ⟨b1, b2, b3, b4⟩ := getSeq_back n _ _ _ hl
       rw [List.length_drop] at b2
       refine ⟨by simp [b1], by omega, ?_, fun y hy => ?_⟩
       · rw [List.take_add, a1, b3, List.flatMap_cons]
       · rcases List.mem_cons.1 hy with rfl | hy
         · exact a4
         · exact b4 y hy
theorem getL_back {b : List UInt8} {l : List Int} {k : Nat} (h : getL b = .inr (l, k)) : k ≤ b.length ∧ b.take k = encL l ∧ ∀ x, x ∈ l → fit64 x := by
 unfold getL at h
 split at h
 · cases h
 · rename_i n u hn
   split at h
   · cases h
   · split at h
     · cases h
     · rename_i h0 h1
       split at h
       · cases h
       · rename_i l' k' hl
         injection h with h
         injection h with e1 e2
         subst e1 e2
         obtain ⟨a1, a2, a3, a4⟩ := getI_back hn
         obtain ⟨b1, b2, b3, b4⟩ := getSeq_back _ _ _ _ hl
         rw [List.length_drop] at b2
         refine ⟨by omega, ?_, b4⟩
         unfold encL
         rw [List.take_add, a1, b3, b1]
         congr 2
         omega
theorem encL_inj {a b : List Int} (ha : ∀ n, n ∈ a → fit64 n) (hb : ∀ n, n ∈ b → fit64 n) (hla : a.length ≤ 1000000) (hlb : b.length ≤ 1000000) (h : encL a = encL b) : a = b := by
 have h1 := getL_enc ha hla []
 have h2 := getL_enc hb hlb []
 rw [h, h2] at h1
 injection h1 with h1
 injection h1 with h1 _
 exact h1.symm
end Go.Proofs.YtlinhgannajfpaaGreatDoor

/- Memory of the call's own: rows of k cells each; copy, clear, stores; what an owned row reads as. For every program. -/
namespace Go.Proofs.YtlinhgannajfpaaGreatDoor
open Go Go.RowKit

section
variable {w w' : World} {base B k n c g : Nat} {e : TypeId} {A : Option Addr} {v : Value} {xs : List (List Value)}
theorem Sl.of_own (h : w.ownsRow base e k (.slice A n c) n xs.flatten) (hr : Rws k xs) (hn : xs.length = n) : Sl w w.heap.size k A c xs := by
 subst hn
 rcases h.2 with ⟨h1, h2⟩ | ⟨g, cap, cur, hv, hg, hgg, hle, hmax, hsz, htk⟩
 · have hx : xs = [] := List.eq_nil_of_length_eq_zero h2
   subst hx
   injection h1 with _ _ hc
   subst hc
   exact ⟨by simp, by simp, hr, fun h => absurd h (by simp)⟩
 · injection hv with hA _ hc
   subst hA hc
   refine ⟨hle, hmax, hr, fun _ => ⟨g, 0, rfl, (Array.getElem?_eq_some_iff.1 hgg).1, fun j u h3 => ?_⟩⟩
   rw [Nat.zero_add, cell_of_row w g _ cur e (0, 0) hgg]
   rw [← htk, List.getElem?_take] at h3
   split at h3
   · simpa using h3
   · cases h3
theorem own_form (h : w.ownsRow base e k v n (xs.flatten)) : ∃ A c, v = .slice A n c ∧ n ≤ c ∧ c ≤ maxLen := by
 rcases h.2 with ⟨rfl, rfl⟩ | ⟨g, cap, cur, rfl, _, _, hle, hmax, _⟩
 · exact ⟨none, 0, rfl, Nat.le_refl _, by simp⟩
 · exact ⟨_, cap, rfl, hle, hmax⟩
theorem add_lit (b off j : Nat) : (⟨b, off, none⟩ : Addr).add j = ⟨b, off + j, none⟩ := by unfold Addr.add; split <;> simp_all
theorem Sl.news {a : Addr} (h : Sl w B k (some a) c xs) : ∀ j u, xs.flatten[j]? = some u → w.cell? (a.add j) = some u := fun j u hu => by
 have hpos : 0 < xs.length := by
  rcases Nat.eq_zero_or_pos xs.length with h0 | h0
  · rw [List.eq_nil_of_length_eq_zero h0] at hu; simp at hu
  · exact h0
 obtain ⟨b, off, e, _, hc⟩ := h.mem hpos
 injection e with e
 subst e
 rw [add_lit]
 exact hc j u hu
end

section
variable {P : Program}
theorem run_copy_rows (w : World) (dT sT ty elem : TypeId) (k g o dLen dCap : Nat) (a : Addr) (sLen sCap : Nat) (cur : Array Value) (t : TypeId) (cs : List Value)
    (hu : P.underlying dT = some (.slice elem)) (hs : (P.info? elem).map (·.size) = some k)
    (hg : w.heap[g]? = some (.cells cur t (0, 0))) (hn : cs.length = Nat.min sLen dLen * k)
    (hsrc : ∀ j v, cs[j]? = some v → w.cell? (a.add j) = some v) (hfit : o + cs.length ≤ cur.size) (h1 : ∀ v ∈ cs, v.oneCell' = true) :
    (Builtin.copy_ #[dT, sT] ty #[.slice (some ⟨g, o, none⟩) dLen dCap, .slice (some a) sLen sCap]).run P w =
      .ok (goInt (Nat.min sLen dLen)) (w.setRow g (cur.toList.take o ++ cs ++ cur.toList.drop (o + cs.length)).toArray) := by
 have hl := run_loadCells_list (P := P) w a cs hsrc
 have hst := run_storeCells_at P g o t cs 0 cur w hg (by simpa using hfit) h1
 cases hq : P.info? elem with
 | none => simp [hq] at hs
 | some i =>
   have hi : i.size = k := by simpa [hq] using hs
   simp [Builtin.copy_, run_underlying hu, Builtin.lenOf, Builtin.firstCells, sizeOf, typeInfo, hq, hi, ← hn, hl, hst]

theorem wpList_copy_rows {w : World} {ops : Array Oper} {rest : List Oper} {o : Oper} {a : Act} {Q : Exit → Act → World → Prop} (hgd : o.guard = none) (d s : Operand) (dT sT : TypeId)
    (ho : o.op = .call { callee := .builtin .copy, args := #[d, s], argTypes := #[dT, sT] }) (elem : TypeId) (k : Nat) (hu : P.underlying dT = some (.slice elem)) (hsz : (P.info? elem).map (·.size) = some k)
    (g off dLen dCap : Nat) (ad : Addr) (sLen sCap : Nat) (hd : a.eval d = .slice (some ⟨g, off, none⟩) dLen dCap) (hs : a.eval s = .slice (some ad) sLen sCap)
    (cur : List Value) (t : TypeId) (hg : w.heap[g]? = some (.cells cur.toArray t (0, 0))) (cs : List Value) (hn : cs.length = Nat.min sLen dLen * k)
    (hsrc : ∀ j v, cs[j]? = some v → w.cell? (ad.add j) = some v) (hfit : off + cs.length ≤ cur.length) (h1 : ∀ v ∈ cs, v.oneCell' = true)
    (h : wpList P ops Q rest (a.put o.dst (goInt (Nat.min sLen dLen))) (w.setRow g (splice cur off cs).toArray)) : wpList P ops Q (o :: rest) a w := by
 refine wpList_plain hgd fun K hK => ?_
 have hrun := run_copy_rows (P := P) w dT sT o.type elem k g off dLen dCap ad sLen sCap cur.toArray t cs hu hsz hg hn hsrc (by simpa using hfit) h1
 unfold Oper.wp
 simp [execOp, ho, resolve, invoke, builtin, hd, hs, hrun, Result.andThen]
 refine hK _ _ ?_
 simpa [splice] using h
end

structure Pred (P : Program) (g : FuncId) (cap : Array Value) (p : List Value → Bool) (xs : List (List Value)) (w : World) (row : Option Nat) : Prop where
 enters : ∀ args w, (callFunc g args).run P w = .ok (.enter g args) w
 call : ∀ x, x ∈ xs → ∀ w', w.grownBy w' row → Calls P g (#[.agg x.toArray] ++ cap) w' fun e w'' => e = .returned (.bool (p x)) ∧ Ext w' w''
theorem Ext.by_ {w w' : World} (h : Ext w w') (row : Option Nat) : w.grownBy w' row := ⟨h.below.os, h.below.tape, h.below.output, h.below.size, fun k hk _ => h.below.block k hk⟩
def idx (p : List Value → Bool) (xs : List (List Value)) : Int := match xs.findIdx? p with | some i => i | none => -1
theorem idx_no {p : List Value → Bool} {xs : List (List Value)} (h : ∀ (i : Nat) (x : List Value), xs[i]? = some x → p x = false) : idx p xs = -1 := by
 unfold idx
 rw [List.findIdx?_eq_none_iff.2 (fun x hx => by obtain ⟨i, hi⟩ := List.getElem?_of_mem hx; simp [h i x hi])]
theorem idx_at {p : List Value → Bool} {xs : List (List Value)} {j : Nat} {x : List Value} (h : ∀ (i : Nat) (x : List Value), i < j → xs[i]? = some x → p x = false) (hx : xs[j]? = some x) (hp : p x = true) : idx p xs = j := by
 unfold idx
 obtain ⟨hj, rfl⟩ := List.getElem?_eq_some_iff.1 hx
 rw [List.findIdx?_eq_some_iff_getElem.2 ⟨hj, hp, fun i hi => by simp [h i xs[i] hi (List.getElem?_eq_getElem _)]⟩]


def RetOwn (e : TypeId) (k : Nat) (xs : List (List Value)) (w : World) (en : Ending) (w' : World) : Prop :=
 ∃ v, en = .returned v ∧ w'.ownsRow w.heap.size e k v xs.length xs.flatten ∧ Ext w w'

theorem grown_refl (w : World) (row : Option Nat) : w.grownBy w row := ⟨rfl, rfl, rfl, Nat.le_refl _, fun _ _ _ => rfl⟩
theorem grown_trans {a b c : World} {row : Option Nat} (h : a.grownBy b row) (k : b.grownBy c row) : a.grownBy c row :=
 ⟨k.os.trans h.os, k.tape.trans h.tape, k.output.trans h.output, Nat.le_trans h.size k.size, fun i hi hn => (k.block i (Nat.lt_of_lt_of_le hi h.size) hn).trans (h.block i hi hn)⟩
theorem grown_ext {a b c : World} {row : Option Nat} (h : a.grownBy b row) (k : Ext b c) : a.grownBy c row := grown_trans h (k.by_ row)
theorem grown_none {a b : World} (h : a.grownBy b none) (row : Option Nat) : a.grownBy b row := ⟨h.os, h.tape, h.output, h.size, fun i hi _ => h.block i hi (by simp)⟩
theorem grown_set {a w : World} {g : Nat} (h : a.grownBy w (some g)) (o : Nat) (u : Value) : a.grownBy (w.setCell ⟨g, o, none⟩ u) (some g) :=
 ⟨h.os, h.tape, h.output, by simpa [World.setCell] using h.size, fun i hi hne => (Below.heap_setCell w ⟨g, o, none⟩ u i (by rintro rfl; exact hne rfl)).trans (h.block i hi hne)⟩
theorem grown_row {a w : World} {g : Nat} (h : a.grownBy w (some g)) (cs : Array Value) : a.grownBy (w.setRow g cs) (some g) :=
 ⟨h.os, h.tape, h.output, by simpa [World.setRow] using h.size, fun i hi hne => (setRow_other w g i cs (by rintro rfl; exact hne rfl)).trans (h.block i hi hne)⟩
theorem own_ext {w w' : World} {base n k : Nat} {e : TypeId} {v : Value} {zs : List Value} (h : w.ownsRow base e k v n zs) (hx : Ext w w') : w'.ownsRow base e k v n zs :=
 h.kept (hx.by_ none) (by cases hv : v.ownBlock <;> simp)
theorem own_take {w : World} {base n m k c : Nat} {e : TypeId} {A : Option Addr} {zs : List Value} (h : w.ownsRow base e k (.slice A n c) n zs) (hm : m ≤ n) (hA : A ≠ none) : w.ownsRow base e k (.slice A m c) m (zs.take (m * k)) := by
 have hmk : m * k ≤ n * k := Nat.mul_le_mul_right _ hm
 refine ⟨by rw [List.length_take, h.1]; omega, ?_⟩
 rcases h.2 with ⟨hv, _⟩ | ⟨g, cap, cur, hv, hg, hgg, hle, hmax, hsz, htk⟩
 · injection hv with hA'; exact absurd hA' hA
 · injection hv with hA' _ hc
   subst hA' hc
   exact .inr ⟨g, c, cur, rfl, hg, hgg, by omega, hmax, hsz, by rw [← htk, List.take_take]; congr 1; omega⟩
theorem set_flatten {k : Nat} : ∀ (ys : List (List Value)) (i : Nat) (x : List Value), (∀ y, y ∈ ys → y.length = k) → x.length = k → i < ys.length → (ys.set i x).flatten = splice ys.flatten (i * k) x
 | [], _, _, _, _, hi => absurd hi (by simp)
 | y :: ys, 0, x, hy, hx, _ => by
   have h1 := hy y (List.mem_cons_self ..)
   simp [splice, hx, ← h1]
 | y :: ys, i + 1, x, hy, hx, hi => by
   have h1 := hy y (List.mem_cons_self ..)
   have ih := set_flatten ys i x (fun z hz => hy z (List.mem_cons_of_mem _ hz)) hx (by simpa using hi)
   rw [List.set_cons_succ, List.flatten_cons, ih, List.flatten_cons]
   unfold splice
   have e1 : (i + 1) * k = y.length + i * k := by rw [h1, Nat.succ_mul]; omega
   rw [e1, List.take_length_add_append, Nat.add_assoc, List.drop_length_add_append]
   simp
theorem splice_nil (l : List Value) (o : Nat) : splice l o [] = l := by simp [splice]
theorem splice_step (l : List Value) (o : Nat) (v : Value) (rest : List Value) (h : o + (rest.length + 1) ≤ l.length) : splice (l.set o v) (o + 1) rest = splice l o (v :: rest) := by
 have := list_seg_step l o v rest h
 simpa [splice, List.append_assoc] using this
theorem set3_flatten (ys : List (List Value)) (i : Nat) (u0 u1 u2 : Value) (hy : ∀ y, y ∈ ys → y.length = 3) (hi : i < ys.length) :
    ((ys.flatten.set (i * 3) u0).set (i * 3 + 1) u1).set (i * 3 + 2) u2 = (ys.set i [u0, u1, u2]).flatten := by
 have hl := flatten_length ys hy
 rw [set_flatten ys i [u0, u1, u2] hy rfl hi, ← splice_step _ _ _ _ (by simp only [hl, List.length_cons, List.length_nil]; omega), ← splice_step _ _ _ _ (by simp only [List.length_set, hl, List.length_cons, List.length_nil]; omega),
  ← splice_step _ _ _ _ (by simp only [List.length_set, hl, List.length_nil]; omega), splice_nil]

section
variable {P : Program}
theorem wpList_clear_rows {n : Nat} {w : World} {ops : Array Oper} {rest : List Oper} {o : Oper} {a : Act} {Q : Exit → Act → World → Prop} (hgd : o.guard = none) (s : Operand) (t : TypeId)
    (ho : o.op = .call { callee := .builtin .clear, args := #[s], argTypes := #[t] }) (e : TypeId) (k : Nat) (z : Value) (ht : P.underlying t = some (.slice e)) (hv : ∀ w, (zeroValue e).run P w = .ok z w)
    (hz : z.cells.size = k) (h1 : ∀ u, u ∈ (Builtin.zeroCells z.cells (n + 1)).toList → u.oneCell' = true) (g off c : Nat) (hs : a.eval s = .slice (some ⟨g, off, none⟩) (n + 1) c)
    (cur : List Value) (te : TypeId) (hg : w.heap[g]? = some (.cells cur.toArray te (0, 0))) (hfit : off + (n + 1) * k ≤ cur.length)
    (h : wpList P ops Q rest (a.put o.dst (.tuple #[])) (w.setRow g (splice cur off (Builtin.zeroCells z.cells (n + 1)).toList).toArray)) : wpList P ops Q (o :: rest) a w := by
 refine wpList_plain hgd fun K hK => ?_
 have hl : (Builtin.zeroCells z.cells (n + 1)).toList.length = (n + 1) * k := by rw [Array.length_toList, size_zeroCells, hz]
 have hst := run_storeCells_at P g off te (Builtin.zeroCells z.cells (n + 1)).toList 0 cur.toArray w hg (by rw [hl]; simpa using hfit) h1
 simp only [Nat.add_zero] at hst
 have hrun : (Builtin.clear_ #[t] o.type #[.slice (some ⟨g, off, none⟩) (n + 1) c]).run P w = .ok (.tuple #[]) (w.setRow g (splice cur off (Builtin.zeroCells z.cells (n + 1)).toList).toArray) := by
  simp [Builtin.clear_, run_underlying ht, hv, hst, splice]
 unfold Oper.wp
 simp [execOp, ho, resolve, invoke, builtin, hs, hrun, Result.andThen]
 exact hK _ _ h
end
theorem own_cur {w : World} {base n k c g : Nat} {e : TypeId} {zs : List Value} (h : w.ownsRow base e k (.slice (some ⟨g, 0, none⟩) n c) n zs) :
    ∃ cur : List Value, base ≤ g ∧ w.heap[g]? = some (.cells cur.toArray e (0, 0)) ∧ n ≤ c ∧ c ≤ maxLen ∧ cur.length = c * k ∧ cur.take (n * k) = zs := by
 rcases h.2 with ⟨hv, _⟩ | ⟨g', cap, cur, hv, hg, hgg, hle, hmax, hsz, htk⟩
 · cases hv
 · injection hv with hA _ hc
   injection hA with hA
   injection hA with hA
   subst hA hc
   exact ⟨cur.toList, hg, hgg, hle, hmax, by simpa using hsz, htk⟩
theorem own_of_cur {w : World} {base n k c g : Nat} {e : TypeId} {zs cur : List Value} (hb : base ≤ g) (hg : w.heap[g]? = some (.cells cur.toArray e (0, 0))) (hn : n ≤ c) (hc : c ≤ maxLen) (hl : cur.length = c * k) (ht : cur.take (n * k) = zs) :
    w.ownsRow base e k (.slice (some ⟨g, 0, none⟩) n c) n zs := by
 have hm : n * k ≤ c * k := Nat.mul_le_mul_right _ hn
 exact ⟨by rw [← ht, List.length_take, hl]; omega, .inr ⟨g, c, cur.toArray, rfl, hb, hg, hn, hc, by simpa using hl, by simpa using ht⟩⟩

theorem own_slot {w : World} {base n k c g : Nat} {e : TypeId} {zs : List Value} (h : w.ownsRow base e k (.slice (some ⟨g, 0, none⟩) n c) n zs) (j : Nat) (hj : j < n * k) : ∃ v, w.cell? ⟨g, j, none⟩ = some v := by
 have hl : j < zs.length := by rw [h.1]; exact hj
 exact ⟨zs[j], by rw [h.cellAt j hj]; exact List.getElem?_eq_getElem hl⟩
theorem flatten_take {k : Nat} : ∀ (ys : List (List Value)) (i : Nat), (∀ y, y ∈ ys → y.length = k) → i ≤ ys.length → (ys.take i).flatten = ys.flatten.take (i * k)
 | _, 0, _, _ => by simp
 | [], i + 1, _, hi => absurd hi (by simp)
 | y :: ys, i + 1, h, hi => by
   have h1 := h y (List.mem_cons_self ..)
   rw [List.take_succ_cons, List.flatten_cons, flatten_take ys i (fun z hz => h z (List.mem_cons_of_mem _ hz)) (by simpa using hi), List.flatten_cons, show (i + 1) * k = y.length + i * k by rw [h1, Nat.succ_mul]; omega, List.take_length_add_append]
theorem zeros_one (z : Array Value) (n : Nat) (hz : 0 < z.size) (h : ∀ i, i < z.size → z[i]!.oneCell' = true) : ∀ u, u ∈ (Builtin.zeroCells z n).toList → u.oneCell' = true := fun u hu => by
 simp only [Builtin.zeroCells, Array.toList_map, List.mem_map] at hu
 obtain ⟨i, _, rfl⟩ := hu
 exact h _ (Nat.mod_lt _ hz)
theorem splice_take (l : List Value) (o : Nat) (cs : List Value) (h : o ≤ l.length) : (splice l o cs).take o = l.take o := by
 unfold splice
 rw [List.take_append_of_le_length (by simp; omega), List.take_take]
 congr 1; omega
theorem news_new (w : World) (cs : List Value) (e : TypeId) : ∀ (j : Nat) (u : Value), cs[j]? = some u → (w.alloc (.cells cs.toArray e)).cell? ((⟨w.heap.size, 0, none⟩ : Addr).add j) = some u := fun j u hu => by
 rw [add_lit, Nat.zero_add, cell_of_row _ _ _ _ _ _ (heap_alloc_new w _)]
 simpa using hu
theorem Ext.own {a w w' : World} {base n k : Nat} {e : TypeId} {v : Value} {zs : List Value} (h : Ext a w) (ho : w.ownsRow base e k v n zs) (hg : w.grownBy w' v.ownBlock) (hb : a.heap.size ≤ base) : Ext a w' :=
 h.grown hg fun k hk => Nat.le_trans hb (ho.lt k hk).1
end Go.Proofs.YtlinhgannajfpaaGreatDoor

/- An owned row that takes an append: afterwards it lies in the block where it lay, or in a new one. And a slice beside it stays. -/
namespace Go.Proofs.YtlinhgannajfpaaGreatDoor
open Go Go.RowKit

section
variable {P : Program} (w : World)
theorem run_append_mine (base : Nat) (t ty e : TypeId) (i : TypeInfo) (z : Value) (size bytes : Nat) (ht : P.underlying t = some (.slice e)) (hi : P.info? e = some i) (hz : i.zero = some z)
    (hsize : i.size = size) (hby : i.bytes = bytes) (hzs : z.cells.size = size) (hsz : 0 < size)
    (v : Value) (n : Nat) (xs : List Value) (hown : w.ownsRow base e size v n xs)
    (a : Addr) (m c : Nat) (news : List Value) (hl : news.length = m * size) (hnews : ∀ j u, news[j]? = some u → w.cell? (a.add j) = some u) (h1 : ∀ u ∈ news, u.oneCell' = true)
    (h63 : n + m ≤ maxLen) (hbytes : (n + m) * bytes ≤ 140737488355328) (hbase : base ≤ w.heap.size) :
    ∃ v' w', (Builtin.append_ #[t, t] ty #[v, .slice (some a) m c]).run P w = .ok v' w' ∧ w'.ownsRow base e size v' (n + m) (xs ++ news) ∧ w.grownBy w' v.ownBlock ∧
      (v'.ownBlock = v.ownBlock ∨ ∀ b, v'.ownBlock = some b → w.heap.size ≤ b) := by
 obtain ⟨v', w', hr, ho, hg, _⟩ := run_append_own (P := P) w base t ty e i z size bytes ht hi hz hsize hby hzs hsz v n xs hown a m c news hl hnews h1 h63 hbytes hbase
 refine ⟨v', w', hr, ho, hg, ?_⟩
 rcases hown.2 with ⟨rfl, rfl⟩ | ⟨g, cap, cur, rfl, hbg, hgc, hnc, hcm, hcs, htake⟩
 · have hx : xs = [] := List.eq_nil_of_length_eq_zero (by simpa using hown.1)
   subst hx
   obtain ⟨v2, w2, hr2, ho2, _, _⟩ := run_append_own (P := P) w w.heap.size t ty e i z size bytes ht hi hz hsize hby hzs hsz (.slice none 0 0) 0 [] (World.ownsRow_nil _ _ _ _) a m c news hl hnews h1 h63 hbytes (Nat.le_refl _)
   rw [hr] at hr2
   injection hr2 with e1 e2
   subst e1 e2
   refine .inr fun b hb => ?_
   rcases ho2.2 with ⟨rfl, _⟩ | ⟨g, cap, cur, rfl, hbg, _⟩
   · simp [Value.ownBlock] at hb
   · simp only [Value.ownBlock, Option.some.injEq] at hb
     omega
 · by_cases hroom : n + m ≤ cap
   · obtain ⟨w2, hr2, _, _⟩ := run_append_own_spare (P := P) w base t ty e i size ht hi hsize g n cap xs hown a m c news hl hnews h1 hroom
     rw [hr] at hr2
     injection hr2 with e1 e2
     subst e1
     exact .inl rfl
   · have holds : ∀ j u, xs[j]? = some u → w.cell? ((⟨g, 0, none⟩ : Addr).add j) = some u := hown.cells (g := g) rfl
     have hr2 := run_append_grow (P := P) (w := w) t ty e i z ht hi hz ⟨g, 0, none⟩ n cap xs (by rw [hsize]; exact hown.1) holds a m c news (by rw [hsize]; exact hl) hnews (by omega) (by simp only [maxLen] at h63; omega) (growslice_fits (by omega) (by rw [hby]; exact hbytes))
     rw [hr] at hr2
     injection hr2 with e1 e2
     subst e1
     refine .inr fun b hb => ?_
     simp only [Value.ownBlock, Option.some.injEq] at hb
     omega
theorem wpList_append_mine {ops : Array Oper} {rest : List Oper} {o : Oper} {a : Act} {Q : Exit → Act → World → Prop} (hgd : o.guard = none) (s x : Operand) (t : TypeId)
    (ho : o.op = .call { callee := .builtin .append, args := #[s, x], argTypes := #[t, t] })
    (base : Nat) (e : TypeId) (i : TypeInfo) (z : Value) (size bytes : Nat) (ht : P.underlying t = some (.slice e)) (hi : P.info? e = some i) (hz : i.zero = some z)
    (hsize : i.size = size) (hby : i.bytes = bytes) (hzs : z.cells.size = size) (hsz : 0 < size)
    (v : Value) (n : Nat) (xs : List Value) (hs : a.eval s = v) (hown : w.ownsRow base e size v n xs)
    (ad : Addr) (m c : Nat) (news : List Value) (hx : a.eval x = .slice (some ad) m c) (hl : news.length = m * size) (hnews : ∀ j u, news[j]? = some u → w.cell? (ad.add j) = some u) (h1 : ∀ u ∈ news, u.oneCell' = true)
    (h63 : n + m ≤ maxLen) (hbytes : (n + m) * bytes ≤ 140737488355328) (hbase : base ≤ w.heap.size)
    (h : ∀ v' w', w'.ownsRow base e size v' (n + m) (xs ++ news) → w.grownBy w' v.ownBlock → (v'.ownBlock = v.ownBlock ∨ ∀ b, v'.ownBlock = some b → w.heap.size ≤ b) → wpList P ops Q rest (a.put o.dst v') w') : wpList P ops Q (o :: rest) a w := by
 refine wpList_plain hgd fun K hK' => ?_
 obtain ⟨v', w', hrun, r1, r2, r3⟩ := run_append_mine (P := P) w base t o.type e i z size bytes ht hi hz hsize hby hzs hsz v n xs hown ad m c news hl hnews h1 h63 hbytes hbase
 unfold Oper.wp
 simp [execOp, ho, resolve, invoke, builtin, hs, hx, hrun, Result.andThen]
 exact hK' _ _ (h v' w' r1 r2 r3)
end

section
variable {w w' : World} {B k c : Nat} {A : Option Addr} {xs : List (List Value)}
def Apart (xs : List (List Value)) (A : Option Addr) (v : Value) : Prop := 0 < xs.length → ∀ a : Addr, A = some a → v.ownBlock ≠ some a.block
theorem Sl.grown (h : Sl w w.heap.size k A c xs) {v : Value} (hg : w.grownBy w' v.ownBlock) (ha : Apart xs A v) : Sl w' w'.heap.size k A c xs :=
 ⟨h.le, h.max, h.rows, fun hn => by
   obtain ⟨b, off, e, hb, hc⟩ := h.mem hn
   refine ⟨b, off, e, Nat.lt_of_lt_of_le hb hg.size, fun j u hu => ?_⟩
   have h1 := hc j u hu
   have h2 := hg.block b hb (fun hh => ha hn _ e hh.symm)
   unfold World.cell? at h1 ⊢
   simp only at h1 ⊢
   rw [h2]
   exact h1⟩
theorem Apart.fresh {w : World} {base k n : Nat} {e : TypeId} {v : Value} {zs : List Value} (ho : w.ownsRow base e k v n zs) (hA : ∀ a : Addr, A = some a → w.heap.size ≤ a.block) : Apart xs A v := fun _ a ha hb => by
 have h1 := hA a ha
 rcases ho.2 with ⟨rfl, _⟩ | ⟨g, cap, cur, rfl, _, hg, _⟩
 · simp [Value.ownBlock] at hb
 · simp only [Value.ownBlock, Option.some.injEq] at hb
   have := (Array.getElem?_eq_some_iff.1 hg).1
   omega
theorem Apart.grown {w : World} {k c : Nat} {v v' : Value} (h : Apart xs A v) (hs : Sl w w.heap.size k A c xs) (hv : v'.ownBlock = v.ownBlock ∨ ∀ b, v'.ownBlock = some b → w.heap.size ≤ b) : Apart xs A v' := fun hn a ha hb => by
 rcases hv with hv | hv
 · exact h hn a ha (by rw [← hv]; exact hb)
 · have h1 := hv _ hb
   obtain ⟨b, off, e, hb2, _⟩ := hs.mem hn
   rw [ha] at e
   injection e with e
   subst e
   simp only at h1
   omega
theorem Apart.nil (v : Value) : Apart xs none v := fun _ _ h => by cases h
end
end Go.Proofs.YtlinhgannajfpaaGreatDoor

/- A block of cells of one's own, read and written: what a local array or struct holds. -/
namespace Go.Proofs.YtlinhgannajfpaaGreatDoor
open Go Go.RowKit

def Arr (w : World) (b : Nat) (t : TypeId) (vs : List Value) : Prop := w.heap[b]? = some (.cells vs.toArray t (0, 0))
theorem Arr.lt {w : World} {b : Nat} {t : TypeId} {vs : List Value} (h : Arr w b t vs) : b < w.heap.size := (Array.getElem?_eq_some_iff.1 h).1
theorem Arr.cell {w : World} {b : Nat} {t : TypeId} {vs : List Value} (h : Arr w b t vs) (j : Nat) : w.cell? ⟨b, j, none⟩ = vs[j]? := by
 rw [cell_of_row _ _ _ _ _ _ h]; simp
theorem Arr.frozen {w : World} {b : Nat} {t : TypeId} {vs : List Value} (h : Arr w b t vs) (j : Nat) : w.frozen? ⟨b, j, none⟩ = false := frozen_of_row w b j _ t h
theorem Arr.ext {w w' : World} {b : Nat} {t : TypeId} {vs : List Value} (h : Arr w b t vs) (hx : Ext w w') : Arr w' b t vs := by
 unfold Arr at *
 rw [hx.below.block b (Arr.lt h)]
 exact h
theorem Arr.set {w : World} {b : Nat} {t : TypeId} {vs : List Value} (h : Arr w b t vs) (j : Nat) (v : Value) : Arr (w.setCell ⟨b, j, none⟩ v) b t (vs.set j v) := by
 have h1 := heap_setCell_same w b j _ t v h
 unfold Arr
 rw [h1]
 simp
theorem Arr.other {w : World} {b : Nat} {t : TypeId} {vs : List Value} (h : Arr w b t vs) {p : Addr} (hp : b ≠ p.block) (v : Value) : Arr (w.setCell p v) b t vs := by
 unfold Arr
 rw [heap_setCell_other w p b v hp]
 exact h
theorem Arr.new (w : World) (t : TypeId) (vs : List Value) : Arr (w.alloc (.cells vs.toArray t)) w.heap.size t vs := heap_alloc_new w _
theorem Arr.new1 (w : World) (o : Obj) (t : TypeId) (vs : List Value) : Arr ((w.alloc o).alloc (.cells vs.toArray t)) (w.heap.size + 1) t vs := by
 have h := Arr.new (w.alloc o) t vs
 have e : (w.alloc o).heap.size = w.heap.size + 1 := by simp
 rw [e] at h
 exact h
theorem Arr.alloc {w : World} {b : Nat} {t : TypeId} {vs : List Value} (h : Arr w b t vs) (o : Obj) : Arr (w.alloc o) b t vs := by
 unfold Arr
 rw [heap_alloc_old w o (Arr.lt h)]
 exact h
theorem wpList_load_blk {P : Program} {ops : Array Oper} {rest : List Oper} {o : Oper} {a : Act} {w : World} {Q : Exit → Act → World → Prop} (ty : TypeId) (x : Operand) (ho : o.op = .load ty x) (hw : Region.wanted o (yielded ops a.tmps) = true)
    {b : Nat} {t : TypeId} {vs : List Value} (hB : Arr w b t vs) (hx : a.eval x = .pointer (some ⟨b, 0, none⟩)) (d : TypeDesc) (hu : P.underlying ty = some d)
    (hd : (match d with | .struct _ | .array _ _ => true | _ => false) = true) (hi : (P.info? ty).map (·.size) = some vs.length) (h : wpList P ops Q rest (a.put o.dst (.agg vs.toArray)) w) : wpList P ops Q (o :: rest) a w := by
 refine wpList_step fun K hK => ?_
 rw [if_pos hw]
 exact wp_load_row ty x ho b hx t vs.toArray (0, 0) d hB hu hd (by simpa using hi) (hK _ _ h)
theorem ldB {P : Program} {ops : Array Oper} {rest : List Oper} {o : Oper} {a : Act} {w : World} {Q : Exit → Act → World → Prop} (ty : TypeId) (s : Nat) {b : Nat} {t : TypeId} {vs : List Value} (hB : Arr w b t vs) {d : TypeDesc} (hu : P.underlying ty = some d)
    (h : wpList P ops Q rest (a.put o.dst (.agg vs.toArray)) w) (ho : o.op = .load ty (.tmp s) := by rfl) (hw : Region.wanted o (yielded ops a.tmps) = true := by rfl) (hx : a.eval (.tmp s) = .pointer (some ⟨b, 0, none⟩) := by rfl)
    (hd : (match d with | .struct _ | .array _ _ => true | _ => false) = true := by rfl) (hi : (P.info? ty).map (·.size) = some vs.length := by kernel_rfl) : wpList P ops Q (o :: rest) a w :=
 wpList_load_blk ty (.tmp s) ho hw hB hx d hu hd hi h
theorem Arr.look {w w' : World} {b : Nat} {t : TypeId} {vs : List Value} (h : Arr w b t vs) (hx : Ext w w') : Arr w' b t vs ∧ (∀ j, w'.cell? ⟨b, j, none⟩ = vs[j]?) ∧ (∀ j, w'.frozen? ⟨b, j, none⟩ = false) ∧ b < w'.heap.size :=
 ⟨h.ext hx, (h.ext hx).cell, (h.ext hx).frozen, (h.ext hx).lt⟩
theorem Arr.setRow {w : World} {b : Nat} {t : TypeId} {vs : List Value} (h : Arr w b t vs) (cs : List Value) : Arr (w.setRow b cs.toArray) b t cs := setRow_heap w b _ _ t (0, 0) h
theorem Arr.setRow_other {w : World} {b g : Nat} {t : TypeId} {vs : List Value} (h : Arr w b t vs) (hne : b ≠ g) (cs : Array Value) : Arr (w.setRow g cs) b t vs := by
 unfold Arr
 rw [Go.setRow_other w g b cs hne]
 exact h
theorem Ext.setRow {a w : World} (h : Ext a w) {g : Nat} (hg : a.heap.size ≤ g) (cs : Array Value) : Ext a (w.setRow g cs) :=
 ⟨⟨h.below.os, h.below.tape, h.below.output, by simpa [World.setRow] using h.below.size, fun k hk => (Go.setRow_other w g k cs (by omega)).trans (h.below.block k hk)⟩⟩
theorem byX {a w : World} (h : Ext a w := by repeat (first | with_reducible exact Ext.refl _ | with_reducible assumption | with_reducible refine Ext.alloc ?_ _ | with_reducible refine Ext.drew ?_ | (with_reducible refine Ext.setCell ?_ ?_ _; rotate_left; focus (first | (simp; done) | (simp; omega) | omega)) | (with_reducible refine Ext.setRow ?_ ?_ _; rotate_left; focus (first | (simp; done) | (simp; omega) | omega)) | with_reducible refine Ext.trans ?_ (by with_reducible assumption))) : Ext a w := h
theorem wpList_store_blk {P : Program} {ops : Array Oper} {rest : List Oper} {o : Oper} {a : Act} {w : World} {Q : Exit → Act → World → Prop} (ty : TypeId) (x y : Operand) (ho : o.op = .store ty x y) (hw : Region.wanted o (yielded ops a.tmps) = true)
    {b : Nat} {t : TypeId} {vs : List Value} (hB : Arr w b t vs) (cs : List Value) (hx : a.eval x = .pointer (some ⟨b, 0, none⟩)) (hy : a.eval y = .agg cs.toArray) (hi : (P.info? ty).map (·.size) = some cs.length)
    (hl : vs.length = cs.length) (h1 : cs.all (·.oneCell') = true) (h : wpList P ops Q rest (a.put o.dst undef) (w.setRow b cs.toArray)) : wpList P ops Q (o :: rest) a w := by
 refine wpList_step fun K hK => ?_
 rw [if_pos hw]
 exact wp_store_row ty x y ho b cs.toArray hx hy t vs.toArray hB (by simpa using hi) (by simpa using hl) (by simpa using h1) (hK _ _ h)
end Go.Proofs.YtlinhgannajfpaaGreatDoor

/- A part of a block of one's own, loaded at once. -/
namespace Go.Proofs.YtlinhgannajfpaaGreatDoor
open Go Go.RowKit

theorem wpList_load_part {P : Program} {ops : Array Oper} {rest : List Oper} {o : Oper} {a : Act} {w : World} {Q : Exit → Act → World → Prop} (ty : TypeId) (x : Operand) (ho : o.op = .load ty x) (hw : Region.wanted o (yielded ops a.tmps) = true)
    {b : Nat} {t : TypeId} {vs : List Value} (hB : Arr w b t vs) (off : Nat) (cs : List Value) (hcs : (vs.drop off).take cs.length = cs) (hx : a.eval x = .pointer (some ⟨b, off, none⟩)) (d : TypeDesc) (hu : P.underlying ty = some d)
    (hd : d.isRow = true) (hi : (P.info? ty).map (·.size) = some cs.length) (h : wpList P ops Q rest (a.put o.dst (.agg cs.toArray)) w) : wpList P ops Q (o :: rest) a w := by
 refine wpList_step fun K hK => ?_
 rw [if_pos hw]
 refine wp_load_mid ty x ho b off hx cs d (fun j v hv => ?_) hu hd hi (hK _ _ h)
 rw [hB.cell, ← List.getElem?_drop]
 have h1 : ((vs.drop off).take cs.length)[j]? = some v := by rw [hcs]; exact hv
 rw [List.getElem?_take] at h1
 split at h1
 · exact h1
 · cases h1
end Go.Proofs.YtlinhgannajfpaaGreatDoor
