/- YtlinhgannajfpaaGreatDoorSo · The shelf's layings at this program, in plain declarations: carried over by names (remap_sh.py). · YtlinhgannajfpaaGreatDoorSrt · YtlinhgannajfpaaGreatDoorUs · YtlinhgannajfpaaGreatDoorUu · YtlinhgannajfpaaGreatDoorRead · YtlinhgannajfpaaGreatDoorRdu · YtlinhgannajfpaaGreatDoorRdB · YtlinhgannajfpaaGreatDoorRc · YtlinhgannajfpaaGreatDoorPl -/
import Derived.Shelf.SlSortCmp.NoneTotal
import Derived.Shelf.SlSortCmp.QuietGrown
import Derived.Shelf.SlicesE.Clone
import Derived.Ground.SlsfProg
import Derived.Ground.SlgnProg
import Derived.Shelf.SlGeneric
import Derived.Test.YtlinhgannajfpaaGreatDoorProg
import Derived.ProofKit
import Derived.Lib.SmallJoins
import Derived.Deep.Slices
import Derived.OpenShut
import Derived.Test.YtlinhgannajfpaaGreatDoorYa8
/- slices.SortFunc at structs, over a row of one's own: it then holds what core's mergeSort gives. For every program. -/
namespace Go.Proofs.YtlinhgannajfpaaGreatDoor
open Go Go.RowKit Go.Sort

section
variable {α : Type} [Inhabited α] {enc : α → List Value} {k : Nat}
theorem flatK_list (hk : ∀ x, (enc x).length = k) (d : List α) : (flatK enc k d.toArray).toList = (d.map enc).flatten := by
  have hl : ∀ x, x ∈ d.map enc → x.length = k := fun x hx => by obtain ⟨y, _, rfl⟩ := List.mem_map.1 hx; exact hk y
  apply List.ext_getElem?
  intro t
  by_cases ht : t < d.length * k
  · have k0 : 0 < k := by rcases Nat.eq_zero_or_pos k with h | h; · subst h; simp at ht
                          · exact h
    have hi : t / k < d.length := Nat.div_lt_of_lt_mul (by rw [Nat.mul_comm]; exact ht)
    have hj : t % k < k := Nat.mod_lt _ k0
    have h1 := flatten_at (d.map enc) hl (t / k) (enc d[t / k]) (by simp [hi]) (t % k) ((enc d[t / k])[t % k]'(by rw [hk]; exact hj)) (List.getElem?_eq_getElem _)
    rw [Nat.mul_comm, Nat.div_add_mod] at h1
    rw [h1]
    have h2 : (flatK enc k d.toArray)[t]! = (enc d.toArray[t / k]!)[t % k]! := get_flatK _ _ _ t (by simpa using ht)
    rw [getElem!_pos _ t (by simpa using ht)] at h2
    rw [Array.getElem?_toList, Array.getElem?_eq_getElem (by simpa using ht), h2]
    congr 1
    rw [getElem!_pos d.toArray _ (by simpa using hi)]
    simp only [List.getElem_toArray]
    rw [getElem!_pos _ _ (by rw [hk]; exact hj)]
  · rw [List.getElem?_eq_none (by simp; omega), List.getElem?_eq_none (by rw [flatten_length _ hl]; simp; omega)]
theorem take_put (cur F : Array Value) (h : F.size ≤ cur.size) : (putCells id 0 F cur).toList.take F.size = F.toList := by
  apply List.ext_getElem?
  intro t
  rw [List.getElem?_take]
  by_cases ht : t < F.size
  · rw [if_pos ht]
    have : (putCells id 0 F cur)[t]? = some F[t] := by
      unfold putCells
      rw [Array.getElem?_mapIdx, Array.getElem?_eq_getElem (by omega)]
      simp [ht]
    simpa [ht] using this
  · rw [if_neg ht, List.getElem?_eq_none (by simpa using Nat.le_of_not_lt ht)]
theorem holds_of_own {w : World} {base n c g : Nat} {e : TypeId} {d : List α} (hk : ∀ x, (enc x).length = k) (h : w.ownsRow base e k (.slice (some ⟨g, 0, none⟩) n c) n (d.map enc).flatten) (hn : d.length = n) : HoldsK enc k w g 0 d.toArray := by
  obtain ⟨cur, hb, hg, hc, hm, hl, ht⟩ := own_cur h
  have hl2 : ∀ x, x ∈ d.map enc → x.length = k := fun x hx => by obtain ⟨y, _, rfl⟩ := List.mem_map.1 hx; exact hk y
  intro j hj
  have hj2 : j < n * k := by rw [size_flatK] at hj; simpa [hn] using hj
  refine ⟨?_, frozen_of_row w g _ cur.toArray e hg⟩
  rw [Nat.zero_add, cell_of_row w g _ cur.toArray e (0, 0) hg]
  have h1 : (flatK enc k d.toArray).toList[j]? = some (flatK enc k d.toArray)[j] := by simp
  rw [flatK_list hk, ← ht, List.getElem?_take, if_pos hj2] at h1
  rw [getElem!_pos _ j hj]
  simpa using h1
theorem own_put {w : World} {base n c g m : Nat} {e : TypeId} {d d' : List α} {os : Array Obj} (hk : ∀ x, (enc x).length = k) (h : w.ownsRow base e k (.slice (some ⟨g, 0, none⟩) n c) n (d.map enc).flatten) (_hn : d.length = n) (hd : d'.length = n) :
    (sortWorldK enc k w g 0 m d'.toArray os).ownsRow base e k (.slice (some ⟨g, 0, none⟩) n c) n (d'.map enc).flatten ∧ w.grownBy (sortWorldK enc k w g 0 m d'.toArray os) (some g) := by
  obtain ⟨cur, hb, hg, hc, hm, hl, ht⟩ := own_cur h
  have hgl := (Array.getElem?_eq_some_iff.1 hg).1
  have hnk : n * k ≤ cur.length := by rw [hl]; exact Nat.mul_le_mul_right _ hc
  have hbl : (sortWorldK enc k w g 0 m d'.toArray os).heap[g]? = some (.cells (putCells id 0 (flatK enc k d'.toArray) cur.toArray) e (0, 0)) := by
    unfold sortWorldK grow putRowK putRow mapBlock Go.Sort.ahead
    simp only [Array.getElem?_append, Array.size_modify, hgl, if_true, Array.getElem?_modify]
    rw [hg]
    rfl
  have hsz : (putCells id 0 (flatK enc k d'.toArray) cur.toArray).size = cur.length := by simp [putCells]
  refine ⟨own_of_cur (cur := (putCells id 0 (flatK enc k d'.toArray) cur.toArray).toList) hb (by simpa using hbl) hc hm (by rw [Array.length_toList, hsz, hl]) ?_, ?_⟩
  · have h1 := take_put cur.toArray (flatK enc k d'.toArray) (by simp [hd]; exact hnk)
    rw [size_flatK] at h1
    simp only [List.size_toArray, hd] at h1
    rw [h1, flatK_list hk]
  · refine ⟨rfl, rfl, rfl, ?_, fun i hi hne => ?_⟩
    · simp [sortWorldK, grow, putRowK, putRow, mapBlock, Go.Sort.ahead]
    · unfold sortWorldK grow putRowK putRow mapBlock Go.Sort.ahead
      simp only [Array.getElem?_append, Array.size_modify, hi, if_true, Array.getElem?_modify]
      rw [if_neg (by rintro rfl; exact hne rfl)]
end
/-- The class of the worlds that come of w by draws and new blocks. -/
def nearG (w : World) (n : Nat) (os : Array Obj) : World := grow (w.drewN n) os
theorem nearG_old (w : World) (n : Nat) (os : Array Obj) (b o : Nat) (h : b < w.heap.size) : (nearG w n os).cell? ⟨b, o, none⟩ = w.cell? ⟨b, o, none⟩ := by
  simp only [World.cell?, nearG, grow, World.drewN, Array.getElem?_append, h, if_true]
theorem nearG_drew (w : World) : w.drew = nearG w 1 #[] := by unfold nearG; rw [grow_empty]; rfl
theorem wp_region_nearG_tail {P : Program} {id : Nat} {Q : Exit → Act → World → Prop} {a : Act} {w : World} {l : List Oper} (n : Nat) (hm : P.follows .mixedOrders = true) (hB : Region.lexTailB .any l.toArray n = true)
    (h : wpQuiet P l.toArray (fun w' => ∃ p : Near, w' = nearG w p.n p.os) (fun a' => ∀ w', (∃ p : Near, w' = nearG w p.n p.os) → wpList P l.toArray Q (l.drop n) a' w') (l.take n) a) : (Code.region id l.toArray true).wp P Q a w :=
  wp_region_head n hm hB ⟨⟨1, #[]⟩, nearG_drew w⟩ h
theorem nearG_same {P : Program} {f : FuncId} {args : Array Value} {w : World} {n : Nat} {os : Array Obj} {v : Value}
    (h : Calls P f args (nearG w n os) fun e w' => e = .returned v ∧ nearG w n os = w') : Calls P f args (nearG w n os) fun e w'' => e = .returned v ∧ ∃ p : Near, w'' = nearG w p.n p.os :=
  h.mono fun _ _ ⟨he, hx⟩ => ⟨he, ⟨⟨n, os⟩, hx.symm⟩⟩
theorem nearG_grow (w : World) (n : Nat) (os os' : Array Obj) : grow (nearG w n os) os' = grow (w.drewN n) (os ++ os') := by unfold nearG; rw [grow_grow]
theorem nearG_alloc (w : World) (n : Nat) (os : Array Obj) (o : Obj) : ∃ q os', (nearG w n os).alloc o = grow (w.drewN q) os' := ⟨n, os ++ #[o], by rw [alloc_eq_grow, nearG_grow]⟩
theorem grown_alloc2 (w : World) (a b : Obj) (q : Nat) (os : Array Obj) : ∃ q' os', grow (((w.alloc a).alloc b).drewN q) os = grow (w.drewN q') os' := by
  refine ⟨q, #[a] ++ #[b] ++ os, ?_⟩
  rw [alloc_eq_grow, alloc_eq_grow, grow_grow]
  show grow (grow (w.drewN q) _) os = _
  rw [grow_grow]
end Go.Proofs.YtlinhgannajfpaaGreatDoor

namespace Go.Proofs.YtlinhgannajfpaaGreatDoor
open Go.Shelf
def Tryz.sortEd_ren : Go.Shelf.Ren := ⟨fun | 6 => 69 | 15 => 104 | 14 => 103 | 28 => 139 | 29 => 140 | 20 => 131 | 21 => 132 | 22 => 133 | 23 => 134 | 24 => 135 | 25 => 136 | 26 => 137 | 27 => 138 | 46 => 145 | 47 => 146 | 48 => 147 | 49 => 148 | 50 => 149 | 57 => 155 | n => n, fun | 22 => 35 | 24 => 29 | 25 => 38 | 3 => 3 | 39 => 109 | 0 => 0 | 53 => 112 | 55 => 115 | 4 => 4 | 46 => 139 | 45 => 138 | 50 => 132 | 5 => 5 | 9 => 9 | 66 => 149 | 70 => 153 | 76 => 162 | 77 => 69 | n => n, fun | n => n⟩
theorem Tryz.sortEd : Go.Proofs.SlLaysF0.n6 Tryz.prog Tryz.sortEd_ren := {
  mixed := by kernel_rfl
  f6 := ⟨Tryz.f69.name, by decide, Tryz.func69.trans (congrArg some (by kernel_rfl))⟩
  f14 := ⟨Tryz.f103.name, by decide, Tryz.func103.trans (congrArg some (by kernel_rfl))⟩
  f15 := Tryz.func104.trans (congrArg some (by kernel_rfl))
  f20 := ⟨Tryz.f131.name, by decide, Tryz.func131.trans (congrArg some (by kernel_rfl))⟩
  f21 := ⟨Tryz.f132.name, by decide, Tryz.func132.trans (congrArg some (by kernel_rfl))⟩
  f22 := ⟨Tryz.f133.name, by decide, Tryz.func133.trans (congrArg some (by kernel_rfl))⟩
  f23 := ⟨Tryz.f134.name, by decide, Tryz.func134.trans (congrArg some (by kernel_rfl))⟩
  f24 := ⟨Tryz.f135.name, by decide, Tryz.func135.trans (congrArg some (by kernel_rfl))⟩
  f25 := ⟨Tryz.f136.name, by decide, Tryz.func136.trans (congrArg some (by kernel_rfl))⟩
  f26 := ⟨Tryz.f137.name, by decide, Tryz.func137.trans (congrArg some (by kernel_rfl))⟩
  f27 := ⟨Tryz.f138.name, by decide, Tryz.func138.trans (congrArg some (by kernel_rfl))⟩
  f28 := Tryz.func139.trans (congrArg some (by kernel_rfl))
  f29 := Tryz.func140.trans (congrArg some (by kernel_rfl))
  f46 := ⟨Tryz.f145.name, by decide, Tryz.func145.trans (congrArg some (by kernel_rfl))⟩
  f47 := Tryz.func146.trans (congrArg some (by kernel_rfl))
  f48 := Tryz.func147.trans (congrArg some (by kernel_rfl))
  f49 := ⟨Tryz.f148.name, by decide, Tryz.func148.trans (congrArg some (by kernel_rfl))⟩
  f50 := ⟨Tryz.f149.name, by decide, Tryz.func149.trans (congrArg some (by kernel_rfl))⟩
  f57 := ⟨Tryz.f155.name, by decide, Tryz.func155.trans (congrArg some (by kernel_rfl))⟩
  t0 := Tryz.underlying0
  a0 := Tryz.isAgg0
  z0 := Tryz.sizeOf0
  v0 := Tryz.zeroValue0
  t3 := Tryz.underlying3
  a3 := Tryz.isAgg3
  z3 := Tryz.sizeOf3
  v3 := Tryz.zeroValue3
  t4 := Tryz.underlying4
  a4 := Tryz.isAgg4
  z4 := Tryz.sizeOf4
  v4 := Tryz.zeroValue4
  t5 := Tryz.underlying5
  a5 := Tryz.isAgg5
  z5 := Tryz.sizeOf5
  v5 := Tryz.zeroValue5
  t9 := Tryz.underlying9
  a9 := Tryz.isAgg9
  z9 := Tryz.sizeOf9
  v9 := Tryz.zeroValue9
  t22 := Tryz.underlying35
  a22 := Tryz.isAgg35
  z22 := Tryz.sizeOf35
  v22 := Tryz.zeroValue35
  t25 := Tryz.underlying38
  a25 := Tryz.isAgg38
  z25 := Tryz.sizeOf38
  v25 := Tryz.zeroValue38
  t39 := Tryz.underlying109
  a39 := Tryz.isAgg109
  z39 := Tryz.sizeOf109
  v39 := Tryz.zeroValue109
  t45 := Tryz.underlying138
  a45 := Tryz.isAgg138
  z45 := Tryz.sizeOf138
  v45 := Tryz.zeroValue138
  t46 := Tryz.underlying139
  a46 := Tryz.isAgg139
  z46 := Tryz.sizeOf139
  v46 := Tryz.zeroValue139
  t50 := Tryz.underlying132
  a50 := Tryz.isAgg132
  z50 := Tryz.sizeOf132
  v50 := Tryz.zeroValue132
  t53 := Tryz.underlying112
  a53 := Tryz.isAgg112
  z53 := Tryz.sizeOf112
  v53 := Tryz.zeroValue112
  t55 := Tryz.underlying115
  a55 := Tryz.isAgg115
  z55 := Tryz.sizeOf115
  v55 := Tryz.zeroValue115
  t66 := Tryz.underlying149
  a66 := Tryz.isAgg149
  z66 := Tryz.sizeOf149
  v66 := Tryz.zeroValue149
  t70 := Tryz.underlying153
  a70 := Tryz.isAgg153
  z70 := Tryz.sizeOf153
  v70 := Tryz.zeroValue153
  t76 := Tryz.underlying162
  a76 := Tryz.isAgg162
  z76 := Tryz.sizeOf162
  v76 := Tryz.zeroValue162
  t77 := Tryz.underlying69
  a77 := Tryz.isAgg69
  z77 := Tryz.sizeOf69
  v77 := Tryz.zeroValue69 }
def Tryz.cloneEd_ren : Go.Shelf.Ren := ⟨fun | 41 => 68 | n => n, fun | 22 => 35 | 23 => 29 | 4 => 4 | n => n, fun | n => n⟩
theorem Tryz.cloneEd : Go.Proofs.SlLaysE0.n41 Tryz.prog Tryz.cloneEd_ren := {
  mixed := by kernel_rfl
  f41 := ⟨Tryz.f68.name, by decide, Tryz.func68.trans (congrArg some (by kernel_rfl))⟩
  t4 := Tryz.underlying4
  a4 := Tryz.isAgg4
  z4 := Tryz.sizeOf4
  v4 := Tryz.zeroValue4
  t22 := Tryz.underlying35
  a22 := Tryz.isAgg35
  z22 := Tryz.sizeOf35
  v22 := Tryz.zeroValue35 }
end Go.Proofs.YtlinhgannajfpaaGreatDoor

/- Sorting edits and names: history.compare, slices.SortFunc, slices.Clone, edit.Sorted. -/
namespace Go.Proofs.YtlinhgannajfpaaGreatDoor
open Go Go.RowKit Go.Sort

section
variable {α : Type} {r : α → α → Bool}
theorem Ord.ntr (o : Ord r) {x y z : α} (h : r x y = false) (k : r y z = false) : r x z = false := by
  cases g : r x z
  · rfl
  · exfalso
    cases e : r y x
    · have := o.tot h e; subst this; rw [g] at k; cases k
    · have := o.tr e g; rw [this] at k; cases k
theorem Ord.swo (o : Ord r) : SWO r where
  irrefl x := o.irr x
  trans _x _y _z h k := o.tr h k
  ntrans _x _y _z h k := o.ntr h k
def srtR (r : α → α → Bool) (l : List α) : List α := l.mergeSort fun x y => !r y x
theorem srtR_length (l : List α) : (srtR r l).length = l.length := List.length_mergeSort ..
theorem srtR_perm (l : List α) : (srtR r l).Perm l := List.mergeSort_perm ..
theorem srtR_mem (l : List α) (q : α) : q ∈ srtR r l ↔ q ∈ l := (srtR_perm l).mem_iff
theorem srtR_le (o : Ord r) (l : List α) : LeR r (srtR r l) := by
  have h := List.pairwise_mergeSort (le := fun x y => !r y x) (fun a b c h k => by
    simp only [Bool.not_eq_true'] at *
    exact o.ntr k h) (fun a b => by
    cases h : r b a
    · simp
    · simp [o.asym h]) l
  exact h.imp fun h => by simpa using h
end
theorem ExtD.grow {w w' : World} (h : ExtD w w') : ∃ q os', w' = grow (w.drewN q) os' := by
  obtain ⟨p, hp⟩ := h.nearD
  exact ⟨p.n, p.os, hp⟩
instance : Inhabited Nm := ⟨⟨0, 0⟩⟩
theorem ltNm (x y : Nm) : ltOf (fun x y : Nm => cmpV [x.site, x.seq] [y.site, y.seq]) x y = befN x y := by
  unfold ltOf
  rw [Bool.eq_iff_iff, decide_eq_true_eq]
  exact cmpV_lt
instance : Inhabited Ed := ⟨⟨⟨0, 0, 0, 0⟩, 0, ⟨⟨0, 0, 0⟩, ⟨0, 0, 0⟩⟩, ⟨0, 0, 0⟩, 0, 0, 0⟩⟩
theorem ltEd (x y : Ed) : ltOf (fun x y : Ed => cmpV (numsE x) (numsE y)) x y = befE x y := by
  unfold ltOf
  rw [Bool.eq_iff_iff, decide_eq_true_eq]
  exact cmpV_lt
set_option maxHeartbeats 1000000 in
theorem SortEd_any (l : List Ed) (v : Value) (base : Nat) (w : World) (h : w.ownsRow base 29 17 v l.length (rowsE l).flatten) (hb : l.length ≤ 1034834473200) :
    Calls Tryz.prog 69 #[v, .func (.func 19) #[] #[]] w fun e w' => e = .returned (.tuple #[]) ∧ w'.ownsRow base 29 17 v l.length (rowsE (srtR befE l)).flatten ∧ w.grownBy w' v.ownBlock := by
  have hlt : ltOf (fun x y : Ed => cmpV (numsE x) (numsE y)) = befE := by funext x y; exact ltEd x y
  rcases h.2 with ⟨rfl, h0⟩ | ⟨g, cap, cur, rfl, hg, hgg, _⟩
  · have hl : l = [] := List.eq_nil_of_length_eq_zero h0
    subst hl
    have hcon := AnyF.slices_SortFunc_none { Tryz.sortEd with } none 0 (.func (.func 19) #[] #[]) w
    exact hcon.mono fun e w' ⟨he, hw⟩ => ⟨he, by subst hw; simpa [srtR] using h, by subst hw; exact grown_refl _ _⟩
  · have eg : ∀ args w, (callFunc 19 args).run Tryz.prog w = .ok (.enter 19 args) w := fun _ _ => by kernel_rfl
    have hcmp : CmpLays Tryz.prog 19 #[] Ed.cells 17 (fun x y : Ed => cmpV (numsE x) (numsE y)) g 0 l.toArray.size w := fun m os dk hs x y => (CompareEd_any x y _).mono fun e w' hh => ⟨hh.1, hh.2.grow⟩
    have hsz : l.toArray.size < 4611686018427387904 := by simp; omega
    have hcon := AnyQ.slices_SortFunc_total Tryz.sortEd 17 Tryz.isAgg29 Tryz.sizeOf29 Ed.cells (fun _ => rfl) (fun x => x.one) (fun x y : Ed => cmpV (numsE x) (numsE y)) (by rw [hlt]; exact ordE.swo) 19 #[] g 0 cap l.toArray w eg hcmp (holds_of_own (enc := Ed.cells) (fun _ => rfl) h rfl) ((Array.getElem?_eq_some_iff.1 hgg).1) hsz (fun x y h1 h2 => by
      rw [hlt] at h1 h2
      exact ordE.tot h1 h2)
    refine hcon.mono fun e w' ⟨he, n, os, hw⟩ => ?_
    have hsl : (l.toArray.toList.mergeSort fun x y => !(ltOf (fun x y : Ed => cmpV (numsE x) (numsE y))) y x) = srtR befE l := by
      rw [hlt]; rfl
    rw [hsl] at hw
    obtain ⟨r1, r2⟩ := own_put (enc := Ed.cells) (m := n) (os := os) (d' := srtR befE l) (fun _ => rfl) h rfl (srtR_length l)
    rw [hw]
    exact ⟨he, r1, r2⟩
/-- It hands back a row of its own that holds l; what was there is as it was. -/
def RetOE (l : List Ed) (w : World) (en : Ending) (w' : World) : Prop :=
  ∃ v, en = .returned v ∧ w'.ownsRow w.heap.size 29 17 v l.length (rowsE l).flatten ∧ Ext w w'
set_option maxHeartbeats 1000000 in
theorem CloneEd_any (A : Option Addr) (c : Nat) (l : List Ed) (w : World) (hs : Sv w w.heap.size 17 A c (rowsE l)) (hb : l.length ≤ 1034834473200) :
    Calls Tryz.prog 68 #[.slice A l.length c] w (RetOE l w) := by
  have qT : ∀ (w : World) (a : Option Addr) (n c n' c' : Nat), (binOp .eql 35 (.slice a n c) (.slice none n' c')).run Tryz.prog w = .ok (.bool a.isNone) w := fun w a n c n' c' => Lib.run_eql_slice_nil w _ _ a n c n' c' Tryz.underlying35
  cases A with
  | none =>
    have hl : l = [] := by
      apply List.eq_nil_of_length_eq_zero
      rcases Nat.eq_zero_or_pos l.length with h | h
      · exact h
      · obtain ⟨_, _, h, _⟩ := hs.mem (by rw [rowsE_length]; exact h)
        cases h
    subst hl
    clear hs
    go_enter Tryz.func68, Tryz.ntmps68
    go_wp2
    go_ret
    exact ⟨_, rfl, World.ownsRow_nil _ _ _ _, Ext.refl _⟩
  | some ad =>
    have hx0 : Ext w (w.alloc (.cells #[] 29)) := (Ext.refl w).alloc _
    have HS := Lib.hid (hs.ext hx0)
    have HX := Lib.hid hx0
    obtain ⟨i0, hi, hz0, hz1, hz2⟩ := info_parts infoEd
    have HI := Lib.hid hi; have HZ := Lib.hid hz0; have HZ1 := Lib.hid hz1; have HZ2 := Lib.hid hz2; clear hi hz0 hz1 hz2 hs hx0
    have HOZ := Lib.hid (show (w.alloc (.cells #[] 29)).ownsRow w.heap.size 29 17 (.slice (some ⟨w.heap.size, 0, none⟩) 0 0) 0 [] from own_of_cur (cur := []) (Nat.le_refl _) (by simpa using heap_alloc_new w (.cells #[] 29)) (Nat.le_refl _) (by decide) (by simp) (by simp))
    go_enter Tryz.func68, Tryz.ntmps68
    go_upto_region 3 with fail
    go_wp2_with (at_builtin; refine wpList_append_sv _ rfl (.tmp 5) (.tmp 6) 35 rfl w.heap.size 29 i0 (.agg #[.int .i64 0, .int .i64 0, .int .i64 0, .int .i64 0, .int .i64 0, .int .i64 0, .int .i64 0, .int .i64 0, .int .i64 0, .int .i64 0, .int .i64 0, .int .i64 0, .int .i64 0, .int .i64 0, .int .i64 0, .int .i64 0, .int .i64 0]) 17 136 Tryz.underlying35 HI.out HZ.out HZ1.out HZ2.out rfl (by decide) _ 0 [] rfl HOZ.out (w.alloc (.cells #[] 29)).heap.size (some ad) l.length c (rowsE l) rfl HS.out (by rw [rowsE_length]) (by unfold maxLen; omega) (by omega) HX.out.size ?_)
    intro v2 w2 g1 g2 _
    have hx2 : Ext w w2 := HX.out.grown g2 (own_low HOZ.out)
    have HG := Lib.hid (show w2.ownsRow w.heap.size 29 17 v2 l.length (rowsE l).flatten by simpa using g1)
    obtain ⟨A1, c1, rfl, _⟩ := own_form HG.out
    have HX2 := Lib.hid hx2
    clear g1 g2 hx2
    go_wp2
    go_ret
    exact ⟨_, rfl, HG.out, HX2.out⟩
def RetSE (l : List Ed) (w : World) (en : Ending) (w' : World) : Prop :=
  ∃ m v, IsOrd l m ∧ en = .returned v ∧ w'.ownsRow w.heap.size 29 17 v m.length (rowsE m).flatten ∧ Ext w w'
set_option maxHeartbeats 1000000 in
theorem SortedEd_any (A : Option Addr) (c : Nat) (l : List Ed) (w : World) (hs : Sv w w.heap.size 17 A c (rowsE l)) (hb : l.length ≤ 1034834473200) :
    Calls Tryz.prog 22 #[.slice A l.length c] w (RetSE l w) := by
  have HC := Lib.hid (CloneEd_any A c l w hs hb)
  clear hs
  go_enter Tryz.func22, Tryz.ntmps22
  go_upto_region 2 with (go_at_call 68; refine HC.out.mono ?_; rintro e w1 ⟨v, rfl, ho, hx⟩)
  have HSO := Lib.hid (SortEd_any l v w.heap.size w1 ho hb)
  have HO := Lib.hid ho; have HX := Lib.hid hx
  clear ho hx
  rcases HO.out.2 with ⟨rfl, h0⟩ | ⟨g, cap, cur, rfl, hg, hgg, _⟩
  · have hl : l = [] := List.eq_nil_of_length_eq_zero h0
    subst hl
    go_upto_region 3 with (go_at_call 69; refine HSO.out.mono ?_; rintro e w2 ⟨rfl, ho2, hg2⟩)
    go_wp2_with (go_at_call 70; refine (CompactEd_none _).mono ?_; rintro e w3 ⟨rfl, rfl⟩)
    go_ret
    exact ⟨[], _, ⟨List.Pairwise.nil, fun q => Iff.rfl⟩, rfl, World.ownsRow_nil _ _ _ _, HX.out.grown hg2 (fun k hk => by simp [Value.ownBlock] at hk)⟩
  · clear hgg
    go_upto_region 3 with (go_at_call 69; refine HSO.out.mono ?_; rintro e w2 ⟨rfl, ho2, hg2⟩)
    have hsl := srtR_length (r := befE) l
    have HCO := Lib.hid (CompactEd_own g cap w.heap.size (srtR befE l) w2 (by rw [hsl]; exact ho2) (srtR_le ordE l) (by omega))
    rw [hsl] at HCO
    have HX2 := Lib.hid (show Ext w w2 from HX.out.grown hg2 (own_low HO.out))
    clear ho2 hg2 hsl
    go_wp2_with (go_at_call 70; refine HCO.out.mono ?_; rintro e w3 ⟨m, h1, h2, rfl, ho3, hg3⟩)
    go_ret
    exact ⟨m, _, ⟨h1, fun q => (h2 q).trans (srtR_mem l q)⟩, rfl, ho3, HX2.out.grown hg3 (fun k hk => by injection hk with hk; omega)⟩
end Go.Proofs.YtlinhgannajfpaaGreatDoor

/- Append onto a full slice of bytes (a slice cut to its length); what the laid variables hold; facts about the sanity's edits. -/
namespace Go.Proofs.YtlinhgannajfpaaGreatDoor
open Go Go.RowKit

set_option maxRecDepth 100000 in
theorem wpList_append_full_B {ops : Array Oper} {rest : List Oper} {o : Oper} {a : Act} {w : World} {Q : Exit → Act → World → Prop} (hgd : o.guard = none) (s x : Operand)
    (ho : o.op = .call { callee := .builtin .append, args := #[s, x], argTypes := #[42, 42] })
    (b0 o0 : Nat) (n : Nat) (xs : List UInt8) (hn : xs.length = n) (hs : a.eval s = .slice (some ⟨b0, o0, none⟩) n n) (hr0 : ∀ j u, (rowsB xs).flatten[j]? = some u → w.cell? ⟨b0, o0 + j, none⟩ = some u)
    (ad : Addr) (c m : Nat) (ys : List UInt8) (hx : a.eval x = .slice (some ad) m c) (hm : ys.length = m) (hr : Sv w w.heap.size 1 (some ad) c (rowsB ys)) (hm0 : 0 < m) (hlen : n + m ≤ 1000000000)
    (h : ∀ A' c' w', Sv w' w'.heap.size 1 A' c' (rowsB (xs ++ ys)) → Ext w w' → wpList Tryz.prog ops Q rest (a.put o.dst (.slice A' (n + m) c')) w') : wpList Tryz.prog ops Q (o :: rest) a w := by
  subst hn hm
  obtain ⟨i0, hi, hz0, hz1, hz2⟩ := info_parts infoB
  have hlx : (rowsB xs).flatten.length = xs.length := by rw [flatten_length _ (rowsB_rwk xs).len, rowsB_length, Nat.mul_one]
  have hly : (rowsB ys).flatten.length = ys.length := by rw [flatten_length _ (rowsB_rwk ys).len, rowsB_length, Nat.mul_one]
  refine wpList_plain hgd fun K hK' => ?_
  have hrun := run_append_grow (P := Tryz.prog) (w := w) 42 o.type 5 i0 _ Tryz.underlying42 hi hz0 ⟨b0, o0, none⟩ xs.length xs.length (rowsB xs).flatten (by rw [hz1, hlx, Nat.mul_one]) (fun j u hj => by
    have h0 := hr0 j u hj
    by_cases h : j = 0
    · subst h; simpa [Addr.add] using h0
    · simpa [Addr.add, h] using h0) ad ys.length c (rowsB ys).flatten (by rw [hz1, hly, Nat.mul_one]) hr.news (by omega) (by omega) (growslice_fits (by omega) (by rw [hz2]; omega))
  have hS : Sv (w.drew.alloc (.cells ((rowsB xs).flatten.toArray ++ (rowsB ys).flatten.toArray ++ Builtin.zeroCells (Value.int .u8 0).cells (grownCap w (xs.length + ys.length) xs.length 5 - (xs.length + ys.length))) 5)) (w.drew.alloc (.cells ((rowsB xs).flatten.toArray ++ (rowsB ys).flatten.toArray ++ Builtin.zeroCells (Value.int .u8 0).cells (grownCap w (xs.length + ys.length) xs.length 5 - (xs.length + ys.length))) 5)).heap.size 1 (some ⟨w.heap.size, 0, none⟩) (grownCap w (xs.length + ys.length) xs.length 5) (rowsB (xs ++ ys)) := by
    refine ⟨by rw [rowsB_length, List.length_append]; exact grownCap_ge _ _ _ _, grownCap_le_maxLen _ _ _ _ (by unfold maxLen; omega), rowsB_rwk _, fun _ => ⟨w.heap.size, 0, rfl, by simp, fun j u hj => ?_⟩⟩
    rw [Nat.zero_add]
    rw [show (⟨w.heap.size, j, none⟩ : Addr) = ⟨w.drew.heap.size, j, none⟩ from rfl, World.cell?_alloc_mark]
    rw [rowsB_append, List.flatten_append] at hj
    rw [← Array.getElem?_toList]
    simp only [Array.toList_append]
    rw [List.getElem?_append_left (by rw [List.length_append]; have := (List.getElem?_eq_some_iff.1 hj).1; rwa [List.length_append] at this)]
    exact hj
  have hx1 : Ext w (w.drew.alloc (.cells ((rowsB xs).flatten.toArray ++ (rowsB ys).flatten.toArray ++ Builtin.zeroCells (Value.int .u8 0).cells (grownCap w (xs.length + ys.length) xs.length 5 - (xs.length + ys.length))) 5)) := (Ext.refl w).drew.alloc _
  have h9 := h _ _ _ hS hx1
  rw [show (rowsB xs).flatten.toArray ++ (rowsB ys).flatten.toArray = ((rowsB xs).flatten ++ (rowsB ys).flatten).toArray by simp] at h9
  unfold Oper.wp
  simp only [execOp, ho, resolve, invoke, builtin]
  simp [hs, hx, hrun, Result.andThen]
  exact hK' _ _ h9
theorem eqArr_run {P : Program} (d : Nat) (t e : TypeId) (n : Nat) (xs : List Value) (w : World) (hu : P.underlying t = some (.array n e)) (he : P.plainKey e = true) (hs : (P.info? e).map (·.size) = some 1) (hl : xs.length = n)
    (hk : ∀ v, v ∈ xs → (Op.equalIn d e v v).run P w = .ok true w) : (Op.equalIn (d + 1) t (.agg xs.toArray) (.agg xs.toArray)).run P w = .ok true w := by
  obtain ⟨inf, hinf, hsz⟩ := Option.map_eq_some_iff.1 hs
  have h1 : (sizeOf e).run P w = .ok 1 w := by simp [sizeOf, typeInfo, go_sem, hinf, hsz, Result.andThen]
  simp only [Op.equalIn, Sem.run_bind, run_underlying hu, Result.andThen_ok, h1]
  rw [Std.Legacy.Range.forIn_eq_forIn_range']
  have hmem : ∀ j, j ∈ List.range' 0 n → j < n := fun j hj => by simpa using hj
  simp only [Std.Legacy.Range.size, Nat.sub_zero, Nat.add_sub_cancel, Nat.div_one]
  generalize List.range' 0 n = js at hmem
  induction js with
  | nil => simp
  | cons j js ih =>
    have hj := hmem j (List.mem_cons_self ..)
    have hp := run_part_plain (P := P) (w := w) he (xs := xs.toArray) (off := j * 1) (v := xs[j]'(by omega)) (by simp [Nat.mul_one])
    have hv := hk (xs[j]'(by omega)) (List.getElem_mem _)
    simp only [List.forIn_cons, Sem.run_bind, hp, hv, Result.andThen_ok, Bool.not_true, Bool.false_eq_true, if_false, Sem.run_pure]
    have := ih (fun i hi => hmem i (List.mem_cons_of_mem _ hi))
    simpa only [Sem.run_bind] using this
theorem eqDg_run (l : List UInt8) (h : l.length = 16) (w : World) : (binOp .eql 45 (.agg (bvs l).toArray) (.agg (bvs l).toArray)).run Tryz.prog w = .ok (.bool true) w := by
  rw [run_eql_struct]
  have h1 := eqArr_run (P := Tryz.prog) 9999 45 5 16 (bvs l) w Tryz.underlying45 (by kernel_rfl) (by kernel_rfl) (by rw [bvs_len]; exact h) (fun v hv => by
    obtain ⟨x, _, rfl⟩ := List.mem_map.1 hv
    have h2 := run_equalIn_int (P := Tryz.prog) (w := w) 9998 5 .u8 .u8 (x.toNat : Int) (x.toNat : Int) Tryz.underlying5
    rw [beq_self_eq_true] at h2
    exact h2)
  have h3 : (Op.equalIn 10000 45 (.agg (bvs l).toArray) (.agg (bvs l).toArray)).run Tryz.prog w = .ok true w := h1
  rw [h3]
  rfl
structure EnvI (w : World) : Prop where
  A : AxesIn w
  R : RowsIn w
  N : NamesIn w
  H : KIn w 2
  K : KIn w 3
theorem EnvI.ext {w w' : World} (h : EnvI w) (hx : Ext w w') : EnvI w' := ⟨h.A.ext hx, h.R.ext hx, h.N.ext hx, h.H.ext hx, h.K.ext hx⟩
def bal18 : List UInt8 := [34, 6, 10, 2, 4, 4, 0, 0, 0, 0, 0, 0, 8, 8, 8, 0, 2, 6]
def und18 : List UInt8 := encE (undoEd 1 1)
theorem enc_bal : encE ballEd = bal18 := by decide +kernel
theorem dec_bal : decE bal18 = (ballEd, 0) := by decide +kernel
theorem dec_nil : decE [] = (zeroE, 5) := by decide +kernel
theorem dec_more : decE (bal18 ++ [0]) = (zeroE, 6) := by decide +kernel
theorem dec_und : decE und18 = (zeroE, 1) := by decide +kernel
theorem len_und : und18.length ≤ 100 := by decide +kernel
theorem fit_bal : FitE ballEd := by
  intro n hn
  have h : (numsE ballEd).all (fun n => decide (-9223372036854775808 ≤ n ∧ n ≤ 9223372036854775807)) = true := by decide +kernel
  have h1 := of_decide_eq_true (List.all_eq_true.1 h n hn)
  unfold fit64
  omega
theorem fit_und : FitE (undoEd 1 1) := by
  intro n hn
  have h : (numsE (undoEd 1 1)).all (fun n => decide (-9223372036854775808 ≤ n ∧ n ≤ 9223372036854775807)) = true := by decide +kernel
  have h1 := of_decide_eq_true (List.all_eq_true.1 h n hn)
  unfold fit64
  omega
theorem chk_1 : checkE ballEd 3 2 = 0 := by decide +kernel
theorem chk_2 : checkE ballEd 2 2 = 1 := by decide +kernel
theorem chk_3 : checkE ballEd 3 1 = 1 := by decide +kernel
theorem chk_4 : checkE ballEd 15 2 = 13 := by decide +kernel
theorem chk_5 : checkE (undoEd 1 0) 3 2 = 0 := by decide +kernel
theorem chk_6 : checkE (undoEd 2 0) 3 2 = 1 := by decide +kernel
theorem chk_7 : checkE (undoEd 1 1) 3 2 = 1 := by decide +kernel
theorem bnd_1 : interB (ballBx ballEd.at_ ballEd.size) (cubeD 3) = ⟨⟨3, 3, 3⟩, ⟨6, 6, 6⟩⟩ := by decide +kernel
theorem frm_1 : formedE ballEd = true := by decide +kernel
theorem frm_2 : formedE (undoEd 1 1) = false := by decide +kernel
theorem cmp_1 : cmpV (numsE ballEd) (numsE (undoEd 1 0)) = -1 := by decide +kernel
theorem knd_1 : kindN 5 = [102, 105, 108, 108] := by decide +kernel
theorem srt_1 {m : List Ed} (h : IsOrd [ballEd, ballEd] m) : m.length = 1 := by
  have h1 := nodup_le (m := [ballEd]) (h.srt.nodup ordE) (fun x hx => by
    have := (h.mem x).1 hx
    simp only [List.mem_cons, List.not_mem_nil, or_false, or_self] at this ⊢
    exact this)
  have h2 := List.length_pos_of_mem ((h.mem ballEd).2 (List.mem_cons_self ..))
  simp only [List.length_cons, List.length_nil] at h1
  omega
end Go.Proofs.YtlinhgannajfpaaGreatDoor

/- sanity. -/
namespace Go.Proofs.YtlinhgannajfpaaGreatDoor
open Go Go.RowKit

theorem rows_len17 (l : List Ed) : ∀ x, x ∈ rowsE l → x.length = 17 := fun x hx => (rowsE_rwk l).len x hx
theorem op_buildRows {P : Program} {o : Oper} {b : Act} {w1 : World} {K : Act → World → Prop} {Q : Exit → Act → World → Prop} (t e : TypeId) (n : Nat) (parts : Array (Nat × Operand)) (ho : o.op = .buildSlice t n parts)
    (k : Nat) (hk : 0 < k) (xs : List (List Value)) (hx : ∀ x, x ∈ xs → x.length = k) (hl : xs.length = n) (hn : 0 < n) (hnk : n * k ≤ 2 ^ 24)
    (hs : (parts.map fun (i, x) => (i, b.eval x)).toList = ((xs.map fun x => Value.agg x.toArray).zipIdx 0).map fun x => (x.2, x.1))
    (hu : P.underlying t = some (.slice e)) (hi : (P.info? e).map (·.size) = some k) (hz : ((P.info? e).bind (·.zero)).isSome = true)
    (h : K (b.put o.dst (.slice (some ⟨w1.heap.size, 0, none⟩) n n)) (w1.alloc (.cells xs.flatten.toArray e))) : o.wp P b w1 K Q := by
  cases hie : P.info? e with
  | none => simp [hie] at hi
  | some ie =>
    have hsz : ie.size = k := by simpa [hie] using hi
    obtain ⟨z, hzz⟩ := Option.isSome_iff_exists.1 (by simpa [hie] using hz : (ie.zero).isSome = true)
    have hpos := Nat.mul_pos hn hk
    refine wp_buildSlice t e n parts ho _ ie z hu hie hzz (by rw [hsz]; omega) (by rw [hsz]; omega) ?_ h
    rw [hs, hsz]
    have hf := Great.fill_whole (s := k) hk (xs.map fun x => Value.agg x.toArray) ((Array.range (n * k)).map (z.cells[· % z.cells.size]!)) (fun v hv => by
      obtain ⟨x, hm, rfl⟩ := List.mem_map.1 hv
      simpa [Value.cells] using hx x hm) (by simp [hl])
    rw [hf]
    congr 1
    rw [List.flatMap_def, List.map_map]
    congr 2
    simp [Function.comp_def, Value.cells]
theorem svB_18 (w : World) : Sv (w.alloc (.cells #[.int .u8 34, .int .u8 6, .int .u8 10, .int .u8 2, .int .u8 4, .int .u8 4, .int .u8 0, .int .u8 0, .int .u8 0, .int .u8 0, .int .u8 0, .int .u8 0, .int .u8 8, .int .u8 8, .int .u8 8, .int .u8 0, .int .u8 2, .int .u8 6] 5)) (w.alloc (.cells #[.int .u8 34, .int .u8 6, .int .u8 10, .int .u8 2, .int .u8 4, .int .u8 4, .int .u8 0, .int .u8 0, .int .u8 0, .int .u8 0, .int .u8 0, .int .u8 0, .int .u8 8, .int .u8 8, .int .u8 8, .int .u8 0, .int .u8 2, .int .u8 6] 5)).heap.size 1 (some ⟨w.heap.size, 0, none⟩) 18 (rowsB bal18) := by
  have h1 := Sv.lit w 5 1 (rowsB bal18) (rowsB_rwk _) (by rw [rowsB_length]; unfold maxLen; decide)
  exact h1
theorem svE_lit (w : World) (l : List Ed) (h : l.length ≤ 1000) : Sv (w.alloc (.cells (rowsE l).flatten.toArray 29)) (w.alloc (.cells (rowsE l).flatten.toArray 29)).heap.size 17 (some ⟨w.heap.size, 0, none⟩) l.length (rowsE l) := by
  have h1 := Sv.lit w 29 17 (rowsE l) (rowsE_rwk _) (by rw [rowsE_length]; unfold maxLen; omega)
  rwa [rowsE_length] at h1
theorem k_enc (W : World) : Calls Tryz.prog 25 #[.agg #[.int .i64 ballEd.st.tick, .int .i64 ballEd.st.clock, .int .i64 ballEd.st.site, .int .i64 ballEd.st.seq, .int .i64 ballEd.kind, .int .i64 ballEd.box.lo.x, .int .i64 ballEd.box.lo.y, .int .i64 ballEd.box.lo.z, .int .i64 ballEd.box.hi.x, .int .i64 ballEd.box.hi.y, .int .i64 ballEd.box.hi.z, .int .i64 ballEd.at_.x, .int .i64 ballEd.at_.y, .int .i64 ballEd.at_.z, .int .i64 ballEd.turn, .int .i64 ballEd.cell, .int .i64 ballEd.size]] W fun e w' => ∃ b c, e = .returned (.slice (some ⟨b, 0, none⟩) 18 c) ∧ 18 ≤ c ∧ Sv w' w'.heap.size 1 (some ⟨b, 0, none⟩) c (rowsB bal18) ∧ Ext W w' := by
  refine (EncEd_any ballEd fit_bal W).mono ?_
  rintro e w' ⟨A, c, rfl, ho, hx⟩
  rw [enc_bal] at ho
  have hs := own_sv_B ho rfl
  rcases ho.2 with ⟨h0, _⟩ | ⟨g, cap, cur, e1, _⟩
  · injection h0 with _ h0
    cases h0
  · injection e1 with e1
    subst e1
    exact ⟨g, c, by rw [enc_bal]; rfl, by have := hs.le; rw [rowsB_length] at this; exact this, hs, hx⟩
theorem k_renc (W : World) : Calls Tryz.prog 26 #[.agg #[.int .i64 (undoEd 1 1).st.tick, .int .i64 (undoEd 1 1).st.clock, .int .i64 (undoEd 1 1).st.site, .int .i64 (undoEd 1 1).st.seq, .int .i64 (undoEd 1 1).kind, .int .i64 (undoEd 1 1).box.lo.x, .int .i64 (undoEd 1 1).box.lo.y, .int .i64 (undoEd 1 1).box.lo.z, .int .i64 (undoEd 1 1).box.hi.x, .int .i64 (undoEd 1 1).box.hi.y, .int .i64 (undoEd 1 1).box.hi.z, .int .i64 (undoEd 1 1).at_.x, .int .i64 (undoEd 1 1).at_.y, .int .i64 (undoEd 1 1).at_.z, .int .i64 (undoEd 1 1).turn, .int .i64 (undoEd 1 1).cell, .int .i64 (undoEd 1 1).size]] W fun e w' => ∃ A c, e = .returned (.slice A und18.length c) ∧ Sv w' w'.heap.size 1 A c (rowsB und18) ∧ Ext W w' := by
  refine (refEnc_any (undoEd 1 1) fit_und W).mono ?_
  rintro e w' ⟨A, c, rfl, ho, hx⟩
  exact ⟨A, c, rfl, own_sv_B ho rfl, hx⟩
theorem k_dec (b : List UInt8) (n : Nat) (hn : b.length = n) (x : Ed) (r : Int) (hd : decE b = (x, r)) (hl : b.length ≤ 1000000) (A : Option Addr) (c : Nat) (W : World) (hs : Sv W W.heap.size 1 A c (rowsB b)) (hR : EnvI W) :
    Calls Tryz.prog 29 #[.slice A n c] W fun e w' => e = .returned (.tuple #[.agg #[.int .i64 x.st.tick, .int .i64 x.st.clock, .int .i64 x.st.site, .int .i64 x.st.seq, .int .i64 x.kind, .int .i64 x.box.lo.x, .int .i64 x.box.lo.y, .int .i64 x.box.lo.z, .int .i64 x.box.hi.x, .int .i64 x.box.hi.y, .int .i64 x.box.hi.z, .int .i64 x.at_.x, .int .i64 x.at_.y, .int .i64 x.at_.z, .int .i64 x.turn, .int .i64 x.cell, .int .i64 x.size], .int .i64 r]) ∧ Ext W w' := by
  subst hn
  have h := EdDecode_any b hl A c W hs hR.R
  rw [hd] at h
  exact h
theorem k_chk (x : Ed) (d m r : Int) (h : checkE x d m = r) (W : World) (hR : EnvI W) : Calls Tryz.prog 11 #[.agg #[.int .i64 x.st.tick, .int .i64 x.st.clock, .int .i64 x.st.site, .int .i64 x.st.seq, .int .i64 x.kind, .int .i64 x.box.lo.x, .int .i64 x.box.lo.y, .int .i64 x.box.lo.z, .int .i64 x.box.hi.x, .int .i64 x.box.hi.y, .int .i64 x.box.hi.z, .int .i64 x.at_.x, .int .i64 x.at_.y, .int .i64 x.at_.z, .int .i64 x.turn, .int .i64 x.cell, .int .i64 x.size], .int .i64 d, .int .i64 m] W fun e w' => e = .returned (.int .i64 r) ∧ Ext W w' := by
  rw [← h]; exact Check_any x d m W hR.R
theorem k_bnd (W : World) : Calls Tryz.prog 15 #[.agg #[.int .i64 ballEd.st.tick, .int .i64 ballEd.st.clock, .int .i64 ballEd.st.site, .int .i64 ballEd.st.seq, .int .i64 ballEd.kind, .int .i64 ballEd.box.lo.x, .int .i64 ballEd.box.lo.y, .int .i64 ballEd.box.lo.z, .int .i64 ballEd.box.hi.x, .int .i64 ballEd.box.hi.y, .int .i64 ballEd.box.hi.z, .int .i64 ballEd.at_.x, .int .i64 ballEd.at_.y, .int .i64 ballEd.at_.z, .int .i64 ballEd.turn, .int .i64 ballEd.cell, .int .i64 ballEd.size], .int .i64 3] W fun e w' => e = .returned (.agg #[.int .i64 3, .int .i64 3, .int .i64 3, .int .i64 6, .int .i64 6, .int .i64 6]) ∧ Ext W w' := by
  have h := Bounds_ball ballEd rfl 3 (by decide) W
  rw [bnd_1] at h
  exact h
theorem k_same (A A2 : Option Addr) (c c2 : Nat) (W : World) (hs : Sv W W.heap.size 1 A c (rowsB bal18)) (hs2 : Sv W W.heap.size 1 A2 c2 (rowsB bal18)) : Calls Tryz.prog 24 #[.slice A 18 c, .slice A2 18 c2] W fun e w' => e = .returned (.bool true) ∧ Ext W w' := by
  have h := refSameB_any bal18 bal18 A A2 c c2 W hs hs2
  rw [beq_self_eq_true] at h
  exact h
theorem k_frm (x : Ed) (r : Bool) (h : formedE x = r) (W : World) (hR : EnvI W) : Calls Tryz.prog 13 #[.agg #[.int .i64 x.st.tick, .int .i64 x.st.clock, .int .i64 x.st.site, .int .i64 x.st.seq, .int .i64 x.kind, .int .i64 x.box.lo.x, .int .i64 x.box.lo.y, .int .i64 x.box.lo.z, .int .i64 x.box.hi.x, .int .i64 x.box.hi.y, .int .i64 x.box.hi.z, .int .i64 x.at_.x, .int .i64 x.at_.y, .int .i64 x.at_.z, .int .i64 x.turn, .int .i64 x.cell, .int .i64 x.size]] W fun e w' => e = .returned (.bool r) ∧ Ext W w' := by
  rw [← h]; exact Formed_any x W hR.R
theorem k_name (W : World) (hR : EnvI W) : Calls Tryz.prog 17 #[.int .i64 5] W fun e w' => e = .returned (strV [102, 105, 108, 108]) ∧ Ext W w' := by
  have h := Name_any 5 W hR.N
  rw [knd_1] at h
  exact h
theorem k_cmp (W : World) : Calls Tryz.prog 19 #[.agg #[.int .i64 ballEd.st.tick, .int .i64 ballEd.st.clock, .int .i64 ballEd.st.site, .int .i64 ballEd.st.seq, .int .i64 ballEd.kind, .int .i64 ballEd.box.lo.x, .int .i64 ballEd.box.lo.y, .int .i64 ballEd.box.lo.z, .int .i64 ballEd.box.hi.x, .int .i64 ballEd.box.hi.y, .int .i64 ballEd.box.hi.z, .int .i64 ballEd.at_.x, .int .i64 ballEd.at_.y, .int .i64 ballEd.at_.z, .int .i64 ballEd.turn, .int .i64 ballEd.cell, .int .i64 ballEd.size], .agg #[.int .i64 (undoEd 1 0).st.tick, .int .i64 (undoEd 1 0).st.clock, .int .i64 (undoEd 1 0).st.site, .int .i64 (undoEd 1 0).st.seq, .int .i64 (undoEd 1 0).kind, .int .i64 (undoEd 1 0).box.lo.x, .int .i64 (undoEd 1 0).box.lo.y, .int .i64 (undoEd 1 0).box.lo.z, .int .i64 (undoEd 1 0).box.hi.x, .int .i64 (undoEd 1 0).box.hi.y, .int .i64 (undoEd 1 0).box.hi.z, .int .i64 (undoEd 1 0).at_.x, .int .i64 (undoEd 1 0).at_.y, .int .i64 (undoEd 1 0).at_.z, .int .i64 (undoEd 1 0).turn, .int .i64 (undoEd 1 0).cell, .int .i64 (undoEd 1 0).size]] W fun e w' => e = .returned (.int .i64 (-1)) ∧ Ext W w' := by
  have h := CompareEd_any ballEd (undoEd 1 0) W
  rw [cmp_1] at h
  exact h.mono fun e w' ⟨h1, h2⟩ => ⟨h1, h2.ext⟩
theorem k_sort (A : Option Addr) (c : Nat) (W : World) (hs : Sv W W.heap.size 17 A c (rowsE [ballEd, ballEd])) : Calls Tryz.prog 22 #[.slice A 2 c] W fun e w' => ∃ v, e = .returned v ∧ Ext W w' ∧ ∃ A7 c7, v = .slice A7 1 c7 := by
  refine (SortedEd_any A c [ballEd, ballEd] W hs (by decide)).mono ?_
  rintro e w' ⟨m, v, hm, rfl, ho, hx⟩
  obtain ⟨A', c', rfl, _⟩ := own_form ho
  exact ⟨_, rfl, hx, A', c', by rw [srt_1 hm]⟩
set_option maxRecDepth 100000 in
set_option maxHeartbeats 16000000 in
theorem sanity_any (w : World) (hR : EnvI w) :
    Calls Tryz.prog 10 #[] w fun e w' => e = .returned (.bool true) ∧ Ext w w' := by
  have hm := mixed
  have HR := Lib.hid hR
  clear hR
  go_enter Tryz.func10, Tryz.ntmps10
  have HXl := Lib.hid (Ext.refl w)
  go_upto_region 2 with (first
      | (go_at_call 42; refine (ball_any _).mono ?_; rintro e W1 ⟨rfl, xx⟩; have HXl := Lib.hid (HXl.out.trans xx); clear xx)
      | (refine wpList_store_blk2 29 (.tmp 1) (.tmp 13) rfl rfl (Arr.new W1 29 [.int .i64 0, .int .i64 0, .int .i64 0, .int .i64 0, .int .i64 0, .int .i64 0, .int .i64 0, .int .i64 0, .int .i64 0, .int .i64 0, .int .i64 0, .int .i64 0, .int .i64 0, .int .i64 0, .int .i64 0, .int .i64 0, .int .i64 0]) [.int .i64 ballEd.st.tick, .int .i64 ballEd.st.clock, .int .i64 ballEd.st.site, .int .i64 ballEd.st.seq, .int .i64 ballEd.kind, .int .i64 ballEd.box.lo.x, .int .i64 ballEd.box.lo.y, .int .i64 ballEd.box.lo.z, .int .i64 ballEd.box.hi.x, .int .i64 ballEd.box.hi.y, .int .i64 ballEd.box.hi.z, .int .i64 ballEd.at_.x, .int .i64 ballEd.at_.y, .int .i64 ballEd.at_.z, .int .i64 ballEd.turn, .int .i64 ballEd.cell, .int .i64 ballEd.size] rfl rfl (by kernel_rfl) rfl rfl rfl ?_; intro W2 hW; have HX2 := Lib.hid (show Ext w W2 by rw [hW]; exact (HXl.out.alloc _).setRow (g := W1.heap.size) HXl.out.size _); have HB1 := Lib.hid (show Arr W2 W1.heap.size 29 [.int .i64 ballEd.st.tick, .int .i64 ballEd.st.clock, .int .i64 ballEd.st.site, .int .i64 ballEd.st.seq, .int .i64 ballEd.kind, .int .i64 ballEd.box.lo.x, .int .i64 ballEd.box.lo.y, .int .i64 ballEd.box.lo.z, .int .i64 ballEd.box.hi.x, .int .i64 ballEd.box.hi.y, .int .i64 ballEd.box.hi.z, .int .i64 ballEd.at_.x, .int .i64 ballEd.at_.y, .int .i64 ballEd.at_.z, .int .i64 ballEd.turn, .int .i64 ballEd.cell, .int .i64 ballEd.size] by rw [hW]; exact (Arr.new W1 29 [.int .i64 0, .int .i64 0, .int .i64 0, .int .i64 0, .int .i64 0, .int .i64 0, .int .i64 0, .int .i64 0, .int .i64 0, .int .i64 0, .int .i64 0, .int .i64 0, .int .i64 0, .int .i64 0, .int .i64 0, .int .i64 0, .int .i64 0]).setRow [.int .i64 ballEd.st.tick, .int .i64 ballEd.st.clock, .int .i64 ballEd.st.site, .int .i64 ballEd.st.seq, .int .i64 ballEd.kind, .int .i64 ballEd.box.lo.x, .int .i64 ballEd.box.lo.y, .int .i64 ballEd.box.lo.z, .int .i64 ballEd.box.hi.x, .int .i64 ballEd.box.hi.y, .int .i64 ballEd.box.hi.z, .int .i64 ballEd.at_.x, .int .i64 ballEd.at_.y, .int .i64 ballEd.at_.z, .int .i64 ballEd.turn, .int .i64 ballEd.cell, .int .i64 ballEd.size]); clear hW HXl))
  obtain ⟨b1, hb1⟩ : ∃ b, b = W1.heap.size := ⟨_, rfl⟩
  rw [← hb1] at HB1
  rw [← hb1]
  clear hb1
  have HXl := Lib.hid HX2.out
  go_upto_region 3 with (first
      | (refine wpList_load_blk 29 (.tmp 1) rfl rfl HB1.out rfl _ Tryz.underlying29 rfl (by kernel_rfl) ?_) | (refine wpList_load_blk 29 (.tmp 1) rfl rfl (HB1.out.alloc _) rfl _ Tryz.underlying29 rfl (by kernel_rfl) ?_) | (refine wpList_load_blk 29 (.tmp 1) rfl rfl ((HB1.out.alloc _).alloc _) rfl _ Tryz.underlying29 rfl (by kernel_rfl) ?_)
      | (go_at_call 25; refine (k_enc _).mono ?_; rintro e W3 ⟨b2, c2, rfl, hc2, hs2, xx⟩; have HB1 := Lib.hid (HB1.out.ext xx); have HS2 := Lib.hid hs2; have HXl := Lib.hid (HXl.out.trans xx); clear xx hs2))
  go_upto_region 4 with (first
      | (go_at_call 29; refine (k_dec bal18 18 rfl ballEd 0 dec_bal (by decide +kernel) _ _ _ HS2.out (HR.out.ext HXl.out)).mono ?_; rintro e Wd ⟨rfl, xx⟩; have HXl := Lib.hid (HXl.out.trans xx); have HB1 := Lib.hid (HB1.out.ext xx); have HS2 := Lib.hid (HS2.out.ext xx); clear xx)
      | (refine wpList_store_blk2 29 (.tmp 3) (.tmp 19) rfl rfl (Arr.new Wd 29 [.int .i64 0, .int .i64 0, .int .i64 0, .int .i64 0, .int .i64 0, .int .i64 0, .int .i64 0, .int .i64 0, .int .i64 0, .int .i64 0, .int .i64 0, .int .i64 0, .int .i64 0, .int .i64 0, .int .i64 0, .int .i64 0, .int .i64 0]) [.int .i64 ballEd.st.tick, .int .i64 ballEd.st.clock, .int .i64 ballEd.st.site, .int .i64 ballEd.st.seq, .int .i64 ballEd.kind, .int .i64 ballEd.box.lo.x, .int .i64 ballEd.box.lo.y, .int .i64 ballEd.box.lo.z, .int .i64 ballEd.box.hi.x, .int .i64 ballEd.box.hi.y, .int .i64 ballEd.box.hi.z, .int .i64 ballEd.at_.x, .int .i64 ballEd.at_.y, .int .i64 ballEd.at_.z, .int .i64 ballEd.turn, .int .i64 ballEd.cell, .int .i64 ballEd.size] rfl rfl (by kernel_rfl) rfl rfl rfl ?_; intro W4 hW; have HX4 := Lib.hid (show Ext w W4 by rw [hW]; exact (HXl.out.alloc _).setRow (g := Wd.heap.size) HXl.out.size _); have HB1 := Lib.hid (show Arr W4 b1 29 [.int .i64 ballEd.st.tick, .int .i64 ballEd.st.clock, .int .i64 ballEd.st.site, .int .i64 ballEd.st.seq, .int .i64 ballEd.kind, .int .i64 ballEd.box.lo.x, .int .i64 ballEd.box.lo.y, .int .i64 ballEd.box.lo.z, .int .i64 ballEd.box.hi.x, .int .i64 ballEd.box.hi.y, .int .i64 ballEd.box.hi.z, .int .i64 ballEd.at_.x, .int .i64 ballEd.at_.y, .int .i64 ballEd.at_.z, .int .i64 ballEd.turn, .int .i64 ballEd.cell, .int .i64 ballEd.size] by rw [hW]; exact (HB1.out.alloc _).setRow_other (by have := HB1.out.lt; omega) _); have HS2 := Lib.hid (show Sv W4 W4.heap.size 1 (some ⟨b2, 0, none⟩) c2 (rowsB bal18) from HS2.out.ext (by rw [hW]; exact ((Ext.refl Wd).alloc _).setRow (g := Wd.heap.size) (Nat.le_refl _) _)); have HB3 := Lib.hid (show Arr W4 Wd.heap.size 29 [.int .i64 ballEd.st.tick, .int .i64 ballEd.st.clock, .int .i64 ballEd.st.site, .int .i64 ballEd.st.seq, .int .i64 ballEd.kind, .int .i64 ballEd.box.lo.x, .int .i64 ballEd.box.lo.y, .int .i64 ballEd.box.lo.z, .int .i64 ballEd.box.hi.x, .int .i64 ballEd.box.hi.y, .int .i64 ballEd.box.hi.z, .int .i64 ballEd.at_.x, .int .i64 ballEd.at_.y, .int .i64 ballEd.at_.z, .int .i64 ballEd.turn, .int .i64 ballEd.cell, .int .i64 ballEd.size] by rw [hW]; exact (Arr.new Wd 29 [.int .i64 0, .int .i64 0, .int .i64 0, .int .i64 0, .int .i64 0, .int .i64 0, .int .i64 0, .int .i64 0, .int .i64 0, .int .i64 0, .int .i64 0, .int .i64 0, .int .i64 0, .int .i64 0, .int .i64 0, .int .i64 0, .int .i64 0]).setRow [.int .i64 ballEd.st.tick, .int .i64 ballEd.st.clock, .int .i64 ballEd.st.site, .int .i64 ballEd.st.seq, .int .i64 ballEd.kind, .int .i64 ballEd.box.lo.x, .int .i64 ballEd.box.lo.y, .int .i64 ballEd.box.lo.z, .int .i64 ballEd.box.hi.x, .int .i64 ballEd.box.hi.y, .int .i64 ballEd.box.hi.z, .int .i64 ballEd.at_.x, .int .i64 ballEd.at_.y, .int .i64 ballEd.at_.z, .int .i64 ballEd.turn, .int .i64 ballEd.cell, .int .i64 ballEd.size]); clear hW HXl))
  obtain ⟨b3, hb3⟩ : ∃ b, b = Wd.heap.size := ⟨_, rfl⟩
  rw [← hb3] at HB3
  rw [← hb3]
  clear hb3
  have HXl := Lib.hid HX4.out
  go_upto_region 5 with (first
      | (go_at_call 29; refine (k_dec [] 0 rfl zeroE 5 dec_nil (by decide +kernel) _ _ _ (Sv.nil _ _ _) (HR.out.ext HXl.out)).mono ?_; rintro e Wd ⟨rfl, xx⟩; have HXl := Lib.hid (HXl.out.trans xx); have HB1 := Lib.hid (HB1.out.ext xx); have HS2 := Lib.hid (HS2.out.ext xx); have HB3 := Lib.hid (HB3.out.ext xx); clear xx)
      | (refine wpList_store_blk2 29 (.tmp 5) (.tmp 23) rfl rfl (Arr.new Wd 29 [.int .i64 0, .int .i64 0, .int .i64 0, .int .i64 0, .int .i64 0, .int .i64 0, .int .i64 0, .int .i64 0, .int .i64 0, .int .i64 0, .int .i64 0, .int .i64 0, .int .i64 0, .int .i64 0, .int .i64 0, .int .i64 0, .int .i64 0]) [.int .i64 zeroE.st.tick, .int .i64 zeroE.st.clock, .int .i64 zeroE.st.site, .int .i64 zeroE.st.seq, .int .i64 zeroE.kind, .int .i64 zeroE.box.lo.x, .int .i64 zeroE.box.lo.y, .int .i64 zeroE.box.lo.z, .int .i64 zeroE.box.hi.x, .int .i64 zeroE.box.hi.y, .int .i64 zeroE.box.hi.z, .int .i64 zeroE.at_.x, .int .i64 zeroE.at_.y, .int .i64 zeroE.at_.z, .int .i64 zeroE.turn, .int .i64 zeroE.cell, .int .i64 zeroE.size] rfl rfl (by kernel_rfl) rfl rfl rfl ?_; intro W5 hW; have HX5 := Lib.hid (show Ext w W5 by rw [hW]; exact (HXl.out.alloc _).setRow (g := Wd.heap.size) HXl.out.size _); have HB1 := Lib.hid (show Arr W5 b1 29 [.int .i64 ballEd.st.tick, .int .i64 ballEd.st.clock, .int .i64 ballEd.st.site, .int .i64 ballEd.st.seq, .int .i64 ballEd.kind, .int .i64 ballEd.box.lo.x, .int .i64 ballEd.box.lo.y, .int .i64 ballEd.box.lo.z, .int .i64 ballEd.box.hi.x, .int .i64 ballEd.box.hi.y, .int .i64 ballEd.box.hi.z, .int .i64 ballEd.at_.x, .int .i64 ballEd.at_.y, .int .i64 ballEd.at_.z, .int .i64 ballEd.turn, .int .i64 ballEd.cell, .int .i64 ballEd.size] by rw [hW]; exact (HB1.out.alloc _).setRow_other (by have := HB1.out.lt; omega) _); have HS2 := Lib.hid (show Sv W5 W5.heap.size 1 (some ⟨b2, 0, none⟩) c2 (rowsB bal18) from HS2.out.ext (by rw [hW]; exact ((Ext.refl Wd).alloc _).setRow (g := Wd.heap.size) (Nat.le_refl _) _)); have HB3 := Lib.hid (show Arr W5 b3 29 [.int .i64 ballEd.st.tick, .int .i64 ballEd.st.clock, .int .i64 ballEd.st.site, .int .i64 ballEd.st.seq, .int .i64 ballEd.kind, .int .i64 ballEd.box.lo.x, .int .i64 ballEd.box.lo.y, .int .i64 ballEd.box.lo.z, .int .i64 ballEd.box.hi.x, .int .i64 ballEd.box.hi.y, .int .i64 ballEd.box.hi.z, .int .i64 ballEd.at_.x, .int .i64 ballEd.at_.y, .int .i64 ballEd.at_.z, .int .i64 ballEd.turn, .int .i64 ballEd.cell, .int .i64 ballEd.size] by rw [hW]; exact (HB3.out.alloc _).setRow_other (by have := HB3.out.lt; omega) _); clear hW HXl))
  obtain ⟨bz4, hbz⟩ : ∃ b, b = Wd.heap.size := ⟨_, rfl⟩
  rw [← hbz]
  clear hbz
  have HXl := Lib.hid HX5.out
  go_upto_region 6 with (first
      | (at_builtin; refine wpList_append_full_B rfl (.tmp 31) (.tmp 32) rfl b2 0 18 bal18 rfl rfl (by obtain ⟨b', o', e', _, h'⟩ := (HS2.out.ext ((Ext.refl W5).alloc (.cells #[.int .u8 0] 5))).mem (by decide); injection e' with e'; injection e' with e1 e2; subst e1 e2; exact h') ⟨W5.heap.size, 0, none⟩ 1 1 [0] rfl rfl (svB_one W5 0) (by decide) (by decide) ?_; intro A5 c5 Wa hs5 xx; have HS5 := Lib.hid hs5; have HXl := Lib.hid ((HXl.out.alloc _).trans xx); have HB1 := Lib.hid ((HB1.out.alloc _).ext xx); have HB3 := Lib.hid ((HB3.out.alloc _).ext xx); have HS2 := Lib.hid ((HS2.out.ext ((Ext.refl W5).alloc _)).ext xx); clear hs5 xx)
      | (go_at_call 29; refine (k_dec (bal18 ++ [0]) 19 rfl zeroE 6 dec_more (by decide +kernel) _ _ _ HS5.out (HR.out.ext HXl.out)).mono ?_; rintro e Wd ⟨rfl, xx⟩; have HXl := Lib.hid (HXl.out.trans xx); have HB1 := Lib.hid (HB1.out.ext xx); have HS2 := Lib.hid (HS2.out.ext xx); have HB3 := Lib.hid (HB3.out.ext xx); clear xx)
      | (refine wpList_store_blk2 29 (.tmp 7) (.tmp 35) rfl rfl (Arr.new Wd 29 [.int .i64 0, .int .i64 0, .int .i64 0, .int .i64 0, .int .i64 0, .int .i64 0, .int .i64 0, .int .i64 0, .int .i64 0, .int .i64 0, .int .i64 0, .int .i64 0, .int .i64 0, .int .i64 0, .int .i64 0, .int .i64 0, .int .i64 0]) [.int .i64 zeroE.st.tick, .int .i64 zeroE.st.clock, .int .i64 zeroE.st.site, .int .i64 zeroE.st.seq, .int .i64 zeroE.kind, .int .i64 zeroE.box.lo.x, .int .i64 zeroE.box.lo.y, .int .i64 zeroE.box.lo.z, .int .i64 zeroE.box.hi.x, .int .i64 zeroE.box.hi.y, .int .i64 zeroE.box.hi.z, .int .i64 zeroE.at_.x, .int .i64 zeroE.at_.y, .int .i64 zeroE.at_.z, .int .i64 zeroE.turn, .int .i64 zeroE.cell, .int .i64 zeroE.size] rfl rfl (by kernel_rfl) rfl rfl rfl ?_; intro W6 hW; have HX6 := Lib.hid (show Ext w W6 by rw [hW]; exact (HXl.out.alloc _).setRow (g := Wd.heap.size) HXl.out.size _); have HB1 := Lib.hid (show Arr W6 b1 29 [.int .i64 ballEd.st.tick, .int .i64 ballEd.st.clock, .int .i64 ballEd.st.site, .int .i64 ballEd.st.seq, .int .i64 ballEd.kind, .int .i64 ballEd.box.lo.x, .int .i64 ballEd.box.lo.y, .int .i64 ballEd.box.lo.z, .int .i64 ballEd.box.hi.x, .int .i64 ballEd.box.hi.y, .int .i64 ballEd.box.hi.z, .int .i64 ballEd.at_.x, .int .i64 ballEd.at_.y, .int .i64 ballEd.at_.z, .int .i64 ballEd.turn, .int .i64 ballEd.cell, .int .i64 ballEd.size] by rw [hW]; exact (HB1.out.alloc _).setRow_other (by have := HB1.out.lt; omega) _); have HS2 := Lib.hid (show Sv W6 W6.heap.size 1 (some ⟨b2, 0, none⟩) c2 (rowsB bal18) from HS2.out.ext (by rw [hW]; exact ((Ext.refl Wd).alloc _).setRow (g := Wd.heap.size) (Nat.le_refl _) _)); have HB3 := Lib.hid (show Arr W6 b3 29 [.int .i64 ballEd.st.tick, .int .i64 ballEd.st.clock, .int .i64 ballEd.st.site, .int .i64 ballEd.st.seq, .int .i64 ballEd.kind, .int .i64 ballEd.box.lo.x, .int .i64 ballEd.box.lo.y, .int .i64 ballEd.box.lo.z, .int .i64 ballEd.box.hi.x, .int .i64 ballEd.box.hi.y, .int .i64 ballEd.box.hi.z, .int .i64 ballEd.at_.x, .int .i64 ballEd.at_.y, .int .i64 ballEd.at_.z, .int .i64 ballEd.turn, .int .i64 ballEd.cell, .int .i64 ballEd.size] by rw [hW]; exact (HB3.out.alloc _).setRow_other (by have := HB3.out.lt; omega) _); clear hW HXl))
  obtain ⟨bz5, hbz⟩ : ∃ b, b = Wd.heap.size := ⟨_, rfl⟩
  rw [← hbz]
  clear hbz
  have HXl := Lib.hid HX6.out
  go_upto_region 7 with (first
      | (go_at_call 43; refine (undo_any _ _ _).mono ?_; rintro e Wu ⟨rfl, xx⟩; have HB1 := Lib.hid (HB1.out.ext xx); have HB3 := Lib.hid (HB3.out.ext xx); have HS2 := Lib.hid (HS2.out.ext xx); have HXl := Lib.hid (HXl.out.trans xx); clear xx)
      | (go_at_call 26; refine (k_renc _).mono ?_; rintro e We ⟨A6, c6, rfl, hs6, xx⟩; have HB1 := Lib.hid (HB1.out.ext xx); have HB3 := Lib.hid (HB3.out.ext xx); have HS2 := Lib.hid (HS2.out.ext xx); have HXl := Lib.hid (HXl.out.trans xx); have HS6 := Lib.hid hs6; clear xx hs6)
      | (go_at_call 29; refine (k_dec und18 und18.length rfl zeroE 1 dec_und (by decide +kernel) _ _ _ HS6.out (HR.out.ext HXl.out)).mono ?_; rintro e Wd ⟨rfl, xx⟩; have HXl := Lib.hid (HXl.out.trans xx); have HB1 := Lib.hid (HB1.out.ext xx); have HS2 := Lib.hid (HS2.out.ext xx); have HB3 := Lib.hid (HB3.out.ext xx); clear xx)
      | (refine wpList_store_blk2 29 (.tmp 9) (.tmp 41) rfl rfl (Arr.new Wd 29 [.int .i64 0, .int .i64 0, .int .i64 0, .int .i64 0, .int .i64 0, .int .i64 0, .int .i64 0, .int .i64 0, .int .i64 0, .int .i64 0, .int .i64 0, .int .i64 0, .int .i64 0, .int .i64 0, .int .i64 0, .int .i64 0, .int .i64 0]) [.int .i64 zeroE.st.tick, .int .i64 zeroE.st.clock, .int .i64 zeroE.st.site, .int .i64 zeroE.st.seq, .int .i64 zeroE.kind, .int .i64 zeroE.box.lo.x, .int .i64 zeroE.box.lo.y, .int .i64 zeroE.box.lo.z, .int .i64 zeroE.box.hi.x, .int .i64 zeroE.box.hi.y, .int .i64 zeroE.box.hi.z, .int .i64 zeroE.at_.x, .int .i64 zeroE.at_.y, .int .i64 zeroE.at_.z, .int .i64 zeroE.turn, .int .i64 zeroE.cell, .int .i64 zeroE.size] rfl rfl (by kernel_rfl) rfl rfl rfl ?_; intro W7 hW; have HX7 := Lib.hid (show Ext w W7 by rw [hW]; exact (HXl.out.alloc _).setRow (g := Wd.heap.size) HXl.out.size _); have HB1 := Lib.hid (show Arr W7 b1 29 [.int .i64 ballEd.st.tick, .int .i64 ballEd.st.clock, .int .i64 ballEd.st.site, .int .i64 ballEd.st.seq, .int .i64 ballEd.kind, .int .i64 ballEd.box.lo.x, .int .i64 ballEd.box.lo.y, .int .i64 ballEd.box.lo.z, .int .i64 ballEd.box.hi.x, .int .i64 ballEd.box.hi.y, .int .i64 ballEd.box.hi.z, .int .i64 ballEd.at_.x, .int .i64 ballEd.at_.y, .int .i64 ballEd.at_.z, .int .i64 ballEd.turn, .int .i64 ballEd.cell, .int .i64 ballEd.size] by rw [hW]; exact (HB1.out.alloc _).setRow_other (by have := HB1.out.lt; omega) _); have HS2 := Lib.hid (show Sv W7 W7.heap.size 1 (some ⟨b2, 0, none⟩) c2 (rowsB bal18) from HS2.out.ext (by rw [hW]; exact ((Ext.refl Wd).alloc _).setRow (g := Wd.heap.size) (Nat.le_refl _) _)); have HB3 := Lib.hid (show Arr W7 b3 29 [.int .i64 ballEd.st.tick, .int .i64 ballEd.st.clock, .int .i64 ballEd.st.site, .int .i64 ballEd.st.seq, .int .i64 ballEd.kind, .int .i64 ballEd.box.lo.x, .int .i64 ballEd.box.lo.y, .int .i64 ballEd.box.lo.z, .int .i64 ballEd.box.hi.x, .int .i64 ballEd.box.hi.y, .int .i64 ballEd.box.hi.z, .int .i64 ballEd.at_.x, .int .i64 ballEd.at_.y, .int .i64 ballEd.at_.z, .int .i64 ballEd.turn, .int .i64 ballEd.cell, .int .i64 ballEd.size] by rw [hW]; exact (HB3.out.alloc _).setRow_other (by have := HB3.out.lt; omega) _); clear hW HXl))
  obtain ⟨bz6, hbz⟩ : ∃ b, b = Wd.heap.size := ⟨_, rfl⟩
  rw [← hbz]
  clear hbz
  have HXl := Lib.hid HX7.out
  have KC1 := Lib.hid (fun (W : World) (hx : Ext w W) => k_chk ballEd 3 2 0 chk_1 W (HR.out.ext hx))
  have KC2 := Lib.hid (fun (W : World) (hx : Ext w W) => k_chk ballEd 2 2 1 chk_2 W (HR.out.ext hx))
  have KC3 := Lib.hid (fun (W : World) (hx : Ext w W) => k_chk ballEd 3 1 1 chk_3 W (HR.out.ext hx))
  have KC4 := Lib.hid (fun (W : World) (hx : Ext w W) => k_chk ballEd 15 2 13 chk_4 W (HR.out.ext hx))
  have KC5 := Lib.hid (fun (W : World) (hx : Ext w W) => k_chk (undoEd 1 0) 3 2 0 chk_5 W (HR.out.ext hx))
  have KC6 := Lib.hid (fun (W : World) (hx : Ext w W) => k_chk (undoEd 2 0) 3 2 1 chk_6 W (HR.out.ext hx))
  have KC7 := Lib.hid (fun (W : World) (hx : Ext w W) => k_chk (undoEd 1 1) 3 2 1 chk_7 W (HR.out.ext hx))
  have HXm := Lib.hid (Ext.refl W7)
  go_upto_region 8 with (first
      | (refine wpList_load_blk 29 (.tmp 1) rfl rfl HB1.out rfl _ Tryz.underlying29 rfl (by kernel_rfl) ?_) | (refine wpList_load_blk 29 (.tmp 1) rfl rfl (HB1.out.alloc _) rfl _ Tryz.underlying29 rfl (by kernel_rfl) ?_) | (refine wpList_load_blk 29 (.tmp 1) rfl rfl ((HB1.out.alloc _).alloc _) rfl _ Tryz.underlying29 rfl (by kernel_rfl) ?_)
      | (go_at_call 43; refine (undo_any _ _ _).mono ?_; rintro e Wu ⟨rfl, xx⟩; have HB1 := Lib.hid (HB1.out.ext xx); have HXl := Lib.hid (HXl.out.trans xx); have HXm := Lib.hid (HXm.out.trans xx); clear xx)
      | (go_at_call 11; first | ((with_reducible refine (KC1.out _ HXl.out).mono ?_); rintro e W8 ⟨rfl, xx⟩; have HB1 := Lib.hid (HB1.out.ext xx); have HXl := Lib.hid (HXl.out.trans xx); have HXm := Lib.hid (HXm.out.trans xx); clear xx) | ((with_reducible refine (KC2.out _ HXl.out).mono ?_); rintro e W8 ⟨rfl, xx⟩; have HB1 := Lib.hid (HB1.out.ext xx); have HXl := Lib.hid (HXl.out.trans xx); have HXm := Lib.hid (HXm.out.trans xx); clear xx) | ((with_reducible refine (KC3.out _ HXl.out).mono ?_); rintro e W8 ⟨rfl, xx⟩; have HB1 := Lib.hid (HB1.out.ext xx); have HXl := Lib.hid (HXl.out.trans xx); have HXm := Lib.hid (HXm.out.trans xx); clear xx) | ((with_reducible refine (KC4.out _ HXl.out).mono ?_); rintro e W8 ⟨rfl, xx⟩; have HB1 := Lib.hid (HB1.out.ext xx); have HXl := Lib.hid (HXl.out.trans xx); have HXm := Lib.hid (HXm.out.trans xx); clear xx) | ((with_reducible refine (KC5.out _ HXl.out).mono ?_); rintro e W8 ⟨rfl, xx⟩; have HB1 := Lib.hid (HB1.out.ext xx); have HXl := Lib.hid (HXl.out.trans xx); have HXm := Lib.hid (HXm.out.trans xx); clear xx) | ((with_reducible refine (KC6.out _ HXl.out).mono ?_); rintro e W8 ⟨rfl, xx⟩; have HB1 := Lib.hid (HB1.out.ext xx); have HXl := Lib.hid (HXl.out.trans xx); have HXm := Lib.hid (HXm.out.trans xx); clear xx) | ((with_reducible refine (KC7.out _ HXl.out).mono ?_); rintro e W8 ⟨rfl, xx⟩; have HB1 := Lib.hid (HB1.out.ext xx); have HXl := Lib.hid (HXl.out.trans xx); have HXm := Lib.hid (HXm.out.trans xx); clear xx)))
  have HB3 := Lib.hid (HB3.out.ext HXm.out)
  have HS2 := Lib.hid (HS2.out.ext HXm.out)
  clear HXm KC1 KC2 KC3 KC4 KC5 KC6 KC7
  have hq := eqEd_run ballEd ballEd
  simp only [decide_true] at hq
  have hq : ∀ W : World, (binOp .eql 29 (.agg #[.int .i64 ballEd.st.tick, .int .i64 ballEd.st.clock, .int .i64 ballEd.st.site, .int .i64 ballEd.st.seq, .int .i64 ballEd.kind, .int .i64 ballEd.box.lo.x, .int .i64 ballEd.box.lo.y, .int .i64 ballEd.box.lo.z, .int .i64 ballEd.box.hi.x, .int .i64 ballEd.box.hi.y, .int .i64 ballEd.box.hi.z, .int .i64 ballEd.at_.x, .int .i64 ballEd.at_.y, .int .i64 ballEd.at_.z, .int .i64 ballEd.turn, .int .i64 ballEd.cell, .int .i64 ballEd.size]) (.agg #[.int .i64 ballEd.st.tick, .int .i64 ballEd.st.clock, .int .i64 ballEd.st.site, .int .i64 ballEd.st.seq, .int .i64 ballEd.kind, .int .i64 ballEd.box.lo.x, .int .i64 ballEd.box.lo.y, .int .i64 ballEd.box.lo.z, .int .i64 ballEd.box.hi.x, .int .i64 ballEd.box.hi.y, .int .i64 ballEd.box.hi.z, .int .i64 ballEd.at_.x, .int .i64 ballEd.at_.y, .int .i64 ballEd.at_.z, .int .i64 ballEd.turn, .int .i64 ballEd.cell, .int .i64 ballEd.size])).run Tryz.prog W = .ok (.bool true) W := hq
  go_upto_region 9 with (first
      | (refine wpList_load_blk 29 (.tmp 1) rfl rfl HB1.out rfl _ Tryz.underlying29 rfl (by kernel_rfl) ?_) | (refine wpList_load_blk 29 (.tmp 1) rfl rfl (HB1.out.alloc _) rfl _ Tryz.underlying29 rfl (by kernel_rfl) ?_) | (refine wpList_load_blk 29 (.tmp 1) rfl rfl ((HB1.out.alloc _).alloc _) rfl _ Tryz.underlying29 rfl (by kernel_rfl) ?_)
      | (refine wpList_load_blk 29 (.tmp 3) rfl rfl HB3.out rfl _ Tryz.underlying29 rfl (by kernel_rfl) ?_) | (refine wpList_load_blk 29 (.tmp 3) rfl rfl (HB3.out.alloc _) rfl _ Tryz.underlying29 rfl (by kernel_rfl) ?_) | (refine wpList_load_blk 29 (.tmp 3) rfl rfl ((HB3.out.alloc _).alloc _) rfl _ Tryz.underlying29 rfl (by kernel_rfl) ?_)
      | (refine wpList_load_blk 29 (.tmp 1) rfl rfl (HB1.out.alloc _) rfl _ Tryz.underlying29 rfl (by kernel_rfl) ?_) | (refine wpList_load_blk 29 (.tmp 1) rfl rfl ((HB1.out.alloc _).alloc _) rfl _ Tryz.underlying29 rfl (by kernel_rfl) ?_) | (refine wpList_load_blk 29 (.tmp 1) rfl rfl (((HB1.out.alloc _).alloc _).alloc _) rfl _ Tryz.underlying29 rfl (by kernel_rfl) ?_)
      | (go_at_call 15; refine (k_bnd _).mono ?_; rintro e Wb ⟨rfl, xx⟩; have HB1 := Lib.hid (HB1.out.ext xx); have HB3 := Lib.hid (HB3.out.ext xx); have HS2 := Lib.hid (HS2.out.ext xx); have HXl := Lib.hid (HXl.out.trans xx); clear xx)
      | (go_at_call 24; refine (k_same _ _ _ _ _ (HS2.out.ext ((Ext.refl _).alloc _)) (svB_18 Wb)).mono ?_; rintro e W9 ⟨rfl, xx⟩; have HB1 := Lib.hid ((HB1.out.alloc _).ext xx); have HB3 := Lib.hid ((HB3.out.alloc _).ext xx); have HS2 := Lib.hid ((HS2.out.ext ((Ext.refl _).alloc _)).ext xx); have HXl := Lib.hid ((HXl.out.alloc _).trans xx); clear xx))
  clear hq
  have hdg := eqDg_run (digE ballEd) (by decide +kernel)
  refine wp_region_rel (fun i v w' => match i with
      | 0 => v = .bool true
      | 1 => v = .bool true
      | 2 => v = .bool true
      | 3 => v = .bool true
      | 4 => v = .bool true
      | 5 => v = .agg #[.int .i64 ballEd.st.tick, .int .i64 ballEd.st.clock, .int .i64 ballEd.st.site, .int .i64 ballEd.st.seq, .int .i64 ballEd.kind, .int .i64 ballEd.box.lo.x, .int .i64 ballEd.box.lo.y, .int .i64 ballEd.box.lo.z, .int .i64 ballEd.box.hi.x, .int .i64 ballEd.box.hi.y, .int .i64 ballEd.box.hi.z, .int .i64 ballEd.at_.x, .int .i64 ballEd.at_.y, .int .i64 ballEd.at_.z, .int .i64 ballEd.turn, .int .i64 ballEd.cell, .int .i64 ballEd.size]
      | 6 => v = .bool true
      | 7 => v = .bool true
      | 8 => v = .bool true
      | 9 => v = .agg #[.int .i64 (undoEd 1 1).st.tick, .int .i64 (undoEd 1 1).st.clock, .int .i64 (undoEd 1 1).st.site, .int .i64 (undoEd 1 1).st.seq, .int .i64 (undoEd 1 1).kind, .int .i64 (undoEd 1 1).box.lo.x, .int .i64 (undoEd 1 1).box.lo.y, .int .i64 (undoEd 1 1).box.lo.z, .int .i64 (undoEd 1 1).box.hi.x, .int .i64 (undoEd 1 1).box.hi.y, .int .i64 (undoEd 1 1).box.hi.z, .int .i64 (undoEd 1 1).at_.x, .int .i64 (undoEd 1 1).at_.y, .int .i64 (undoEd 1 1).at_.z, .int .i64 (undoEd 1 1).turn, .int .i64 (undoEd 1 1).cell, .int .i64 (undoEd 1 1).size]
      | 10 => v = .bool false
      | 11 => v = .bool true
      | 12 => v = .bool true
      | 13 => v = .bool true
      | 14 => v = strV [102, 105, 108, 108]
      | 15 => v = .bool true
      | 16 => v = .bool true
      | 17 => v = .bool true
      | 18 => v = .agg #[.int .i64 ballEd.st.tick, .int .i64 ballEd.st.clock, .int .i64 ballEd.st.site, .int .i64 ballEd.st.seq, .int .i64 ballEd.kind, .int .i64 ballEd.box.lo.x, .int .i64 ballEd.box.lo.y, .int .i64 ballEd.box.lo.z, .int .i64 ballEd.box.hi.x, .int .i64 ballEd.box.hi.y, .int .i64 ballEd.box.hi.z, .int .i64 ballEd.at_.x, .int .i64 ballEd.at_.y, .int .i64 ballEd.at_.z, .int .i64 ballEd.turn, .int .i64 ballEd.cell, .int .i64 ballEd.size]
      | 19 => v = .agg #[.int .i64 (undoEd 1 0).st.tick, .int .i64 (undoEd 1 0).st.clock, .int .i64 (undoEd 1 0).st.site, .int .i64 (undoEd 1 0).st.seq, .int .i64 (undoEd 1 0).kind, .int .i64 (undoEd 1 0).box.lo.x, .int .i64 (undoEd 1 0).box.lo.y, .int .i64 (undoEd 1 0).box.lo.z, .int .i64 (undoEd 1 0).box.hi.x, .int .i64 (undoEd 1 0).box.hi.y, .int .i64 (undoEd 1 0).box.hi.z, .int .i64 (undoEd 1 0).at_.x, .int .i64 (undoEd 1 0).at_.y, .int .i64 (undoEd 1 0).at_.z, .int .i64 (undoEd 1 0).turn, .int .i64 (undoEd 1 0).cell, .int .i64 (undoEd 1 0).size]
      | 20 => v = .int .i64 (-1)
      | 21 => v = .bool true
      | 22 => v = .bool true
      | 23 => v = .bool true
      | 24 => v = .agg #[.int .i64 ballEd.st.tick, .int .i64 ballEd.st.clock, .int .i64 ballEd.st.site, .int .i64 ballEd.st.seq, .int .i64 ballEd.kind, .int .i64 ballEd.box.lo.x, .int .i64 ballEd.box.lo.y, .int .i64 ballEd.box.lo.z, .int .i64 ballEd.box.hi.x, .int .i64 ballEd.box.hi.y, .int .i64 ballEd.box.hi.z, .int .i64 ballEd.at_.x, .int .i64 ballEd.at_.y, .int .i64 ballEd.at_.z, .int .i64 ballEd.turn, .int .i64 ballEd.cell, .int .i64 ballEd.size]
      | 25 => v = .agg (bvs (digE ballEd)).toArray
      | 26 => v = .agg #[.int .i64 ballEd.st.tick, .int .i64 ballEd.st.clock, .int .i64 ballEd.st.site, .int .i64 ballEd.st.seq, .int .i64 ballEd.kind, .int .i64 ballEd.box.lo.x, .int .i64 ballEd.box.lo.y, .int .i64 ballEd.box.lo.z, .int .i64 ballEd.box.hi.x, .int .i64 ballEd.box.hi.y, .int .i64 ballEd.box.hi.z, .int .i64 ballEd.at_.x, .int .i64 ballEd.at_.y, .int .i64 ballEd.at_.z, .int .i64 ballEd.turn, .int .i64 ballEd.cell, .int .i64 ballEd.size]
      | 27 => v = .agg (bvs (digE ballEd)).toArray
      | 28 => v = .bool true
      | 29 => v = .bool true
      | 30 => v = .bool true
      | 31 => v = .agg #[.int .i64 ballEd.st.tick, .int .i64 ballEd.st.clock, .int .i64 ballEd.st.site, .int .i64 ballEd.st.seq, .int .i64 ballEd.kind, .int .i64 ballEd.box.lo.x, .int .i64 ballEd.box.lo.y, .int .i64 ballEd.box.lo.z, .int .i64 ballEd.box.hi.x, .int .i64 ballEd.box.hi.y, .int .i64 ballEd.box.hi.z, .int .i64 ballEd.at_.x, .int .i64 ballEd.at_.y, .int .i64 ballEd.at_.z, .int .i64 ballEd.turn, .int .i64 ballEd.cell, .int .i64 ballEd.size]
      | 32 => v = .agg #[.int .i64 ballEd.st.tick, .int .i64 ballEd.st.clock, .int .i64 ballEd.st.site, .int .i64 ballEd.st.seq, .int .i64 ballEd.kind, .int .i64 ballEd.box.lo.x, .int .i64 ballEd.box.lo.y, .int .i64 ballEd.box.lo.z, .int .i64 ballEd.box.hi.x, .int .i64 ballEd.box.hi.y, .int .i64 ballEd.box.hi.z, .int .i64 ballEd.at_.x, .int .i64 ballEd.at_.y, .int .i64 ballEd.at_.z, .int .i64 ballEd.turn, .int .i64 ballEd.cell, .int .i64 ballEd.size]
      | 33 => ∃ bL, v = .slice (some ⟨bL, 0, none⟩) 2 2 ∧ Sv w' w'.heap.size 17 (some ⟨bL, 0, none⟩) 2 (rowsE [ballEd, ballEd])
      | 34 => ∃ A7 c7, v = .slice A7 1 c7
      | 35 => v = .int .i64 1
      | 36 => v = .bool true
      | 37 => v = .bool true
      | 38 => v = .bool true
      | _ => True) hm (by kernel_rfl) (by kernel_rfl) rfl ?_ ?_ ?_
  · intro i v w1 w2 hx h
    match i, h with
    | 0, h => exact h
    | 1, h => exact h
    | 2, h => exact h
    | 3, h => exact h
    | 4, h => exact h
    | 5, h => exact h
    | 6, h => exact h
    | 7, h => exact h
    | 8, h => exact h
    | 9, h => exact h
    | 10, h => exact h
    | 11, h => exact h
    | 12, h => exact h
    | 13, h => exact h
    | 14, h => exact h
    | 15, h => exact h
    | 16, h => exact h
    | 17, h => exact h
    | 18, h => exact h
    | 19, h => exact h
    | 20, h => exact h
    | 21, h => exact h
    | 22, h => exact h
    | 23, h => exact h
    | 24, h => exact h
    | 25, h => exact h
    | 26, h => exact h
    | 27, h => exact h
    | 28, h => exact h
    | 29, h => exact h
    | 30, h => exact h
    | 31, h => exact h
    | 32, h => exact h
    | 33, h => exact (fun ⟨bL, h1, h2⟩ => ⟨bL, h1, h2.ext hx⟩) h
    | 34, h => exact h
    | 35, h => exact h
    | 36, h => exact h
    | 37, h => exact h
    | 38, h => exact h
    | i + 39, h => exact h
  · intro i o ho b w1 hx hmiss hdep K hK
    match i, ho with
    | 0, ho =>
      obtain rfl := Option.some.inj ho
      have e11 : b.tmps[11]? = some (.bool true) := hmiss 11 rfl
      refine want_none rfl ?_
      exact op_move rfl (eval_of e11) (hK _ w1 (Ext.refl _) rfl)
    | 1, ho =>
      obtain rfl := Option.some.inj ho
      obtain ⟨v108, g108, e108⟩ := hdep 0 rfl
      have g108 : v108 = .bool true := g108
      subst g108
      have e108 := e108 108 rfl
      refine want_none rfl ?_
      exact op_move rfl (eval_of e108) (hK _ w1 (Ext.refl _) rfl)
    | 2, ho =>
      obtain rfl := Option.some.inj ho
      have e12 : b.tmps[12]? = some (.bool true) := hmiss 12 rfl
      obtain ⟨vg, gg, eg⟩ := hdep 1 rfl
      have gg : vg = .bool true := gg
      subst gg
      have eg := eg 109 rfl
      refine want_yes rfl rfl eg ?_
      exact op_move rfl (eval_of e12) (hK _ w1 (Ext.refl _) rfl)
    | 3, ho =>
      obtain rfl := Option.some.inj ho
      obtain ⟨v109, g109, e109⟩ := hdep 1 rfl
      have g109 : v109 = .bool true := g109
      subst g109
      have e109 := e109 109 rfl
      obtain ⟨v110, g110, e110⟩ := hdep 2 rfl
      have g110 : v110 = .bool true := g110
      subst g110
      have e110 := e110 110 rfl
      refine want_none rfl ?_
      exact op_run (by unfold execOp; simp [e109, e110, Act.eval, go_sem]) (hK _ w1 (Ext.refl _) rfl)
    | 4, ho =>
      obtain rfl := Option.some.inj ho
      obtain ⟨v111, g111, e111⟩ := hdep 3 rfl
      have g111 : v111 = .bool true := g111
      subst g111
      have e111 := e111 111 rfl
      refine want_none rfl ?_
      exact op_move rfl (eval_of e111) (hK _ w1 (Ext.refl _) rfl)
    | 5, ho =>
      obtain rfl := Option.some.inj ho
      have e1 : b.tmps[1]? = some (.pointer (some ⟨b1, 0, none⟩)) := hmiss 1 rfl
      obtain ⟨vg, gg, eg⟩ := hdep 4 rfl
      have gg : vg = .bool true := gg
      subst gg
      have eg := eg 112 rfl
      refine want_yes rfl rfl eg ?_
      exact op_loadrow rfl (eval_of e1) (HB1.out.ext hx) _ Tryz.underlying29 rfl (by kernel_rfl) (hK _ w1 (Ext.refl _) rfl)
    | 6, ho =>
      obtain rfl := Option.some.inj ho
      obtain ⟨v113, g113, e113⟩ := hdep 5 rfl
      have g113 : v113 = .agg #[.int .i64 ballEd.st.tick, .int .i64 ballEd.st.clock, .int .i64 ballEd.st.site, .int .i64 ballEd.st.seq, .int .i64 ballEd.kind, .int .i64 ballEd.box.lo.x, .int .i64 ballEd.box.lo.y, .int .i64 ballEd.box.lo.z, .int .i64 ballEd.box.hi.x, .int .i64 ballEd.box.hi.y, .int .i64 ballEd.box.hi.z, .int .i64 ballEd.at_.x, .int .i64 ballEd.at_.y, .int .i64 ballEd.at_.z, .int .i64 ballEd.turn, .int .i64 ballEd.cell, .int .i64 ballEd.size] := g113
      subst g113
      have e113 := e113 113 rfl
      obtain ⟨vg, gg, eg⟩ := hdep 4 rfl
      have gg : vg = .bool true := gg
      subst gg
      have eg := eg 112 rfl
      refine want_yes rfl rfl eg ?_
      have hc : Calls Tryz.prog 13 #[.agg #[.int .i64 ballEd.st.tick, .int .i64 ballEd.st.clock, .int .i64 ballEd.st.site, .int .i64 ballEd.st.seq, .int .i64 ballEd.kind, .int .i64 ballEd.box.lo.x, .int .i64 ballEd.box.lo.y, .int .i64 ballEd.box.lo.z, .int .i64 ballEd.box.hi.x, .int .i64 ballEd.box.hi.y, .int .i64 ballEd.box.hi.z, .int .i64 ballEd.at_.x, .int .i64 ballEd.at_.y, .int .i64 ballEd.at_.z, .int .i64 ballEd.turn, .int .i64 ballEd.cell, .int .i64 ballEd.size]] w1 fun e w' => ∃ v, e = .returned v ∧ Ext w1 w' ∧ (v = .bool true) := (k_frm ballEd true frm_1 w1 (HR.out.ext (HXl.out.trans hx))).mono fun e w2 ⟨h1, h2⟩ => ⟨_, h1, h2, rfl⟩
      exact op_call (G := fun v w' => v = .bool true) rfl (by simp [eval_of e113]) (fun _ _ => by kernel_rfl) hc (fun v w' h1 h2 => hK v w' h1 h2)
    | 7, ho =>
      obtain rfl := Option.some.inj ho
      obtain ⟨v112, g112, e112⟩ := hdep 4 rfl
      have g112 : v112 = .bool true := g112
      subst g112
      have e112 := e112 112 rfl
      obtain ⟨v114, g114, e114⟩ := hdep 6 rfl
      obtain rfl := g114
      have e114 := e114 114 rfl
      refine want_none rfl ?_
      exact op_run (by unfold execOp; simp [e112, e114, Act.eval, go_sem]) (hK _ w1 (Ext.refl _) rfl)
    | 8, ho =>
      obtain rfl := Option.some.inj ho
      obtain ⟨v115, g115, e115⟩ := hdep 7 rfl
      have g115 : v115 = .bool true := g115
      subst g115
      have e115 := e115 115 rfl
      refine want_none rfl ?_
      exact op_move rfl (eval_of e115) (hK _ w1 (Ext.refl _) rfl)
    | 9, ho =>
      obtain rfl := Option.some.inj ho
      obtain ⟨vg, gg, eg⟩ := hdep 8 rfl
      have gg : vg = .bool true := gg
      subst gg
      have eg := eg 116 rfl
      refine want_yes rfl rfl eg ?_
      have hc : Calls Tryz.prog 43 #[.int .i64 1, .int .i64 1] w1 fun e w' => ∃ v, e = .returned v ∧ Ext w1 w' ∧ (v = .agg #[.int .i64 (undoEd 1 1).st.tick, .int .i64 (undoEd 1 1).st.clock, .int .i64 (undoEd 1 1).st.site, .int .i64 (undoEd 1 1).st.seq, .int .i64 (undoEd 1 1).kind, .int .i64 (undoEd 1 1).box.lo.x, .int .i64 (undoEd 1 1).box.lo.y, .int .i64 (undoEd 1 1).box.lo.z, .int .i64 (undoEd 1 1).box.hi.x, .int .i64 (undoEd 1 1).box.hi.y, .int .i64 (undoEd 1 1).box.hi.z, .int .i64 (undoEd 1 1).at_.x, .int .i64 (undoEd 1 1).at_.y, .int .i64 (undoEd 1 1).at_.z, .int .i64 (undoEd 1 1).turn, .int .i64 (undoEd 1 1).cell, .int .i64 (undoEd 1 1).size]) := (undo_any 1 1 w1).mono fun e w2 ⟨h1, h2⟩ => ⟨_, h1, h2, rfl⟩
      exact op_call (G := fun v w' => v = .agg #[.int .i64 (undoEd 1 1).st.tick, .int .i64 (undoEd 1 1).st.clock, .int .i64 (undoEd 1 1).st.site, .int .i64 (undoEd 1 1).st.seq, .int .i64 (undoEd 1 1).kind, .int .i64 (undoEd 1 1).box.lo.x, .int .i64 (undoEd 1 1).box.lo.y, .int .i64 (undoEd 1 1).box.lo.z, .int .i64 (undoEd 1 1).box.hi.x, .int .i64 (undoEd 1 1).box.hi.y, .int .i64 (undoEd 1 1).box.hi.z, .int .i64 (undoEd 1 1).at_.x, .int .i64 (undoEd 1 1).at_.y, .int .i64 (undoEd 1 1).at_.z, .int .i64 (undoEd 1 1).turn, .int .i64 (undoEd 1 1).cell, .int .i64 (undoEd 1 1).size]) (vs := #[.int .i64 1, .int .i64 1]) rfl (by simp [Act.eval]) (fun _ _ => by kernel_rfl) hc (fun v w' h1 h2 => hK v w' h1 h2)
    | 10, ho =>
      obtain rfl := Option.some.inj ho
      obtain ⟨v117, g117, e117⟩ := hdep 9 rfl
      obtain rfl := g117
      have e117 := e117 117 rfl
      obtain ⟨vg, gg, eg⟩ := hdep 8 rfl
      have gg : vg = .bool true := gg
      subst gg
      have eg := eg 116 rfl
      refine want_yes rfl rfl eg ?_
      have hc : Calls Tryz.prog 13 #[.agg #[.int .i64 (undoEd 1 1).st.tick, .int .i64 (undoEd 1 1).st.clock, .int .i64 (undoEd 1 1).st.site, .int .i64 (undoEd 1 1).st.seq, .int .i64 (undoEd 1 1).kind, .int .i64 (undoEd 1 1).box.lo.x, .int .i64 (undoEd 1 1).box.lo.y, .int .i64 (undoEd 1 1).box.lo.z, .int .i64 (undoEd 1 1).box.hi.x, .int .i64 (undoEd 1 1).box.hi.y, .int .i64 (undoEd 1 1).box.hi.z, .int .i64 (undoEd 1 1).at_.x, .int .i64 (undoEd 1 1).at_.y, .int .i64 (undoEd 1 1).at_.z, .int .i64 (undoEd 1 1).turn, .int .i64 (undoEd 1 1).cell, .int .i64 (undoEd 1 1).size]] w1 fun e w' => ∃ v, e = .returned v ∧ Ext w1 w' ∧ (v = .bool false) := (k_frm (undoEd 1 1) false frm_2 w1 (HR.out.ext (HXl.out.trans hx))).mono fun e w2 ⟨h1, h2⟩ => ⟨_, h1, h2, rfl⟩
      exact op_call (G := fun v w' => v = .bool false) rfl (by simp [eval_of e117]) (fun _ _ => by kernel_rfl) hc (fun v w' h1 h2 => hK v w' h1 h2)
    | 11, ho =>
      obtain rfl := Option.some.inj ho
      obtain ⟨v118, g118, e118⟩ := hdep 10 rfl
      obtain rfl := g118
      have e118 := e118 118 rfl
      obtain ⟨vg, gg, eg⟩ := hdep 8 rfl
      have gg : vg = .bool true := gg
      subst gg
      have eg := eg 116 rfl
      refine want_yes rfl rfl eg ?_
      exact op_run (by unfold execOp; simp [e118, Act.eval, go_sem]) (hK _ w1 (Ext.refl _) rfl)
    | 12, ho =>
      obtain rfl := Option.some.inj ho
      obtain ⟨v116, g116, e116⟩ := hdep 8 rfl
      have g116 : v116 = .bool true := g116
      subst g116
      have e116 := e116 116 rfl
      obtain ⟨v119, g119, e119⟩ := hdep 11 rfl
      have g119 : v119 = .bool true := g119
      subst g119
      have e119 := e119 119 rfl
      refine want_none rfl ?_
      exact op_run (by unfold execOp; simp [e116, e119, Act.eval, go_sem]) (hK _ w1 (Ext.refl _) rfl)
    | 13, ho =>
      obtain rfl := Option.some.inj ho
      obtain ⟨v120, g120, e120⟩ := hdep 12 rfl
      have g120 : v120 = .bool true := g120
      subst g120
      have e120 := e120 120 rfl
      refine want_none rfl ?_
      exact op_move rfl (eval_of e120) (hK _ w1 (Ext.refl _) rfl)
    | 14, ho =>
      obtain rfl := Option.some.inj ho
      obtain ⟨vg, gg, eg⟩ := hdep 13 rfl
      have gg : vg = .bool true := gg
      subst gg
      have eg := eg 121 rfl
      refine want_yes rfl rfl eg ?_
      have hc : Calls Tryz.prog 17 #[.int .i64 5] w1 fun e w' => ∃ v, e = .returned v ∧ Ext w1 w' ∧ (v = strV [102, 105, 108, 108]) := (k_name w1 (HR.out.ext (HXl.out.trans hx))).mono fun e w2 ⟨h1, h2⟩ => ⟨_, h1, h2, rfl⟩
      exact op_call (G := fun v w' => v = strV [102, 105, 108, 108]) (vs := #[.int .i64 5]) rfl (by simp [Act.eval]) (fun _ _ => by kernel_rfl) hc (fun v w' h1 h2 => hK v w' h1 h2)
    | 15, ho =>
      obtain rfl := Option.some.inj ho
      obtain ⟨v122, g122, e122⟩ := hdep 14 rfl
      obtain rfl := g122
      have e122 := e122 122 rfl
      obtain ⟨vg, gg, eg⟩ := hdep 13 rfl
      have gg : vg = .bool true := gg
      subst gg
      have eg := eg 121 rfl
      refine want_yes rfl rfl eg ?_
      exact op_run (by unfold execOp; simp [e122, Act.eval, go_sem, strV]) (hK _ w1 (Ext.refl _) rfl)
    | 16, ho =>
      obtain rfl := Option.some.inj ho
      obtain ⟨v121, g121, e121⟩ := hdep 13 rfl
      have g121 : v121 = .bool true := g121
      subst g121
      have e121 := e121 121 rfl
      obtain ⟨v123, g123, e123⟩ := hdep 15 rfl
      have g123 : v123 = .bool true := g123
      subst g123
      have e123 := e123 123 rfl
      refine want_none rfl ?_
      exact op_run (by unfold execOp; simp [e121, e123, Act.eval, go_sem]) (hK _ w1 (Ext.refl _) rfl)
    | 17, ho =>
      obtain rfl := Option.some.inj ho
      obtain ⟨v124, g124, e124⟩ := hdep 16 rfl
      have g124 : v124 = .bool true := g124
      subst g124
      have e124 := e124 124 rfl
      refine want_none rfl ?_
      exact op_move rfl (eval_of e124) (hK _ w1 (Ext.refl _) rfl)
    | 18, ho =>
      obtain rfl := Option.some.inj ho
      have e1 : b.tmps[1]? = some (.pointer (some ⟨b1, 0, none⟩)) := hmiss 1 rfl
      obtain ⟨vg, gg, eg⟩ := hdep 17 rfl
      have gg : vg = .bool true := gg
      subst gg
      have eg := eg 125 rfl
      refine want_yes rfl rfl eg ?_
      exact op_loadrow rfl (eval_of e1) (HB1.out.ext hx) _ Tryz.underlying29 rfl (by kernel_rfl) (hK _ w1 (Ext.refl _) rfl)
    | 19, ho =>
      obtain rfl := Option.some.inj ho
      obtain ⟨vg, gg, eg⟩ := hdep 17 rfl
      have gg : vg = .bool true := gg
      subst gg
      have eg := eg 125 rfl
      refine want_yes rfl rfl eg ?_
      have hc : Calls Tryz.prog 43 #[.int .i64 1, .int .i64 0] w1 fun e w' => ∃ v, e = .returned v ∧ Ext w1 w' ∧ (v = .agg #[.int .i64 (undoEd 1 0).st.tick, .int .i64 (undoEd 1 0).st.clock, .int .i64 (undoEd 1 0).st.site, .int .i64 (undoEd 1 0).st.seq, .int .i64 (undoEd 1 0).kind, .int .i64 (undoEd 1 0).box.lo.x, .int .i64 (undoEd 1 0).box.lo.y, .int .i64 (undoEd 1 0).box.lo.z, .int .i64 (undoEd 1 0).box.hi.x, .int .i64 (undoEd 1 0).box.hi.y, .int .i64 (undoEd 1 0).box.hi.z, .int .i64 (undoEd 1 0).at_.x, .int .i64 (undoEd 1 0).at_.y, .int .i64 (undoEd 1 0).at_.z, .int .i64 (undoEd 1 0).turn, .int .i64 (undoEd 1 0).cell, .int .i64 (undoEd 1 0).size]) := (undo_any 1 0 w1).mono fun e w2 ⟨h1, h2⟩ => ⟨_, h1, h2, rfl⟩
      exact op_call (G := fun v w' => v = .agg #[.int .i64 (undoEd 1 0).st.tick, .int .i64 (undoEd 1 0).st.clock, .int .i64 (undoEd 1 0).st.site, .int .i64 (undoEd 1 0).st.seq, .int .i64 (undoEd 1 0).kind, .int .i64 (undoEd 1 0).box.lo.x, .int .i64 (undoEd 1 0).box.lo.y, .int .i64 (undoEd 1 0).box.lo.z, .int .i64 (undoEd 1 0).box.hi.x, .int .i64 (undoEd 1 0).box.hi.y, .int .i64 (undoEd 1 0).box.hi.z, .int .i64 (undoEd 1 0).at_.x, .int .i64 (undoEd 1 0).at_.y, .int .i64 (undoEd 1 0).at_.z, .int .i64 (undoEd 1 0).turn, .int .i64 (undoEd 1 0).cell, .int .i64 (undoEd 1 0).size]) (vs := #[.int .i64 1, .int .i64 0]) rfl (by simp [Act.eval]) (fun _ _ => by kernel_rfl) hc (fun v w' h1 h2 => hK v w' h1 h2)
    | 20, ho =>
      obtain rfl := Option.some.inj ho
      obtain ⟨v126, g126, e126⟩ := hdep 18 rfl
      have g126 : v126 = .agg #[.int .i64 ballEd.st.tick, .int .i64 ballEd.st.clock, .int .i64 ballEd.st.site, .int .i64 ballEd.st.seq, .int .i64 ballEd.kind, .int .i64 ballEd.box.lo.x, .int .i64 ballEd.box.lo.y, .int .i64 ballEd.box.lo.z, .int .i64 ballEd.box.hi.x, .int .i64 ballEd.box.hi.y, .int .i64 ballEd.box.hi.z, .int .i64 ballEd.at_.x, .int .i64 ballEd.at_.y, .int .i64 ballEd.at_.z, .int .i64 ballEd.turn, .int .i64 ballEd.cell, .int .i64 ballEd.size] := g126
      subst g126
      have e126 := e126 126 rfl
      obtain ⟨v127, g127, e127⟩ := hdep 19 rfl
      obtain rfl := g127
      have e127 := e127 127 rfl
      obtain ⟨vg, gg, eg⟩ := hdep 17 rfl
      have gg : vg = .bool true := gg
      subst gg
      have eg := eg 125 rfl
      refine want_yes rfl rfl eg ?_
      have hc : Calls Tryz.prog 19 #[.agg #[.int .i64 ballEd.st.tick, .int .i64 ballEd.st.clock, .int .i64 ballEd.st.site, .int .i64 ballEd.st.seq, .int .i64 ballEd.kind, .int .i64 ballEd.box.lo.x, .int .i64 ballEd.box.lo.y, .int .i64 ballEd.box.lo.z, .int .i64 ballEd.box.hi.x, .int .i64 ballEd.box.hi.y, .int .i64 ballEd.box.hi.z, .int .i64 ballEd.at_.x, .int .i64 ballEd.at_.y, .int .i64 ballEd.at_.z, .int .i64 ballEd.turn, .int .i64 ballEd.cell, .int .i64 ballEd.size], .agg #[.int .i64 (undoEd 1 0).st.tick, .int .i64 (undoEd 1 0).st.clock, .int .i64 (undoEd 1 0).st.site, .int .i64 (undoEd 1 0).st.seq, .int .i64 (undoEd 1 0).kind, .int .i64 (undoEd 1 0).box.lo.x, .int .i64 (undoEd 1 0).box.lo.y, .int .i64 (undoEd 1 0).box.lo.z, .int .i64 (undoEd 1 0).box.hi.x, .int .i64 (undoEd 1 0).box.hi.y, .int .i64 (undoEd 1 0).box.hi.z, .int .i64 (undoEd 1 0).at_.x, .int .i64 (undoEd 1 0).at_.y, .int .i64 (undoEd 1 0).at_.z, .int .i64 (undoEd 1 0).turn, .int .i64 (undoEd 1 0).cell, .int .i64 (undoEd 1 0).size]] w1 fun e w' => ∃ v, e = .returned v ∧ Ext w1 w' ∧ (v = .int .i64 (-1)) := (k_cmp w1).mono fun e w2 ⟨h1, h2⟩ => ⟨_, h1, h2, rfl⟩
      exact op_call (G := fun v w' => v = .int .i64 (-1)) rfl (by simp [eval_of e126, eval_of e127]) (fun _ _ => by kernel_rfl) hc (fun v w' h1 h2 => hK v w' h1 h2)
    | 21, ho =>
      obtain rfl := Option.some.inj ho
      obtain ⟨v128, g128, e128⟩ := hdep 20 rfl
      obtain rfl := g128
      have e128 := e128 128 rfl
      obtain ⟨vg, gg, eg⟩ := hdep 17 rfl
      have gg : vg = .bool true := gg
      subst gg
      have eg := eg 125 rfl
      refine want_yes rfl rfl eg ?_
      exact op_run (by unfold execOp; simp [e128, Act.eval, go_sem]) (hK _ w1 (Ext.refl _) rfl)
    | 22, ho =>
      obtain rfl := Option.some.inj ho
      obtain ⟨v125, g125, e125⟩ := hdep 17 rfl
      have g125 : v125 = .bool true := g125
      subst g125
      have e125 := e125 125 rfl
      obtain ⟨v129, g129, e129⟩ := hdep 21 rfl
      have g129 : v129 = .bool true := g129
      subst g129
      have e129 := e129 129 rfl
      refine want_none rfl ?_
      exact op_run (by unfold execOp; simp [e125, e129, Act.eval, go_sem]) (hK _ w1 (Ext.refl _) rfl)
    | 23, ho =>
      obtain rfl := Option.some.inj ho
      obtain ⟨v130, g130, e130⟩ := hdep 22 rfl
      have g130 : v130 = .bool true := g130
      subst g130
      have e130 := e130 130 rfl
      refine want_none rfl ?_
      exact op_move rfl (eval_of e130) (hK _ w1 (Ext.refl _) rfl)
    | 24, ho =>
      obtain rfl := Option.some.inj ho
      have e1 : b.tmps[1]? = some (.pointer (some ⟨b1, 0, none⟩)) := hmiss 1 rfl
      obtain ⟨vg, gg, eg⟩ := hdep 23 rfl
      have gg : vg = .bool true := gg
      subst gg
      have eg := eg 131 rfl
      refine want_yes rfl rfl eg ?_
      exact op_loadrow rfl (eval_of e1) (HB1.out.ext hx) _ Tryz.underlying29 rfl (by kernel_rfl) (hK _ w1 (Ext.refl _) rfl)
    | 25, ho =>
      obtain rfl := Option.some.inj ho
      obtain ⟨v132, g132, e132⟩ := hdep 24 rfl
      have g132 : v132 = .agg #[.int .i64 ballEd.st.tick, .int .i64 ballEd.st.clock, .int .i64 ballEd.st.site, .int .i64 ballEd.st.seq, .int .i64 ballEd.kind, .int .i64 ballEd.box.lo.x, .int .i64 ballEd.box.lo.y, .int .i64 ballEd.box.lo.z, .int .i64 ballEd.box.hi.x, .int .i64 ballEd.box.hi.y, .int .i64 ballEd.box.hi.z, .int .i64 ballEd.at_.x, .int .i64 ballEd.at_.y, .int .i64 ballEd.at_.z, .int .i64 ballEd.turn, .int .i64 ballEd.cell, .int .i64 ballEd.size] := g132
      subst g132
      have e132 := e132 132 rfl
      obtain ⟨vg, gg, eg⟩ := hdep 23 rfl
      have gg : vg = .bool true := gg
      subst gg
      have eg := eg 131 rfl
      refine want_yes rfl rfl eg ?_
      have hc : Calls Tryz.prog 27 #[.agg #[.int .i64 ballEd.st.tick, .int .i64 ballEd.st.clock, .int .i64 ballEd.st.site, .int .i64 ballEd.st.seq, .int .i64 ballEd.kind, .int .i64 ballEd.box.lo.x, .int .i64 ballEd.box.lo.y, .int .i64 ballEd.box.lo.z, .int .i64 ballEd.box.hi.x, .int .i64 ballEd.box.hi.y, .int .i64 ballEd.box.hi.z, .int .i64 ballEd.at_.x, .int .i64 ballEd.at_.y, .int .i64 ballEd.at_.z, .int .i64 ballEd.turn, .int .i64 ballEd.cell, .int .i64 ballEd.size]] w1 fun e w' => ∃ v, e = .returned v ∧ Ext w1 w' ∧ (v = .agg (bvs (digE ballEd)).toArray) := (DigEd_any ballEd fit_bal w1 (HR.out.ext (HXl.out.trans hx)).H).mono fun e w2 ⟨h1, h2⟩ => ⟨_, h1, h2, rfl⟩
      exact op_call (G := fun v w' => v = .agg (bvs (digE ballEd)).toArray) rfl (by simp [eval_of e132]) (fun _ _ => by kernel_rfl) hc (fun v w' h1 h2 => hK v w' h1 h2)
    | 26, ho =>
      obtain rfl := Option.some.inj ho
      have e1 : b.tmps[1]? = some (.pointer (some ⟨b1, 0, none⟩)) := hmiss 1 rfl
      obtain ⟨vg, gg, eg⟩ := hdep 23 rfl
      have gg : vg = .bool true := gg
      subst gg
      have eg := eg 131 rfl
      refine want_yes rfl rfl eg ?_
      exact op_loadrow rfl (eval_of e1) (HB1.out.ext hx) _ Tryz.underlying29 rfl (by kernel_rfl) (hK _ w1 (Ext.refl _) rfl)
    | 27, ho =>
      obtain rfl := Option.some.inj ho
      obtain ⟨v134, g134, e134⟩ := hdep 26 rfl
      have g134 : v134 = .agg #[.int .i64 ballEd.st.tick, .int .i64 ballEd.st.clock, .int .i64 ballEd.st.site, .int .i64 ballEd.st.seq, .int .i64 ballEd.kind, .int .i64 ballEd.box.lo.x, .int .i64 ballEd.box.lo.y, .int .i64 ballEd.box.lo.z, .int .i64 ballEd.box.hi.x, .int .i64 ballEd.box.hi.y, .int .i64 ballEd.box.hi.z, .int .i64 ballEd.at_.x, .int .i64 ballEd.at_.y, .int .i64 ballEd.at_.z, .int .i64 ballEd.turn, .int .i64 ballEd.cell, .int .i64 ballEd.size] := g134
      subst g134
      have e134 := e134 134 rfl
      obtain ⟨vg, gg, eg⟩ := hdep 23 rfl
      have gg : vg = .bool true := gg
      subst gg
      have eg := eg 131 rfl
      refine want_yes rfl rfl eg ?_
      have hc : Calls Tryz.prog 28 #[.agg #[.int .i64 ballEd.st.tick, .int .i64 ballEd.st.clock, .int .i64 ballEd.st.site, .int .i64 ballEd.st.seq, .int .i64 ballEd.kind, .int .i64 ballEd.box.lo.x, .int .i64 ballEd.box.lo.y, .int .i64 ballEd.box.lo.z, .int .i64 ballEd.box.hi.x, .int .i64 ballEd.box.hi.y, .int .i64 ballEd.box.hi.z, .int .i64 ballEd.at_.x, .int .i64 ballEd.at_.y, .int .i64 ballEd.at_.z, .int .i64 ballEd.turn, .int .i64 ballEd.cell, .int .i64 ballEd.size]] w1 fun e w' => ∃ v, e = .returned v ∧ Ext w1 w' ∧ (v = .agg (bvs (digE ballEd)).toArray) := (refDig_any ballEd fit_bal w1 (HR.out.ext (HXl.out.trans hx)).K).mono fun e w2 ⟨h1, h2⟩ => ⟨_, h1, h2, rfl⟩
      exact op_call (G := fun v w' => v = .agg (bvs (digE ballEd)).toArray) rfl (by simp [eval_of e134]) (fun _ _ => by kernel_rfl) hc (fun v w' h1 h2 => hK v w' h1 h2)
    | 28, ho =>
      obtain rfl := Option.some.inj ho
      obtain ⟨v133, g133, e133⟩ := hdep 25 rfl
      obtain rfl := g133
      have e133 := e133 133 rfl
      obtain ⟨v135, g135, e135⟩ := hdep 27 rfl
      obtain rfl := g135
      have e135 := e135 135 rfl
      obtain ⟨vg, gg, eg⟩ := hdep 23 rfl
      have gg : vg = .bool true := gg
      subst gg
      have eg := eg 131 rfl
      refine want_yes rfl rfl eg ?_
      exact op_run (by unfold execOp; simp [e133, e135, Act.eval, go_sem, hdg]) (hK _ w1 (Ext.refl _) rfl)
    | 29, ho =>
      obtain rfl := Option.some.inj ho
      obtain ⟨v131, g131, e131⟩ := hdep 23 rfl
      have g131 : v131 = .bool true := g131
      subst g131
      have e131 := e131 131 rfl
      obtain ⟨v136, g136, e136⟩ := hdep 28 rfl
      have g136 : v136 = .bool true := g136
      subst g136
      have e136 := e136 136 rfl
      refine want_none rfl ?_
      exact op_run (by unfold execOp; simp [e131, e136, Act.eval, go_sem]) (hK _ w1 (Ext.refl _) rfl)
    | 30, ho =>
      obtain rfl := Option.some.inj ho
      obtain ⟨v137, g137, e137⟩ := hdep 29 rfl
      have g137 : v137 = .bool true := g137
      subst g137
      have e137 := e137 137 rfl
      refine want_none rfl ?_
      exact op_move rfl (eval_of e137) (hK _ w1 (Ext.refl _) rfl)
    | 31, ho =>
      obtain rfl := Option.some.inj ho
      have e1 : b.tmps[1]? = some (.pointer (some ⟨b1, 0, none⟩)) := hmiss 1 rfl
      obtain ⟨vg, gg, eg⟩ := hdep 30 rfl
      have gg : vg = .bool true := gg
      subst gg
      have eg := eg 138 rfl
      refine want_yes rfl rfl eg ?_
      exact op_loadrow rfl (eval_of e1) (HB1.out.ext hx) _ Tryz.underlying29 rfl (by kernel_rfl) (hK _ w1 (Ext.refl _) rfl)
    | 32, ho =>
      obtain rfl := Option.some.inj ho
      have e1 : b.tmps[1]? = some (.pointer (some ⟨b1, 0, none⟩)) := hmiss 1 rfl
      obtain ⟨vg, gg, eg⟩ := hdep 30 rfl
      have gg : vg = .bool true := gg
      subst gg
      have eg := eg 138 rfl
      refine want_yes rfl rfl eg ?_
      exact op_loadrow rfl (eval_of e1) (HB1.out.ext hx) _ Tryz.underlying29 rfl (by kernel_rfl) (hK _ w1 (Ext.refl _) rfl)
    | 33, ho =>
      obtain rfl := Option.some.inj ho
      obtain ⟨v139, g139, e139⟩ := hdep 31 rfl
      have g139 : v139 = .agg #[.int .i64 ballEd.st.tick, .int .i64 ballEd.st.clock, .int .i64 ballEd.st.site, .int .i64 ballEd.st.seq, .int .i64 ballEd.kind, .int .i64 ballEd.box.lo.x, .int .i64 ballEd.box.lo.y, .int .i64 ballEd.box.lo.z, .int .i64 ballEd.box.hi.x, .int .i64 ballEd.box.hi.y, .int .i64 ballEd.box.hi.z, .int .i64 ballEd.at_.x, .int .i64 ballEd.at_.y, .int .i64 ballEd.at_.z, .int .i64 ballEd.turn, .int .i64 ballEd.cell, .int .i64 ballEd.size] := g139
      subst g139
      have e139 := e139 139 rfl
      obtain ⟨v140, g140, e140⟩ := hdep 32 rfl
      have g140 : v140 = .agg #[.int .i64 ballEd.st.tick, .int .i64 ballEd.st.clock, .int .i64 ballEd.st.site, .int .i64 ballEd.st.seq, .int .i64 ballEd.kind, .int .i64 ballEd.box.lo.x, .int .i64 ballEd.box.lo.y, .int .i64 ballEd.box.lo.z, .int .i64 ballEd.box.hi.x, .int .i64 ballEd.box.hi.y, .int .i64 ballEd.box.hi.z, .int .i64 ballEd.at_.x, .int .i64 ballEd.at_.y, .int .i64 ballEd.at_.z, .int .i64 ballEd.turn, .int .i64 ballEd.cell, .int .i64 ballEd.size] := g140
      subst g140
      have e140 := e140 140 rfl
      obtain ⟨vg, gg, eg⟩ := hdep 30 rfl
      have gg : vg = .bool true := gg
      subst gg
      have eg := eg 138 rfl
      refine want_yes rfl rfl eg ?_
      exact op_buildRows 35 29 2 _ rfl 17 (by decide) (rowsE [ballEd, ballEd]) (rows_len17 _) rfl (by decide) (by decide) (by simp [eval_of e139, eval_of e140, rowsE, Ed.cells]) Tryz.underlying35 (by kernel_rfl) (by kernel_rfl) (hK _ _ ((Ext.refl w1).alloc _) ⟨w1.heap.size, rfl, svE_lit w1 [ballEd, ballEd] (by decide)⟩)
    | 34, ho =>
      obtain rfl := Option.some.inj ho
      obtain ⟨v141, g141, e141⟩ := hdep 33 rfl
      obtain ⟨bL, rfl, hL⟩ := g141
      have e141 := e141 141 rfl
      obtain ⟨vg, gg, eg⟩ := hdep 30 rfl
      have gg : vg = .bool true := gg
      subst gg
      have eg := eg 138 rfl
      refine want_yes rfl rfl eg ?_
      have hc : Calls Tryz.prog 22 #[.slice (some ⟨bL, 0, none⟩) 2 2] w1 fun e w' => ∃ v, e = .returned v ∧ Ext w1 w' ∧ (∃ A7 c7, v = .slice A7 1 c7) := k_sort _ _ w1 hL
      exact op_call (G := fun v w' => ∃ A7 c7, v = .slice A7 1 c7) rfl (by simp [eval_of e141]) (fun _ _ => by kernel_rfl) hc (fun v w' h1 h2 => hK v w' h1 h2)
    | 35, ho =>
      obtain rfl := Option.some.inj ho
      obtain ⟨v142, g142, e142⟩ := hdep 34 rfl
      obtain ⟨A7, c7, rfl⟩ := g142
      have e142 := e142 142 rfl
      obtain ⟨vg, gg, eg⟩ := hdep 30 rfl
      have gg : vg = .bool true := gg
      subst gg
      have eg := eg 138 rfl
      refine want_yes rfl rfl eg ?_
      exact op_run (by unfold execOp; simp [e142, Act.eval, go_sem]) (hK _ w1 (Ext.refl _) rfl)
    | 36, ho =>
      obtain rfl := Option.some.inj ho
      obtain ⟨v143, g143, e143⟩ := hdep 35 rfl
      have g143 : v143 = .int .i64 1 := g143
      subst g143
      have e143 := e143 143 rfl
      obtain ⟨vg, gg, eg⟩ := hdep 30 rfl
      have gg : vg = .bool true := gg
      subst gg
      have eg := eg 138 rfl
      refine want_yes rfl rfl eg ?_
      exact op_run (by unfold execOp; simp [e143, Act.eval, go_sem]) (hK _ w1 (Ext.refl _) rfl)
    | 37, ho =>
      obtain rfl := Option.some.inj ho
      obtain ⟨v138, g138, e138⟩ := hdep 30 rfl
      have g138 : v138 = .bool true := g138
      subst g138
      have e138 := e138 138 rfl
      obtain ⟨v144, g144, e144⟩ := hdep 36 rfl
      have g144 : v144 = .bool true := g144
      subst g144
      have e144 := e144 144 rfl
      refine want_none rfl ?_
      exact op_run (by unfold execOp; simp [e138, e144, Act.eval, go_sem]) (hK _ w1 (Ext.refl _) rfl)
    | 38, ho =>
      obtain rfl := Option.some.inj ho
      obtain ⟨v145, g145, e145⟩ := hdep 37 rfl
      have g145 : v145 = .bool true := g145
      subst g145
      have e145 := e145 145 rfl
      refine want_none rfl ?_
      exact op_assign rfl (eval_of e145) (hK _ w1 (Ext.refl _) rfl)
    | i + 39, ho => cases ho
  · intro V w9 hx hg
    have g0 : V 0 = .bool true := hg 0 (by decide)
    have g1 : V 1 = .bool true := hg 1 (by decide)
    have g2 : V 2 = .bool true := hg 2 (by decide)
    have g3 : V 3 = .bool true := hg 3 (by decide)
    have g4 : V 4 = .bool true := hg 4 (by decide)
    have g5 : V 5 = .agg #[.int .i64 ballEd.st.tick, .int .i64 ballEd.st.clock, .int .i64 ballEd.st.site, .int .i64 ballEd.st.seq, .int .i64 ballEd.kind, .int .i64 ballEd.box.lo.x, .int .i64 ballEd.box.lo.y, .int .i64 ballEd.box.lo.z, .int .i64 ballEd.box.hi.x, .int .i64 ballEd.box.hi.y, .int .i64 ballEd.box.hi.z, .int .i64 ballEd.at_.x, .int .i64 ballEd.at_.y, .int .i64 ballEd.at_.z, .int .i64 ballEd.turn, .int .i64 ballEd.cell, .int .i64 ballEd.size] := hg 5 (by decide)
    have g7 : V 7 = .bool true := hg 7 (by decide)
    have g8 : V 8 = .bool true := hg 8 (by decide)
    have g11 : V 11 = .bool true := hg 11 (by decide)
    have g12 : V 12 = .bool true := hg 12 (by decide)
    have g13 : V 13 = .bool true := hg 13 (by decide)
    have g15 : V 15 = .bool true := hg 15 (by decide)
    have g16 : V 16 = .bool true := hg 16 (by decide)
    have g17 : V 17 = .bool true := hg 17 (by decide)
    have g18 : V 18 = .agg #[.int .i64 ballEd.st.tick, .int .i64 ballEd.st.clock, .int .i64 ballEd.st.site, .int .i64 ballEd.st.seq, .int .i64 ballEd.kind, .int .i64 ballEd.box.lo.x, .int .i64 ballEd.box.lo.y, .int .i64 ballEd.box.lo.z, .int .i64 ballEd.box.hi.x, .int .i64 ballEd.box.hi.y, .int .i64 ballEd.box.hi.z, .int .i64 ballEd.at_.x, .int .i64 ballEd.at_.y, .int .i64 ballEd.at_.z, .int .i64 ballEd.turn, .int .i64 ballEd.cell, .int .i64 ballEd.size] := hg 18 (by decide)
    have g21 : V 21 = .bool true := hg 21 (by decide)
    have g22 : V 22 = .bool true := hg 22 (by decide)
    have g23 : V 23 = .bool true := hg 23 (by decide)
    have g24 : V 24 = .agg #[.int .i64 ballEd.st.tick, .int .i64 ballEd.st.clock, .int .i64 ballEd.st.site, .int .i64 ballEd.st.seq, .int .i64 ballEd.kind, .int .i64 ballEd.box.lo.x, .int .i64 ballEd.box.lo.y, .int .i64 ballEd.box.lo.z, .int .i64 ballEd.box.hi.x, .int .i64 ballEd.box.hi.y, .int .i64 ballEd.box.hi.z, .int .i64 ballEd.at_.x, .int .i64 ballEd.at_.y, .int .i64 ballEd.at_.z, .int .i64 ballEd.turn, .int .i64 ballEd.cell, .int .i64 ballEd.size] := hg 24 (by decide)
    have g26 : V 26 = .agg #[.int .i64 ballEd.st.tick, .int .i64 ballEd.st.clock, .int .i64 ballEd.st.site, .int .i64 ballEd.st.seq, .int .i64 ballEd.kind, .int .i64 ballEd.box.lo.x, .int .i64 ballEd.box.lo.y, .int .i64 ballEd.box.lo.z, .int .i64 ballEd.box.hi.x, .int .i64 ballEd.box.hi.y, .int .i64 ballEd.box.hi.z, .int .i64 ballEd.at_.x, .int .i64 ballEd.at_.y, .int .i64 ballEd.at_.z, .int .i64 ballEd.turn, .int .i64 ballEd.cell, .int .i64 ballEd.size] := hg 26 (by decide)
    have g28 : V 28 = .bool true := hg 28 (by decide)
    have g29 : V 29 = .bool true := hg 29 (by decide)
    have g30 : V 30 = .bool true := hg 30 (by decide)
    have g31 : V 31 = .agg #[.int .i64 ballEd.st.tick, .int .i64 ballEd.st.clock, .int .i64 ballEd.st.site, .int .i64 ballEd.st.seq, .int .i64 ballEd.kind, .int .i64 ballEd.box.lo.x, .int .i64 ballEd.box.lo.y, .int .i64 ballEd.box.lo.z, .int .i64 ballEd.box.hi.x, .int .i64 ballEd.box.hi.y, .int .i64 ballEd.box.hi.z, .int .i64 ballEd.at_.x, .int .i64 ballEd.at_.y, .int .i64 ballEd.at_.z, .int .i64 ballEd.turn, .int .i64 ballEd.cell, .int .i64 ballEd.size] := hg 31 (by decide)
    have g32 : V 32 = .agg #[.int .i64 ballEd.st.tick, .int .i64 ballEd.st.clock, .int .i64 ballEd.st.site, .int .i64 ballEd.st.seq, .int .i64 ballEd.kind, .int .i64 ballEd.box.lo.x, .int .i64 ballEd.box.lo.y, .int .i64 ballEd.box.lo.z, .int .i64 ballEd.box.hi.x, .int .i64 ballEd.box.hi.y, .int .i64 ballEd.box.hi.z, .int .i64 ballEd.at_.x, .int .i64 ballEd.at_.y, .int .i64 ballEd.at_.z, .int .i64 ballEd.turn, .int .i64 ballEd.cell, .int .i64 ballEd.size] := hg 32 (by decide)
    have g35 : V 35 = .int .i64 1 := hg 35 (by decide)
    have g36 : V 36 = .bool true := hg 36 (by decide)
    have g37 : V 37 = .bool true := hg 37 (by decide)
    have g38 : V 38 = .bool true := hg 38 (by decide)
    have g6 := hg 6 (by decide)
    have g9 := hg 9 (by decide)
    have g10 := hg 10 (by decide)
    have g14 := hg 14 (by decide)
    have g19 := hg 19 (by decide)
    have g20 := hg 20 (by decide)
    have g25 := hg 25 (by decide)
    have g27 := hg 27 (by decide)
    have g33 := hg 33 (by decide)
    have g34 := hg 34 (by decide)
    simp only [List.length_cons, List.length_nil, fillAllN, dstOf, Act.put, List.getElem?_toArray, List.getElem?_cons_zero, List.getElem?_cons_succ, Option.bind_some, g0, g1, g2, g3, g4, g5, g7, g8, g11, g12, g13, g15, g16, g17, g18, g21, g22, g23, g24, g26, g28, g29, g30, g31, g32, g35, g36, g37, g38, List.setIfInBounds_toArray, List.set_cons_zero, List.set_cons_succ]
    clear g0 g1 g2 g3 g4 g5 g7 g8 g11 g12 g13 g15 g16 g17 g18 g21 g22 g23 g24 g26 g28 g29 g30 g31 g32 g35 g36 g37 g38 hg
    go_wp2_with fail
    go_ret
    exact ⟨rfl, HXl.out.trans hx⟩
end Go.Proofs.YtlinhgannajfpaaGreatDoor

/- Reading of arguments: a type all of whose cells are ints; a slice of such; a struct by value; the step from a walk to a law's row. For every program that the seat's is. -/
namespace Go.Proofs.YtlinhgannajfpaaGreatDoor
open Go Go.RowKit Go.ChangeShapes Go.WideShapes Go.ChangeAt

section
variable {P : Program}
/-- Whatever reads at type t is a row of ints. -/
def IntsT (P : Program) (t : TypeId) : Prop := ∀ (H : Type) (enc : TypeId × Value → H) (w : World) (base : Nat) (spare : Nat → Bool) (held : Bool) (fuel : Nat) (cs : List Value) (x : DataW H × List MemPlace),
  DataW.trod enc P w base spare held fuel t cs = some x → cs.length = P.cellsOf t ∧ ∀ (c : Value), c ∈ cs → ∃ n : Int, c = .int .i64 n ∧ (Lit.int .i64 n).wf = true
theorem ints_int {t : TypeId} (ht : P.underlying t = some (.int .i64)) (hc : P.cellsOf t = 1) : IntsT P t := fun H enc w base spare held fuel cs x h => by
  obtain ⟨n, rfl, _, hw⟩ := DataW.trod_int ht h
  exact ⟨by rw [hc]; rfl, fun c hc => by simp only [List.mem_singleton] at hc; exact ⟨n, hc, hw⟩⟩
theorem ints_struct {t : TypeId} {fs : Array Field} (ht : P.underlying t = some (.struct fs)) (hf : ∀ (i : Nat) (f : Field), fs[i]? = some f → IntsT P f.type)
    (hcov : ∀ j, j < P.cellsOf t → ∃ (i : Nat) (f : Field), fs[i]? = some f ∧ f.offset ≤ j ∧ j < f.offset + P.cellsOf f.type) : IntsT P t := fun H enc w base spare held fuel cs x h => by
  obtain ⟨xs, n, _, _, hlen, hxl, hg⟩ := DataW.trod_struct ht h
  refine ⟨hlen, fun c hc => ?_⟩
  obtain ⟨j, hj⟩ := List.getElem?_of_mem hc
  have hjl := (List.getElem?_eq_some_iff.1 hj).1
  obtain ⟨i, f, hif, h1, h2⟩ := hcov j (by omega)
  have hx : ∃ y, xs[i]? = some y := ⟨xs[i]'(by rw [hxl]; exact (Array.getElem?_eq_some_iff.1 hif).1), List.getElem?_eq_getElem _⟩
  obtain ⟨y, hy⟩ := hx
  have h3 := hg i f hif
  rw [hy] at h3
  obtain ⟨_, h5⟩ := hf i f hif H enc w base spare held n _ y h3
  refine h5 c ?_
  have : ((cs.drop f.offset).take (P.cellsOf f.type))[j - f.offset]? = some c := by
    rw [List.getElem?_take, if_pos (by omega), List.getElem?_drop, show f.offset + (j - f.offset) = j by omega, hj]
  exact List.mem_of_getElem? this
theorem ints_list {cs : List Value} (h : ∀ (c : Value), c ∈ cs → ∃ n : Int, c = .int .i64 n ∧ (Lit.int .i64 n).wf = true) : ∃ l : List Int, cs = l.map (Value.int .i64) ∧ ∀ n, n ∈ l → (Lit.int .i64 n).wf = true := by
  induction cs with
  | nil => exact ⟨[], rfl, fun n hn => by simp at hn⟩
  | cons c cs ih =>
    obtain ⟨n, rfl, hw⟩ := h c (List.mem_cons_self ..)
    obtain ⟨l, rfl, hl⟩ := ih (fun d hd => h d (List.mem_cons_of_mem _ hd))
    exact ⟨n :: l, rfl, fun m hm => by rcases List.mem_cons.1 hm with rfl | hm; exact hw; exact hl m hm⟩

variable {H : Type} {enc : TypeId × Value → H} {W : World}
/-- A slice of such rows that came in. -/
theorem read_rows {t e : TypeId} {k : Nat} (ht : P.underlying t = some (.slice e)) (hc : P.cellsOf e = k) (hk : 0 < k) (hi : IntsT P e) {base : Nat} {r : Reach} {v : Value} {d : DataW H} {ps : List MemPlace}
    (hv : Value.okWide P W r base t v) (h : DataW.Trod enc P W 0 (fun _ => true) true t v d ps) :
    ∃ (A : Option Addr) (c : Nat) (ls : List (List Int)), v = .slice A ls.length c ∧ Sl W W.heap.size k A c (ls.map fun l => l.map (Value.int .i64)) ∧ ∀ l, l ∈ ls → l.length = k ∧ ∀ n, n ∈ l → (Lit.int .i64 n).wf = true := by
  obtain ⟨a0, len0, cap0, rfl⟩ := okWide_slice ht hv
  obtain ⟨fuel, hf⟩ := h
  have hf' : DataW.trod enc P W 0 (fun _ => true) true fuel t [.slice a0 len0 cap0] = some (d, ps) := by simpa [Value.cells] using hf
  rcases Go.Deep.open_slice ht hf' with ⟨hcs, _⟩ | ⟨a, len, cap, m, n, D, Pl, hcs, _, hl, hm, hmm, _, hel⟩
  · simp only [List.cons.injEq, and_true, Value.slice.injEq] at hcs
    obtain ⟨rfl, rfl, rfl⟩ := hcs
    exact ⟨none, 0, [], rfl, Sl.nil _ _ _, fun l hl => by simp at hl⟩
  · simp only [List.cons.injEq, and_true, Value.slice.injEq] at hcs
    obtain ⟨rfl, rfl, rfl⟩ := hcs
    have hmc : len0 ≤ m := by rw [hmm]; simp; exact hl
    have hall : ∀ i, ∃ l : List Int, i < len0 → l.length = k ∧ (∀ n, n ∈ l → (Lit.int .i64 n).wf = true) ∧ ∀ (j : Nat) (u : Value), (l.map (Value.int .i64))[j]? = some u → W.cell? (a.add (i * k + j)) = some u := by
      intro i
      by_cases hi2 : i < len0
      · obtain ⟨cs', hcells, htr⟩ := hel i (by omega)
        rw [hc] at hcells
        obtain ⟨h1, h2⟩ := hi H enc W 0 (fun _ => true) true n cs' _ htr
        obtain ⟨l, rfl, hw⟩ := ints_list h2
        obtain ⟨_, h3, h4⟩ := World.cells?_some hcells
        refine ⟨l, fun _ => ⟨by simpa using h3, hw, fun j u hu => ?_⟩⟩
        have hj : j < k := by have := (List.getElem?_eq_some_iff.1 hu).1; simp at this h3; omega
        rw [← Go.Deep.add_add, h4 j hj]
        exact hu
      · exact ⟨[], fun h => absurd h hi2⟩
    obtain ⟨f, hfs⟩ := Classical.axiomOfChoice hall
    refine ⟨some a, cap0, (List.range len0).map f, by simp, ⟨by simpa using hl, hm, ?_, fun hpos => ?_⟩, ?_⟩
    · intro x hx
      simp only [List.map_map, List.mem_map, List.mem_range, Function.comp] at hx
      obtain ⟨i, hi2, rfl⟩ := hx
      exact ⟨f i, (hfs i hi2).1, rfl⟩
    · have hpos' : 0 < len0 := by simpa using hpos
      have h0 : ∃ u, W.cell? a = some u := by
        obtain ⟨h1, _, h3⟩ := hfs 0 hpos'
        have hl0 : 0 < ((f 0).map (Value.int .i64)).length := by simp; omega
        have := h3 0 _ (List.getElem?_eq_getElem hl0)
        simp only [Nat.zero_mul, Nat.add_zero] at this
        have ha : a.add 0 = a := by unfold Addr.add; simp
        rw [ha] at this
        exact ⟨_, this⟩
      obtain ⟨u0, h0⟩ := h0
      have hsp := World.cell?_spot h0
      obtain ⟨b, off, spot⟩ := a
      simp only at hsp
      subst hsp
      refine ⟨b, off, rfl, World.block_lt_of_cell? W _ h0, fun j u hu => ?_⟩
      have hlen : ∀ x, x ∈ ((List.range len0).map f).map (fun l => l.map (Value.int .i64)) → x.length = k := by
        intro x hx
        simp only [List.map_map, List.mem_map, List.mem_range, Function.comp] at hx
        obtain ⟨i, hi2, rfl⟩ := hx
        simpa using (hfs i hi2).1
      have hjl : j < (((List.range len0).map f).map (fun l => l.map (Value.int .i64))).flatten.length := (List.getElem?_eq_some_iff.1 hu).1
      rw [flatten_length _ hlen] at hjl
      simp only [List.length_map, List.length_range] at hjl
      have hi2 : j / k < len0 := Nat.div_lt_of_lt_mul (by rw [Nat.mul_comm]; exact hjl)
      have hr : j % k < k := Nat.mod_lt _ hk
      have hj : j = j / k * k + j % k := by rw [Nat.mul_comm]; exact (Nat.div_add_mod j k).symm
      have hrow : (((List.range len0).map f).map (fun l => l.map (Value.int .i64)))[j / k]? = some ((f (j / k)).map (Value.int .i64)) := by
        simp [hi2]
      have hrl : j % k < ((f (j / k)).map (Value.int .i64)).length := by simp [(hfs _ hi2).1]; exact hr
      have h5 := flatten_at _ hlen (j / k) _ hrow (j % k) _ (List.getElem?_eq_getElem hrl)
      rw [← hj, hu] at h5
      have h6 := (hfs _ hi2).2.2 (j % k) _ (List.getElem?_eq_getElem hrl)
      rw [add_lit, ← hj] at h6
      rw [h5]; exact h6
    · intro l hl2
      simp only [List.mem_map, List.mem_range] at hl2
      obtain ⟨i, hi2, rfl⟩ := hl2
      exact ⟨(hfs i hi2).1, (hfs i hi2).2.1⟩

/-- A struct of ints, by value. -/
theorem read_struct {t : TypeId} {fs : Array Field} (ht : P.underlying t = some (.struct fs)) (hi : IntsT P t) {base : Nat} {r : Reach} {v : Value} {d : DataW H} {ps : List MemPlace}
    (hv : Value.okWide P W r base t v) (h : DataW.Trod enc P W 0 (fun _ => true) true t v d ps) :
    ∃ l : List Int, v = .agg (l.map (Value.int .i64)).toArray ∧ l.length = P.cellsOf t ∧ ∀ n, n ∈ l → (Lit.int .i64 n).wf = true := by
  obtain ⟨cs, rfl, hsz⟩ := okWide_struct ht hv
  obtain ⟨fuel, hf⟩ := h
  obtain ⟨h1, h2⟩ := hi H enc W 0 (fun _ => true) true fuel cs.toList _ (by simpa [Value.cells] using hf)
  obtain ⟨l, hl, hw⟩ := ints_list h2
  refine ⟨l, by rw [← hl], ?_, hw⟩
  have := congrArg List.length hl
  simp at this
  omega

/-- The arguments, read again behind a call that leaves what was there alone. -/
theorem args_below (hl : laidOutB P = true) : ∀ (ts : List TypeId) (vs : List Value) (ds : List (DataW H)) (ps : List MemPlace) (W' : World), (∀ t, t ∈ ts → P.readableRec t = true ∧ t < P.types.size) →
    DataW.TrodAll enc P W 0 (fun _ => true) true ts vs ds ps → Below W.heap.size W W' → (∀ x, x ∈ ps → x.block < W.heap.size) → DataW.TrodAll enc P W' 0 (fun b => decide (b < W.heap.size)) true ts vs ds ps
  | [], vs, ds, ps, W', _, h, _, _ => by
    obtain ⟨rfl, rfl, rfl⟩ := trodAll_nil h
    exact rfl
  | t :: ts, vs, ds, ps, W', hr, h, hb, hlt => by
    obtain ⟨v, vs', d, ds', p, q, rfl, rfl, rfl, h1, h2⟩ := trodAll_cons h
    obtain ⟨r1, r2⟩ := hr t (List.mem_cons_self ..)
    exact ⟨p, q, Below.trod hl r1 r2 h1 hb (fun x hx => hlt x (List.mem_append.2 (.inl hx))), args_below hl ts vs' ds' q W' (fun t ht => hr t (List.mem_cons_of_mem _ ht)) h2 hb (fun x hx => hlt x (List.mem_append.2 (.inr hx))), rfl⟩
theorem wf_bounds {n : Int} (h : (Lit.int .i64 n).wf = true) : -9223372036854775808 ≤ n ∧ n ≤ 9223372036854775807 := by
  have h1 : IntKind.i64.min = -9223372036854775808 := rfl
  have h2 : IntKind.i64.max = 9223372036854775807 := rfl
  simp [Lit.wf, h1, h2] at h
  exact h
end
end Go.Proofs.YtlinhgannajfpaaGreatDoor

/- Reading of arguments: structs of ints and slices of them. -/
namespace Go.Proofs.YtlinhgannajfpaaGreatDoor
open Go Go.RowKit Go.ChangeShapes Go.WideShapes Go.ChangeAt

def coverB (P : Program) (fs : Array Field) (n : Nat) : Bool := (List.range n).all fun j => (List.range fs.size).any fun i => match fs[i]? with | some f => decide (f.offset ≤ j) && decide (j < f.offset + P.cellsOf f.type) | none => false
theorem cover_of {P : Program} {fs : Array Field} {n : Nat} (h : coverB P fs n = true) : ∀ j, j < n → ∃ (i : Nat) (f : Field), fs[i]? = some f ∧ f.offset ≤ j ∧ j < f.offset + P.cellsOf f.type := fun j hj => by
  unfold coverB at h
  rw [List.all_eq_true] at h
  have h1 := h j (List.mem_range.2 hj)
  rw [List.any_eq_true] at h1
  obtain ⟨i, hi, h2⟩ := h1
  cases hf : fs[i]? with
  | none => rw [hf] at h2; cases h2
  | some f =>
    rw [hf] at h2
    simp only [Bool.and_eq_true, decide_eq_true_eq] at h2
    exact ⟨i, f, hf, h2.1, h2.2⟩
theorem own_ : ownKnob Tryz.prog.godebug = none := by kernel_rfl
theorem laidOut_ : laidOutB Tryz.prog = true := by kernel_rfl
theorem cells_int : Tryz.prog.cellsOf 3 = 1 := by kernel_rfl
theorem cells_St : Tryz.prog.cellsOf 23 = 4 := by kernel_rfl
theorem cells_Pt : Tryz.prog.cellsOf 25 = 3 := by kernel_rfl
theorem cells_Bx : Tryz.prog.cellsOf 27 = 6 := by kernel_rfl
theorem cells_Ed : Tryz.prog.cellsOf 29 = 17 := by kernel_rfl
theorem ints_int_ : IntsT Tryz.prog 3 := ints_int Tryz.underlying3 (by kernel_rfl)
theorem ints_St : IntsT Tryz.prog 23 := by
  refine ints_struct Tryz.underlying23 (fun i f h => ?_) (fun j hj => ?_)
  · match i, h with
    | 0, h => injection h with h; subst h; exact ints_int_
    | 1, h => injection h with h; subst h; exact ints_int_
    | 2, h => injection h with h; subst h; exact ints_int_
    | 3, h => injection h with h; subst h; exact ints_int_
    | i + 4, h => simp at h
  · exact cover_of (by kernel_rfl) j hj
theorem ints_Pt : IntsT Tryz.prog 25 := by
  refine ints_struct Tryz.underlying25 (fun i f h => ?_) (fun j hj => ?_)
  · match i, h with
    | 0, h => injection h with h; subst h; exact ints_int_
    | 1, h => injection h with h; subst h; exact ints_int_
    | 2, h => injection h with h; subst h; exact ints_int_
    | i + 3, h => simp at h
  · exact cover_of (by kernel_rfl) j hj
theorem ints_Bx : IntsT Tryz.prog 27 := by
  refine ints_struct Tryz.underlying27 (fun i f h => ?_) (fun j hj => ?_)
  · match i, h with
    | 0, h => injection h with h; subst h; exact ints_Pt
    | 1, h => injection h with h; subst h; exact ints_Pt
    | i + 2, h => simp at h
  · exact cover_of (by kernel_rfl) j hj
theorem ints_Ed : IntsT Tryz.prog 29 := by
  refine ints_struct Tryz.underlying29 (fun i f h => ?_) (fun j hj => ?_)
  · match i, h with
    | 0, h => injection h with h; subst h; exact ints_St
    | 1, h => injection h with h; subst h; exact ints_int_
    | 2, h => injection h with h; subst h; exact ints_Bx
    | 3, h => injection h with h; subst h; exact ints_Pt
    | 4, h => injection h with h; subst h; exact ints_int_
    | 5, h => injection h with h; subst h; exact ints_int_
    | 6, h => injection h with h; subst h; exact ints_int_
    | i + 7, h => simp at h
  · exact cover_of (by kernel_rfl) j hj
def Ed.ints (x : Ed) : List Int := [x.st.tick, x.st.clock, x.st.site, x.st.seq, x.kind, x.box.lo.x, x.box.lo.y, x.box.lo.z, x.box.hi.x, x.box.hi.y, x.box.hi.z, x.at_.x, x.at_.y, x.at_.z, x.turn, x.cell, x.size]
def Pt.ints (x : Pt) : List Int := [x.x, x.y, x.z]
set_option maxRecDepth 100000 in
theorem read_Eds {H : Type} {enc : TypeId × Value → H} {W : World} {base : Nat} {r : Reach} {v : Value} {d : DataW H} {ps : List MemPlace}
    (hv : Value.okWide Tryz.prog W r base 35 v) (h : DataW.Trod enc Tryz.prog W 0 (fun _ => true) true 35 v d ps) :
    ∃ (A : Option Addr) (c : Nat) (l : List Ed), v = .slice A l.length c ∧ Sv W W.heap.size 17 A c (rowsE l) ∧ ∀ y, y ∈ l → ∀ n, n ∈ y.ints → (Lit.int .i64 n).wf = true := by
  obtain ⟨A, c, ls, rfl, hs, hl⟩ := read_rows Tryz.underlying35 cells_Ed (by decide) ints_Ed hv h
  obtain ⟨l, hll, hfit⟩ : ∃ l : List Ed, ls.map (fun l => l.map (Value.int .i64)) = rowsE l ∧ ∀ y, y ∈ l → ∀ n, n ∈ y.ints → (Lit.int .i64 n).wf = true := by
    clear hs hv h
    induction ls with
    | nil => exact ⟨[], rfl, by simp⟩
    | cons x xs ih =>
      obtain ⟨l, hl', hfit⟩ := ih (fun y hy => hl y (List.mem_cons_of_mem _ hy))
      obtain ⟨h3, h4⟩ := hl x (List.mem_cons_self ..)
      match x, h3, h4 with
      | [a0, a1, a2, a3, a4, a5, a6, a7, a8, a9, a10, a11, a12, a13, a14, a15, a16], _, h4 => exact ⟨⟨⟨a0, a1, a2, a3⟩, a4, ⟨⟨a5, a6, a7⟩, ⟨a8, a9, a10⟩⟩, ⟨a11, a12, a13⟩, a14, a15, a16⟩ :: l, by unfold rowsE at hl' ⊢; simp only [List.map_cons, hl']; rfl, fun y hy => by
        rcases List.mem_cons.1 hy with rfl | hy
        · exact h4
        · exact hfit y hy⟩
  rw [hll] at hs
  have hlen := congrArg List.length hll
  unfold rowsE at hlen
  simp only [List.length_map] at hlen
  exact ⟨A, c, l, by rw [hlen], hs.sv, hfit⟩
set_option maxRecDepth 100000 in
theorem read_Ed {H : Type} {enc : TypeId × Value → H} {W : World} {base : Nat} {r : Reach} {v : Value} {d : DataW H} {ps : List MemPlace}
    (hv : Value.okWide Tryz.prog W r base 29 v) (h : DataW.Trod enc Tryz.prog W 0 (fun _ => true) true 29 v d ps) : ∃ x : Ed, v = .agg (x.ints.map (Value.int .i64)).toArray ∧ ∀ n, n ∈ x.ints → (Lit.int .i64 n).wf = true := by
  obtain ⟨l, rfl, hl, hw⟩ := read_struct Tryz.underlying29 ints_Ed hv h
  rw [cells_Ed] at hl
  match l, hl, hw with
  | [a0, a1, a2, a3, a4, a5, a6, a7, a8, a9, a10, a11, a12, a13, a14, a15, a16], _, hw => exact ⟨⟨⟨a0, a1, a2, a3⟩, a4, ⟨⟨a5, a6, a7⟩, ⟨a8, a9, a10⟩⟩, ⟨a11, a12, a13⟩, a14, a15, a16⟩, rfl, hw⟩
set_option maxRecDepth 100000 in
theorem read_Pt {H : Type} {enc : TypeId × Value → H} {W : World} {base : Nat} {r : Reach} {v : Value} {d : DataW H} {ps : List MemPlace}
    (hv : Value.okWide Tryz.prog W r base 25 v) (h : DataW.Trod enc Tryz.prog W 0 (fun _ => true) true 25 v d ps) : ∃ x : Pt, v = .agg (x.ints.map (Value.int .i64)).toArray ∧ ∀ n, n ∈ x.ints → (Lit.int .i64 n).wf = true := by
  obtain ⟨l, rfl, hl, hw⟩ := read_struct Tryz.underlying25 ints_Pt hv h
  rw [cells_Pt] at hl
  match l, hl, hw with
  | [a0, a1, a2], _, hw => exact ⟨⟨a0, a1, a2⟩, rfl, hw⟩
end Go.Proofs.YtlinhgannajfpaaGreatDoor

/- Reading of an argument: a slice of bytes. -/
namespace Go.Proofs.YtlinhgannajfpaaGreatDoor
open Go Go.RowKit Go.ChangeShapes Go.WideShapes Go.ChangeAt

theorem rowsB_flat (l : List UInt8) : (rowsB l).flatten = l.map fun x => Value.int .u8 (x.toNat : Int) := by
  unfold rowsB
  induction l with
  | nil => rfl
  | cons x xs ih => simp only [List.map_cons, List.flatten_cons, ih]; rfl
theorem byte_of {n : Int} (h : (Lit.int .u8 n).wf = true) : ∃ x : UInt8, n = (x.toNat : Int) := by
  have h1 : 0 ≤ n ∧ n ≤ 255 := by simpa [Lit.wf, IntKind.min, IntKind.max, IntKind.signed, IntKind.bits] using h
  refine ⟨UInt8.ofNat n.toNat, ?_⟩
  rw [UInt8.toNat_ofNat']
  omega
set_option maxRecDepth 100000 in
theorem read_Bs {H : Type} {enc : TypeId × Value → H} {W : World} {base : Nat} {r : Reach} {v : Value} {d : DataW H} {ps : List MemPlace}
    (hv : Value.okWide Tryz.prog W r base 42 v) (h : DataW.Trod enc Tryz.prog W 0 (fun _ => true) true 42 v d ps) :
    ∃ (A : Option Addr) (c : Nat) (l : List UInt8), v = .slice A l.length c ∧ Sv W W.heap.size 1 A c (rowsB l) := by
  have hc : Tryz.prog.cellsOf 5 = 1 := by kernel_rfl
  obtain ⟨a0, len0, cap0, rfl⟩ := okWide_slice Tryz.underlying42 hv
  obtain ⟨fuel, hf⟩ := h
  have hf' : DataW.trod enc Tryz.prog W 0 (fun _ => true) true fuel 42 [.slice a0 len0 cap0] = some (d, ps) := by simpa [Value.cells] using hf
  rcases Go.Deep.open_slice Tryz.underlying42 hf' with ⟨hcs, _⟩ | ⟨a, len, cap, m, n, D, Pl, hcs, _, hl, hm, hmm, _, hel⟩
  · simp only [List.cons.injEq, and_true, Value.slice.injEq] at hcs
    obtain ⟨rfl, rfl, rfl⟩ := hcs
    exact ⟨none, 0, [], rfl, Sv.nil _ _ _⟩
  · simp only [List.cons.injEq, and_true, Value.slice.injEq] at hcs
    obtain ⟨rfl, rfl, rfl⟩ := hcs
    have hmc : len0 ≤ m := by rw [hmm]; simp; exact hl
    have hall : ∀ i, ∃ x : UInt8, i < len0 → W.cell? (a.add i) = some (.int .u8 (x.toNat : Int)) := by
      intro i
      by_cases hi2 : i < len0
      · obtain ⟨cs', hcells, htr⟩ := hel i (by omega)
        rw [hc] at hcells
        obtain ⟨nn, h1, _, hw⟩ := DataW.trod_int Tryz.underlying5 htr
        obtain ⟨x, rfl⟩ := byte_of hw
        obtain ⟨_, h3, h4⟩ := World.cells?_some hcells
        refine ⟨x, fun _ => ?_⟩
        have h5 := h4 0 (by decide)
        rw [Go.Deep.add_add, Nat.add_zero, Nat.mul_one] at h5
        rw [h5]
        rw [h1]
        rfl
      · exact ⟨0, fun h => absurd h hi2⟩
    obtain ⟨f, hfs⟩ := Classical.axiomOfChoice hall
    refine ⟨some a, cap0, (List.range len0).map f, by simp, ⟨by simpa [rowsB] using hl, hm, rowsB_rwk _, fun hpos => ?_⟩⟩
    have hpos' : 0 < len0 := by simpa [rowsB] using hpos
    have h0 := hfs 0 hpos'
    have ha : a.add 0 = a := by unfold Addr.add; simp
    rw [ha] at h0
    have hsp := World.cell?_spot h0
    obtain ⟨b, off, spot⟩ := a
    simp only at hsp
    subst hsp
    refine ⟨b, off, rfl, World.block_lt_of_cell? W _ h0, fun j u hu => ?_⟩
    rw [rowsB_flat, List.map_map, List.getElem?_map] at hu
    obtain ⟨i, hi, rfl⟩ := Option.map_eq_some_iff.1 hu
    obtain ⟨hlt, rfl⟩ := List.getElem?_eq_some_iff.1 hi
    simp only [List.length_range] at hlt
    have h6 := hfs j hlt
    rw [add_lit] at h6
    simpa using h6
end Go.Proofs.YtlinhgannajfpaaGreatDoor

/- Contract of the reference's layer of edits: Check; and that it is the program's. -/
namespace Go.Proofs.YtlinhgannajfpaaGreatDoor
open Go Go.RowKit

def hiE (x : Ed) (s : Int) : Bool := decide (x.box.hi.x ≤ s) && (decide (x.box.hi.y ≤ s) && decide (x.box.hi.z ≤ s))
def boxE (x : Ed) (s : Int) : Bool := !emptyB x.box && (inP x.box.lo (cubeB s) && hiE x s)
def turnE (x : Ed) : Bool := decide (0 ≤ x.turn) && decide (x.turn < 48)
def cellE (x : Ed) (m : Int) : Bool := decide (0 ≤ x.cell) && decide (x.cell < m)
def okE (x : Ed) (s m : Int) : Bool :=
  if x.kind = 1 then boxE x s && cellE x m
  else if x.kind = 2 then inP x.at_ (cubeB s) && (cellE x m && (decide (1 ≤ x.size) && decide (x.size ≤ 4096)))
  else if x.kind = 3 then boxE x s && (turnE x && cellE x m)
  else if x.kind = 4 then boxE x s && (inP x.at_ (cubeB s) && turnE x)
  else if x.kind = 5 then inP x.at_ (cubeB s) && (cellE x m && (decide (1 ≤ x.size) && decide (x.size ≤ 32768)))
  else if x.kind = 7 then boxE x s && (decide (x.st.tick ≤ x.size) && decide (x.size ≤ 4000))
  else decide (1 ≤ x.size) && decide (x.size < x.st.seq)
def checkR (x : Ed) (d m : Int) : Int := if decide (2 ≤ d ∧ d ≤ 14) then (if decide (1 ≤ m ∧ m ≤ 256) && formedE x then (if okE x (2 ^ d.toNat) m then 0 else 1) else 1) else 13

set_option maxRecDepth 100000 in
set_option maxHeartbeats 4000000 in
theorem refCheck_depth (x : Ed) (d m : Int) (w : World) (h : ¬ (2 ≤ d ∧ d ≤ 14)) :
    Calls Tryz.prog 12 #[.agg #[.int .i64 x.st.tick, .int .i64 x.st.clock, .int .i64 x.st.site, .int .i64 x.st.seq, .int .i64 x.kind, .int .i64 x.box.lo.x, .int .i64 x.box.lo.y, .int .i64 x.box.lo.z, .int .i64 x.box.hi.x, .int .i64 x.box.hi.y, .int .i64 x.box.hi.z, .int .i64 x.at_.x, .int .i64 x.at_.y, .int .i64 x.at_.z, .int .i64 x.turn, .int .i64 x.cell, .int .i64 x.size], .int .i64 d, .int .i64 m] w fun e w' => e = .returned (.int .i64 13) ∧ Ext w w' := by
  go_enter Tryz.func12, Tryz.ntmps12
  by_cases h1 : d < 2
  · go_wp2
    go_ret
    exact ⟨rfl, byX⟩
  · have h2 : 14 < d := by omega
    go_wp2
    go_ret
    exact ⟨rfl, byX⟩
set_option maxRecDepth 100000 in
set_option maxHeartbeats 4000000 in
theorem refCheck_out (x : Ed) (d m : Int) (w : World) (hd : 2 ≤ d ∧ d ≤ 14) (h : ¬ (1 ≤ m ∧ m ≤ 256) ∨ formedE x = false) :
    Calls Tryz.prog 12 #[.agg #[.int .i64 x.st.tick, .int .i64 x.st.clock, .int .i64 x.st.site, .int .i64 x.st.seq, .int .i64 x.kind, .int .i64 x.box.lo.x, .int .i64 x.box.lo.y, .int .i64 x.box.lo.z, .int .i64 x.box.hi.x, .int .i64 x.box.hi.y, .int .i64 x.box.hi.z, .int .i64 x.at_.x, .int .i64 x.at_.y, .int .i64 x.at_.z, .int .i64 x.turn, .int .i64 x.cell, .int .i64 x.size], .int .i64 d, .int .i64 m] w fun e w' => e = .returned (.int .i64 1) ∧ Ext w w' := by
  have HF := Lib.hid (fun w' : World => refFormed_any x w')
  have d1 : ¬ d < 2 := by omega
  have d2 : ¬ 14 < d := by omega
  by_cases h1 : m < 1
  · clear h
    generalize formedE x = bf at HF
    go_enter Tryz.func12, Tryz.ntmps12
    go_upto_region 1 with fail
    obtain ⟨W0, hW⟩ : ∃ W, W = w.alloc (.cells #[.int .i64 x.st.tick, .int .i64 x.st.clock, .int .i64 x.st.site, .int .i64 x.st.seq, .int .i64 x.kind, .int .i64 x.box.lo.x, .int .i64 x.box.lo.y, .int .i64 x.box.lo.z, .int .i64 x.box.hi.x, .int .i64 x.box.hi.y, .int .i64 x.box.hi.z, .int .i64 x.at_.x, .int .i64 x.at_.y, .int .i64 x.at_.z, .int .i64 x.turn, .int .i64 x.cell, .int .i64 x.size] 29) := ⟨_, rfl⟩
    have hx0 : Ext w W0 := by rw [hW]; exact (Ext.refl w).alloc _
    have B0 : Arr W0 w.heap.size 29 [.int .i64 x.st.tick, .int .i64 x.st.clock, .int .i64 x.st.site, .int .i64 x.st.seq, .int .i64 x.kind, .int .i64 x.box.lo.x, .int .i64 x.box.lo.y, .int .i64 x.box.lo.z, .int .i64 x.box.hi.x, .int .i64 x.box.hi.y, .int .i64 x.box.hi.z, .int .i64 x.at_.x, .int .i64 x.at_.y, .int .i64 x.at_.z, .int .i64 x.turn, .int .i64 x.cell, .int .i64 x.size] := by rw [hW]; exact Arr.new w _ _
    rw [← hW]
    clear hW
    have cB0 := B0.cell
    have fB0 := B0.frozen
    have lB0 := B0.lt
    go_wp2_with (first | (refine wpList_load_blk 29 (.tmp 3) rfl rfl B0 rfl _ Tryz.underlying29 rfl (by kernel_rfl) ?_) | (refine wpList_load_blk 29 (.tmp 3) rfl rfl (B0.alloc _) rfl _ Tryz.underlying29 rfl (by kernel_rfl) ?_) | (refine wpList_load_blk 29 (.tmp 3) rfl rfl ((B0.alloc _).alloc _) rfl _ Tryz.underlying29 rfl (by kernel_rfl) ?_))
    ((refine (HF.out _).mono ?_); rintro e wx ⟨rfl, xx⟩; have xz := xx.size; (try simp only [World.size_alloc_, World.size_setCell_] at xz); have B0 := Arr.ext (w' := wx) B0 byX; have cB0 := B0.cell; have fB0 := B0.frozen; have lB0 := B0.lt)
    go_wp2
    go_ret
    exact ⟨rfl, byX⟩
  · by_cases h2 : 256 < m
    · clear h
      generalize formedE x = bf at HF
      go_enter Tryz.func12, Tryz.ntmps12
      go_upto_region 1 with fail
      obtain ⟨W0, hW⟩ : ∃ W, W = w.alloc (.cells #[.int .i64 x.st.tick, .int .i64 x.st.clock, .int .i64 x.st.site, .int .i64 x.st.seq, .int .i64 x.kind, .int .i64 x.box.lo.x, .int .i64 x.box.lo.y, .int .i64 x.box.lo.z, .int .i64 x.box.hi.x, .int .i64 x.box.hi.y, .int .i64 x.box.hi.z, .int .i64 x.at_.x, .int .i64 x.at_.y, .int .i64 x.at_.z, .int .i64 x.turn, .int .i64 x.cell, .int .i64 x.size] 29) := ⟨_, rfl⟩
      have hx0 : Ext w W0 := by rw [hW]; exact (Ext.refl w).alloc _
      have B0 : Arr W0 w.heap.size 29 [.int .i64 x.st.tick, .int .i64 x.st.clock, .int .i64 x.st.site, .int .i64 x.st.seq, .int .i64 x.kind, .int .i64 x.box.lo.x, .int .i64 x.box.lo.y, .int .i64 x.box.lo.z, .int .i64 x.box.hi.x, .int .i64 x.box.hi.y, .int .i64 x.box.hi.z, .int .i64 x.at_.x, .int .i64 x.at_.y, .int .i64 x.at_.z, .int .i64 x.turn, .int .i64 x.cell, .int .i64 x.size] := by rw [hW]; exact Arr.new w _ _
      rw [← hW]
      clear hW
      have cB0 := B0.cell
      have fB0 := B0.frozen
      have lB0 := B0.lt
      go_wp2_with (first | (refine wpList_load_blk 29 (.tmp 3) rfl rfl B0 rfl _ Tryz.underlying29 rfl (by kernel_rfl) ?_) | (refine wpList_load_blk 29 (.tmp 3) rfl rfl (B0.alloc _) rfl _ Tryz.underlying29 rfl (by kernel_rfl) ?_) | (refine wpList_load_blk 29 (.tmp 3) rfl rfl ((B0.alloc _).alloc _) rfl _ Tryz.underlying29 rfl (by kernel_rfl) ?_))
      ((refine (HF.out _).mono ?_); rintro e wx ⟨rfl, xx⟩; have xz := xx.size; (try simp only [World.size_alloc_, World.size_setCell_] at xz); have B0 := Arr.ext (w' := wx) B0 byX; have cB0 := B0.cell; have fB0 := B0.frozen; have lB0 := B0.lt)
      go_wp2
      go_ret
      exact ⟨rfl, byX⟩
    · have hf : formedE x = false := h.resolve_left (fun hh => hh ⟨by omega, by omega⟩)
      rw [hf] at HF
      clear h hf
      go_enter Tryz.func12, Tryz.ntmps12
      go_upto_region 1 with fail
      obtain ⟨W0, hW⟩ : ∃ W, W = w.alloc (.cells #[.int .i64 x.st.tick, .int .i64 x.st.clock, .int .i64 x.st.site, .int .i64 x.st.seq, .int .i64 x.kind, .int .i64 x.box.lo.x, .int .i64 x.box.lo.y, .int .i64 x.box.lo.z, .int .i64 x.box.hi.x, .int .i64 x.box.hi.y, .int .i64 x.box.hi.z, .int .i64 x.at_.x, .int .i64 x.at_.y, .int .i64 x.at_.z, .int .i64 x.turn, .int .i64 x.cell, .int .i64 x.size] 29) := ⟨_, rfl⟩
      have hx0 : Ext w W0 := by rw [hW]; exact (Ext.refl w).alloc _
      have B0 : Arr W0 w.heap.size 29 [.int .i64 x.st.tick, .int .i64 x.st.clock, .int .i64 x.st.site, .int .i64 x.st.seq, .int .i64 x.kind, .int .i64 x.box.lo.x, .int .i64 x.box.lo.y, .int .i64 x.box.lo.z, .int .i64 x.box.hi.x, .int .i64 x.box.hi.y, .int .i64 x.box.hi.z, .int .i64 x.at_.x, .int .i64 x.at_.y, .int .i64 x.at_.z, .int .i64 x.turn, .int .i64 x.cell, .int .i64 x.size] := by rw [hW]; exact Arr.new w _ _
      rw [← hW]
      clear hW
      have cB0 := B0.cell
      have fB0 := B0.frozen
      have lB0 := B0.lt
      go_wp2_with (first | (refine wpList_load_blk 29 (.tmp 3) rfl rfl B0 rfl _ Tryz.underlying29 rfl (by kernel_rfl) ?_) | (refine wpList_load_blk 29 (.tmp 3) rfl rfl (B0.alloc _) rfl _ Tryz.underlying29 rfl (by kernel_rfl) ?_) | (refine wpList_load_blk 29 (.tmp 3) rfl rfl ((B0.alloc _).alloc _) rfl _ Tryz.underlying29 rfl (by kernel_rfl) ?_))
      ((refine (HF.out _).mono ?_); rintro e wx ⟨rfl, xx⟩; have xz := xx.size; (try simp only [World.size_alloc_, World.size_setCell_] at xz); have B0 := Arr.ext (w' := wx) B0 byX; have cB0 := B0.cell; have fB0 := B0.frozen; have lB0 := B0.lt)
      go_wp2
      go_ret
      exact ⟨rfl, byX⟩

theorem okE_def (x : Ed) (s m : Int) : okE x s m = (if x.kind = 1 then boxE x s && cellE x m
  else if x.kind = 2 then inP x.at_ (cubeB s) && (cellE x m && (decide (1 ≤ x.size) && decide (x.size ≤ 4096)))
  else if x.kind = 3 then boxE x s && (turnE x && cellE x m)
  else if x.kind = 4 then boxE x s && (inP x.at_ (cubeB s) && turnE x)
  else if x.kind = 5 then inP x.at_ (cubeB s) && (cellE x m && (decide (1 ≤ x.size) && decide (x.size ≤ 32768)))
  else if x.kind = 7 then boxE x s && (decide (x.st.tick ≤ x.size) && decide (x.size ≤ 4000))
  else decide (1 ≤ x.size) && decide (x.size < x.st.seq)) := rfl
set_option maxRecDepth 100000 in
set_option maxHeartbeats 16000000 in
theorem refCheck_in (x : Ed) (d m : Int) (w : World) (hd : 2 ≤ d ∧ d ≤ 14) (hm : 1 ≤ m ∧ m ≤ 256) (hf : formedE x = true) (hkk : x.kind = 1 ∨ x.kind = 2 ∨ x.kind = 3 ∨ x.kind = 4 ∨ x.kind = 5 ∨ x.kind = 6 ∨ x.kind = 7 ∨ x.kind = 8) :
    Calls Tryz.prog 12 #[.agg #[.int .i64 x.st.tick, .int .i64 x.st.clock, .int .i64 x.st.site, .int .i64 x.st.seq, .int .i64 x.kind, .int .i64 x.box.lo.x, .int .i64 x.box.lo.y, .int .i64 x.box.lo.z, .int .i64 x.box.hi.x, .int .i64 x.box.hi.y, .int .i64 x.box.hi.z, .int .i64 x.at_.x, .int .i64 x.at_.y, .int .i64 x.at_.z, .int .i64 x.turn, .int .i64 x.cell, .int .i64 x.size], .int .i64 d, .int .i64 m] w fun e w' => e = .returned (.int .i64 (if okE x (2 ^ d.toNat) m then 0 else 1)) ∧ Ext w w' := by
  have HF := Lib.hid (fun w' : World => hf ▸ refFormed_any x w')
  have HQ := Lib.hid (fun w' : World => refcube_any d hd w')
  have hok := okE_def x (2 ^ d.toNat) m
  generalize (2 : Int) ^ d.toNat = S at HQ hok ⊢
  have HE := Lib.hid (fun w' : World => refEmpty_any x.box w')
  have HL := Lib.hid (fun w' : World => refIn_any x.box.lo (cubeB S) w')
  have HA := Lib.hid (fun w' : World => refIn_any x.at_ (cubeB S) w')
  have HB1 := Lib.hid (show boxE x S = (!emptyB x.box && (inP x.box.lo (cubeB S) && hiE x S)) from rfl)
  have HH := Lib.hid (show hiE x S = (decide (x.box.hi.x ≤ S) && (decide (x.box.hi.y ≤ S) && decide (x.box.hi.z ≤ S))) from rfl)
  have HT := Lib.hid (show turnE x = (decide (0 ≤ x.turn) && decide (x.turn < 48)) from rfl)
  have HC := Lib.hid (show cellE x m = (decide (0 ≤ x.cell) && decide (x.cell < m)) from rfl)
  obtain ⟨R, hR⟩ : ∃ R : Int, R = (if okE x S m then 0 else 1) := ⟨_, rfl⟩
  rw [← hR]
  rw [hok] at hR
  clear hok
  generalize emptyB x.box = be at HE HB1
  generalize inP x.box.lo (cubeB S) = bl at HL HB1
  generalize inP x.at_ (cubeB S) = ba at HA hR
  generalize hiE x S = bh at HB1 HH
  generalize boxE x S = bx at HB1 hR
  generalize turnE x = bt at HT hR
  generalize cellE x m = bc at HC hR
  have HR := Lib.hid hR
  have HKK := Lib.hid hkk
  have d1 : ¬ d < 2 := by omega
  have d2 : ¬ 14 < d := by omega
  have m1 : ¬ m < 1 := by omega
  have m2 : ¬ 256 < m := by omega
  clear hd hm hf hR hkk
  simp only [cubeB] at HQ HL HA
  go_enter Tryz.func12, Tryz.ntmps12
  go_upto_region 1 with fail
  obtain ⟨W0, hW⟩ : ∃ W, W = w.alloc (.cells #[.int .i64 x.st.tick, .int .i64 x.st.clock, .int .i64 x.st.site, .int .i64 x.st.seq, .int .i64 x.kind, .int .i64 x.box.lo.x, .int .i64 x.box.lo.y, .int .i64 x.box.lo.z, .int .i64 x.box.hi.x, .int .i64 x.box.hi.y, .int .i64 x.box.hi.z, .int .i64 x.at_.x, .int .i64 x.at_.y, .int .i64 x.at_.z, .int .i64 x.turn, .int .i64 x.cell, .int .i64 x.size] 29) := ⟨_, rfl⟩
  have hx0 : Ext w W0 := by rw [hW]; exact (Ext.refl w).alloc _
  have B0 : Arr W0 w.heap.size 29 [.int .i64 x.st.tick, .int .i64 x.st.clock, .int .i64 x.st.site, .int .i64 x.st.seq, .int .i64 x.kind, .int .i64 x.box.lo.x, .int .i64 x.box.lo.y, .int .i64 x.box.lo.z, .int .i64 x.box.hi.x, .int .i64 x.box.hi.y, .int .i64 x.box.hi.z, .int .i64 x.at_.x, .int .i64 x.at_.y, .int .i64 x.at_.z, .int .i64 x.turn, .int .i64 x.cell, .int .i64 x.size] := by rw [hW]; exact Arr.new w _ _
  rw [← hW]
  clear hW
  have cB0 := B0.cell
  have fB0 := B0.frozen
  have lB0 := B0.lt
  generalize (.agg #[.int .i64 x.st.tick, .int .i64 x.st.clock, .int .i64 x.st.site, .int .i64 x.st.seq, .int .i64 x.kind, .int .i64 x.box.lo.x, .int .i64 x.box.lo.y, .int .i64 x.box.lo.z, .int .i64 x.box.hi.x, .int .i64 x.box.hi.y, .int .i64 x.box.hi.z, .int .i64 x.at_.x, .int .i64 x.at_.y, .int .i64 x.at_.z, .int .i64 x.turn, .int .i64 x.cell, .int .i64 x.size] : Value) = V0
  go_wp2_with (first | (refine wpList_load_blk 29 (.tmp 3) rfl rfl B0 rfl _ Tryz.underlying29 rfl (by kernel_rfl) ?_) | (refine wpList_load_blk 29 (.tmp 3) rfl rfl (B0.alloc _) rfl _ Tryz.underlying29 rfl (by kernel_rfl) ?_) | (refine wpList_load_blk 29 (.tmp 3) rfl rfl ((B0.alloc _).alloc _) rfl _ Tryz.underlying29 rfl (by kernel_rfl) ?_))
  ((refine (HF.out _).mono ?_); rintro e wx ⟨rfl, xx⟩; have xz := xx.size; (try simp only [World.size_alloc_, World.size_setCell_] at xz); have B0 := Arr.ext (w' := wx) B0 byX; have cB0 := B0.cell; have fB0 := B0.frozen; have lB0 := B0.lt)
  go_wp2_with fail
  ((refine (HQ.out _).mono ?_); rintro e wa ⟨rfl, xx⟩; have xz := xx.size; (try simp only [World.size_alloc_, World.size_setCell_] at xz); have B0 := Arr.ext (w' := wa) B0 byX; have cB0 := B0.cell; have fB0 := B0.frozen; have lB0 := B0.lt)
  go_wp2_with (first | (refine wpList_load_part 27 (.tmp 38) rfl rfl B0 5 [.int .i64 x.box.lo.x, .int .i64 x.box.lo.y, .int .i64 x.box.lo.z, .int .i64 x.box.hi.x, .int .i64 x.box.hi.y, .int .i64 x.box.hi.z] rfl rfl _ Tryz.underlying27 rfl (by kernel_rfl) ?_) | (refine wpList_load_part 27 (.tmp 38) rfl rfl (B0.alloc _) 5 [.int .i64 x.box.lo.x, .int .i64 x.box.lo.y, .int .i64 x.box.lo.z, .int .i64 x.box.hi.x, .int .i64 x.box.hi.y, .int .i64 x.box.hi.z] rfl rfl _ Tryz.underlying27 rfl (by kernel_rfl) ?_))
  ((refine (HE.out _).mono ?_); rintro e wx ⟨rfl, xx⟩; have xz := xx.size; (try simp only [World.size_alloc_] at xz); have B0 := Arr.ext (w' := wx) B0 byX; have cB0 := B0.cell; have fB0 := B0.frozen; have lB0 := B0.lt)
  have B1 := (Arr.new wa 27 [.int .i64 0, .int .i64 0, .int .i64 0, .int .i64 S, .int .i64 S, .int .i64 S]).ext xx
  have cB1 := B1.cell
  have fB1 := B1.frozen
  have lB1 := B1.lt
  go_wp2_with (first | (refine wpList_load_part 25 (.tmp 42) rfl rfl B0 5 [.int .i64 x.box.lo.x, .int .i64 x.box.lo.y, .int .i64 x.box.lo.z] rfl rfl _ Tryz.underlying25 rfl (by kernel_rfl) ?_) | (refine wpList_load_part 25 (.tmp 42) rfl rfl (B0.alloc _) 5 [.int .i64 x.box.lo.x, .int .i64 x.box.lo.y, .int .i64 x.box.lo.z] rfl rfl _ Tryz.underlying25 rfl (by kernel_rfl) ?_) | (refine wpList_load_blk 27 (.tmp 8) rfl rfl B1 rfl _ Tryz.underlying27 rfl (by kernel_rfl) ?_) | (refine wpList_load_blk 27 (.tmp 8) rfl rfl (B1.alloc _) rfl _ Tryz.underlying27 rfl (by kernel_rfl) ?_) | (refine wpList_load_blk 27 (.tmp 8) rfl rfl ((B1.alloc _).alloc _) rfl _ Tryz.underlying27 rfl (by kernel_rfl) ?_))
  ((refine (HL.out _).mono ?_); rintro e wi ⟨rfl, xx⟩; have xz := xx.size; (try simp only [World.size_alloc_, World.size_setCell_] at xz); have B0 := Arr.ext (w' := wi) B0 byX; have cB0 := B0.cell; have fB0 := B0.frozen; have lB0 := B0.lt; have B1 := Arr.ext (w' := wi) B1 byX; have cB1 := B1.cell; have fB1 := B1.frozen; have lB1 := B1.lt)
  go_upto_region 10 with (first | (refine wpList_load_part 25 (.tmp 47) rfl rfl B0 8 [.int .i64 x.box.hi.x, .int .i64 x.box.hi.y, .int .i64 x.box.hi.z] rfl rfl _ Tryz.underlying25 rfl (by kernel_rfl) ?_) | (refine wpList_load_part 25 (.tmp 47) rfl rfl (B0.alloc _) 8 [.int .i64 x.box.hi.x, .int .i64 x.box.hi.y, .int .i64 x.box.hi.z] rfl rfl _ Tryz.underlying25 rfl (by kernel_rfl) ?_))
  have hx1 : Ext w wi := byX
  obtain ⟨W1, hW1⟩ : ∃ W, W = wi.alloc (.cells #[.int .i64 x.box.hi.x, .int .i64 x.box.hi.y, .int .i64 x.box.hi.z] 25) := ⟨_, rfl⟩
  have hx2 : Ext w W1 := by rw [hW1]; exact hx1.alloc _
  have B2 : Arr W1 wi.heap.size 25 [.int .i64 x.box.hi.x, .int .i64 x.box.hi.y, .int .i64 x.box.hi.z] := by rw [hW1]; exact Arr.new wi _ _
  have B0 : Arr W1 _ _ _ := hW1 ▸ B0.alloc _
  have B1 : Arr W1 _ _ _ := hW1 ▸ B1.alloc _
  rw [← hW1]
  have cB0 := B0.cell
  have cB1 := B1.cell
  have cB2 := B2.cell
  clear hW1
  go_cut [12] (fun v wc => v = .bool bh ∧ wc = W1)
  case first =>
    go_wp2
    all_goals
      go_meet
      case rel => exact ⟨by rw [HH.out]; first | (simp [*]; done) | (simp [*]; omega), rfl⟩
  case rest =>
  obtain ⟨rfl, hwc⟩ := hcut
  obtain rfl := hwc.symm
  go_upto_region 11 with fail
  go_cut [9, 10, 12, 13] (fun _ _ _ v wc => v = .bool bx ∧ wc = W1)
  case first =>
    go_wp2
    all_goals
      go_meet
      case rel => exact ⟨by rw [HB1.out]; first | (simp [*]; done) | (simp [*]; omega), rfl⟩
  case rest =>
  obtain ⟨rfl, hwc⟩ := hcut
  obtain rfl := hwc.symm
  go_wp2_with (first | (refine wpList_load_part 25 (.tmp 79) rfl rfl B0 11 [.int .i64 x.at_.x, .int .i64 x.at_.y, .int .i64 x.at_.z] rfl rfl _ Tryz.underlying25 rfl (by kernel_rfl) ?_) | (refine wpList_load_part 25 (.tmp 79) rfl rfl (B0.alloc _) 11 [.int .i64 x.at_.x, .int .i64 x.at_.y, .int .i64 x.at_.z] rfl rfl _ Tryz.underlying25 rfl (by kernel_rfl) ?_) | (refine wpList_load_blk 27 (.tmp 8) rfl rfl B1 rfl _ Tryz.underlying27 rfl (by kernel_rfl) ?_) | (refine wpList_load_blk 27 (.tmp 8) rfl rfl (B1.alloc _) rfl _ Tryz.underlying27 rfl (by kernel_rfl) ?_) | (refine wpList_load_blk 27 (.tmp 8) rfl rfl ((B1.alloc _).alloc _) rfl _ Tryz.underlying27 rfl (by kernel_rfl) ?_))
  ((refine (HA.out _).mono ?_); rintro e W2 ⟨rfl, xx⟩; have xz := xx.size; (try simp only [World.size_alloc_, World.size_setCell_] at xz); have B0 := Arr.ext (w' := W2) B0 byX; have cB0 := B0.cell; have fB0 := B0.frozen; have lB0 := B0.lt)
  have hx3 : Ext w W2 := hx2.trans xx
  go_upto_region 13 with fail
  go_cut [15] (fun v wc => v = .bool bt ∧ wc = W2)
  case first =>
    go_wp2
    all_goals
      go_meet
      case rel => exact ⟨by rw [HT.out]; first | (simp [*]; done) | (simp [*]; omega), rfl⟩
  case rest =>
  obtain ⟨rfl, hwc⟩ := hcut
  obtain rfl := hwc.symm
  go_upto_region 14 with fail
  go_cut [16] (fun v wc => v = .bool bc ∧ wc = W2)
  case first =>
    go_wp2
    all_goals
      go_meet
      case rel => exact ⟨by rw [HC.out]; first | (simp [*]; done) | (simp [*]; omega), rfl⟩
  case rest =>
  obtain ⟨rfl, hwc⟩ := hcut
  obtain rfl := hwc.symm
  clear xx hx1 hx2
  rcases HKK.out with hk | hk | hk | hk | hk | hk | hk | hk
  all_goals
    have hr := HR.out
    simp [hk] at hr
    have HR2 := Lib.hid hr
    clear hr
    go_wp2
    all_goals
      go_ret
      refine ⟨ret_int ?_, hx3⟩
      rw [HR2.out]
      clear hk lB0 lB1 cB0 cB1 cB2 fB0 fB1 d1 d2 m1 m2
      first | rfl | (simp [*]; done) | (split <;> first | rfl | (exfalso; simp_all; done) | (exfalso; simp_all; omega))

theorem refCheck_any (x : Ed) (d m : Int) (w : World) :
    Calls Tryz.prog 12 #[.agg #[.int .i64 x.st.tick, .int .i64 x.st.clock, .int .i64 x.st.site, .int .i64 x.st.seq, .int .i64 x.kind, .int .i64 x.box.lo.x, .int .i64 x.box.lo.y, .int .i64 x.box.lo.z, .int .i64 x.box.hi.x, .int .i64 x.box.hi.y, .int .i64 x.box.hi.z, .int .i64 x.at_.x, .int .i64 x.at_.y, .int .i64 x.at_.z, .int .i64 x.turn, .int .i64 x.cell, .int .i64 x.size], .int .i64 d, .int .i64 m] w fun e w' => e = .returned (.int .i64 (checkR x d m)) ∧ Ext w w' := by
  by_cases hd : 2 ≤ d ∧ d ≤ 14
  · by_cases h : ¬ (1 ≤ m ∧ m ≤ 256) ∨ formedE x = false
    · have e : checkR x d m = 1 := by
        unfold checkR
        rw [decide_eq_true hd]
        rcases h with h | h
        · rw [decide_eq_false h]; rfl
        · rw [h]; simp
      rw [e]
      exact refCheck_out x d m w hd h
    · have hm : 1 ≤ m ∧ m ≤ 256 := Classical.byContradiction fun hh => h (.inl hh)
      have hf : formedE x = true := by
        cases hq : formedE x
        · exact absurd (.inr hq) h
        · rfl
      have hk : 1 ≤ x.kind ∧ x.kind ≤ 8 := by
        have h := formedE_def x
        rw [hf] at h
        cases hq : decide (1 ≤ x.kind ∧ x.kind ≤ 8)
        · rw [hq] at h; simp at h
        · exact of_decide_eq_true hq
      have e : checkR x d m = if okE x (2 ^ d.toNat) m then 0 else 1 := by
        unfold checkR
        rw [decide_eq_true hd, decide_eq_true hm, hf]
        rfl
      rw [e]
      exact refCheck_in x d m w hd hm hf (by omega)
  · have e : checkR x d m = 13 := by unfold checkR; rw [decide_eq_false hd]; rfl
    rw [e]
    exact refCheck_depth x d m w hd
end Go.Proofs.YtlinhgannajfpaaGreatDoor

/- A plain law: the reference's Check is the program's. -/
namespace Go.Proofs.YtlinhgannajfpaaGreatDoor
open Go Go.RowKit

def fits (x : Ed) : Prop := x.box.hi.x ≤ 9223372036854775807 ∧ x.box.hi.y ≤ 9223372036854775807 ∧ x.box.hi.z ≤ 9223372036854775807
theorem last_in (b : Bx) (S : Int) (_h0 : S ≤ 1000000) (h : inP b.lo (cubeB S) = true) (he : emptyB b = false) (hx : b.hi.x ≤ 9223372036854775807 ∧ b.hi.y ≤ 9223372036854775807 ∧ b.hi.z ≤ 9223372036854775807) :
    inP (lastP b) (cubeB S) = (decide (b.hi.x ≤ S) && (decide (b.hi.y ≤ S) && decide (b.hi.z ≤ S))) := by
  have h9 : 0 ≤ b.lo.x ∧ 0 ≤ b.lo.y ∧ 0 ≤ b.lo.z ∧ b.lo.x < S ∧ b.lo.y < S ∧ b.lo.z < S := by
    unfold inP cubeB at h
    simp only [Bool.and_eq_true, decide_eq_true_eq] at h
    exact ⟨h.1, h.2.2.1, h.2.2.2.2.1, h.2.1, h.2.2.2.1, h.2.2.2.2.2⟩
  have he2 : b.lo.x < b.hi.x ∧ b.lo.y < b.hi.y ∧ b.lo.z < b.hi.z := by
    simp only [emptyB, inP, Bool.not_eq_false', Bool.and_eq_true, decide_eq_true_eq] at he
    omega
  have w1 : wrap64 (b.hi.x + wrap64 (-1 * 1)) = b.hi.x - 1 := by
    have : wrap64 (-1 * 1) = -1 := by unfold wrap64; omega
    rw [this]; unfold wrap64; omega
  have w2 : wrap64 (b.hi.y + wrap64 (-1 * 1)) = b.hi.y - 1 := by
    have : wrap64 (-1 * 1) = -1 := by unfold wrap64; omega
    rw [this]; unfold wrap64; omega
  have w3 : wrap64 (b.hi.z + wrap64 (-1 * 1)) = b.hi.z - 1 := by
    have : wrap64 (-1 * 1) = -1 := by unfold wrap64; omega
    rw [this]; unfold wrap64; omega
  rw [Bool.eq_iff_iff]
  simp only [lastP, addP, scaleP, inP, cubeB, w1, w2, w3, Bool.and_eq_true, decide_eq_true_eq]
  omega
theorem box_iff (x : Ed) (S : Int) (h0 : S ≤ 1000000) (hw : fits x) : boxE x S = !(emptyB x.box || (!inP x.box.lo (cubeB S) || !inP (lastP x.box) (cubeB S))) := by
  unfold boxE hiE
  cases he : emptyB x.box
  · cases hl : inP x.box.lo (cubeB S)
    · rfl
    · rw [last_in x.box S h0 hl he hw]
      simp
  · rfl
theorem usesF_lits (x : Ed) : (x.kind = 1 → usesF x.kind 1 = true ∧ usesF x.kind 2 = false ∧ usesF x.kind 4 = false ∧ usesF x.kind 8 = true ∧ usesF x.kind 16 = false) := fun h => by rw [h]; decide
theorem ok_bad (x : Ed) (S m : Int) (h0 : S ≤ 1000000) (hm : 1 ≤ m) (hf : formedE x = true) (hw : fits x) : okE x S m = !badE x S m := by
  have hb := box_iff x S h0 hw
  have hd := formedE_def x
  rw [hf] at hd
  have hd := hd.symm
  simp only [Bool.and_eq_true, decide_eq_true_eq, Bool.or_eq_true] at hd
  obtain ⟨hv, hk, h1, h2, h4, h8, h16⟩ := hd
  have hvv := (validS_iff x.st).1 hv
  rw [badE_def]
  have hk2 : x.kind = 1 ∨ x.kind = 2 ∨ x.kind = 3 ∨ x.kind = 4 ∨ x.kind = 5 ∨ x.kind = 6 ∨ x.kind = 7 ∨ x.kind = 8 := by omega
  generalize emptyB x.box = b1 at hb ⊢
  generalize inP x.box.lo (cubeB S) = b2 at hb ⊢
  generalize inP (lastP x.box) (cubeB S) = b3 at hb ⊢
  generalize hba : inP x.at_ (cubeB S) = b4
  unfold okE
  rw [hb, hba]
  unfold turnE cellE leastE mostE
  rcases hk2 with h | h | h | h | h | h | h | h
  all_goals
    rw [h] at h1 h2 h4 h8 h16 ⊢
    simp [usesF] at h1 h2 h4 h8 h16 ⊢
    rw [Bool.eq_iff_iff]
    cases b1 <;> cases b2 <;> cases b3 <;> cases b4 <;> simp <;> omega
theorem check_eq (x : Ed) (d m : Int) (hw : fits x) : checkR x d m = checkE x d m := by
  unfold checkR checkE
  by_cases hd : 2 ≤ d ∧ d ≤ 14
  · by_cases hm : 1 ≤ m ∧ m ≤ 256
    · cases hf : formedE x
      · simp
      · have hS : (2 : Int) ^ d.toNat ≤ 1000000 := by
          obtain rfl | rfl | rfl | rfl | rfl | rfl | rfl | rfl | rfl | rfl | rfl | rfl | rfl : d = 2 ∨ d = 3 ∨ d = 4 ∨ d = 5 ∨ d = 6 ∨ d = 7 ∨ d = 8 ∨ d = 9 ∨ d = 10 ∨ d = 11 ∨ d = 12 ∨ d = 13 ∨ d = 14 := by omega
          all_goals decide
        rw [ok_bad x _ m hS hm.1 hf hw]
        cases badE x (2 ^ d.toNat) m <;> simp
    · rw [decide_eq_false hm]; simp
  · rw [decide_eq_false hd]; simp
end Go.Proofs.YtlinhgannajfpaaGreatDoor
