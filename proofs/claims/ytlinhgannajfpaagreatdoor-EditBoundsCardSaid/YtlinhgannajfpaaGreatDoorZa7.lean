/- YtlinhgannajfpaaGreatDoorCs · YtlinhgannajfpaaGreatDoorHc · YtlinhgannajfpaaGreatDoorRk · YtlinhgannajfpaaGreatDoorCc · YtlinhgannajfpaaGreatDoorCn · YtlinhgannajfpaaGreatDoorUj · YtlinhgannajfpaaGreatDoorUk · YtlinhgannajfpaaGreatDoorBox · YtlinhgannajfpaaGreatDoorUm · YtlinhgannajfpaaGreatDoorUn · YtlinhgannajfpaaGreatDoorUo -/
import Derived.Lib.AppendZeros
import Derived.Laws.ResultCell
import Derived.Test.YtlinhgannajfpaaGreatDoorZa6
/- slices.Compare at ints. -/
namespace Go.Proofs.YtlinhgannajfpaaGreatDoor
open Go Go.RowKit

def cmpV (l m : List Int) : Int := if ltL l m then -1 else if ltL m l then 1 else 0
theorem cmpV_self (l : List Int) : cmpV l l = 0 := by unfold cmpV; rw [ltL_irr]; simp
theorem cmpV_cons (x y : Int) (l m : List Int) : cmpV (x :: l) (y :: m) = orI (cmpI x y) (cmpV l m) := by
 unfold cmpV cmpI orI
 simp only [ltL, Bool.or_eq_true, decide_eq_true_eq, Bool.and_eq_true]
 by_cases h1 : x < y
 · rw [if_pos (.inl h1), if_pos h1]; simp
 · by_cases h2 : y < x
   · rw [if_neg (by intro h; rcases h with h | h <;> omega), if_pos (.inl h2), if_neg h1, if_pos h2]; simp
   · have h3 : x = y := by omega
     subst h3
     simp
theorem cmpV_at {k : Nat} : ∀ {l m : List Int} {x y : Int}, (∀ i, i < k → l[i]? = m[i]?) → l[k]? = some x → m[k]? = some y → x ≠ y → cmpV l m = cmpI x y := by
 induction k with
 | zero =>
   intro l m x y _ hx hy hne
   cases l with
   | nil => simp at hx
   | cons a l =>
     cases m with
     | nil => simp at hy
     | cons b m =>
       simp at hx hy
       subst hx hy
       rw [cmpV_cons]
       unfold orI cmpI
       by_cases h1 : a < b
       · simp [h1]
       · by_cases h2 : b < a
         · simp [h1, h2]
         · omega
 | succ k ih =>
   intro l m x y h hx hy hne
   cases l with
   | nil => simp at hx
   | cons a l =>
     cases m with
     | nil => simp at hy
     | cons b m =>
       have h0 := h 0 (by omega)
       simp at h0
       subst h0
       rw [cmpV_cons, ih (fun i hi => by simpa using h (i + 1) (by omega)) (by simpa using hx) (by simpa using hy) hne]
       unfold orI cmpI
       simp
theorem cmpV_lt {l m : List Int} : cmpV l m < 0 ↔ ltL l m = true := by
 unfold cmpV
 cases ltL l m <;> cases ltL m l <;> simp
theorem cmpV_zero {l m : List Int} (hl : l.length = m.length) : cmpV l m = 0 ↔ l = m := by
 constructor
 · intro h
   unfold cmpV at h
   cases h1 : ltL l m
   · cases h2 : ltL m l
     · exact ltL_total hl h1 h2
     · simp [h1, h2] at h
   · simp [h1] at h
 · rintro rfl; exact cmpV_self l
set_option maxHeartbeats 2000000 in
theorem CompareI_any (A : Option Addr) (c : Nat) (l : List Int) (A' : Option Addr) (c' : Nat) (m : List Int) (n B : Nat) (w : World) (hs : Sv w B 1 A c (rowsI l)) (hs' : Sv w B 1 A' c' (rowsI m)) (_hB : B ≤ w.heap.size) (hl : l.length = n) (hm : m.length = n) :
    Calls Tryz.prog 65 #[.slice A n c, .slice A' n c'] w fun e w' => e = .returned (.int .i64 (cmpV l m)) ∧ w = w' := by
 have hln := hs.len
 rw [rowsI_length, hl] at hln
 have HS := Lib.hid hs; have HS' := Lib.hid hs'; have HLN := Lib.hid hl; have HMN := Lib.hid hm; clear hs hs' hl hm
 go_enter Tryz.func65, Tryz.ntmps65
 go_wp2
 go_loop [11] (fun i => ∃ k : Nat, k ≤ n ∧ i = .int .i64 k ∧ ∀ i, i < k → l[i]? = m[i]?) (fun i => n - (intOf i).toNat)
 case atStart => exact ⟨0, Nat.zero_le _, rfl, fun i hi => by omega⟩
 case round =>
  obtain ⟨k, hk, rfl, hg⟩ := hrel
  have HG := Lib.hid hg; clear hg
  by_cases hlt : k < n
  · obtain ⟨x, hx⟩ : ∃ x, l[k]? = some x := ⟨_, List.getElem?_eq_getElem (by rw [HLN.out]; exact hlt)⟩
    obtain ⟨y, hy⟩ : ∃ y, m[k]? = some y := ⟨_, List.getElem?_eq_getElem (by rw [HMN.out]; exact hlt)⟩
    obtain ⟨b, off, rfl, hb, h0⟩ := int_row HS.out hx
    obtain ⟨b', off', rfl, hb', h1⟩ := int_row HS'.out hy
    have HX := Lib.hid hx; have HY := Lib.hid hy; clear hx hy
    by_cases hz : x = y
    · subst hz
      have hc : cmpI x x = 0 := by unfold cmpI; simp
      have HG2 := Lib.hid (show ∀ i, i < k + 1 → l[i]? = m[i]? from fun i hi => by
       rcases Nat.lt_succ_iff_lt_or_eq.1 hi with h1 | rfl
       · exact HG.out i h1
       · rw [HX.out, HY.out])
      have HC := Lib.hid (fun w => Compare_any x x w)
      rw [hc] at HC
      go_wp2_with (go_at_call 100; refine (HC.out _).mono ?_; rintro e w' ⟨rfl, rfl⟩)
      go_round
      case rel => exact ⟨k + 1, by omega, by go_num, HG2.out⟩
      case measure => simp [intOf]; omega
    · have hc : cmpI x y ≠ 0 := by unfold cmpI; split <;> (try split) <;> omega
      have hc2 : (cmpI x y != 0) = true := by simpa using hc
      have HO := Lib.hid (cmpV_at HG.out HX.out HY.out hz)
      have HC := Lib.hid (fun w => Compare_any x y w)
      generalize cmpI x y = r at HC HO hc hc2
      clear hz hc
      go_wp2_with (go_at_call 100; refine (HC.out _).mono ?_; rintro e w' ⟨rfl, rfl⟩)
      go_ret
      exact ⟨ret_int HO.out.symm, rfl⟩
  · obtain rfl : k = n := by omega
    have HO := Lib.hid (show cmpV l m = 0 from (cmpV_zero (HLN.out.trans HMN.out.symm)).2 (List.ext_getElem? fun i => by
     by_cases hi : i < k
     · exact HG.out i hi
     · rw [List.getElem?_eq_none (by rw [HLN.out]; omega), List.getElem?_eq_none (by rw [HMN.out]; omega)]))
    go_wp2
    go_ret
    exact ⟨ret_int HO.out.symm, rfl⟩
end Go.Proofs.YtlinhgannajfpaaGreatDoor

/- History, plainly: a list put in order; a list turned with repetitions; sets of parts. -/
namespace Go.Proofs.YtlinhgannajfpaaGreatDoor
open Go Go.RowKit

structure AtE (o : List Ed) (x : Ed) (k : Nat) : Prop where
 le : k ≤ o.length
 hi : ∀ (i : Nat) (y : Ed), k ≤ i → o[i]? = some y → befE x y = true
theorem AtE.start (o : List Ed) (x : Ed) : AtE o x o.length := ⟨Nat.le_refl _, fun i y hi hy => by have := (List.getElem?_eq_some_iff.1 hy).1; omega⟩
theorem AtE.down {o : List Ed} {x y : Ed} {k : Nat} (h : AtE o x (k + 1)) (hy : o[k]? = some y) (hb : befE x y = true) : AtE o x k :=
 ⟨by have := h.le; omega, fun i z hi hz => by
   rcases Nat.lt_or_ge k i with h1 | h1
   · exact h.hi i z h1 hz
   · have : i = k := by omega
     subst this
     rw [hy] at hz; injection hz with hz; rw [← hz]; exact hb⟩
theorem Srt.take_lt {α : Type} {r : α → α → Bool} {o : List α} (hs : Srt r o) {i j : Nat} {x y : α} (hx : o[i]? = some x) (hy : o[j]? = some y) (hij : i < j) : r x y = true := by
 obtain ⟨h1, rfl⟩ := List.getElem?_eq_some_iff.1 hx
 obtain ⟨h2, rfl⟩ := List.getElem?_eq_some_iff.1 hy
 exact List.pairwise_iff_getElem.1 hs i j h1 h2 hij
theorem AtE.put {o : List Ed} {x : Ed} {k : Nat} (h : AtE o x k) (hs : Srt befE o) (hlo : ∀ y, 0 < k → o[k - 1]? = some y → befE y x = true) : Srt befE (o.take k ++ (x :: o.drop k)) := by
 unfold Srt
 rw [List.pairwise_append, List.pairwise_cons]
 have hd : ∀ y, y ∈ o.drop k → befE x y = true := fun y hy => by
  obtain ⟨i, hi⟩ := List.getElem?_of_mem hy
  rw [List.getElem?_drop] at hi
  exact h.hi _ y (by omega) hi
 have ht : ∀ y, y ∈ o.take k → befE y x = true := fun y hy => by
  obtain ⟨i, hi⟩ := List.getElem?_of_mem hy
  rw [List.getElem?_take] at hi
  split at hi
  · rename_i hik
    have hk1 : k - 1 < o.length := by have := h.le; omega
    have h1 := hlo o[k - 1] (by omega) (List.getElem?_eq_getElem hk1)
    rcases Nat.lt_or_ge i (k - 1) with h2 | h2
    · exact ordE.tr (hs.take_lt hi (List.getElem?_eq_getElem hk1) h2) h1
    · have : i = k - 1 := by omega
      subst this
      rw [List.getElem?_eq_getElem hk1] at hi
      injection hi with hi
      rw [← hi]; exact h1
  · cases hi
 exact ⟨hs.sublist (List.take_sublist ..), ⟨hd, hs.sublist (List.drop_sublist ..)⟩, fun a ha b hb => by
  rcases List.mem_cons.1 hb with rfl | hb
  · exact ht a ha
  · exact ordE.tr (ht a ha) (hd b hb)⟩
theorem put_mem (o : List Ed) (x : Ed) (k : Nat) (q : Ed) : q ∈ o.take k ++ (x :: o.drop k) ↔ q = x ∨ q ∈ o := by
 have : q ∈ o ↔ q ∈ o.take k ∨ q ∈ o.drop k := by conv => lhs; rw [← List.take_append_drop k o, List.mem_append]
 rw [List.mem_append, List.mem_cons, this]
 constructor
 · rintro (h | h | h)
   · exact .inr (.inl h)
   · exact .inl h
   · exact .inr (.inr h)
 · rintro (h | h | h)
   · exact .inr (.inl h)
   · exact .inl h
   · exact .inr (.inr h)
theorem AtE.seen {o : List Ed} {x y : Ed} {k : Nat} (_hy : o[k]? = some y) (hb : befE x y = false) : y = x ∨ befE y x = true := by
 cases h : befE y x
 · exact .inl (ordE.tot h hb)
 · exact .inr rfl
structure IsOrd (l m : List Ed) : Prop where
 srt : Srt befE m
 mem : ∀ q, q ∈ m ↔ q ∈ l
theorem IsOrd.uniq {l m m' : List Ed} (h : IsOrd l m) (k : IsOrd l m') : m = m' := h.srt.eq ordE k.srt fun x => (h.mem x).trans (k.mem x).symm
theorem nodup_le {α : Type} [DecidableEq α] : ∀ {l m : List α}, l.Nodup → (∀ x, x ∈ l → x ∈ m) → l.length ≤ m.length
 | [], _, _, _ => Nat.zero_le _
 | x :: xs, m, hd, hs => by
   rw [List.nodup_cons] at hd
   have hx := hs x (List.mem_cons_self ..)
   have ih := nodup_le (l := xs) (m := m.erase x) hd.2 (fun y hy => by
    have hne : y ≠ x := by rintro rfl; exact hd.1 hy
    exact (List.mem_erase_of_ne hne).2 (hs y (List.mem_cons_of_mem _ hy)))
   rw [List.length_erase_of_mem hx] at ih
   have := List.length_pos_of_mem hx
   simp only [List.length_cons]
   omega
theorem IsOrd.len {l m : List Ed} (h : IsOrd l m) : m.length ≤ l.length := nodup_le (h.srt.nodup ordE) (fun x hx => (h.mem x).1 hx)
theorem IsSet.len {l s : List Ed} (h : IsSet l s) : s.length ≤ l.length := nodup_le (h.srt.nodup ordE) (fun x hx => ((h.mem x).1 hx).1)
theorem IsAct.len {l s : List Ed} (h : IsAct l s) : s.length ≤ l.length := nodup_le (h.srt.nodup ordE) (fun x hx => ((h.mem x).1 hx).1.1)
theorem turn_all {n t j : Nat} (hj : j < n) : ∃ i, i < n ∧ (n - 1 - i + t) % n = j := by
 have hn : 0 < n := by omega
 refine ⟨(n - 1 + t + (n - j)) % n, Nat.mod_lt _ hn, ?_⟩
 have h1 := Nat.mod_lt (n - 1 + t + (n - j)) hn
 generalize hr : (n - 1 + t + (n - j)) % n = r at h1
 have h2 := Nat.div_add_mod (n - 1 + t + (n - j)) n
 rw [hr] at h2
 generalize (n - 1 + t + (n - j)) / n = q at h2
 -- n * q + r = n - 1 + t + (n - j)
 have h3 : n - 1 - r + t + (n - j) + (n - (n - j)) = n - 1 - r + t + n := by omega
 have h4 : n - 1 - r + t + n = n * q + j := by omega
 have h5 : (n - 1 - r + t) % n = (n - 1 - r + t + n) % n := by rw [Nat.add_mod_right]
 rw [h5, h4, Nat.mul_add_mod]
 exact Nat.mod_eq_of_lt hj
theorem IsForks.own {l : List Ed} {x : Ed} {f g : List Nm} (hf : IsForks l f) (hg : IsForks (l ++ [x]) g) : (f.filter fun n => decide (n.site ≠ x.st.site)) = g.filter fun n => decide (n.site ≠ x.st.site) :=
 (hf.srt.filter _).eq ordN (hg.srt.filter _) fun n => by
   simp only [List.mem_filter, decide_eq_true_eq]
   constructor
   · rintro ⟨h1, h2⟩; exact ⟨(hg.mem n).2 ((Forked.own h2).2 ((hf.mem n).1 h1)), h2⟩
   · rintro ⟨h1, h2⟩; exact ⟨(hf.mem n).2 ((Forked.own h2).1 ((hg.mem n).1 h1)), h2⟩
theorem IsAct.own {l : List Ed} {x y : Ed} {a b : List Ed} (ha : IsAct l a) (hb : IsAct (l ++ [x]) b) (hy : y.st.site ≠ x.st.site) : y ∈ a ↔ y ∈ b := by
 rw [ha.mem, hb.mem, ActP.own hy]
theorem two_forks {a b : Ed} (hne : a ≠ b) (hn : nmE a = nmE b) (ha : formedE a = true) (hb : formedE b = true) {f : List Nm} (hf : IsForks [a, b] f) : f = [nmE a] := by
 refine hf.srt.eq ordN (List.pairwise_singleton ..) fun n => ?_
 rw [hf.mem, List.mem_singleton]
 constructor
 · rintro ⟨x, y, ⟨h1, _, h3⟩, _⟩
   simp only [List.mem_cons, List.not_mem_nil, or_false] at h1
   rcases h1 with rfl | rfl
   · exact h3.symm
   · rw [hn]; exact h3.symm
 · rintro rfl
   exact ⟨a, b, ⟨by simp, ha, rfl⟩, ⟨by simp, hb, hn.symm⟩, hne⟩
theorem NewUndo.count {l : List Ed} {x u v : Ed} (h : NewUndo l x u) (hf : formedE v = true) (hk : v.kind = 6) (hs : v.st.site = x.st.site) (hz : v.size = u.st.seq) (hq : v.st.seq = u.st.seq + 1) {a c : List Ed} (ha : IsAct l a) (hc : IsAct ((l ++ [u]) ++ [v]) c) :
    v ∉ a ∧ c.length = a.length + 1 ∧ ∀ y, y ∈ c ↔ y ∈ a ∨ y = v := by
 have hm : ∀ y, y ∈ c ↔ y ∈ a ∨ y = v := fun y => by rw [hc.mem, h.back hf hk hs hz hq, ha.mem]
 have hva : v ∉ a := fun hv => by
  have h1 := ((ha.mem v).1 hv).1.1
  have := h.top v h1 hs
  omega
 refine ⟨hva, ?_, hm⟩
 have hnd : (a ++ [v]).Nodup := List.nodup_append.2 ⟨ha.srt.nodup ordE, by simp, fun y hy z hz e => by
  simp at hz; subst e hz; exact hva hy⟩
 have h1 := nodup_le (l := a ++ [v]) (m := c) hnd fun y hy => (hm y).2 (by simpa using hy)
 have h2 := nodup_le (l := c) (m := a ++ [v]) (hc.srt.nodup ordE) fun y hy => by simpa using (hm y).1 hy
 simp at h1 h2
 omega
end Go.Proofs.YtlinhgannajfpaaGreatDoor

/- The reference's Numbers and Compare. -/
namespace Go.Proofs.YtlinhgannajfpaaGreatDoor
open Go Go.RowKit

theorem Arr.part {w : World} {b : Nat} {t : TypeId} {vs : List Value} (h : Arr w b t vs) (o : Nat) (cs : List Value) (hc : ∀ (j : Nat) (v : Value), cs[j]? = some v → vs[o + j]? = some v) : w.rangeAt b o cs := fun j v hv => by
 rw [h.cell]; exact hc j v hv
def RetNu (x : Ed) (w : World) (en : Ending) (w' : World) : Prop := ∃ b, en = .returned (.slice (some ⟨b, 0, none⟩) 17 17) ∧ Arr w' b 3 x.cells ∧ Ext w w' ∧ w.heap.size ≤ b
set_option maxRecDepth 100000 in
set_option maxHeartbeats 4000000 in
theorem refNumbers_any (x : Ed) (w : World) : Calls Tryz.prog 67 #[.agg x.cells.toArray] w (RetNu x w) := by
 have HB0 := Lib.hid (Arr.new w 29 x.cells)
 have HX0 := Lib.hid (show Ext w (w.alloc (.cells x.cells.toArray 29)) from (Ext.refl w).alloc _)
 go_enter Tryz.func67, Tryz.ntmps67
 go_upto_region 1 with fail
 have HR1 := Lib.hid (HB0.out.part 0 [.int .i64 x.st.tick, .int .i64 x.st.clock, .int .i64 x.st.site, .int .i64 x.st.seq] (fun j v hv => by
  match j, hv with
  | 0, h => exact h
  | 1, h => exact h
  | 2, h => exact h
  | 3, h => exact h))
 go_upto_region 2 with (first
  | (with_reducible refine wpList_load_mid rfl 23 (.tmp 5) rfl w.heap.size 0 rfl [.int .i64 x.st.tick, .int .i64 x.st.clock, .int .i64 x.st.site, .int .i64 x.st.seq] _ HR1.out Tryz.underlying23 rfl (by kernel_rfl) ?_)
  | (refine wpList_store_blk 23 (.tmp 3) (.tmp 6) rfl rfl (Arr.new _ 23 [.int .i64 0, .int .i64 0, .int .i64 0, .int .i64 0]) [.int .i64 x.st.tick, .int .i64 x.st.clock, .int .i64 x.st.site, .int .i64 x.st.seq] rfl rfl (by kernel_rfl) rfl rfl ?_))
 obtain ⟨W1, hW⟩ : ∃ W, W = (w.alloc (.cells x.cells.toArray 29)).alloc (.cells ([.int .i64 x.st.tick, .int .i64 x.st.clock, .int .i64 x.st.site, .int .i64 x.st.seq] : List Value).toArray 23) := ⟨_, rfl⟩
 have HC0 := Lib.hid (show Arr W1 w.heap.size 29 x.cells by rw [hW]; exact HB0.out.alloc _)
 have HC1 := Lib.hid (show Arr W1 (w.heap.size + 1) 23 [.int .i64 x.st.tick, .int .i64 x.st.clock, .int .i64 x.st.site, .int .i64 x.st.seq] by rw [hW]; exact Arr.new1 w _ _ _)
 have HX1 := Lib.hid (show Ext w W1 by rw [hW]; exact HX0.out.alloc _)
 have hsz : W1.heap.size = w.heap.size + 2 := by rw [hW]; simp
 rw [← hW]
 clear hW
 have HR2 := Lib.hid (HC0.out.part 5 [.int .i64 x.box.lo.x, .int .i64 x.box.lo.y, .int .i64 x.box.lo.z, .int .i64 x.box.hi.x, .int .i64 x.box.hi.y, .int .i64 x.box.hi.z] (fun j v hv => by
  match j, hv with
  | 0, h => exact h
  | 1, h => exact h
  | 2, h => exact h
  | 3, h => exact h
  | 4, h => exact h
  | 5, h => exact h))
 go_upto_region 3 with (first
  | (with_reducible refine wpList_load_mid rfl 27 (.tmp 7) rfl w.heap.size 5 rfl [.int .i64 x.box.lo.x, .int .i64 x.box.lo.y, .int .i64 x.box.lo.z, .int .i64 x.box.hi.x, .int .i64 x.box.hi.y, .int .i64 x.box.hi.z] _ HR2.out Tryz.underlying27 rfl (by kernel_rfl) ?_)
  | (refine wpList_store_blk 27 (.tmp 4) (.tmp 8) rfl rfl (Arr.new _ 27 [.int .i64 0, .int .i64 0, .int .i64 0, .int .i64 0, .int .i64 0, .int .i64 0]) [.int .i64 x.box.lo.x, .int .i64 x.box.lo.y, .int .i64 x.box.lo.z, .int .i64 x.box.hi.x, .int .i64 x.box.hi.y, .int .i64 x.box.hi.z] rfl rfl (by kernel_rfl) rfl rfl ?_))
 obtain ⟨W2, hW⟩ : ∃ W, W = W1.alloc (.cells ([.int .i64 x.box.lo.x, .int .i64 x.box.lo.y, .int .i64 x.box.lo.z, .int .i64 x.box.hi.x, .int .i64 x.box.hi.y, .int .i64 x.box.hi.z] : List Value).toArray 27) := ⟨_, rfl⟩
 have hx2 : Ext W1 W2 := by rw [hW]; exact (Ext.refl _).alloc _
 have HD0 := Lib.hid (HC0.out.ext hx2)
 have HD1 := Lib.hid (HC1.out.ext hx2)
 have HD2 := Lib.hid (show Arr W2 (w.heap.size + 2) 27 [.int .i64 x.box.lo.x, .int .i64 x.box.lo.y, .int .i64 x.box.lo.z, .int .i64 x.box.hi.x, .int .i64 x.box.hi.y, .int .i64 x.box.hi.z] by rw [hW, ← hsz]; exact Arr.new W1 _ _)
 have HX2 := Lib.hid (HX1.out.trans hx2)
 rw [← hW]
 clear hW hx2 hsz
 have a4 := HD0.out.cell 4
 rw [show x.cells[4]? = some (.int .i64 x.kind) from rfl] at a4
 have a11 := HD0.out.cell 11
 rw [show x.cells[11]? = some (.int .i64 x.at_.x) from rfl] at a11
 have a12 := HD0.out.cell 12
 rw [show x.cells[12]? = some (.int .i64 x.at_.y) from rfl] at a12
 have a13 := HD0.out.cell 13
 rw [show x.cells[13]? = some (.int .i64 x.at_.z) from rfl] at a13
 have a14 := HD0.out.cell 14
 rw [show x.cells[14]? = some (.int .i64 x.turn) from rfl] at a14
 have a15 := HD0.out.cell 15
 rw [show x.cells[15]? = some (.int .i64 x.cell) from rfl] at a15
 have a16 := HD0.out.cell 16
 rw [show x.cells[16]? = some (.int .i64 x.size) from rfl] at a16
 have s0 := HD1.out.cell 0
 have s1 := HD1.out.cell 1
 have s2 := HD1.out.cell 2
 have s3 := HD1.out.cell 3
 have q0 := HD2.out.cell 0
 have q1 := HD2.out.cell 1
 have q2 := HD2.out.cell 2
 have q3 := HD2.out.cell 3
 have q4 := HD2.out.cell 4
 have q5 := HD2.out.cell 5
 simp only [List.getElem?_cons_zero, List.getElem?_cons_succ] at s0 s1 s2 s3 q0 q1 q2 q3 q4 q5
 have HFIN := Lib.hid (Arr.new W2 3 x.cells)
 have HXF := Lib.hid (HX2.out.alloc (.cells x.cells.toArray 3))
 go_wp2_with fail
 go_ret
 exact ⟨W2.heap.size, rfl, HFIN.out, HXF.out, HX2.out.size⟩
end Go.Proofs.YtlinhgannajfpaaGreatDoor

/- slices.Grow of a nil slice of ints, slices.Concat of slices of ints. -/
namespace Go.Proofs.YtlinhgannajfpaaGreatDoor
open Go Go.RowKit

set_option maxHeartbeats 2000000 in
theorem Grow_any (n : Nat) (h0 : 0 < n) (hn : n ≤ 100000) (w : World) :
    Calls Tryz.prog 130 #[.slice none 0 0, .int .i64 n] w fun e w' => ∃ v, e = .returned v ∧ w'.ownsRow w.heap.size 3 1 v 0 [] ∧ ExtD w w' := by
 obtain ⟨i0, hi, hz0, hz1, hz2⟩ := info_parts infoInt
 have hcge := grownCap_ge w n 0 3
 have hcle := grownCap_le_maxLen w n 0 3 (by unfold maxLen; omega)
 have hrun := fun ty => Lib.run_append_nil_zeros (P := Tryz.prog) w 83 3 ty 3 i0 (.int .i64 0) .i64 .i64 Tryz.underlying83 Tryz.underlying3 hi hz0 n h0 (by omega) (by omega) (by rw [hz2]; omega)
 generalize hcap : grownCap w n 0 3 = cap at hcge hcle hrun
 obtain ⟨cs, hcs⟩ : ∃ cs, cs = Builtin.zeroCells (Value.int .i64 0).cells n ++ Builtin.zeroCells (Value.int .i64 0).cells (cap - n) := ⟨_, rfl⟩
 have hsz : cs.size = cap := by rw [hcs]; simp [Builtin.zeroCells, Value.cells]; omega
 rw [← hcs] at hrun
 have HO := Lib.hid (show (w.drew.alloc (.cells cs 3)).ownsRow w.heap.size 3 1 (.slice (some ⟨w.heap.size, 0, none⟩) 0 cap) 0 [] from own_of_cur (cur := cs.toList) (Nat.le_refl _) (by simpa using heap_alloc_new w.drew (.cells cs 3)) (Nat.zero_le _) hcle (by simp [hsz]) (by simp))
 have HX := Lib.hid (show ExtD w (w.drew.alloc (.cells cs 3)) from ((ExtD.refl w).drew).alloc _)
 have HRUN := Lib.hid hrun
 have hm : cap ≤ 9223372036854775807 := by unfold maxLen at hcle; omega
 clear hrun hcs hcap hsz hi hz0 hz1 hz2 hcle
 go_enter Tryz.func130, Tryz.ntmps130
 go_wp2_with (at_builtin; refine Lib.wpList_append_run _ rfl (.tmp 20) (.tmp 21) 83 3 rfl _ _ rfl rfl _ _ (HRUN.out _) ?_)
 go_ret
 exact ⟨_, rfl, HO.out, HX.out⟩
theorem Grow_zero (w : World) :
    Calls Tryz.prog 130 #[.slice none 0 0, .int .i64 0] w fun e w' => ∃ v, e = .returned v ∧ w'.ownsRow w.heap.size 3 1 v 0 [] ∧ ExtD w w' := by
 go_enter Tryz.func130, Tryz.ntmps130
 go_wp2
 go_ret
 exact ⟨_, rfl, World.ownsRow_nil _ _ _ _, ExtD.refl _⟩
structure SvI (w : World) (B : Nat) (A : Option Addr) (c : Nat) (vs : List Value) (ls : List (List Int)) : Prop where
 out : Sv w B 1 A c (vs.map ([·]))
 len : vs.length = ls.length
 each : ∀ (i : Nat) (v : Value) (l : List Int), vs[i]? = some v → ls[i]? = some l → ∃ A' c', v = .slice A' l.length c' ∧ Sv w B 1 A' c' (rowsI l)
theorem SvI.keep {w w' : World} {B : Nat} {A : Option Addr} {c : Nat} {vs : List Value} {ls : List (List Int)} (h : SvI w B A c vs ls) (hk : ∀ p : Addr, p.block < B → w'.cell? p = w.cell? p) : SvI w' B A c vs ls :=
 ⟨h.out.keep hk, h.len, fun i v p hv hp => by obtain ⟨A', c', e, hs⟩ := h.each i v p hv hp; exact ⟨A', c', e, hs.keep hk⟩⟩
theorem SvI.row {w : World} {B : Nat} {A : Option Addr} {c : Nat} {vs : List Value} {ls : List (List Int)} (h : SvI w B A c vs ls) {i : Nat} {l : List Int} (hp : ls[i]? = some l) : ∃ b off A' c', A = some ⟨b, off, none⟩ ∧ b < B ∧ w.cell? ⟨b, off + i, none⟩ = some (.slice A' l.length c') ∧ Sv w B 1 A' c' (rowsI l) := by
 have hi : i < vs.length := by rw [h.len]; exact (List.getElem?_eq_some_iff.1 hp).1
 obtain ⟨v, hv⟩ : ∃ v, vs[i]? = some v := ⟨_, List.getElem?_eq_getElem hi⟩
 obtain ⟨A', c', rfl, hs⟩ := h.each i v l hv hp
 obtain ⟨b, off, hA, hb, hr⟩ := h.out.row (i := i) (x := [.slice A' l.length c']) (by rw [List.getElem?_map, hv]; rfl)
 refine ⟨b, off, A', c', hA, hb, ?_, hs⟩
 have := hr 0 (.slice A' l.length c') rfl
 simpa using this
def lenI (ls : List (List Int)) (k : Nat) : Nat := (ls.take k).flatten.length
theorem lenI_succ (ls : List (List Int)) {i : Nat} {r : List Int} (h : ls[i]? = some r) : lenI ls (i + 1) = lenI ls i + r.length := by
 obtain ⟨hi, rfl⟩ := List.getElem?_eq_some_iff.1 h
 unfold lenI
 rw [List.take_add_one, List.getElem?_eq_getElem hi, List.flatten_append, List.length_append]
 simp
theorem lenI_all (ls : List (List Int)) : lenI ls ls.length = ls.flatten.length := by unfold lenI; rw [List.take_length]
theorem lenI_le (ls : List (List Int)) (k : Nat) : lenI ls k ≤ ls.flatten.length := by
 unfold lenI
 conv => rhs; rw [← List.take_append_drop k ls, List.flatten_append, List.length_append]
 omega
theorem flatI_succ (ls : List (List Int)) {i : Nat} {r : List Int} (h : ls[i]? = some r) : (ls.take (i + 1)).flatten = (ls.take i).flatten ++ r := by
 obtain ⟨hi, rfl⟩ := List.getElem?_eq_some_iff.1 h
 rw [List.take_add_one, List.getElem?_eq_getElem hi, List.flatten_append]
 simp
set_option maxRecDepth 100000 in
set_option maxHeartbeats 4000000 in
theorem Concat_any (A : Option Addr) (c : Nat) (vs : List Value) (ls : List (List Int)) (w : World) (hs : SvI w w.heap.size A c vs ls) (hb : ls.flatten.length ≤ 100000) :
    Calls Tryz.prog 101 #[.slice A ls.length c] w (RetI ls.flatten w) := by
 obtain ⟨i0, hi, hz0, hz1, hz2⟩ := info_parts infoInt
 have HI := Lib.hid hi; have HZ := Lib.hid hz0; have HZ1 := Lib.hid hz1; have HZ2 := Lib.hid hz2; clear hi hz0 hz1 hz2
 have hln : ls.length ≤ 9223372036854775807 := by have h := hs.out.len; rw [List.length_map, hs.len] at h; exact h
 have HS := Lib.hid hs; clear hs
 have HB := Lib.hid hb; clear hb
 go_enter Tryz.func101, Tryz.ntmps101
 go_wp2
 go_loopw [3, 11] (fun nv i wr => ∃ k n : Nat, nv = .int .i64 n ∧ i = .int .i64 k ∧ k ≤ ls.length ∧ n = lenI ls k ∧ w = wr) (fun _ i _ => ls.length - (intOf i).toNat)
 case atStart => exact ⟨0, 0, rfl, rfl, Nat.zero_le _, rfl, rfl⟩
 case round =>
  obtain ⟨k, n, rfl, rfl, hk, hn, rfl⟩ := hrel
  have HN := Lib.hid hn
  have hnl : n ≤ 100000 := by have h1 := lenI_le ls k; have h2 := HB.out; omega
  clear hn
  by_cases hlt : k < ls.length
  · obtain ⟨r, hr⟩ : ∃ r, ls[k]? = some r := ⟨_, List.getElem?_eq_getElem hlt⟩
    obtain ⟨b, off, A', c', rfl, hbl, r0, hsv⟩ := HS.out.row hr
    have hrl : n + r.length ≤ 100000 := by have h1 := lenI_le ls (k + 1); have h2 := HB.out; rw [lenI_succ ls hr] at h1; have := HN.out; omega
    have HN2 := Lib.hid (show n + r.length = lenI ls (k + 1) by rw [lenI_succ ls hr, HN.out])
    have hng : ¬ ((n : Int) + r.length < 0) := by omega
    clear hr hsv
    go_wp2
    go_roundw
    case rel => exact ⟨k + 1, n + r.length, by go_num, by go_num, by omega, HN2.out, by first | rfl | trivial⟩
    case measure => simp [intOf]; omega
  · obtain rfl : k = ls.length := by omega
    have HGR := Lib.hid (show Calls Tryz.prog 130 #[.slice none 0 0, .int .i64 n] w fun e w' => ∃ v, e = .returned v ∧ w'.ownsRow w.heap.size 3 1 v 0 [] ∧ ExtD w w' from by
     rcases Nat.eq_zero_or_pos n with rfl | h0
     · exact Grow_zero w
     · exact Grow_any n h0 hnl w)
    go_wp2_with (go_at_call 130; refine HGR.out.mono ?_; rintro e w1 ⟨v1, rfl, ho, hx⟩)
    go_loopw [6, 27] (fun ov i w2 => ∃ k n2 : Nat, i = .int .i64 k ∧ k ≤ ls.length ∧ n2 = lenI ls k ∧ w2.ownsRow w.heap.size 3 1 ov n2 (rowsI (ls.take k).flatten).flatten ∧ ExtD w w2) (fun _ i _ => ls.length - (intOf i).toNat)
    case atStart => exact ⟨0, 0, rfl, Nat.zero_le _, rfl, ho, hx⟩
    case round =>
     obtain ⟨k, n2, rfl, hk2, hn2, ho2, hx2⟩ := hrel
     have HO := Lib.hid ho2; have HX := Lib.hid hx2; have HN2 := Lib.hid hn2
     obtain ⟨A1, c1, rfl, _⟩ := own_form ho2
     clear ho2 hn2 ho hx
     by_cases hlt2 : k < ls.length
     · obtain ⟨r, hr⟩ : ∃ r, ls[k]? = some r := ⟨_, List.getElem?_eq_getElem hlt2⟩
       obtain ⟨b, off, A', c', rfl, hbl, r0, hsv⟩ := (HS.out.keep (fun p hp => hx2.ext.cell hp)).row hr
       have HSV := Lib.hid hsv
       have hrl : n2 + r.length ≤ 100000 := by have h1 := lenI_le ls (k + 1); have h2 := HB.out; rw [lenI_succ ls hr] at h1; have := HN2.out; omega
       have HN3 := Lib.hid (show n2 + r.length = lenI ls (k + 1) by rw [lenI_succ ls hr, HN2.out])
       have HF := Lib.hid (flatI_succ ls hr)
       have hbl := Nat.lt_of_lt_of_le hbl hx2.ext.size
       clear hr hsv hx2
       go_wp2_with (at_builtin; refine wpList_append_svD rfl (.tmp 31) (.tmp 32) 83 rfl w.heap.size 3 i0 (.int .i64 0) 1 8 Tryz.underlying83 HI.out HZ.out HZ1.out HZ2.out rfl (by decide) _ n2 _ rfl HO.out _ A' r.length c' (rowsI r) rfl HSV.out (rowsI_length _) (by unfold maxLen; omega) (by omega) HX.out.ext.size ?_)
       intro v2 w3 g1 g2 _ g4
       have HO2 := Lib.hid (show w3.ownsRow w.heap.size 3 1 v2 (n2 + r.length) (rowsI (ls.take (k + 1)).flatten).flatten from by rw [HF.out, rowsI_append, List.flatten_append]; exact g1)
       have HX3 := Lib.hid (HX.out.own HO.out g2 g4 (Nat.le_refl _))
       clear g1 g2 g4 r0
       go_wp2
       go_roundw
       case rel => exact ⟨k + 1, n2 + r.length, by go_num, by omega, HN3.out, HO2.out, HX3.out⟩
       case measure => simp [intOf]; omega
     · obtain rfl : k = ls.length := by omega
       clear hx2
       go_wp2
       go_ret
       refine ⟨_, rfl, ?_, HX.out⟩
       have h := HO.out
       have e := HN2.out
       rw [List.take_length] at h
       rw [lenI_all] at e
       rw [← e]
       exact h
end Go.Proofs.YtlinhgannajfpaaGreatDoor

/- edit.numbers. -/
namespace Go.Proofs.YtlinhgannajfpaaGreatDoor
open Go Go.RowKit

theorem SvI.more {w : World} {B B' : Nat} {A : Option Addr} {c : Nat} {vs : List Value} {ls : List (List Int)} (h : SvI w B A c vs ls) (hB : B ≤ B') : SvI w B' A c vs ls :=
 ⟨h.out.more hB, h.len, fun i v p hv hp => by obtain ⟨A', c', e, hs⟩ := h.each i v p hv hp; exact ⟨A', c', e, hs.more hB⟩⟩
theorem SvI.ext {w w' : World} {A : Option Addr} {c : Nat} {vs : List Value} {ls : List (List Int)} (h : SvI w w.heap.size A c vs ls) (hx : Ext w w') : SvI w' w'.heap.size A c vs ls := (h.keep fun _ hp => hx.cell hp).more hx.size
theorem sv_newP (w : World) (l : List Pt) (h : l.length ≤ 1000) : Sv (w.alloc (.cells (rowsP l).flatten.toArray 25)) (w.alloc (.cells (rowsP l).flatten.toArray 25)).heap.size 3 (some ⟨w.heap.size, 0, none⟩) l.length (rowsP l) :=
 ⟨by rw [rowsP_length]; exact Nat.le_refl _, by unfold maxLen; omega, rowsP_rwk _, fun _ => ⟨w.heap.size, 0, rfl, by simp, fun j u hu => by
   rw [Nat.zero_add, cell_of_row _ _ _ _ _ _ (heap_alloc_new w _)]
   simpa using hu⟩⟩
theorem flat_ones (vs : List Value) : (vs.map ([·])).flatten = vs := by
 induction vs with
 | nil => rfl
 | cons x vs ih => simp only [List.map_cons, List.flatten_cons]; rw [ih]; rfl
theorem svI_new (w : World) (vs : List Value) (ls : List (List Int)) (h : ls.length ≤ 1000) (hl : vs.length = ls.length) (h1 : ∀ v, v ∈ vs → v.oneCell' = true) (hv : ∀ (i : Nat) (v : Value) (l : List Int), vs[i]? = some v → ls[i]? = some l → ∃ A' c', v = .slice A' l.length c' ∧ Sv w w.heap.size 1 A' c' (rowsI l)) :
    SvI (w.alloc (.cells vs.toArray 83)) (w.alloc (.cells vs.toArray 83)).heap.size (some ⟨w.heap.size, 0, none⟩) ls.length vs ls := by
 refine ⟨⟨by simp [hl], by unfold maxLen; omega, fun x hx => ?_, fun _ => ⟨w.heap.size, 0, rfl, by simp, fun j u hu => ?_⟩⟩, hl, fun i v l hv1 hl1 => ?_⟩
 · obtain ⟨y, hy, rfl⟩ := List.mem_map.1 hx
   exact ⟨rfl, fun u hu => by simp at hu; subst hu; exact h1 _ hy⟩
 · rw [Nat.zero_add, cell_of_row _ _ _ _ _ _ (heap_alloc_new w _)]
   rw [flat_ones] at hu
   simpa using hu
 · obtain ⟨A', c', e, hs⟩ := hv i v l hv1 hl1
   exact ⟨A', c', e, hs.ext ((Ext.refl w).alloc _)⟩
theorem numsE_flat (x : Ed) : [[x.st.tick, x.st.clock, x.st.site, x.st.seq, x.kind], coordsL [x.box.lo, x.box.hi, x.at_], [x.turn, x.cell, x.size]].flatten = numsE x := rfl
set_option maxRecDepth 100000 in
set_option maxHeartbeats 8000000 in
theorem numbers_any (x : Ed) (w : World) :
    Calls Tryz.prog 66 #[.agg #[.int .i64 x.st.tick, .int .i64 x.st.clock, .int .i64 x.st.site, .int .i64 x.st.seq, .int .i64 x.kind, .int .i64 x.box.lo.x, .int .i64 x.box.lo.y, .int .i64 x.box.lo.z, .int .i64 x.box.hi.x, .int .i64 x.box.hi.y, .int .i64 x.box.hi.z, .int .i64 x.at_.x, .int .i64 x.at_.y, .int .i64 x.at_.z, .int .i64 x.turn, .int .i64 x.cell, .int .i64 x.size]] w fun e w' => ∃ A c, e = .returned (.slice A 17 c) ∧ Sv w' w'.heap.size 1 A c (rowsI (numsE x)) ∧ ExtD w w' := by
 have hm := mixed
 go_enter Tryz.func66, Tryz.ntmps66
 go_upto_region 1 with fail
 have B0 := Arr.new w 29 [.int .i64 x.st.tick, .int .i64 x.st.clock, .int .i64 x.st.site, .int .i64 x.st.seq, .int .i64 x.kind, .int .i64 x.box.lo.x, .int .i64 x.box.lo.y, .int .i64 x.box.lo.z, .int .i64 x.box.hi.x, .int .i64 x.box.hi.y, .int .i64 x.box.hi.z, .int .i64 x.at_.x, .int .i64 x.at_.y, .int .i64 x.at_.z, .int .i64 x.turn, .int .i64 x.cell, .int .i64 x.size]
 have hx0 : ExtD w (w.alloc (.cells #[.int .i64 x.st.tick, .int .i64 x.st.clock, .int .i64 x.st.site, .int .i64 x.st.seq, .int .i64 x.kind, .int .i64 x.box.lo.x, .int .i64 x.box.lo.y, .int .i64 x.box.lo.z, .int .i64 x.box.hi.x, .int .i64 x.box.hi.y, .int .i64 x.box.hi.z, .int .i64 x.at_.x, .int .i64 x.at_.y, .int .i64 x.at_.z, .int .i64 x.turn, .int .i64 x.cell, .int .i64 x.size] 29)) := (ExtD.refl w).alloc _
 have hs0 : (w.alloc (.cells #[.int .i64 x.st.tick, .int .i64 x.st.clock, .int .i64 x.st.site, .int .i64 x.st.seq, .int .i64 x.kind, .int .i64 x.box.lo.x, .int .i64 x.box.lo.y, .int .i64 x.box.lo.z, .int .i64 x.box.hi.x, .int .i64 x.box.hi.y, .int .i64 x.box.hi.z, .int .i64 x.at_.x, .int .i64 x.at_.y, .int .i64 x.at_.z, .int .i64 x.turn, .int .i64 x.cell, .int .i64 x.size] 29)).heap.size = w.heap.size + 1 := World.size_alloc_ _ _
 obtain ⟨W0, hW⟩ : ∃ W, W = w.alloc (.cells #[.int .i64 x.st.tick, .int .i64 x.st.clock, .int .i64 x.st.site, .int .i64 x.st.seq, .int .i64 x.kind, .int .i64 x.box.lo.x, .int .i64 x.box.lo.y, .int .i64 x.box.lo.z, .int .i64 x.box.hi.x, .int .i64 x.box.hi.y, .int .i64 x.box.hi.z, .int .i64 x.at_.x, .int .i64 x.at_.y, .int .i64 x.at_.z, .int .i64 x.turn, .int .i64 x.cell, .int .i64 x.size] 29) := ⟨_, rfl⟩
 rw [← hW] at hx0 hs0
 have B0 : Arr W0 w.heap.size 29 [.int .i64 x.st.tick, .int .i64 x.st.clock, .int .i64 x.st.site, .int .i64 x.st.seq, .int .i64 x.kind, .int .i64 x.box.lo.x, .int .i64 x.box.lo.y, .int .i64 x.box.lo.z, .int .i64 x.box.hi.x, .int .i64 x.box.hi.y, .int .i64 x.box.hi.z, .int .i64 x.at_.x, .int .i64 x.at_.y, .int .i64 x.at_.z, .int .i64 x.turn, .int .i64 x.cell, .int .i64 x.size] := by rw [hW]; exact B0
 rw [← hW]
 clear hW
 have HB0 := Lib.hid B0; have HX0 := Lib.hid hx0; have HSZ := Lib.hid hs0
 clear B0 hx0 hs0
 go_upto_region 2 with (first
  | (refine wpList_load_part 23 (.tmp 4) rfl rfl HB0.out 0 [.int .i64 x.st.tick, .int .i64 x.st.clock, .int .i64 x.st.site, .int .i64 x.st.seq] rfl rfl _ Tryz.underlying23 rfl (by kernel_rfl) ?_)
  | (refine wpList_store_blk 23 (.tmp 3) (.tmp 5) rfl rfl (Arr.new W0 23 [.int .i64 0, .int .i64 0, .int .i64 0, .int .i64 0]) [.int .i64 x.st.tick, .int .i64 x.st.clock, .int .i64 x.st.site, .int .i64 x.st.seq] rfl rfl (by kernel_rfl) rfl rfl ?_))
 have hB1 := (Arr.new W0 23 [.int .i64 0, .int .i64 0, .int .i64 0, .int .i64 0]).setRow [.int .i64 x.st.tick, .int .i64 x.st.clock, .int .i64 x.st.site, .int .i64 x.st.seq]
 have hx1 : ExtD W0 ((W0.alloc (.cells ([.int .i64 0, .int .i64 0, .int .i64 0, .int .i64 0] : List Value).toArray 23)).setRow W0.heap.size ([.int .i64 x.st.tick, .int .i64 x.st.clock, .int .i64 x.st.site, .int .i64 x.st.seq] : List Value).toArray) := ((ExtD.refl W0).alloc _).setRow (Nat.le_refl _) _
 obtain ⟨W1, hW⟩ : ∃ W, W = (W0.alloc (.cells ([.int .i64 0, .int .i64 0, .int .i64 0, .int .i64 0] : List Value).toArray 23)).setRow W0.heap.size ([.int .i64 x.st.tick, .int .i64 x.st.clock, .int .i64 x.st.site, .int .i64 x.st.seq] : List Value).toArray := ⟨_, rfl⟩
 have hW' : W1 = (W0.alloc (.cells #[.int .i64 0, .int .i64 0, .int .i64 0, .int .i64 0] 23)).setRow W0.heap.size #[.int .i64 x.st.tick, .int .i64 x.st.clock, .int .i64 x.st.site, .int .i64 x.st.seq] := hW
 rw [← hW] at hB1 hx1
 rw [← hW']
 clear hW hW'
 rw [HSZ.out] at hB1
 have HB0 := Lib.hid (HB0.out.ext hx1.ext); have HB1 := Lib.hid hB1; have HX1 := Lib.hid (HX0.out.trans hx1)
 clear hB1 hx1
 (try rw [HSZ.out])
 refine wp_region_relD (w := W1) (fun i v w' => match i with
     | 0 => v = .pointer (some ⟨w.heap.size + 1, 0, none⟩)
     | 1 => v = .int .i64 x.st.tick
     | 2 => v = .pointer (some ⟨w.heap.size + 1, 1, none⟩)
     | 3 => v = .int .i64 x.st.clock
     | 4 => v = .pointer (some ⟨w.heap.size + 1, 2, none⟩)
     | 5 => v = .int .i64 x.st.site
     | 6 => v = .pointer (some ⟨w.heap.size + 1, 3, none⟩)
     | 7 => v = .int .i64 x.st.seq
     | 8 => v = .pointer (some ⟨w.heap.size, 4, none⟩)
     | 9 => v = .int .i64 x.kind
     | 10 => ∃ b, v = .slice (some ⟨b, 0, none⟩) 5 5 ∧ Sv w' w'.heap.size 1 (some ⟨b, 0, none⟩) 5 (rowsI [x.st.tick, x.st.clock, x.st.site, x.st.seq, x.kind])
     | 11 => v = .pointer (some ⟨w.heap.size, 5, none⟩)
     | 12 => v = .pointer (some ⟨w.heap.size, 5, none⟩)
     | 13 => v = .agg #[.int .i64 x.box.lo.x, .int .i64 x.box.lo.y, .int .i64 x.box.lo.z]
     | 14 => v = .pointer (some ⟨w.heap.size, 5, none⟩)
     | 15 => v = .pointer (some ⟨w.heap.size, 8, none⟩)
     | 16 => v = .agg #[.int .i64 x.box.hi.x, .int .i64 x.box.hi.y, .int .i64 x.box.hi.z]
     | 17 => v = .pointer (some ⟨w.heap.size, 11, none⟩)
     | 18 => v = .agg #[.int .i64 x.at_.x, .int .i64 x.at_.y, .int .i64 x.at_.z]
     | 19 => ∃ b, v = .slice (some ⟨b, 0, none⟩) 3 3 ∧ Sv w' w'.heap.size 3 (some ⟨b, 0, none⟩) 3 (rowsP [x.box.lo, x.box.hi, x.at_])
     | 20 => ∃ A' c', v = .slice A' 9 c' ∧ Sv w' w'.heap.size 1 A' c' (rowsI (coordsL [x.box.lo, x.box.hi, x.at_]))
     | 21 => v = .pointer (some ⟨w.heap.size, 14, none⟩)
     | 22 => v = .int .i64 x.turn
     | 23 => v = .pointer (some ⟨w.heap.size, 15, none⟩)
     | 24 => v = .int .i64 x.cell
     | 25 => v = .pointer (some ⟨w.heap.size, 16, none⟩)
     | 26 => v = .int .i64 x.size
     | 27 => ∃ b, v = .slice (some ⟨b, 0, none⟩) 3 3 ∧ Sv w' w'.heap.size 1 (some ⟨b, 0, none⟩) 3 (rowsI [x.turn, x.cell, x.size])
     | 28 => ∃ b vs, v = .slice (some ⟨b, 0, none⟩) 3 3 ∧ SvI w' w'.heap.size (some ⟨b, 0, none⟩) 3 vs [[x.st.tick, x.st.clock, x.st.site, x.st.seq, x.kind], coordsL [x.box.lo, x.box.hi, x.at_], [x.turn, x.cell, x.size]]
     | 29 => ∃ A' c', v = .slice A' 17 c' ∧ Sv w' w'.heap.size 1 A' c' (rowsI (numsE x))
     | 30 => ∃ A' c', v = .slice A' 17 c' ∧ Sv w' w'.heap.size 1 A' c' (rowsI (numsE x))
     | _ => True) hm (by kernel_rfl) (by kernel_rfl) rfl ?_ ?_ ?_
 · intro i v w1 w2 hx h
   match i, h with
   | 0, h => exact h
   | 1, h => exact h
   | 2, h => exact h
   | 3, h => exact h
   | 4, h => exact h
   | 5, h => exact h
   | 6, h => exact h
   | 7, h => exact h
   | 8, h => exact h
   | 9, h => exact h
   | 10, h => exact (by obtain ⟨b, k1, k2⟩ := h; exact ⟨b, k1, k2.ext hx⟩)
   | 11, h => exact h
   | 12, h => exact h
   | 13, h => exact h
   | 14, h => exact h
   | 15, h => exact h
   | 16, h => exact h
   | 17, h => exact h
   | 18, h => exact h
   | 19, h => exact (by obtain ⟨b, k1, k2⟩ := h; exact ⟨b, k1, k2.ext hx⟩)
   | 20, h => exact (by obtain ⟨A', c', k1, k2⟩ := h; exact ⟨A', c', k1, k2.ext hx⟩)
   | 21, h => exact h
   | 22, h => exact h
   | 23, h => exact h
   | 24, h => exact h
   | 25, h => exact h
   | 26, h => exact h
   | 27, h => exact (by obtain ⟨b, k1, k2⟩ := h; exact ⟨b, k1, k2.ext hx⟩)
   | 28, h => exact (by obtain ⟨b, vs, k1, k2⟩ := h; exact ⟨b, vs, k1, k2.ext hx⟩)
   | 29, h => exact (by obtain ⟨A', c', k1, k2⟩ := h; exact ⟨A', c', k1, k2.ext hx⟩)
   | 30, h => exact (by obtain ⟨A', c', k1, k2⟩ := h; exact ⟨A', c', k1, k2.ext hx⟩)
   | i + 31, h => exact trivial
 · intro i o ho b w1 hx hmiss hdep K hK
   match i, ho with
   | 0, ho =>
     obtain rfl := Option.some.inj ho
     refine want_none rfl ?_
     have e3 : b.tmps[3]? = some (.pointer (some ⟨w.heap.size + 1, 0, none⟩)) := hmiss 3 rfl
     exact op_run (by unfold execOp; simp [e3, Act.eval, go_sem]) (hK _ w1 (ExtD.refl _) rfl)
   | 1, ho =>
     obtain rfl := Option.some.inj ho
     refine want_none rfl ?_
     obtain ⟨v6, g6, e6⟩ := hdep 0 rfl
     have g6 : v6 = .pointer (some ⟨w.heap.size + 1, 0, none⟩) := g6
     subst g6
     have e6 := e6 6 rfl
     have d0 := (HB1.out.ext hx.ext).cell 0
     have dl := (HB1.out.ext hx.ext).lt
     simp only [List.getElem?_cons_zero] at d0
     exact op_run (by unfold execOp; simp [e6, Act.eval, go_sem, d0]) (hK _ w1 (ExtD.refl _) rfl)
   | 2, ho =>
     obtain rfl := Option.some.inj ho
     refine want_none rfl ?_
     have e3 : b.tmps[3]? = some (.pointer (some ⟨w.heap.size + 1, 0, none⟩)) := hmiss 3 rfl
     exact op_run (by unfold execOp; simp [e3, Act.eval, go_sem]) (hK _ w1 (ExtD.refl _) rfl)
   | 3, ho =>
     obtain rfl := Option.some.inj ho
     refine want_none rfl ?_
     obtain ⟨v8, g8, e8⟩ := hdep 2 rfl
     have g8 : v8 = .pointer (some ⟨w.heap.size + 1, 1, none⟩) := g8
     subst g8
     have e8 := e8 8 rfl
     have d1 := (HB1.out.ext hx.ext).cell 1
     have dl := (HB1.out.ext hx.ext).lt
     simp only [List.getElem?_cons_zero, List.getElem?_cons_succ] at d1
     exact op_run (by unfold execOp; simp [e8, Act.eval, go_sem, d1]) (hK _ w1 (ExtD.refl _) rfl)
   | 4, ho =>
     obtain rfl := Option.some.inj ho
     refine want_none rfl ?_
     have e3 : b.tmps[3]? = some (.pointer (some ⟨w.heap.size + 1, 0, none⟩)) := hmiss 3 rfl
     exact op_run (by unfold execOp; simp [e3, Act.eval, go_sem]) (hK _ w1 (ExtD.refl _) rfl)
   | 5, ho =>
     obtain rfl := Option.some.inj ho
     refine want_none rfl ?_
     obtain ⟨v10, g10, e10⟩ := hdep 4 rfl
     have g10 : v10 = .pointer (some ⟨w.heap.size + 1, 2, none⟩) := g10
     subst g10
     have e10 := e10 10 rfl
     have d2 := (HB1.out.ext hx.ext).cell 2
     have dl := (HB1.out.ext hx.ext).lt
     simp only [List.getElem?_cons_zero, List.getElem?_cons_succ] at d2
     exact op_run (by unfold execOp; simp [e10, Act.eval, go_sem, d2]) (hK _ w1 (ExtD.refl _) rfl)
   | 6, ho =>
     obtain rfl := Option.some.inj ho
     refine want_none rfl ?_
     have e3 : b.tmps[3]? = some (.pointer (some ⟨w.heap.size + 1, 0, none⟩)) := hmiss 3 rfl
     exact op_run (by unfold execOp; simp [e3, Act.eval, go_sem]) (hK _ w1 (ExtD.refl _) rfl)
   | 7, ho =>
     obtain rfl := Option.some.inj ho
     refine want_none rfl ?_
     obtain ⟨v12, g12, e12⟩ := hdep 6 rfl
     have g12 : v12 = .pointer (some ⟨w.heap.size + 1, 3, none⟩) := g12
     subst g12
     have e12 := e12 12 rfl
     have d3 := (HB1.out.ext hx.ext).cell 3
     have dl := (HB1.out.ext hx.ext).lt
     simp only [List.getElem?_cons_zero, List.getElem?_cons_succ] at d3
     exact op_run (by unfold execOp; simp [e12, Act.eval, go_sem, d3]) (hK _ w1 (ExtD.refl _) rfl)
   | 8, ho =>
     obtain rfl := Option.some.inj ho
     refine want_none rfl ?_
     have e1 : b.tmps[1]? = some (.pointer (some ⟨w.heap.size, 0, none⟩)) := hmiss 1 rfl
     exact op_run (by unfold execOp; simp [e1, Act.eval, go_sem]) (hK _ w1 (ExtD.refl _) rfl)
   | 9, ho =>
     obtain rfl := Option.some.inj ho
     refine want_none rfl ?_
     obtain ⟨v14, g14, e14⟩ := hdep 8 rfl
     have g14 : v14 = .pointer (some ⟨w.heap.size, 4, none⟩) := g14
     subst g14
     have e14 := e14 14 rfl
     have d4 := (HB0.out.ext hx.ext).cell 4
     have dl := (HB0.out.ext hx.ext).lt
     simp only [List.getElem?_cons_zero, List.getElem?_cons_succ] at d4
     exact op_run (by unfold execOp; simp [e14, Act.eval, go_sem, d4]) (hK _ w1 (ExtD.refl _) rfl)
   | 10, ho =>
     obtain rfl := Option.some.inj ho
     refine want_none rfl ?_
     obtain ⟨v7, g7, e7⟩ := hdep 1 rfl
     have g7 : v7 = .int .i64 x.st.tick := g7
     subst g7
     have e7 := e7 7 rfl
     obtain ⟨v9, g9, e9⟩ := hdep 3 rfl
     have g9 : v9 = .int .i64 x.st.clock := g9
     subst g9
     have e9 := e9 9 rfl
     obtain ⟨v11, g11, e11⟩ := hdep 5 rfl
     have g11 : v11 = .int .i64 x.st.site := g11
     subst g11
     have e11 := e11 11 rfl
     obtain ⟨v13, g13, e13⟩ := hdep 7 rfl
     have g13 : v13 = .int .i64 x.st.seq := g13
     subst g13
     have e13 := e13 13 rfl
     obtain ⟨v15, g15, e15⟩ := hdep 9 rfl
     have g15 : v15 = .int .i64 x.kind := g15
     subst g15
     have e15 := e15 15 rfl
     exact op_run (v := .slice (some ⟨w1.heap.size, 0, none⟩) 5 5) (w2 := w1.alloc (.cells (([x.st.tick, x.st.clock, x.st.site, x.st.seq, x.kind] : List Int).map (Value.int .i64)).toArray 3)) (by unfold execOp; simp [e7, e9, e11, e13, e15, Act.eval, go_sem]) (hK _ _ ((ExtD.refl w1).alloc _) ⟨_, rfl, sv_new w1 [x.st.tick, x.st.clock, x.st.site, x.st.seq, x.kind] (by simp)⟩)
   | 11, ho =>
     obtain rfl := Option.some.inj ho
     refine want_none rfl ?_
     have e1 : b.tmps[1]? = some (.pointer (some ⟨w.heap.size, 0, none⟩)) := hmiss 1 rfl
     exact op_run (by unfold execOp; simp [e1, Act.eval, go_sem]) (hK _ w1 (ExtD.refl _) rfl)
   | 12, ho =>
     obtain rfl := Option.some.inj ho
     refine want_none rfl ?_
     obtain ⟨v17, g17, e17⟩ := hdep 11 rfl
     have g17 : v17 = .pointer (some ⟨w.heap.size, 5, none⟩) := g17
     subst g17
     have e17 := e17 17 rfl
     exact op_run (by unfold execOp; simp [e17, Act.eval, go_sem]) (hK _ w1 (ExtD.refl _) rfl)
   | 13, ho =>
     obtain rfl := Option.some.inj ho
     refine want_none rfl ?_
     obtain ⟨v18, g18, e18⟩ := hdep 12 rfl
     have g18 : v18 = .pointer (some ⟨w.heap.size, 5, none⟩) := g18
     subst g18
     have e18 := e18 18 rfl
     have d5 := (HB0.out.ext hx.ext).cell 5
     have d6 := (HB0.out.ext hx.ext).cell 6
     have d7 := (HB0.out.ext hx.ext).cell 7
     have dl := (HB0.out.ext hx.ext).lt
     simp only [List.getElem?_cons_zero, List.getElem?_cons_succ] at d5 d6 d7
     exact op_run (by unfold execOp; simp [e18, Act.eval, go_sem, d5, d6, d7]) (hK _ w1 (ExtD.refl _) rfl)
   | 14, ho =>
     obtain rfl := Option.some.inj ho
     refine want_none rfl ?_
     have e1 : b.tmps[1]? = some (.pointer (some ⟨w.heap.size, 0, none⟩)) := hmiss 1 rfl
     exact op_run (by unfold execOp; simp [e1, Act.eval, go_sem]) (hK _ w1 (ExtD.refl _) rfl)
   | 15, ho =>
     obtain rfl := Option.some.inj ho
     refine want_none rfl ?_
     obtain ⟨v20, g20, e20⟩ := hdep 14 rfl
     have g20 : v20 = .pointer (some ⟨w.heap.size, 5, none⟩) := g20
     subst g20
     have e20 := e20 20 rfl
     exact op_run (by unfold execOp; simp [e20, Act.eval, go_sem]) (hK _ w1 (ExtD.refl _) rfl)
   | 16, ho =>
     obtain rfl := Option.some.inj ho
     refine want_none rfl ?_
     obtain ⟨v21, g21, e21⟩ := hdep 15 rfl
     have g21 : v21 = .pointer (some ⟨w.heap.size, 8, none⟩) := g21
     subst g21
     have e21 := e21 21 rfl
     have d8 := (HB0.out.ext hx.ext).cell 8
     have d9 := (HB0.out.ext hx.ext).cell 9
     have d10 := (HB0.out.ext hx.ext).cell 10
     have dl := (HB0.out.ext hx.ext).lt
     simp only [List.getElem?_cons_zero, List.getElem?_cons_succ] at d8 d9 d10
     exact op_run (by unfold execOp; simp [e21, Act.eval, go_sem, d8, d9, d10]) (hK _ w1 (ExtD.refl _) rfl)
   | 17, ho =>
     obtain rfl := Option.some.inj ho
     refine want_none rfl ?_
     have e1 : b.tmps[1]? = some (.pointer (some ⟨w.heap.size, 0, none⟩)) := hmiss 1 rfl
     exact op_run (by unfold execOp; simp [e1, Act.eval, go_sem]) (hK _ w1 (ExtD.refl _) rfl)
   | 18, ho =>
     obtain rfl := Option.some.inj ho
     refine want_none rfl ?_
     obtain ⟨v23, g23, e23⟩ := hdep 17 rfl
     have g23 : v23 = .pointer (some ⟨w.heap.size, 11, none⟩) := g23
     subst g23
     have e23 := e23 23 rfl
     have d11 := (HB0.out.ext hx.ext).cell 11
     have d12 := (HB0.out.ext hx.ext).cell 12
     have d13 := (HB0.out.ext hx.ext).cell 13
     have dl := (HB0.out.ext hx.ext).lt
     simp only [List.getElem?_cons_zero, List.getElem?_cons_succ] at d11 d12 d13
     exact op_run (by unfold execOp; simp [e23, Act.eval, go_sem, d11, d12, d13]) (hK _ w1 (ExtD.refl _) rfl)
   | 19, ho =>
     obtain rfl := Option.some.inj ho
     refine want_none rfl ?_
     obtain ⟨v19, g19, e19⟩ := hdep 13 rfl
     have g19 : v19 = .agg #[.int .i64 x.box.lo.x, .int .i64 x.box.lo.y, .int .i64 x.box.lo.z] := g19
     subst g19
     have e19 := e19 19 rfl
     obtain ⟨v22, g22, e22⟩ := hdep 16 rfl
     have g22 : v22 = .agg #[.int .i64 x.box.hi.x, .int .i64 x.box.hi.y, .int .i64 x.box.hi.z] := g22
     subst g22
     have e22 := e22 22 rfl
     obtain ⟨v24, g24, e24⟩ := hdep 18 rfl
     have g24 : v24 = .agg #[.int .i64 x.at_.x, .int .i64 x.at_.y, .int .i64 x.at_.z] := g24
     subst g24
     have e24 := e24 24 rfl
     exact op_run (v := .slice (some ⟨w1.heap.size, 0, none⟩) 3 3) (w2 := w1.alloc (.cells (rowsP [x.box.lo, x.box.hi, x.at_]).flatten.toArray 25)) (by unfold execOp; simp [e19, e22, e24, Act.eval, go_sem, rowsP, Pt.cells]) (hK _ _ ((ExtD.refl w1).alloc _) ⟨_, rfl, sv_newP w1 [x.box.lo, x.box.hi, x.at_] (by simp)⟩)
   | 20, ho =>
     obtain rfl := Option.some.inj ho
     refine want_none rfl ?_
     obtain ⟨v25, ⟨b1, k1, k2⟩, e25⟩ := hdep 19 rfl
     have e25 := e25 25 rfl
     subst k1
     have hc := (coordinates_any (some ⟨b1, 0, none⟩) 3 [x.box.lo, x.box.hi, x.at_] w1 k2 (by simp)).mono (R' := fun e w' => ∃ v, e = .returned v ∧ ExtD w1 w' ∧ ∃ A' c', v = .slice A' 9 c' ∧ Sv w' w'.heap.size 1 A' c' (rowsI (coordsL [x.box.lo, x.box.hi, x.at_]))) (fun e w' ⟨v, h1, h2, h3⟩ => (by obtain ⟨A', c', rfl, _⟩ := own_form h2; exact ⟨_, h1, h3, A', c', rfl, Sv.of_own h2 (rowsI_rwk _) (rowsI_length _)⟩))
     exact op_callD rfl (by first | (simp [eval_of e25]; done) | (simp [eval_of e25]; rfl)) (fun _ _ => by kernel_rfl) hc (fun v w' h g => hK v w' h g)
   | 21, ho =>
     obtain rfl := Option.some.inj ho
     refine want_none rfl ?_
     have e1 : b.tmps[1]? = some (.pointer (some ⟨w.heap.size, 0, none⟩)) := hmiss 1 rfl
     exact op_run (by unfold execOp; simp [e1, Act.eval, go_sem]) (hK _ w1 (ExtD.refl _) rfl)
   | 22, ho =>
     obtain rfl := Option.some.inj ho
     refine want_none rfl ?_
     obtain ⟨v27, g27, e27⟩ := hdep 21 rfl
     have g27 : v27 = .pointer (some ⟨w.heap.size, 14, none⟩) := g27
     subst g27
     have e27 := e27 27 rfl
     have d14 := (HB0.out.ext hx.ext).cell 14
     have dl := (HB0.out.ext hx.ext).lt
     simp only [List.getElem?_cons_zero, List.getElem?_cons_succ] at d14
     exact op_run (by unfold execOp; simp [e27, Act.eval, go_sem, d14]) (hK _ w1 (ExtD.refl _) rfl)
   | 23, ho =>
     obtain rfl := Option.some.inj ho
     refine want_none rfl ?_
     have e1 : b.tmps[1]? = some (.pointer (some ⟨w.heap.size, 0, none⟩)) := hmiss 1 rfl
     exact op_run (by unfold execOp; simp [e1, Act.eval, go_sem]) (hK _ w1 (ExtD.refl _) rfl)
   | 24, ho =>
     obtain rfl := Option.some.inj ho
     refine want_none rfl ?_
     obtain ⟨v29, g29, e29⟩ := hdep 23 rfl
     have g29 : v29 = .pointer (some ⟨w.heap.size, 15, none⟩) := g29
     subst g29
     have e29 := e29 29 rfl
     have d15 := (HB0.out.ext hx.ext).cell 15
     have dl := (HB0.out.ext hx.ext).lt
     simp only [List.getElem?_cons_zero, List.getElem?_cons_succ] at d15
     exact op_run (by unfold execOp; simp [e29, Act.eval, go_sem, d15]) (hK _ w1 (ExtD.refl _) rfl)
   | 25, ho =>
     obtain rfl := Option.some.inj ho
     refine want_none rfl ?_
     have e1 : b.tmps[1]? = some (.pointer (some ⟨w.heap.size, 0, none⟩)) := hmiss 1 rfl
     exact op_run (by unfold execOp; simp [e1, Act.eval, go_sem]) (hK _ w1 (ExtD.refl _) rfl)
   | 26, ho =>
     obtain rfl := Option.some.inj ho
     refine want_none rfl ?_
     obtain ⟨v31, g31, e31⟩ := hdep 25 rfl
     have g31 : v31 = .pointer (some ⟨w.heap.size, 16, none⟩) := g31
     subst g31
     have e31 := e31 31 rfl
     have d16 := (HB0.out.ext hx.ext).cell 16
     have dl := (HB0.out.ext hx.ext).lt
     simp only [List.getElem?_cons_zero, List.getElem?_cons_succ] at d16
     exact op_run (by unfold execOp; simp [e31, Act.eval, go_sem, d16]) (hK _ w1 (ExtD.refl _) rfl)
   | 27, ho =>
     obtain rfl := Option.some.inj ho
     refine want_none rfl ?_
     obtain ⟨v28, g28, e28⟩ := hdep 22 rfl
     have g28 : v28 = .int .i64 x.turn := g28
     subst g28
     have e28 := e28 28 rfl
     obtain ⟨v30, g30, e30⟩ := hdep 24 rfl
     have g30 : v30 = .int .i64 x.cell := g30
     subst g30
     have e30 := e30 30 rfl
     obtain ⟨v32, g32, e32⟩ := hdep 26 rfl
     have g32 : v32 = .int .i64 x.size := g32
     subst g32
     have e32 := e32 32 rfl
     exact op_run (v := .slice (some ⟨w1.heap.size, 0, none⟩) 3 3) (w2 := w1.alloc (.cells (([x.turn, x.cell, x.size] : List Int).map (Value.int .i64)).toArray 3)) (by unfold execOp; simp [e28, e30, e32, Act.eval, go_sem]) (hK _ _ ((ExtD.refl w1).alloc _) ⟨_, rfl, sv_new w1 [x.turn, x.cell, x.size] (by simp)⟩)
   | 28, ho =>
     obtain rfl := Option.some.inj ho
     refine want_none rfl ?_
     obtain ⟨v16, ⟨b1, k1, s1⟩, e16⟩ := hdep 10 rfl
     have e16 := e16 16 rfl
     subst k1
     obtain ⟨v26, ⟨A2, c2, k2, s2⟩, e26⟩ := hdep 20 rfl
     have e26 := e26 26 rfl
     subst k2
     obtain ⟨v33, ⟨b3, k3, s3⟩, e33⟩ := hdep 27 rfl
     have e33 := e33 33 rfl
     subst k3
     have hv := svI_new w1 [.slice (some ⟨b1, 0, none⟩) 5 5, .slice A2 9 c2, .slice (some ⟨b3, 0, none⟩) 3 3] [[x.st.tick, x.st.clock, x.st.site, x.st.seq, x.kind], coordsL [x.box.lo, x.box.hi, x.at_], [x.turn, x.cell, x.size]] (by simp) rfl (by simp [Value.oneCell']) (fun i v l hv hl => by
      match i, hv, hl with
      | 0, hv, hl => simp at hv hl; subst hv hl; exact ⟨_, _, rfl, s1⟩
      | 1, hv, hl => simp at hv hl; subst hv hl; exact ⟨_, _, rfl, s2⟩
      | 2, hv, hl => simp at hv hl; subst hv hl; exact ⟨_, _, rfl, s3⟩
      | i + 3, hv, hl => simp at hv)
     exact op_run (v := .slice (some ⟨w1.heap.size, 0, none⟩) 3 3) (w2 := w1.alloc (.cells ([.slice (some ⟨b1, 0, none⟩) 5 5, .slice A2 9 c2, .slice (some ⟨b3, 0, none⟩) 3 3] : List Value).toArray 83)) (by unfold execOp; simp [e16, e26, e33, Act.eval, go_sem]) (hK _ _ ((ExtD.refl w1).alloc _) ⟨_, _, rfl, hv⟩)
   | 29, ho =>
     obtain rfl := Option.some.inj ho
     refine want_none rfl ?_
     obtain ⟨v34, ⟨b1, vs1, k1, k2⟩, e34⟩ := hdep 28 rfl
     have e34 := e34 34 rfl
     subst k1
     have hc := (Concat_any (some ⟨b1, 0, none⟩) 3 vs1 [[x.st.tick, x.st.clock, x.st.site, x.st.seq, x.kind], coordsL [x.box.lo, x.box.hi, x.at_], [x.turn, x.cell, x.size]] w1 k2 (by simp [coordsL])).mono (R' := fun e w' => ∃ v, e = .returned v ∧ ExtD w1 w' ∧ ∃ A' c', v = .slice A' 17 c' ∧ Sv w' w'.heap.size 1 A' c' (rowsI (numsE x))) (fun e w' ⟨v, h1, h2, h3⟩ => (by rw [numsE_flat] at h2; obtain ⟨A', c', rfl, _⟩ := own_form h2; exact ⟨_, h1, h3, A', c', rfl, Sv.of_own h2 (rowsI_rwk _) (rowsI_length _)⟩))
     exact op_callD rfl (by first | (simp [eval_of e34]; done) | (simp [eval_of e34]; rfl)) (fun _ _ => by kernel_rfl) hc (fun v w' h g => hK v w' h g)
   | 30, ho =>
     obtain rfl := Option.some.inj ho
     refine want_none rfl ?_
     obtain ⟨v1, g1, e1⟩ := hdep 29 rfl
     have e1 := e1 35 rfl
     exact op_assign rfl (eval_of e1) (hK _ w1 (ExtD.refl _) g1)
   | i + 31, ho => cases ho
 · intro V W2 hx hg
   obtain ⟨AR, cR, q0, sR⟩ := hg 30 (by decide)
   simp only [List.length_cons, List.length_nil, fillAllN, dstOf, Act.put, List.getElem?_toArray, List.getElem?_cons_zero, List.getElem?_cons_succ, Option.bind_some, List.setIfInBounds_toArray, List.set_cons_zero, List.set_cons_succ, q0]
   clear hg q0
   go_wp2
   go_ret
   exact ⟨_, _, rfl, sR, HX1.out.trans hx⟩
end Go.Proofs.YtlinhgannajfpaaGreatDoor

/- Encode, Digest of an edit, on both sides; the reference's Same (bytes). -/
namespace Go.Proofs.YtlinhgannajfpaaGreatDoor
open Go Go.RowKit

def FitE (x : Ed) : Prop := ∀ n, n ∈ numsE x → fit64 n
def encE (x : Ed) : List UInt8 := encL (numsE x)
theorem encE_len {x : Ed} (h : FitE x) : (encE x).length ≤ 180 := by
 have h1 := encP_len h (by simp [numsE]) 17
 have h2 := encP_all (numsE x)
 rw [show (numsE x).length = 17 from rfl] at h1 h2
 unfold encE
 rw [← h2]
 omega
def digE (x : Ed) : List UInt8 := digL 7 [encE x]
theorem ofMsg_len1 {p : List UInt8} (h : p.length ≤ 1000) : (ofMsg 7 [p]).length < 100000000 := by
 unfold ofMsg bytesL
 have h1 := encI_len (n := ((p.length : Nat) : Int)) ⟨by omega, by omega⟩
 simp
 omega
theorem svI_cells {w : World} {b : Nat} {x : Ed} (h : Arr w b 3 x.cells) : Sv w w.heap.size 1 (some ⟨b, 0, none⟩) 17 (rowsI (numsE x)) :=
 ⟨by rw [rowsI_length]; exact Nat.le_refl _, by unfold maxLen; omega, rowsI_rwk _, fun _ => ⟨b, 0, rfl, h.lt, fun j u hj => by rw [h.cell, Nat.zero_add]; exact hj⟩⟩
set_option maxRecDepth 100000 in
set_option maxHeartbeats 4000000 in
theorem EncEd_any (x : Ed) (hx : FitE x) (w : World) : Calls Tryz.prog 25 #[.agg #[.int .i64 x.st.tick, .int .i64 x.st.clock, .int .i64 x.st.site, .int .i64 x.st.seq, .int .i64 x.kind, .int .i64 x.box.lo.x, .int .i64 x.box.lo.y, .int .i64 x.box.lo.z, .int .i64 x.box.hi.x, .int .i64 x.box.hi.y, .int .i64 x.box.hi.z, .int .i64 x.at_.x, .int .i64 x.at_.y, .int .i64 x.at_.z, .int .i64 x.turn, .int .i64 x.cell, .int .i64 x.size]] w (RetB (encE x) w) := by
 have HF := Lib.hid hx
 clear hx
 obtain ⟨W0, hW⟩ : ∃ W, W = w.alloc (.cells #[.int .i64 x.st.tick, .int .i64 x.st.clock, .int .i64 x.st.site, .int .i64 x.st.seq, .int .i64 x.kind, .int .i64 x.box.lo.x, .int .i64 x.box.lo.y, .int .i64 x.box.lo.z, .int .i64 x.box.hi.x, .int .i64 x.box.hi.y, .int .i64 x.box.hi.z, .int .i64 x.at_.x, .int .i64 x.at_.y, .int .i64 x.at_.z, .int .i64 x.turn, .int .i64 x.cell, .int .i64 x.size] 29) := ⟨_, rfl⟩
 have HX0 := Lib.hid (show Ext w W0 by rw [hW]; exact (Ext.refl w).alloc _)
 have HB0 := Lib.hid (show Arr W0 w.heap.size 29 [.int .i64 x.st.tick, .int .i64 x.st.clock, .int .i64 x.st.site, .int .i64 x.st.seq, .int .i64 x.kind, .int .i64 x.box.lo.x, .int .i64 x.box.lo.y, .int .i64 x.box.lo.z, .int .i64 x.box.hi.x, .int .i64 x.box.hi.y, .int .i64 x.box.hi.z, .int .i64 x.at_.x, .int .i64 x.at_.y, .int .i64 x.at_.z, .int .i64 x.turn, .int .i64 x.cell, .int .i64 x.size] by rw [hW]; exact Arr.new w _ _)
 have HN := Lib.hid (numbers_any x W0)
 go_enter Tryz.func25, Tryz.ntmps25
 go_upto_region 1 with fail
 rw [← hW]
 clear hW
 go_wp2_with (first
  | (refine ldB 29 1 HB0.out Tryz.underlying29 ?_) | (refine ldB 29 1 (HB0.out.alloc _) Tryz.underlying29 ?_) | (refine ldB 29 1 ((HB0.out.alloc _).alloc _) Tryz.underlying29 ?_)
  | (go_at_call 66; refine HN.out.mono ?_; rintro e W1 ⟨A1, c1, rfl, hs1, hx1⟩; have HX1 := Lib.hid (HX0.out.trans hx1.ext); have HI := Lib.hid (wireInts_any A1 c1 (numsE x) W1 hs1 HF.out (by show 17 ≤ 1000000; omega)); clear hs1 hx1)
  | (go_at_call 71; refine HI.out.mono ?_; rintro e W2 ⟨A2, c2, rfl, ho2, hx2⟩; have HO2 := Lib.hid (own_lower HX1.out.size ho2); have HX2 := Lib.hid (HX1.out.trans hx2); clear ho2 hx2))
 go_ret
 exact ⟨A2, c2, rfl, HO2.out, HX2.out⟩
set_option maxRecDepth 100000 in
set_option maxHeartbeats 4000000 in
theorem refEnc_any (x : Ed) (hx : FitE x) (w : World) : Calls Tryz.prog 26 #[.agg #[.int .i64 x.st.tick, .int .i64 x.st.clock, .int .i64 x.st.site, .int .i64 x.st.seq, .int .i64 x.kind, .int .i64 x.box.lo.x, .int .i64 x.box.lo.y, .int .i64 x.box.lo.z, .int .i64 x.box.hi.x, .int .i64 x.box.hi.y, .int .i64 x.box.hi.z, .int .i64 x.at_.x, .int .i64 x.at_.y, .int .i64 x.at_.z, .int .i64 x.turn, .int .i64 x.cell, .int .i64 x.size]] w (RetB (encE x) w) := by
 have HF := Lib.hid hx
 clear hx
 obtain ⟨W0, hW⟩ : ∃ W, W = w.alloc (.cells #[.int .i64 x.st.tick, .int .i64 x.st.clock, .int .i64 x.st.site, .int .i64 x.st.seq, .int .i64 x.kind, .int .i64 x.box.lo.x, .int .i64 x.box.lo.y, .int .i64 x.box.lo.z, .int .i64 x.box.hi.x, .int .i64 x.box.hi.y, .int .i64 x.box.hi.z, .int .i64 x.at_.x, .int .i64 x.at_.y, .int .i64 x.at_.z, .int .i64 x.turn, .int .i64 x.cell, .int .i64 x.size] 29) := ⟨_, rfl⟩
 have HX0 := Lib.hid (show Ext w W0 by rw [hW]; exact (Ext.refl w).alloc _)
 have HB0 := Lib.hid (show Arr W0 w.heap.size 29 [.int .i64 x.st.tick, .int .i64 x.st.clock, .int .i64 x.st.site, .int .i64 x.st.seq, .int .i64 x.kind, .int .i64 x.box.lo.x, .int .i64 x.box.lo.y, .int .i64 x.box.lo.z, .int .i64 x.box.hi.x, .int .i64 x.box.hi.y, .int .i64 x.box.hi.z, .int .i64 x.at_.x, .int .i64 x.at_.y, .int .i64 x.at_.z, .int .i64 x.turn, .int .i64 x.cell, .int .i64 x.size] by rw [hW]; exact Arr.new w _ _)
 have HN := Lib.hid (refNumbers_any x W0)
 go_enter Tryz.func26, Tryz.ntmps26
 go_upto_region 1 with fail
 rw [← hW]
 clear hW
 go_wp2_with (first
  | (refine ldB 29 1 HB0.out Tryz.underlying29 ?_) | (refine ldB 29 1 (HB0.out.alloc _) Tryz.underlying29 ?_) | (refine ldB 29 1 ((HB0.out.alloc _).alloc _) Tryz.underlying29 ?_)
  | (go_at_call 67; refine HN.out.mono ?_; rintro e W1 ⟨b1, rfl, hs1, hx1, _⟩; have HX1 := Lib.hid (HX0.out.trans hx1); have HI := Lib.hid (refInts_any (some ⟨b1, 0, none⟩) 17 (numsE x) W1 (svI_cells hs1) HF.out (by show 17 ≤ 1000000; omega)); clear hs1 hx1)
  | (go_at_call 72; refine HI.out.mono ?_; rintro e W2 ⟨A2, c2, rfl, ho2, hx2⟩; have HO2 := Lib.hid (own_lower HX1.out.size ho2); have HX2 := Lib.hid (HX1.out.trans hx2); clear ho2 hx2))
 go_ret
 exact ⟨A2, c2, rfl, HO2.out, HX2.out⟩
end Go.Proofs.YtlinhgannajfpaaGreatDoor

/- Digest of an edit, on both sides; the reference's Same (bytes); Name. -/
namespace Go.Proofs.YtlinhgannajfpaaGreatDoor
open Go Go.RowKit

theorem rowsS_rwk (l : List (List UInt8)) : Rwk 1 (rowsS l) := fun x hx => by
 obtain ⟨p, _, rfl⟩ := List.mem_map.1 hx
 exact ⟨rfl, fun u hu => by simp at hu; subst hu; rfl⟩
theorem svS_one (w : World) (p : List UInt8) : Sv (w.alloc (.cells #[strV p] 9)) (w.alloc (.cells #[strV p] 9)).heap.size 1 (some ⟨w.heap.size, 0, none⟩) 1 (rowsS [p]) := by
 have h1 := Sv.lit w 9 1 (rowsS [p]) (rowsS_rwk _) (by rw [rowsS_len]; unfold maxLen; simp)
 rwa [rowsS_len] at h1
theorem digE_len (x : Ed) : (digE x).length = 16 := by unfold digE digL; rw [List.length_take, sha_len]; rfl
set_option maxRecDepth 100000 in
set_option maxHeartbeats 4000000 in
theorem DigEd_any (x : Ed) (hx : FitE x) (w : World) (hK : KIn w 2) : Calls Tryz.prog 27 #[.agg #[.int .i64 x.st.tick, .int .i64 x.st.clock, .int .i64 x.st.site, .int .i64 x.st.seq, .int .i64 x.kind, .int .i64 x.box.lo.x, .int .i64 x.box.lo.y, .int .i64 x.box.lo.z, .int .i64 x.box.hi.x, .int .i64 x.box.hi.y, .int .i64 x.box.hi.z, .int .i64 x.at_.x, .int .i64 x.at_.y, .int .i64 x.at_.z, .int .i64 x.turn, .int .i64 x.cell, .int .i64 x.size]] w fun e w' => e = .returned (.agg (bvs (digE x)).toArray) ∧ Ext w w' := by
 have HF := Lib.hid hx; have HK := Lib.hid hK
 clear hx hK
 obtain ⟨z16, hz16⟩ : ∃ z, z = List.replicate 16 (Value.int .u8 0) := ⟨_, rfl⟩
 obtain ⟨W0, hW⟩ : ∃ W, W = (w.alloc (.cells #[.int .i64 x.st.tick, .int .i64 x.st.clock, .int .i64 x.st.site, .int .i64 x.st.seq, .int .i64 x.kind, .int .i64 x.box.lo.x, .int .i64 x.box.lo.y, .int .i64 x.box.lo.z, .int .i64 x.box.hi.x, .int .i64 x.box.hi.y, .int .i64 x.box.hi.z, .int .i64 x.at_.x, .int .i64 x.at_.y, .int .i64 x.at_.z, .int .i64 x.turn, .int .i64 x.cell, .int .i64 x.size] 29)).alloc (.cells #[.int .u8 0, .int .u8 0, .int .u8 0, .int .u8 0, .int .u8 0, .int .u8 0, .int .u8 0, .int .u8 0, .int .u8 0, .int .u8 0, .int .u8 0, .int .u8 0, .int .u8 0, .int .u8 0, .int .u8 0, .int .u8 0] 45) := ⟨_, rfl⟩
 have HX0 := Lib.hid (show Ext w W0 by rw [hW]; exact ((Ext.refl w).alloc _).alloc _)
 have HB0 := Lib.hid (show Arr W0 w.heap.size 29 [.int .i64 x.st.tick, .int .i64 x.st.clock, .int .i64 x.st.site, .int .i64 x.st.seq, .int .i64 x.kind, .int .i64 x.box.lo.x, .int .i64 x.box.lo.y, .int .i64 x.box.lo.z, .int .i64 x.box.hi.x, .int .i64 x.box.hi.y, .int .i64 x.box.hi.z, .int .i64 x.at_.x, .int .i64 x.at_.y, .int .i64 x.at_.z, .int .i64 x.turn, .int .i64 x.cell, .int .i64 x.size] by rw [hW]; exact (Arr.new w _ [.int .i64 x.st.tick, .int .i64 x.st.clock, .int .i64 x.st.site, .int .i64 x.st.seq, .int .i64 x.kind, .int .i64 x.box.lo.x, .int .i64 x.box.lo.y, .int .i64 x.box.lo.z, .int .i64 x.box.hi.x, .int .i64 x.box.hi.y, .int .i64 x.box.hi.z, .int .i64 x.at_.x, .int .i64 x.at_.y, .int .i64 x.at_.z, .int .i64 x.turn, .int .i64 x.cell, .int .i64 x.size]).alloc _)
 have HZ0 := Lib.hid (show Arr W0 (w.heap.size + 1) 45 z16 by rw [hW, hz16]; exact Arr.new1 w _ _ (List.replicate 16 (.int .u8 0)))
 have HE := Lib.hid (EncEd_any x HF.out W0)
 have HEL := Lib.hid (ofMsg_len1 (p := encE x) (by have := encE_len HF.out; omega))
 obtain ⟨vs, hvs⟩ : ∃ vs, vs = bvs (digE x) := ⟨_, rfl⟩
 have hvl : vs.length = 16 := by rw [hvs, bvs_len, digE_len]
 have HiV := Lib.hid (show (Tryz.prog.info? 45).map (·.size) = some vs.length by rw [hvl]; exact infoD)
 have HoV := Lib.hid (show vs.all (·.oneCell') = true by rw [hvs, List.all_eq_true]; exact bvs_one _)
 have HVL := Lib.hid (show z16.length = vs.length by rw [hvl, hz16]; rfl)
 have HVS := Lib.hid hvs
 have HOF := Lib.hid (fun (W' : World) (A : Option Addr) (c : Nat) (hs : Sv W' W'.heap.size 1 A c (rowsS [encE x])) (hx : Ext w W') => (show Calls Tryz.prog 73 #[.int .i64 7, .slice A 1 c] W' fun e w' => e = .returned (.agg vs.toArray) ∧ Ext W' w' by rw [hvs]; exact Of_any 7 (by decide) [encE x] A c HEL.out W' hs (HK.out.ext hx)))
 clear hvs hvl hz16
 generalize hen : encE x = en at HE HEL HOF
 clear hen
 go_enter Tryz.func27, Tryz.ntmps27
 go_upto_region 1 with fail
 rw [← hW]
 clear hW
 go_wp2_with (first
  | (refine ldB 29 1 HB0.out Tryz.underlying29 ?_) | (refine ldB 29 1 (HB0.out.alloc _) Tryz.underlying29 ?_) | (refine ldB 29 1 ((HB0.out.alloc _).alloc _) Tryz.underlying29 ?_)
  | (go_at_call 25; refine HE.out.mono ?_; rintro e W1 ⟨A1, c1, rfl, ho1, hx1⟩; have HS1 := Lib.hid (own_sv_B ho1 rfl); have HX1 := Lib.hid (HX0.out.trans hx1); have HZ1 := Lib.hid (HZ0.out.ext hx1); have HS2 := Lib.hid (svS_one W1 en); have HZ2 := Lib.hid (HZ1.out.alloc (.cells #[strV en] 9)); have HX2 := Lib.hid (HX1.out.alloc (.cells #[strV en] 9)); have HO := Lib.hid (HOF.out _ _ _ HS2.out HX2.out); clear ho1 hx1)
  | (refine wpList_convert_str 42 9 (.tmp 4) rfl rfl 5 Tryz.underlying42 Tryz.underlying5 Tryz.underlying9 _ c1 A1 en rfl HS1.out rfl ?_)
  | (go_at_call 73; refine HO.out.mono ?_; rintro e W3 ⟨rfl, hx3⟩; have HZ3 := Lib.hid (HZ2.out.ext hx3); have HX3 := Lib.hid (HX2.out.trans hx3); clear hx3)
  | (refine wpList_store_blk 45 (.tmp 2) (.tmp 7) rfl rfl HZ3.out vs rfl rfl HiV.out HVL.out HoV.out ?_))
 refine bodyPost_ret (v := .agg vs.toArray) ?_ rfl ⟨by rw [HVS.out], HX3.out.setRow (by omega) _⟩
 exact results_cell_row Tryz.results27 _ _ _ _ _ _ _ rfl (HZ3.out.setRow vs) Tryz.underlying45 rfl HiV.out
set_option maxRecDepth 100000 in
set_option maxHeartbeats 4000000 in
theorem refDig_any (x : Ed) (hx : FitE x) (w : World) (hK : KIn w 3) : Calls Tryz.prog 28 #[.agg #[.int .i64 x.st.tick, .int .i64 x.st.clock, .int .i64 x.st.site, .int .i64 x.st.seq, .int .i64 x.kind, .int .i64 x.box.lo.x, .int .i64 x.box.lo.y, .int .i64 x.box.lo.z, .int .i64 x.box.hi.x, .int .i64 x.box.hi.y, .int .i64 x.box.hi.z, .int .i64 x.at_.x, .int .i64 x.at_.y, .int .i64 x.at_.z, .int .i64 x.turn, .int .i64 x.cell, .int .i64 x.size]] w fun e w' => e = .returned (.agg (bvs (digE x)).toArray) ∧ Ext w w' := by
 have HF := Lib.hid hx; have HK := Lib.hid hK
 clear hx hK
 obtain ⟨z16, hz16⟩ : ∃ z, z = List.replicate 16 (Value.int .u8 0) := ⟨_, rfl⟩
 obtain ⟨W0, hW⟩ : ∃ W, W = (w.alloc (.cells #[.int .i64 x.st.tick, .int .i64 x.st.clock, .int .i64 x.st.site, .int .i64 x.st.seq, .int .i64 x.kind, .int .i64 x.box.lo.x, .int .i64 x.box.lo.y, .int .i64 x.box.lo.z, .int .i64 x.box.hi.x, .int .i64 x.box.hi.y, .int .i64 x.box.hi.z, .int .i64 x.at_.x, .int .i64 x.at_.y, .int .i64 x.at_.z, .int .i64 x.turn, .int .i64 x.cell, .int .i64 x.size] 29)).alloc (.cells #[.int .u8 0, .int .u8 0, .int .u8 0, .int .u8 0, .int .u8 0, .int .u8 0, .int .u8 0, .int .u8 0, .int .u8 0, .int .u8 0, .int .u8 0, .int .u8 0, .int .u8 0, .int .u8 0, .int .u8 0, .int .u8 0] 45) := ⟨_, rfl⟩
 have HX0 := Lib.hid (show Ext w W0 by rw [hW]; exact ((Ext.refl w).alloc _).alloc _)
 have HB0 := Lib.hid (show Arr W0 w.heap.size 29 [.int .i64 x.st.tick, .int .i64 x.st.clock, .int .i64 x.st.site, .int .i64 x.st.seq, .int .i64 x.kind, .int .i64 x.box.lo.x, .int .i64 x.box.lo.y, .int .i64 x.box.lo.z, .int .i64 x.box.hi.x, .int .i64 x.box.hi.y, .int .i64 x.box.hi.z, .int .i64 x.at_.x, .int .i64 x.at_.y, .int .i64 x.at_.z, .int .i64 x.turn, .int .i64 x.cell, .int .i64 x.size] by rw [hW]; exact (Arr.new w _ [.int .i64 x.st.tick, .int .i64 x.st.clock, .int .i64 x.st.site, .int .i64 x.st.seq, .int .i64 x.kind, .int .i64 x.box.lo.x, .int .i64 x.box.lo.y, .int .i64 x.box.lo.z, .int .i64 x.box.hi.x, .int .i64 x.box.hi.y, .int .i64 x.box.hi.z, .int .i64 x.at_.x, .int .i64 x.at_.y, .int .i64 x.at_.z, .int .i64 x.turn, .int .i64 x.cell, .int .i64 x.size]).alloc _)
 have HZ0 := Lib.hid (show Arr W0 (w.heap.size + 1) 45 z16 by rw [hW, hz16]; exact Arr.new1 w _ _ (List.replicate 16 (.int .u8 0)))
 have HE := Lib.hid (refEnc_any x HF.out W0)
 have HEL := Lib.hid (ofMsg_len1 (p := encE x) (by have := encE_len HF.out; omega))
 obtain ⟨vs, hvs⟩ : ∃ vs, vs = bvs (digE x) := ⟨_, rfl⟩
 have hvl : vs.length = 16 := by rw [hvs, bvs_len, digE_len]
 have HiV := Lib.hid (show (Tryz.prog.info? 45).map (·.size) = some vs.length by rw [hvl]; exact infoD)
 have HoV := Lib.hid (show vs.all (·.oneCell') = true by rw [hvs, List.all_eq_true]; exact bvs_one _)
 have HVL := Lib.hid (show z16.length = vs.length by rw [hvl, hz16]; rfl)
 have HVS := Lib.hid hvs
 have HOF := Lib.hid (fun (W' : World) (A : Option Addr) (c : Nat) (hs : Sv W' W'.heap.size 1 A c (rowsS [encE x])) (hx : Ext w W') => (show Calls Tryz.prog 74 #[.int .i64 7, .slice A 1 c] W' fun e w' => e = .returned (.agg vs.toArray) ∧ Ext W' w' by rw [hvs]; exact refOf_any 7 (by decide) [encE x] A c HEL.out W' hs (HK.out.ext hx)))
 clear hvs hvl hz16
 generalize hen : encE x = en at HE HEL HOF
 clear hen
 go_enter Tryz.func28, Tryz.ntmps28
 go_upto_region 1 with fail
 rw [← hW]
 clear hW
 go_wp2_with (first
  | (refine ldB 29 1 HB0.out Tryz.underlying29 ?_) | (refine ldB 29 1 (HB0.out.alloc _) Tryz.underlying29 ?_) | (refine ldB 29 1 ((HB0.out.alloc _).alloc _) Tryz.underlying29 ?_)
  | (go_at_call 26; refine HE.out.mono ?_; rintro e W1 ⟨A1, c1, rfl, ho1, hx1⟩; have HS1 := Lib.hid (own_sv_B ho1 rfl); have HX1 := Lib.hid (HX0.out.trans hx1); have HZ1 := Lib.hid (HZ0.out.ext hx1); have HS2 := Lib.hid (svS_one W1 en); have HZ2 := Lib.hid (HZ1.out.alloc (.cells #[strV en] 9)); have HX2 := Lib.hid (HX1.out.alloc (.cells #[strV en] 9)); have HO := Lib.hid (HOF.out _ _ _ HS2.out HX2.out); clear ho1 hx1)
  | (refine wpList_convert_str 42 9 (.tmp 4) rfl rfl 5 Tryz.underlying42 Tryz.underlying5 Tryz.underlying9 _ c1 A1 en rfl HS1.out rfl ?_)
  | (go_at_call 74; refine HO.out.mono ?_; rintro e W3 ⟨rfl, hx3⟩; have HZ3 := Lib.hid (HZ2.out.ext hx3); have HX3 := Lib.hid (HX2.out.trans hx3); clear hx3)
  | (refine wpList_store_blk 45 (.tmp 2) (.tmp 7) rfl rfl HZ3.out vs rfl rfl HiV.out HVL.out HoV.out ?_))
 refine bodyPost_ret (v := .agg vs.toArray) ?_ rfl ⟨by rw [HVS.out], HX3.out.setRow (by omega) _⟩
 exact results_cell_row Tryz.results28 _ _ _ _ _ _ _ rfl (HZ3.out.setRow vs) Tryz.underlying45 rfl HiV.out
set_option maxHeartbeats 4000000 in
theorem refSameB_any (a b : List UInt8) (A A2 : Option Addr) (c c2 : Nat) (w : World) (hs : Sv w w.heap.size 1 A c (rowsB a)) (hs2 : Sv w w.heap.size 1 A2 c2 (rowsB b)) :
    Calls Tryz.prog 24 #[.slice A a.length c, .slice A2 b.length c2] w fun e w' => e = .returned (.bool (a == b)) ∧ Ext w w' := by
 have HS := Lib.hid hs; have HS2 := Lib.hid hs2
 clear hs hs2
 go_enter Tryz.func24, Tryz.ntmps24
 go_wp2_with (first
  | (refine wpList_convert_str 42 9 (.tmp 5) rfl rfl 5 Tryz.underlying42 Tryz.underlying5 Tryz.underlying9 _ c A a rfl HS.out rfl ?_)
  | (refine wpList_convert_str 42 9 (.tmp 7) rfl rfl 5 Tryz.underlying42 Tryz.underlying5 Tryz.underlying9 _ c2 A2 b rfl HS2.out rfl ?_))
 go_ret
 exact ⟨rfl, Ext.refl _⟩
def nameF : Nat → List UInt8
 | 1 => [98, 111, 120]
 | 2 => [98, 97, 108, 108]
 | 3 => [112, 114, 105, 115, 109]
 | 4 => [99, 111, 112, 121]
 | 5 => [102, 105, 108, 108]
 | 6 => [117, 110, 100, 111]
 | 7 => [108, 111, 99, 107]
 | 8 => [117, 110, 108, 111, 99, 107]
 | _ => []
def kindN (k : Int) : List UInt8 := if 1 ≤ k ∧ k ≤ 8 then nameF k.toNat else []
structure NamesIn (w : World) : Prop where
 at_ : ∀ i, i < 9 → w.cell? ⟨0, 2 * i, none⟩ = some (strV (nameF i))
 lt : 0 < w.heap.size
theorem NamesIn.ext {w w' : World} (h : NamesIn w) (hx : Ext w w') : NamesIn w' := ⟨fun i hi => (hx.cell (p := ⟨0, 2 * i, none⟩) h.lt).trans (h.at_ i hi), Nat.lt_of_lt_of_le h.lt hx.size⟩
set_option maxHeartbeats 4000000 in
theorem Name_any (k : Int) (w : World) (hN : NamesIn w) :
    Calls Tryz.prog 17 #[.int .i64 k] w fun e w' => e = .returned (strV (kindN k)) ∧ Ext w w' := by
 by_cases hk : 1 ≤ k ∧ k ≤ 8
 · obtain ⟨i, rfl⟩ : ∃ i : Nat, k = i := ⟨k.toNat, by omega⟩
   have HW := Lib.hid (withinE_is (i : Int) 1 8 true (decide_eq_true hk))
   have hc0 := hN.at_ i (by omega)
   have hl := hN.lt
   clear hN
   obtain rfl | rfl | rfl | rfl | rfl | rfl | rfl | rfl : i = 1 ∨ i = 2 ∨ i = 3 ∨ i = 4 ∨ i = 5 ∨ i = 6 ∨ i = 7 ∨ i = 8 := by omega
   · have HW1 := Lib.hid (fun w => (show Calls Tryz.prog 44 #[.int .i64 1, .int .i64 1, .int .i64 8] w fun e w' => e = .returned (.bool true) ∧ Ext w w' from HW.out w))
     have hc1 : w.cell? ⟨0, 2, none⟩ = some (strV (nameF 1)) := hc0
     clear hc0 HW hk
     go_enter Tryz.func17, Tryz.ntmps17
     go_wp2_with (go_at_call 44; refine (HW1.out _).mono ?_; rintro e w1 ⟨rfl, hx1⟩; have hc := (hx1.cell (p := ⟨0, 2, none⟩) hl).trans hc1)
     go_ret
     exact ⟨rfl, hx1⟩
   · have HW1 := Lib.hid (fun w => (show Calls Tryz.prog 44 #[.int .i64 2, .int .i64 1, .int .i64 8] w fun e w' => e = .returned (.bool true) ∧ Ext w w' from HW.out w))
     have hc1 : w.cell? ⟨0, 4, none⟩ = some (strV (nameF 2)) := hc0
     clear hc0 HW hk
     go_enter Tryz.func17, Tryz.ntmps17
     go_wp2_with (go_at_call 44; refine (HW1.out _).mono ?_; rintro e w1 ⟨rfl, hx1⟩; have hc := (hx1.cell (p := ⟨0, 4, none⟩) hl).trans hc1)
     go_ret
     exact ⟨rfl, hx1⟩
   · have HW1 := Lib.hid (fun w => (show Calls Tryz.prog 44 #[.int .i64 3, .int .i64 1, .int .i64 8] w fun e w' => e = .returned (.bool true) ∧ Ext w w' from HW.out w))
     have hc1 : w.cell? ⟨0, 6, none⟩ = some (strV (nameF 3)) := hc0
     clear hc0 HW hk
     go_enter Tryz.func17, Tryz.ntmps17
     go_wp2_with (go_at_call 44; refine (HW1.out _).mono ?_; rintro e w1 ⟨rfl, hx1⟩; have hc := (hx1.cell (p := ⟨0, 6, none⟩) hl).trans hc1)
     go_ret
     exact ⟨rfl, hx1⟩
   · have HW1 := Lib.hid (fun w => (show Calls Tryz.prog 44 #[.int .i64 4, .int .i64 1, .int .i64 8] w fun e w' => e = .returned (.bool true) ∧ Ext w w' from HW.out w))
     have hc1 : w.cell? ⟨0, 8, none⟩ = some (strV (nameF 4)) := hc0
     clear hc0 HW hk
     go_enter Tryz.func17, Tryz.ntmps17
     go_wp2_with (go_at_call 44; refine (HW1.out _).mono ?_; rintro e w1 ⟨rfl, hx1⟩; have hc := (hx1.cell (p := ⟨0, 8, none⟩) hl).trans hc1)
     go_ret
     exact ⟨rfl, hx1⟩
   · have HW1 := Lib.hid (fun w => (show Calls Tryz.prog 44 #[.int .i64 5, .int .i64 1, .int .i64 8] w fun e w' => e = .returned (.bool true) ∧ Ext w w' from HW.out w))
     have hc1 : w.cell? ⟨0, 10, none⟩ = some (strV (nameF 5)) := hc0
     clear hc0 HW hk
     go_enter Tryz.func17, Tryz.ntmps17
     go_wp2_with (go_at_call 44; refine (HW1.out _).mono ?_; rintro e w1 ⟨rfl, hx1⟩; have hc := (hx1.cell (p := ⟨0, 10, none⟩) hl).trans hc1)
     go_ret
     exact ⟨rfl, hx1⟩
   · have HW1 := Lib.hid (fun w => (show Calls Tryz.prog 44 #[.int .i64 6, .int .i64 1, .int .i64 8] w fun e w' => e = .returned (.bool true) ∧ Ext w w' from HW.out w))
     have hc1 : w.cell? ⟨0, 12, none⟩ = some (strV (nameF 6)) := hc0
     clear hc0 HW hk
     go_enter Tryz.func17, Tryz.ntmps17
     go_wp2_with (go_at_call 44; refine (HW1.out _).mono ?_; rintro e w1 ⟨rfl, hx1⟩; have hc := (hx1.cell (p := ⟨0, 12, none⟩) hl).trans hc1)
     go_ret
     exact ⟨rfl, hx1⟩
   · have HW1 := Lib.hid (fun w => (show Calls Tryz.prog 44 #[.int .i64 7, .int .i64 1, .int .i64 8] w fun e w' => e = .returned (.bool true) ∧ Ext w w' from HW.out w))
     have hc1 : w.cell? ⟨0, 14, none⟩ = some (strV (nameF 7)) := hc0
     clear hc0 HW hk
     go_enter Tryz.func17, Tryz.ntmps17
     go_wp2_with (go_at_call 44; refine (HW1.out _).mono ?_; rintro e w1 ⟨rfl, hx1⟩; have hc := (hx1.cell (p := ⟨0, 14, none⟩) hl).trans hc1)
     go_ret
     exact ⟨rfl, hx1⟩
   · have HW1 := Lib.hid (fun w => (show Calls Tryz.prog 44 #[.int .i64 8, .int .i64 1, .int .i64 8] w fun e w' => e = .returned (.bool true) ∧ Ext w w' from HW.out w))
     have hc1 : w.cell? ⟨0, 16, none⟩ = some (strV (nameF 8)) := hc0
     clear hc0 HW hk
     go_enter Tryz.func17, Tryz.ntmps17
     go_wp2_with (go_at_call 44; refine (HW1.out _).mono ?_; rintro e w1 ⟨rfl, hx1⟩; have hc := (hx1.cell (p := ⟨0, 16, none⟩) hl).trans hc1)
     go_ret
     exact ⟨rfl, hx1⟩
 · have HW := Lib.hid (withinE_is k 1 8 false (decide_eq_false hk))
   have HK := Lib.hid (show kindN k = [] by unfold kindN; rw [if_neg hk])
   rw [HK.out]
   clear hN
   go_enter Tryz.func17, Tryz.ntmps17
   go_wp2_with (go_at_call 44; refine (HW.out _).mono ?_; rintro e w1 ⟨rfl, hx1⟩)
   go_ret
   exact ⟨rfl, hx1⟩
set_option maxHeartbeats 4000000 in
theorem refName_any (k : Int) (w : World) :
    Calls Tryz.prog 18 #[.int .i64 k] w fun e w' => e = .returned (strV (kindN k)) ∧ Ext w w' := by
 by_cases hk : 1 ≤ k ∧ k ≤ 8
 · obtain rfl | rfl | rfl | rfl | rfl | rfl | rfl | rfl : k = 1 ∨ k = 2 ∨ k = 3 ∨ k = 4 ∨ k = 5 ∨ k = 6 ∨ k = 7 ∨ k = 8 := by omega
   all_goals
    go_enter Tryz.func18, Tryz.ntmps18
    go_wp2
    go_ret
    exact ⟨rfl, Ext.refl _⟩
 · have e1 : (k == 1) = false := beq_eq_false_iff_ne.2 (by omega)
   have e2 : (k == 2) = false := beq_eq_false_iff_ne.2 (by omega)
   have e3 : (k == 3) = false := beq_eq_false_iff_ne.2 (by omega)
   have e4 : (k == 4) = false := beq_eq_false_iff_ne.2 (by omega)
   have e5 : (k == 5) = false := beq_eq_false_iff_ne.2 (by omega)
   have e6 : (k == 6) = false := beq_eq_false_iff_ne.2 (by omega)
   have e7 : (k == 7) = false := beq_eq_false_iff_ne.2 (by omega)
   have e8 : (k == 8) = false := beq_eq_false_iff_ne.2 (by omega)
   have HK := Lib.hid (show kindN k = [] by unfold kindN; rw [if_neg hk])
   rw [HK.out]
   clear hk
   go_enter Tryz.func18, Tryz.ntmps18
   go_wp2
   go_ret
   exact ⟨rfl, Ext.refl _⟩
end Go.Proofs.YtlinhgannajfpaaGreatDoor

/- A region that draws its order: quiet operations, a new variable made somewhere among them, and its store at the end. -/
namespace Go.Proofs.YtlinhgannajfpaaGreatDoor
open Go Go.RowKit

section
variable {P : Program}
structure BoxR (T : TypeId) (n : Nat) (zs cs : List Value) (W : World) (listed : Array Bool) (g : Nat) (w : World) : Prop where
 ext : Ext W w
 laid : listed.getD n true = true → W.heap.size ≤ g ∧ Arr w g T (if listed.getD (n + 1) true = true then cs else zs)
 st : listed.getD (n + 1) true = true → listed.getD n true = true
def boxV (V : Nat → Value) (n : Nat) (g i : Nat) : Value := if i < n then V i else if i = n then .pointer (some ⟨g, 0, none⟩) else undef

theorem BoxR.keep {T n : Nat} {zs cs : List Value} {W w w' : World} {listed : Array Bool} {g : Nat} (h : BoxR T n zs cs W listed g w) {i : Nat} (hi : i < n) (hx : Ext w w') : BoxR T n zs cs W (listed.setIfInBounds i true) g w' := by
 have h1 : (listed.setIfInBounds i true).getD n true = listed.getD n true := getD_set_ne true (by omega)
 have h2 : (listed.setIfInBounds i true).getD (n + 1) true = listed.getD (n + 1) true := getD_set_ne true (by omega)
 refine ⟨h.ext.trans hx, ?_, ?_⟩
 · rw [h1, h2]
   intro h3
   obtain ⟨h4, h5⟩ := h.laid h3
   exact ⟨h4, h5.ext hx⟩
 · rw [h1, h2]; exact h.st

theorem wp_region_box {id : Nat} {Q : Exit → Act → World → Prop} {a : Act} {w : World} {l : List Oper} (V : Nat → Value) (n T d sv iv : Nat) (zs cs : List Value) (hm : P.follows .mixedOrders = true) (hs : slotsB l.toArray = true) (hb : backB l.toArray = true)
    (hg : ∀ (i : Nat) (o : Oper), l[i]? = some o → o.guard = none) (hln : l.length = n + 2)
    (halloc : ∃ o, l[n]? = some o ∧ o.op = .alloc T ∧ o.dst = some d) (hstore : ∃ o, l[n + 1]? = some o ∧ o.op = .store T (.tmp d) (.tmp sv) ∧ o.dst = none ∧ (∃ e, e ∈ o.after ∧ e.on = n ∧ Region.binds .any e = true) ∧ (∃ e, e ∈ o.after ∧ e.on = iv ∧ Region.binds .any e = true))
    (hiv : iv < n) (hdv : dstOf l.toArray iv = some sv) (hds : sv < a.tmps.size) (hdd : d < a.tmps.size) (hV : V iv = .agg cs.toArray)
    (hz : ∃ i z, P.info? T = some i ∧ i.zero = some z ∧ z.cells.toList = zs) (hi : (P.info? T).map (·.size) = some cs.length) (hzl : zs.length = cs.length) (hone : cs.all (·.oneCell') = true)
    (hhead : ∀ (listed : Array Bool) (w1 : World) (i : Nat) (o : Oper), l[i]? = some o → i < n → (∀ e, e ∈ o.after → Region.binds .any e = true → listed.getD e.on false = true) → Ext w w1 →
      ∀ (b : Act) (K : Act → World → Prop), (∀ d : Nat, missB l.toArray d = true → b.tmps[d]? = a.tmps[d]?) → (∀ j d, j < n → listed.getD j true = true → dstOf l.toArray j = some d → d < a.tmps.size → b.tmps[d]? = some (V j)) →
      (∀ w', Ext w1 w' → K (b.put o.dst (V i)) w') → o.wp P b w1 K Q)
    (hend : ∀ g w1, Ext w w1 → w.heap.size ≤ g → Arr w1 g T cs → Q .normal (fillAllN l.toArray (boxV V n g) a l.length) w1) : (Code.region id l.toArray true).wp P Q a w := by
 refine wp_region_slots (boxV V n) (BoxR T n zs cs) 0 hm hs hb hg ?_ ?_ ?_
 · have h0 : ∀ k, k < l.length → (Array.replicate l.length false).getD k true = false := fun k hk => by simp [Array.getD, hk]
   exact ⟨(Ext.refl _).drew, fun h => (by rw [h0 n (by omega)] at h; cases h), fun h => (by rw [h0 (n + 1) (by omega)] at h; cases h)⟩
 · intro listed g w1 i o ho hun hdep hR b K E0 E1 hK
   have hil : i < l.length := (List.getElem?_eq_some_iff.1 ho).1
   by_cases hin : i < n
   · refine hhead listed w1 i o ho hin hdep hR.ext b K E0 (fun j d hj hl hd hds => ?_) (fun w' hx => ?_)
     · have h := E1 j d (by omega) hl hd hds
       rw [h]; unfold boxV; rw [if_pos hj]
     · have h := hK g w' (hR.keep hin hx) (fun _ _ _ => rfl)
       unfold boxV at h
       rw [if_pos hin] at h
       exact h
   · by_cases hie : i = n
     · subst hie
       obtain ⟨o2, ho2, hop, hdst⟩ := halloc
       rw [ho] at ho2
       injection ho2 with ho2
       subst ho2
       obtain ⟨ie, z, hie, hzz, hzl2⟩ := hz
       have hlist : ∀ k, k ≠ i → (listed.setIfInBounds i true).getD k true = listed.getD k true := fun k hk => getD_set_ne true (Ne.symm hk)
       have hnext : listed.getD (i + 1) true = false := by
        cases hq : listed.getD (i + 1) true
        · rfl
        · have := hR.st hq; rw [this] at hun; cases hun
       have hK2 := hK w1.heap.size (w1.alloc (.cells zs.toArray T)) ⟨hR.ext.alloc _, fun _ => ⟨hR.ext.size, by
           rw [hlist _ (by omega), hnext]
           exact Arr.new w1 T zs⟩, fun h => (by rw [hlist _ (by omega), hnext] at h; cases h)⟩ (fun j hj hl => by
           have hne : j ≠ i := fun e => by subst e; rw [hl] at hun; cases hun
           unfold boxV
           simp only [if_neg hne])
       have hbv : boxV V i w1.heap.size i = .pointer (some ⟨w1.heap.size, 0, none⟩) := by unfold boxV; simp
       rw [hbv] at hK2
       have hzc : z.cells = zs.toArray := by rw [← hzl2]
       have hrun : (execOp b.eval o).run P w1 = .ok (.value (.pointer (some ⟨w1.heap.size, 0, none⟩))) (w1.alloc (.cells zs.toArray T)) := by
        unfold execOp
        simp only [hop]
        simp [Instr.alloc, zeroValue, typeInfo, hie, hzz, newVar, newRow, hzc]
       unfold Oper.wp
       rw [hrun]
       exact hK2
     · have hie2 : i = n + 1 := by omega
       subst hie2
       obtain ⟨o2, ho2, hop, hdst, ⟨e1, he1, hon1, hbd1⟩, ⟨e2, he2, hon2, hbd2⟩⟩ := hstore
       rw [ho] at ho2
       injection ho2 with ho2
       subst ho2
       have hl1 := getD_up (hon1 ▸ hdep e1 he1 hbd1)
       have hl2 := getD_up (hon2 ▸ hdep e2 he2 hbd2)
       obtain ⟨q1, q2⟩ := hR.laid hl1
       rw [hun] at q2
       simp only [Bool.false_eq_true, if_false] at q2
       obtain ⟨oa, hoa, hopa, hdsta⟩ := halloc
       have hda : dstOf l.toArray n = some d := by simp [dstOf, hoa, hdsta]
       have t1 := E1 n d (by omega) hl1 hda hdd
       have t2 := E1 iv sv (by omega) hl2 hdv hds
       have bv1 : boxV V n g n = .pointer (some ⟨g, 0, none⟩) := by unfold boxV; simp
       have bv2 : boxV V n g iv = .agg cs.toArray := by unfold boxV; rw [if_pos hiv, hV]
       rw [bv1] at t1
       rw [bv2] at t2
       have hlist : ∀ k, k ≠ n + 1 → (listed.setIfInBounds (n + 1) true).getD k true = listed.getD k true := fun k hk => getD_set_ne true (Ne.symm hk)
       have hset : (listed.setIfInBounds (n + 1) true).getD (n + 1) true = true := by
        by_cases h : n + 1 < listed.size
        · simp [Array.getD, h]
        · simp [Array.getD, h]
       have hK2 := hK g (w1.setRow g cs.toArray) ⟨hR.ext.setRow q1 _, fun _ => ⟨q1, by rw [hset]; exact q2.setRow cs⟩, fun _ => by rw [hlist n (by omega)]; exact hl1⟩ (fun _ _ _ => rfl)
       have bv3 : boxV V n g (n + 1) = undef := by unfold boxV; rw [if_neg (by omega), if_neg (by omega)]
       rw [bv3] at hK2
       exact wp_store_row T (.tmp d) (.tmp sv) hop g cs.toArray (by simp [Act.eval, Array.getD_eq_getD_getElem?, t1]) (by simp [Act.eval, Array.getD_eq_getD_getElem?, t2]) T zs.toArray q2 (by simpa using hi) (by simpa using hzl) (by simpa using hone) hK2
 · intro listed g w1 hall hR
   rw [fill_done hall]
   obtain ⟨q1, q2⟩ := hR.laid (hall n (by omega))
   rw [if_pos (hall (n + 1) (by omega))] at q2
   exact hend g w1 hR.ext q1 q2
end
end Go.Proofs.YtlinhgannajfpaaGreatDoor

/- Decode of an edit: what both sides need. -/
namespace Go.Proofs.YtlinhgannajfpaaGreatDoor
open Go Go.RowKit

section
variable {P : Program}
theorem wp_region_box2 {id : Nat} {Q : Exit → Act → World → Prop} {a : Act} {w : World} {l : List Oper} (V : Nat → Value) (n T d sv iv : Nat) (zs cs : List Value) (hm : P.follows .mixedOrders = true) (hs : slotsB l.toArray = true) (hb : backB2 l.toArray = true)
    (hg : ∀ (i : Nat) (o : Oper), l[i]? = some o → o.guard = none) (hln : l.length = n + 2)
    (halloc : ∃ o, l[n]? = some o ∧ o.op = .alloc T ∧ o.dst = some d) (hstore : ∃ o, l[n + 1]? = some o ∧ o.op = .store T (.tmp d) (.tmp sv) ∧ o.dst = none ∧ (∃ e, e ∈ o.after ∧ e.on = n ∧ Region.binds .any e = true) ∧ (∃ e, e ∈ o.after ∧ e.on = iv ∧ Region.binds .any e = true))
    (hiv : iv < n) (hdv : dstOf l.toArray iv = some sv) (hds : sv < a.tmps.size) (hdd : d < a.tmps.size) (hV : V iv = .agg cs.toArray)
    (hz : ∃ i z, P.info? T = some i ∧ i.zero = some z ∧ z.cells.toList = zs) (hi : (P.info? T).map (·.size) = some cs.length) (hzl : zs.length = cs.length) (hone : cs.all (·.oneCell') = true)
    (hhead : ∀ (listed : Array Bool) (w1 : World) (i : Nat) (o : Oper), l[i]? = some o → i < n → (∀ e, e ∈ o.after → Region.binds .any e = true → listed.getD e.on false = true) → Ext w w1 →
      ∀ (b : Act) (K : Act → World → Prop), (∀ d : Nat, missB l.toArray d = true → b.tmps[d]? = a.tmps[d]?) → (∀ j d, j < n → listed.getD j true = true → dstOf l.toArray j = some d → d < a.tmps.size → b.tmps[d]? = some (V j)) →
      (∀ w', Ext w1 w' → K (b.put o.dst (V i)) w') → o.wp P b w1 K Q)
    (hend : ∀ g w1, Ext w w1 → w.heap.size ≤ g → Arr w1 g T cs → Q .normal (fillAllN l.toArray (boxV V n g) a l.length) w1) : (Code.region id l.toArray true).wp P Q a w := by
 refine wp_region_slots2 (boxV V n) (BoxR T n zs cs) 0 hm hs hb hg ?_ ?_ ?_
 · have h0 : ∀ k, k < l.length → (Array.replicate l.length false).getD k true = false := fun k hk => by simp [Array.getD, hk]
   exact ⟨(Ext.refl _).drew, fun h => (by rw [h0 n (by omega)] at h; cases h), fun h => (by rw [h0 (n + 1) (by omega)] at h; cases h)⟩
 · intro listed g w1 i o ho hun hdep hR b K E0 E1 hK
   have hil : i < l.length := (List.getElem?_eq_some_iff.1 ho).1
   by_cases hin : i < n
   · refine hhead listed w1 i o ho hin hdep hR.ext b K E0 (fun j d hj hl hd hds => ?_) (fun w' hx => ?_)
     · have h := E1 j d (by omega) hl hd hds
       rw [h]; unfold boxV; rw [if_pos hj]
     · have h := hK g w' (hR.keep hin hx) (fun _ _ _ => rfl)
       unfold boxV at h
       rw [if_pos hin] at h
       exact h
   · by_cases hie : i = n
     · subst hie
       obtain ⟨o2, ho2, hop, hdst⟩ := halloc
       rw [ho] at ho2
       injection ho2 with ho2
       subst ho2
       obtain ⟨ie, z, hie, hzz, hzl2⟩ := hz
       have hlist : ∀ k, k ≠ i → (listed.setIfInBounds i true).getD k true = listed.getD k true := fun k hk => getD_set_ne true (Ne.symm hk)
       have hnext : listed.getD (i + 1) true = false := by
        cases hq : listed.getD (i + 1) true
        · rfl
        · have := hR.st hq; rw [this] at hun; cases hun
       have hK2 := hK w1.heap.size (w1.alloc (.cells zs.toArray T)) ⟨hR.ext.alloc _, fun _ => ⟨hR.ext.size, by
           rw [hlist _ (by omega), hnext]
           exact Arr.new w1 T zs⟩, fun h => (by rw [hlist _ (by omega), hnext] at h; cases h)⟩ (fun j hj hl => by
           have hne : j ≠ i := fun e => by subst e; rw [hl] at hun; cases hun
           unfold boxV
           simp only [if_neg hne])
       have hbv : boxV V i w1.heap.size i = .pointer (some ⟨w1.heap.size, 0, none⟩) := by unfold boxV; simp
       rw [hbv] at hK2
       have hzc : z.cells = zs.toArray := by rw [← hzl2]
       have hrun : (execOp b.eval o).run P w1 = .ok (.value (.pointer (some ⟨w1.heap.size, 0, none⟩))) (w1.alloc (.cells zs.toArray T)) := by
        unfold execOp
        simp only [hop]
        simp [Instr.alloc, zeroValue, typeInfo, hie, hzz, newVar, newRow, hzc]
       unfold Oper.wp
       rw [hrun]
       exact hK2
     · have hie2 : i = n + 1 := by omega
       subst hie2
       obtain ⟨o2, ho2, hop, hdst, ⟨e1, he1, hon1, hbd1⟩, ⟨e2, he2, hon2, hbd2⟩⟩ := hstore
       rw [ho] at ho2
       injection ho2 with ho2
       subst ho2
       have hl1 := getD_up (hon1 ▸ hdep e1 he1 hbd1)
       have hl2 := getD_up (hon2 ▸ hdep e2 he2 hbd2)
       obtain ⟨q1, q2⟩ := hR.laid hl1
       rw [hun] at q2
       simp only [Bool.false_eq_true, if_false] at q2
       obtain ⟨oa, hoa, hopa, hdsta⟩ := halloc
       have hda : dstOf l.toArray n = some d := by simp [dstOf, hoa, hdsta]
       have t1 := E1 n d (by omega) hl1 hda hdd
       have t2 := E1 iv sv (by omega) hl2 hdv hds
       have bv1 : boxV V n g n = .pointer (some ⟨g, 0, none⟩) := by unfold boxV; simp
       have bv2 : boxV V n g iv = .agg cs.toArray := by unfold boxV; rw [if_pos hiv, hV]
       rw [bv1] at t1
       rw [bv2] at t2
       have hlist : ∀ k, k ≠ n + 1 → (listed.setIfInBounds (n + 1) true).getD k true = listed.getD k true := fun k hk => getD_set_ne true (Ne.symm hk)
       have hset : (listed.setIfInBounds (n + 1) true).getD (n + 1) true = true := by
        by_cases h : n + 1 < listed.size
        · simp [Array.getD, h]
        · simp [Array.getD, h]
       have hK2 := hK g (w1.setRow g cs.toArray) ⟨hR.ext.setRow q1 _, fun _ => ⟨q1, by rw [hset]; exact q2.setRow cs⟩, fun _ => by rw [hlist n (by omega)]; exact hl1⟩ (fun _ _ _ => rfl)
       have bv3 : boxV V n g (n + 1) = undef := by unfold boxV; rw [if_neg (by omega), if_neg (by omega)]
       rw [bv3] at hK2
       exact wp_store_row T (.tmp d) (.tmp sv) hop g cs.toArray (by simp [Act.eval, Array.getD_eq_getD_getElem?, t1]) (by simp [Act.eval, Array.getD_eq_getD_getElem?, t2]) T zs.toArray q2 (by simpa using hi) (by simpa using hzl) (by simpa using hone) hK2
 · intro listed g w1 hall hR
   rw [fill_done hall]
   obtain ⟨q1, q2⟩ := hR.laid (hall n (by omega))
   rw [if_pos (hall (n + 1) (by omega))] at q2
   exact hend g w1 hR.ext q1 q2
theorem results_cell_row2 {fn : Func} {p u : Tmp} {ty : TypeId} (h : fn.results = #[.cell p ty, .tmp u]) (tmps : Array Value) (w : World) (g : Nat) (t : TypeId) (cs : Array Value) (fr : Nat × Nat) (d : TypeDesc)
    (hp : tmps.getD p undef = .pointer (some ⟨g, 0, none⟩)) (hg : w.heap[g]? = some (.cells cs t fr))
    (hu : P.underlying ty = some d) (hd : (match d with | .struct _ | .array _ _ => true | _ => false) = true) (hi : (P.info? ty).map (·.size) = some cs.size) :
    (results fn tmps).run P w = .ok (.tuple #[.agg cs, tmps.getD u undef]) w := by
 rw [results_cell_tmp h]
 have hp' : tmps[p]?.getD undef = .pointer (some ⟨g, 0, none⟩) := by simpa using hp
 simp [hp', asAddr, run_loadVar_row w g t ty cs fr d hg hu hd hi]
end
def zeroE : Ed := ⟨⟨0, 0, 0, 0⟩, 0, ⟨⟨0, 0, 0⟩, ⟨0, 0, 0⟩⟩, ⟨0, 0, 0⟩, 0, 0, 0⟩
def edOf (l : List Int) : Ed := ⟨⟨l.getD 0 0, l.getD 1 0, l.getD 2 0, l.getD 3 0⟩, l.getD 4 0, ⟨⟨l.getD 5 0, l.getD 6 0, l.getD 7 0⟩, ⟨l.getD 8 0, l.getD 9 0, l.getD 10 0⟩⟩, ⟨l.getD 11 0, l.getD 12 0, l.getD 13 0⟩, l.getD 14 0, l.getD 15 0, l.getD 16 0⟩
theorem numsE_edOf : ∀ {l : List Int}, l.length = 17 → numsE (edOf l) = l
 | [_, _, _, _, _, _, _, _, _, _, _, _, _, _, _, _, _], _ => rfl
 | [], h => by simp at h
 | [_], h => by simp at h
 | [_, _], h => by simp at h
 | [_, _, _], h => by simp at h
 | [_, _, _, _], h => by simp at h
 | [_, _, _, _, _], h => by simp at h
 | [_, _, _, _, _, _], h => by simp at h
 | [_, _, _, _, _, _, _], h => by simp at h
 | [_, _, _, _, _, _, _, _], h => by simp at h
 | [_, _, _, _, _, _, _, _, _], h => by simp at h
 | [_, _, _, _, _, _, _, _, _, _], h => by simp at h
 | [_, _, _, _, _, _, _, _, _, _, _], h => by simp at h
 | [_, _, _, _, _, _, _, _, _, _, _, _], h => by simp at h
 | [_, _, _, _, _, _, _, _, _, _, _, _, _], h => by simp at h
 | [_, _, _, _, _, _, _, _, _, _, _, _, _, _], h => by simp at h
 | [_, _, _, _, _, _, _, _, _, _, _, _, _, _, _], h => by simp at h
 | [_, _, _, _, _, _, _, _, _, _, _, _, _, _, _, _], h => by simp at h
 | _ :: _ :: _ :: _ :: _ :: _ :: _ :: _ :: _ :: _ :: _ :: _ :: _ :: _ :: _ :: _ :: _ :: _ :: _, h => by simp at h
def decE (b : List UInt8) : Ed × Int := match getL b with
 | .inl er => (zeroE, eno er)
 | .inr (l, k) => if k ≠ b.length ∨ l.length ≠ 17 then (zeroE, 6) else if formedE (edOf l) then (edOf l, 0) else (zeroE, 1)
def RetD (p : Ed × Int) (w : World) (e : Ending) (w' : World) : Prop := e = .returned (.tuple #[.agg #[.int .i64 p.1.st.tick, .int .i64 p.1.st.clock, .int .i64 p.1.st.site, .int .i64 p.1.st.seq, .int .i64 p.1.kind, .int .i64 p.1.box.lo.x, .int .i64 p.1.box.lo.y, .int .i64 p.1.box.lo.z, .int .i64 p.1.box.hi.x, .int .i64 p.1.box.hi.y, .int .i64 p.1.box.hi.z, .int .i64 p.1.at_.x, .int .i64 p.1.at_.y, .int .i64 p.1.at_.z, .int .i64 p.1.turn, .int .i64 p.1.cell, .int .i64 p.1.size], .int .i64 p.2]) ∧ Ext w w'
end Go.Proofs.YtlinhgannajfpaaGreatDoor

/- edit.Decode. -/
namespace Go.Proofs.YtlinhgannajfpaaGreatDoor
open Go Go.RowKit

set_option maxHeartbeats 4000000 in
set_option maxRecDepth 100000 in
theorem decAt_any (k n c g n4 : Nat) (a b d : Int) (hk : k + 2 < n) (hn : n ≤ 1000000) (w : World) (h4 : w.cell? ⟨n4, 0, none⟩ = some (.slice (some ⟨g, 0, none⟩) n c)) (l4 : n4 < w.heap.size) (lg : g < w.heap.size)
    (h0 : w.cell? ⟨g, k, none⟩ = some (.int .i64 a)) (h1 : w.cell? ⟨g, k + 1, none⟩ = some (.int .i64 b)) (h2 : w.cell? ⟨g, k + 2, none⟩ = some (.int .i64 d)) :
    Calls Tryz.prog 76 #[.int .i64 (k : Int), .pointer (some ⟨n4, 0, none⟩)] w fun e w' => e = .returned (.agg #[.int .i64 a, .int .i64 b, .int .i64 d]) ∧ Ext w w' := by
 have hm := mixed
 have hG := near_old
 obtain ⟨W0, hW⟩ : ∃ W, W = w.alloc (.cells #[.int .i64 0, .int .i64 0, .int .i64 0] 25) := ⟨_, rfl⟩
 have HX0 := Lib.hid (show Ext w W0 by rw [hW]; exact (Ext.refl w).alloc _)
 have HB0 := Lib.hid (show Arr W0 w.heap.size 25 [.int .i64 0, .int .i64 0, .int .i64 0] by rw [hW]; exact Arr.new w _ [.int .i64 0, .int .i64 0, .int .i64 0])
 have q4 := (HX0.out.cell (p := ⟨n4, 0, none⟩) l4).trans h4
 have q0 := (HX0.out.cell (p := ⟨g, k, none⟩) lg).trans h0
 have q1 := (HX0.out.cell (p := ⟨g, k + 1, none⟩) lg).trans h1
 have q2 := (HX0.out.cell (p := ⟨g, k + 2, none⟩) lg).trans h2
 have L4 : n4 < W0.heap.size := Nat.lt_of_lt_of_le l4 HX0.out.size
 have LG : g < W0.heap.size := Nat.lt_of_lt_of_le lg HX0.out.size
 clear h4 h0 h1 h2
 go_enter Tryz.func76, Tryz.ntmps76
 go_upto_region 1 with fail
 rw [← hW]
 clear hW
 refine wp_region_near_tail 15 (by assumption) (by kernel_rfl) ?_
 simp only [List.take_succ_cons, List.take_zero, List.drop_succ_cons, List.drop_zero]
 repeat (go_big_quiet_step (fail))
 refine wpQuiet_nil ?_
 intro w1 hw1
 have hy := Ext.of_near hw1
 clear hw1
 have HB1 := Lib.hid (HB0.out.ext hy); have HX1 := Lib.hid (HX0.out.trans hy)
 clear hy q4 q0 q1 q2
 go_wp2_with (refine wpList_store_blk 25 (.tmp 3) (.tmp 18) rfl rfl HB1.out [.int .i64 a, .int .i64 b, .int .i64 d] rfl rfl (by kernel_rfl) rfl rfl ?_)
 refine bodyPost_ret (v := .agg #[.int .i64 a, .int .i64 b, .int .i64 d]) ?_ rfl ⟨rfl, HX1.out.setRow (Nat.le_refl _) _⟩
 exact results_cell_row Tryz.results76 _ _ _ _ _ _ _ rfl (HB1.out.setRow [.int .i64 a, .int .i64 b, .int .i64 d]) Tryz.underlying25 rfl (by kernel_rfl)
end Go.Proofs.YtlinhgannajfpaaGreatDoor

/- edit.Decode. -/
namespace Go.Proofs.YtlinhgannajfpaaGreatDoor
open Go Go.RowKit

section
variable {P : Program} {o : Oper} {b : Act} {w1 : World} {K : Act → World → Prop} {Q : Exit → Act → World → Prop}
theorem op_callF {f : FuncId} {x : Operand} {args : Array Operand} {ts : Array TypeId} {vs caps : Array Value} {G : Value → World → Prop} (ho : o.op = .call { callee := .value x, args := args, argTypes := ts }) (hx : b.eval x = .func (.func f) #[] caps) (ha : args.map b.eval ++ caps = vs) (he : ∀ args w, (callFunc f args).run P w = .ok (.enter f args) w)
    (hc : Calls P f vs w1 fun e w' => ∃ v, e = .returned v ∧ G v w') (h : ∀ v w', G v w' → K (b.put o.dst v) w') : o.wp P b w1 K Q := by
 have hr : (execOp b.eval o).run P w1 = .ok (.enter f vs) w1 := by
  unfold execOp
  simp [ho, resolve, invoke, Deferred.ofValue, hx, ha, he]
 unfold Oper.wp
 rw [hr, Oper.upon_enter]
 refine hc.mono ?_
 rintro e w' ⟨v, rfl, hg⟩
 exact h v w' hg
end
theorem infoE1 : ∃ i z, Tryz.prog.info? 29 = some i ∧ i.zero = some z ∧ z.cells.toList = [.int .i64 0, .int .i64 0, .int .i64 0, .int .i64 0, .int .i64 0, .int .i64 0, .int .i64 0, .int .i64 0, .int .i64 0, .int .i64 0, .int .i64 0, .int .i64 0, .int .i64 0, .int .i64 0, .int .i64 0, .int .i64 0, .int .i64 0] := by
 have h : ((Tryz.prog.info? 29).map fun i => i.zero.map fun z => z.cells.toList) = some (some [.int .i64 0, .int .i64 0, .int .i64 0, .int .i64 0, .int .i64 0, .int .i64 0, .int .i64 0, .int .i64 0, .int .i64 0, .int .i64 0, .int .i64 0, .int .i64 0, .int .i64 0, .int .i64 0, .int .i64 0, .int .i64 0, .int .i64 0]) := by kernel_rfl
 cases hq : Tryz.prog.info? 29 with
 | none => rw [hq] at h; cases h
 | some i =>
   rw [hq] at h
   simp only [Option.map_some, Option.some.injEq] at h
   obtain ⟨z, h1, h2⟩ := Option.map_eq_some_iff.1 h
   exact ⟨i, z, rfl, h1, h2⟩
set_option maxHeartbeats 16000000 in
set_option maxRecDepth 100000 in
theorem EdDecode_any (b : List UInt8) (hl : b.length ≤ 1000000) (A : Option Addr) (c : Nat) (w : World) (hs : Sv w w.heap.size 1 A c (rowsB b)) (hR : RowsIn w) :
    Calls Tryz.prog 29 #[.slice A b.length c] w (RetD (decE b) w) := by
 have hm := mixed
 have HR := Lib.hid hR
 obtain ⟨W0, hW⟩ : ∃ W, W = w.alloc (.cells #[.int .i64 0, .int .i64 0, .int .i64 0, .int .i64 0, .int .i64 0, .int .i64 0, .int .i64 0, .int .i64 0, .int .i64 0, .int .i64 0, .int .i64 0, .int .i64 0, .int .i64 0, .int .i64 0, .int .i64 0, .int .i64 0, .int .i64 0] 29) := ⟨_, rfl⟩
 have HX0 := Lib.hid (show Ext w W0 by rw [hW]; exact (Ext.refl w).alloc _)
 have HB0 := Lib.hid (show Arr W0 w.heap.size 29 [.int .i64 0, .int .i64 0, .int .i64 0, .int .i64 0, .int .i64 0, .int .i64 0, .int .i64 0, .int .i64 0, .int .i64 0, .int .i64 0, .int .i64 0, .int .i64 0, .int .i64 0, .int .i64 0, .int .i64 0, .int .i64 0, .int .i64 0] by rw [hW]; exact Arr.new w _ [.int .i64 0, .int .i64 0, .int .i64 0, .int .i64 0, .int .i64 0, .int .i64 0, .int .i64 0, .int .i64 0, .int .i64 0, .int .i64 0, .int .i64 0, .int .i64 0, .int .i64 0, .int .i64 0, .int .i64 0, .int .i64 0, .int .i64 0])
 have HG := Lib.hid (wireGetInts_any b (by omega) A c W0 (hs.ext HX0.out))
 clear hs hR
 cases hr : getL b with
 | inl er =>
   have HD := Lib.hid (show decE b = (zeroE, eno er) by unfold decE; rw [hr])
   have hq := eno_two er
   have HG2 := Lib.hid (show Calls Tryz.prog 75 #[.slice A b.length c] W0 fun e w' => e = .returned (.tuple #[.slice none 0 0, .int .i64 0, .int .i64 (eno er)]) ∧ Ext W0 w' from HG.out.mono fun e w' h => by unfold RetL at h; rw [hr] at h; exact h)
   obtain ⟨q, hqe⟩ : ∃ q, q = eno er := ⟨_, rfl⟩
   rw [← hqe] at hq HG2
   rw [← hqe] at HD
   rw [HD.out]
   clear hr HG hqe
   rcases hq with rfl | rfl
   all_goals
    go_enter Tryz.func29, Tryz.ntmps29
    go_upto_region 1 with fail
    rw [← hW]
    clear hW
    go_upto_region 2 with (go_at_call 75; refine HG2.out.mono ?_; rintro e W1 ⟨rfl, hx1⟩; have HX1 := Lib.hid (HX0.out.trans hx1); have HB1 := Lib.hid (HB0.out.ext hx1); clear hx1)
    have hn0 := HB1.out.lt
    have HB2 := Lib.hid (show Arr (W1.alloc (.cells #[.slice none 0 0] 83)) w.heap.size 29 [.int .i64 0, .int .i64 0, .int .i64 0, .int .i64 0, .int .i64 0, .int .i64 0, .int .i64 0, .int .i64 0, .int .i64 0, .int .i64 0, .int .i64 0, .int .i64 0, .int .i64 0, .int .i64 0, .int .i64 0, .int .i64 0, .int .i64 0] from HB1.out.alloc _)
    have HX2 := Lib.hid (show Ext w (W1.alloc (.cells #[.slice none 0 0] 83)) from HX1.out.alloc _)
    go_wp2_with (refine wpList_store_blk2 29 (.tmp 2) (.tmp 18) rfl rfl HB2.out [.int .i64 0, .int .i64 0, .int .i64 0, .int .i64 0, .int .i64 0, .int .i64 0, .int .i64 0, .int .i64 0, .int .i64 0, .int .i64 0, .int .i64 0, .int .i64 0, .int .i64 0, .int .i64 0, .int .i64 0, .int .i64 0, .int .i64 0] rfl rfl (by kernel_rfl) rfl rfl rfl ?_; intro W9 hW9; have HB9 := Lib.hid (show Arr W9 w.heap.size 29 [.int .i64 0, .int .i64 0, .int .i64 0, .int .i64 0, .int .i64 0, .int .i64 0, .int .i64 0, .int .i64 0, .int .i64 0, .int .i64 0, .int .i64 0, .int .i64 0, .int .i64 0, .int .i64 0, .int .i64 0, .int .i64 0, .int .i64 0] by rw [hW9]; exact HB2.out.setRow _); have HX9 := Lib.hid (show Ext w W9 by rw [hW9]; exact HX2.out.setRow (Nat.le_refl _) _); clear hW9)
    refine bodyPost_ret (v := .tuple #[.agg #[.int .i64 zeroE.st.tick, .int .i64 zeroE.st.clock, .int .i64 zeroE.st.site, .int .i64 zeroE.st.seq, .int .i64 zeroE.kind, .int .i64 zeroE.box.lo.x, .int .i64 zeroE.box.lo.y, .int .i64 zeroE.box.lo.z, .int .i64 zeroE.box.hi.x, .int .i64 zeroE.box.hi.y, .int .i64 zeroE.box.hi.z, .int .i64 zeroE.at_.x, .int .i64 zeroE.at_.y, .int .i64 zeroE.at_.z, .int .i64 zeroE.turn, .int .i64 zeroE.cell, .int .i64 zeroE.size], .int .i64 _]) ?_ rfl ⟨rfl, HX9.out⟩
    exact results_cell_row2 Tryz.results29 _ _ _ _ _ _ _ rfl (HB9.out) Tryz.underlying29 rfl (by kernel_rfl)
 | inr lk =>
   obtain ⟨l, k⟩ := lk
   have HG2 := Lib.hid (show Calls Tryz.prog 75 #[.slice A b.length c] W0 fun e w' => ∃ A c, e = .returned (.tuple #[.slice A l.length c, .int .i64 (k : Int), .int .i64 0]) ∧ w'.ownsRow W0.heap.size 3 1 (.slice A l.length c) l.length (rowsI l).flatten ∧ Ext W0 w' from HG.out.mono fun e w' h => by unfold RetL at h; rw [hr] at h; exact h)
   have hkb := (getL_back hr).1
   have HLK := Lib.hid hr
   clear HG
   by_cases hbad : k ≠ b.length ∨ l.length ≠ 17
   · have HD := Lib.hid (show decE b = (zeroE, 6) by unfold decE; rw [hr]; simp only; rw [if_pos hbad])
     rw [HD.out]
     clear hr
     have hll : l.length ≤ 1000000000 := by
      obtain ⟨_, h2, _⟩ := getL_back HLK.out
      have h3 := congrArg List.length h2
      have h4 := flat_len_ge l
      unfold encL at h3
      rw [List.length_take, List.length_append] at h3
      omega
     rcases (show k ≠ b.length ∨ (k = b.length ∧ l.length ≠ 17) by omega) with h1 | ⟨h1, h2⟩
     · have hkn : ((k : Int) != (b.length : Int)) = true := bne_iff_ne.2 (by omega)
       clear hbad
       go_enter Tryz.func29, Tryz.ntmps29
       go_upto_region 1 with fail
       rw [← hW]
       clear hW
       go_upto_region 2 with (go_at_call 75; refine HG2.out.mono ?_; rintro e W1 ⟨A1, c1, rfl, ho1, hx1⟩; have HX1 := Lib.hid (HX0.out.trans hx1); have HB1 := Lib.hid (HB0.out.ext hx1); clear ho1 hx1)
       have hn0 := HB1.out.lt
       have HB2 := Lib.hid (show Arr (W1.alloc (.cells #[.slice A1 l.length c1] 83)) w.heap.size 29 [.int .i64 0, .int .i64 0, .int .i64 0, .int .i64 0, .int .i64 0, .int .i64 0, .int .i64 0, .int .i64 0, .int .i64 0, .int .i64 0, .int .i64 0, .int .i64 0, .int .i64 0, .int .i64 0, .int .i64 0, .int .i64 0, .int .i64 0] from HB1.out.alloc _)
       have HX2 := Lib.hid (show Ext w (W1.alloc (.cells #[.slice A1 l.length c1] 83)) from HX1.out.alloc _)
       go_wp2_with (refine wpList_store_blk2 29 (.tmp 2) (.tmp 30) rfl rfl HB2.out [.int .i64 0, .int .i64 0, .int .i64 0, .int .i64 0, .int .i64 0, .int .i64 0, .int .i64 0, .int .i64 0, .int .i64 0, .int .i64 0, .int .i64 0, .int .i64 0, .int .i64 0, .int .i64 0, .int .i64 0, .int .i64 0, .int .i64 0] rfl rfl (by kernel_rfl) rfl rfl rfl ?_; intro W9 hW9; have HB9 := Lib.hid (show Arr W9 w.heap.size 29 [.int .i64 0, .int .i64 0, .int .i64 0, .int .i64 0, .int .i64 0, .int .i64 0, .int .i64 0, .int .i64 0, .int .i64 0, .int .i64 0, .int .i64 0, .int .i64 0, .int .i64 0, .int .i64 0, .int .i64 0, .int .i64 0, .int .i64 0] by rw [hW9]; exact HB2.out.setRow _); have HX9 := Lib.hid (show Ext w W9 by rw [hW9]; exact HX2.out.setRow (Nat.le_refl _) _); clear hW9)
       refine bodyPost_ret (v := .tuple #[.agg #[.int .i64 zeroE.st.tick, .int .i64 zeroE.st.clock, .int .i64 zeroE.st.site, .int .i64 zeroE.st.seq, .int .i64 zeroE.kind, .int .i64 zeroE.box.lo.x, .int .i64 zeroE.box.lo.y, .int .i64 zeroE.box.lo.z, .int .i64 zeroE.box.hi.x, .int .i64 zeroE.box.hi.y, .int .i64 zeroE.box.hi.z, .int .i64 zeroE.at_.x, .int .i64 zeroE.at_.y, .int .i64 zeroE.at_.z, .int .i64 zeroE.turn, .int .i64 zeroE.cell, .int .i64 zeroE.size], .int .i64 6]) ?_ rfl ⟨rfl, HX9.out⟩
       exact results_cell_row2 Tryz.results29 _ _ _ _ _ _ _ rfl (HB9.out) Tryz.underlying29 rfl (by kernel_rfl)
     · have hkn : ((k : Int) != (b.length : Int)) = false := bne_eq_false_iff_eq.2 (by omega)
       have hln : ((l.length : Int) != 17) = true := bne_iff_ne.2 (by omega)
       clear hbad
       go_enter Tryz.func29, Tryz.ntmps29
       go_upto_region 1 with fail
       rw [← hW]
       clear hW
       go_upto_region 2 with (go_at_call 75; refine HG2.out.mono ?_; rintro e W1 ⟨A1, c1, rfl, ho1, hx1⟩; have HX1 := Lib.hid (HX0.out.trans hx1); have HB1 := Lib.hid (HB0.out.ext hx1); clear ho1 hx1)
       have hn0 := HB1.out.lt
       have HB2 := Lib.hid (show Arr (W1.alloc (.cells #[.slice A1 l.length c1] 83)) w.heap.size 29 [.int .i64 0, .int .i64 0, .int .i64 0, .int .i64 0, .int .i64 0, .int .i64 0, .int .i64 0, .int .i64 0, .int .i64 0, .int .i64 0, .int .i64 0, .int .i64 0, .int .i64 0, .int .i64 0, .int .i64 0, .int .i64 0, .int .i64 0] from HB1.out.alloc _)
       have HX2 := Lib.hid (show Ext w (W1.alloc (.cells #[.slice A1 l.length c1] 83)) from HX1.out.alloc _)
       go_wp2_with (refine wpList_store_blk2 29 (.tmp 2) (.tmp 30) rfl rfl HB2.out [.int .i64 0, .int .i64 0, .int .i64 0, .int .i64 0, .int .i64 0, .int .i64 0, .int .i64 0, .int .i64 0, .int .i64 0, .int .i64 0, .int .i64 0, .int .i64 0, .int .i64 0, .int .i64 0, .int .i64 0, .int .i64 0, .int .i64 0] rfl rfl (by kernel_rfl) rfl rfl rfl ?_; intro W9 hW9; have HB9 := Lib.hid (show Arr W9 w.heap.size 29 [.int .i64 0, .int .i64 0, .int .i64 0, .int .i64 0, .int .i64 0, .int .i64 0, .int .i64 0, .int .i64 0, .int .i64 0, .int .i64 0, .int .i64 0, .int .i64 0, .int .i64 0, .int .i64 0, .int .i64 0, .int .i64 0, .int .i64 0] by rw [hW9]; exact HB2.out.setRow _); have HX9 := Lib.hid (show Ext w W9 by rw [hW9]; exact HX2.out.setRow (Nat.le_refl _) _); clear hW9)
       refine bodyPost_ret (v := .tuple #[.agg #[.int .i64 zeroE.st.tick, .int .i64 zeroE.st.clock, .int .i64 zeroE.st.site, .int .i64 zeroE.st.seq, .int .i64 zeroE.kind, .int .i64 zeroE.box.lo.x, .int .i64 zeroE.box.lo.y, .int .i64 zeroE.box.lo.z, .int .i64 zeroE.box.hi.x, .int .i64 zeroE.box.hi.y, .int .i64 zeroE.box.hi.z, .int .i64 zeroE.at_.x, .int .i64 zeroE.at_.y, .int .i64 zeroE.at_.z, .int .i64 zeroE.turn, .int .i64 zeroE.cell, .int .i64 zeroE.size], .int .i64 6]) ?_ rfl ⟨rfl, HX9.out⟩
       exact results_cell_row2 Tryz.results29 _ _ _ _ _ _ _ rfl (HB9.out) Tryz.underlying29 rfl (by kernel_rfl)
   · obtain ⟨rfl, hl17⟩ : k = b.length ∧ l.length = 17 := by omega
     obtain ⟨x, hx⟩ : ∃ x, x = edOf l := ⟨_, rfl⟩
     have hnx : numsE x = l := by rw [hx]; exact numsE_edOf hl17
     have HD := Lib.hid (show decE b = if formedE x then (x, 0) else (zeroE, 1) by unfold decE; rw [hr]; simp only; rw [if_neg hbad, hx])
     rw [HD.out]
     rw [← hnx] at HG2
     clear hr hbad hx hl17 HD hnx HLK
     have HG3 := Lib.hid (show Calls Tryz.prog 75 #[.slice A b.length c] W0 fun e w' => ∃ A c, e = .returned (.tuple #[.slice A 17 c, .int .i64 (b.length : Int), .int .i64 0]) ∧ w'.ownsRow W0.heap.size 3 1 (.slice A 17 c) 17 (rowsI (numsE x)).flatten ∧ Ext W0 w' from HG2.out)
     clear HG2
     go_enter Tryz.func29, Tryz.ntmps29
     go_upto_region 1 with fail
     rw [← hW]
     clear hW
     go_upto_region 2 with (go_at_call 75; refine HG3.out.mono ?_; rintro e W1 ⟨A1, c1, rfl, ho1, hx1⟩; have HX1 := Lib.hid (HX0.out.trans hx1); have HB1 := Lib.hid (HB0.out.ext hx1); have HO1 := Lib.hid ho1; clear ho1 hx1)
     have hn0 := HB1.out.lt
     obtain ⟨g, hA1, hcell, hgl, hc17⟩ : ∃ g, A1 = some ⟨g, 0, none⟩ ∧ (∀ (j : Nat) v, x.cells[j]? = some v → W1.cell? ⟨g, j, none⟩ = some v) ∧ g < W1.heap.size ∧ 17 ≤ c1 := by
      rcases HO1.out.2 with ⟨h1, h2⟩ | ⟨g, cap, cur, h1, hbg, hg, hnc, hcm, hcs, htake⟩
      · omega
      · injection h1 with h1 h2 h3
        subst h3
        refine ⟨g, h1, fun j v hv => ?_, (Array.getElem?_eq_some_iff.1 hg).1, hnc⟩
        rw [cell_of_row _ _ _ _ _ _ hg]
        have hj : j < 17 := (List.getElem?_eq_some_iff.1 hv).1
        have h5 : (cur.toList.take (17 * 1))[j]? = some v := by rw [htake]; exact hv
        rw [List.getElem?_take, if_pos (by omega)] at h5
        simpa using h5
     subst hA1
     obtain ⟨W2, hW2⟩ : ∃ W, W = W1.alloc (.cells #[.slice (some ⟨g, 0, none⟩) 17 c1] 83) := ⟨_, rfl⟩
     obtain ⟨n4, hn4⟩ : ∃ n, n = W1.heap.size := ⟨_, rfl⟩
     have hx12 : Ext W1 W2 := by rw [hW2]; exact (Ext.refl W1).alloc _
     have HB2 := Lib.hid (HB1.out.ext hx12); have HX2 := Lib.hid (HX1.out.trans hx12)
     have HA4 := Lib.hid (show Arr W2 n4 83 [.slice (some ⟨g, 0, none⟩) 17 c1] by rw [hW2, hn4]; exact Arr.new W1 _ _)
     have HQC := Lib.hid (fun (j : Nat) v (hv : x.cells[j]? = some v) => (hx12.cell (p := ⟨g, j, none⟩) hgl).trans (hcell j v hv))
     have HGL := Lib.hid (Nat.lt_of_lt_of_le hgl hx12.size)
     rw [← hW2, ← hn4]
     rw [← hn4] at hn0
     clear hx12 hcell hW2 HO1 HB1 HX1 hgl hn4
     have c4 := HA4.out.cell 0; have l4 := HA4.out.lt
     have e17 : ((b.length : Int) != (b.length : Int)) = false := bne_eq_false_iff_eq.2 rfl
     have HL4 := Lib.hid l4
     have HLG := Lib.hid HGL.out
     have Q4 := Lib.hid (fun (w1 : World) (hx : Ext W2 w1) => (show w1.cell? ⟨n4, 0, none⟩ = some (.slice (some ⟨g, 0, none⟩) 17 c1) from (HA4.out.ext hx).cell 0))
     have QC := Lib.hid (fun (w1 : World) (hx : Ext W2 w1) (j : Nat) v (hv : x.cells[j]? = some v) => (hx.cell (p := ⟨g, j, none⟩) HGL.out).trans (HQC.out j v hv))
     go_upto_region 7 with fail
     clear c4 l4 e17
     refine wp_region_box2 (w := W2) (fun i => match i with | 0 => .slice (some ⟨g, 0, none⟩) 17 c1 | 1 => .pointer (some ⟨g, 0, none⟩) | 2 => .int .i64 x.st.tick | 3 => .slice (some ⟨g, 0, none⟩) 17 c1 | 4 => .pointer (some ⟨g, 1, none⟩) | 5 => .int .i64 x.st.clock | 6 => .slice (some ⟨g, 0, none⟩) 17 c1 | 7 => .pointer (some ⟨g, 2, none⟩) | 8 => .int .i64 x.st.site | 9 => .slice (some ⟨g, 0, none⟩) 17 c1 | 10 => .pointer (some ⟨g, 3, none⟩) | 11 => .int .i64 x.st.seq | 12 => .agg #[.int .i64 x.st.tick, .int .i64 x.st.clock, .int .i64 x.st.site, .int .i64 x.st.seq] | 13 => .slice (some ⟨g, 0, none⟩) 17 c1 | 14 => .pointer (some ⟨g, 4, none⟩) | 15 => .int .i64 x.kind | 16 => .func (.func 76) #[] #[.pointer (some ⟨n4, 0, none⟩)] | 17 => .agg #[.int .i64 x.box.lo.x, .int .i64 x.box.lo.y, .int .i64 x.box.lo.z] | 18 => .func (.func 76) #[] #[.pointer (some ⟨n4, 0, none⟩)] | 19 => .agg #[.int .i64 x.box.hi.x, .int .i64 x.box.hi.y, .int .i64 x.box.hi.z] | 20 => .agg #[.int .i64 x.box.lo.x, .int .i64 x.box.lo.y, .int .i64 x.box.lo.z, .int .i64 x.box.hi.x, .int .i64 x.box.hi.y, .int .i64 x.box.hi.z] | 21 => .func (.func 76) #[] #[.pointer (some ⟨n4, 0, none⟩)] | 22 => .agg #[.int .i64 x.at_.x, .int .i64 x.at_.y, .int .i64 x.at_.z] | 23 => .slice (some ⟨g, 0, none⟩) 17 c1 | 24 => .pointer (some ⟨g, 14, none⟩) | 25 => .int .i64 x.turn | 26 => .slice (some ⟨g, 0, none⟩) 17 c1 | 27 => .pointer (some ⟨g, 15, none⟩) | 28 => .int .i64 x.cell | 29 => .slice (some ⟨g, 0, none⟩) 17 c1 | 30 => .pointer (some ⟨g, 16, none⟩) | 31 => .int .i64 x.size | 32 => .agg #[.int .i64 x.st.tick, .int .i64 x.st.clock, .int .i64 x.st.site, .int .i64 x.st.seq, .int .i64 x.kind, .int .i64 x.box.lo.x, .int .i64 x.box.lo.y, .int .i64 x.box.lo.z, .int .i64 x.box.hi.x, .int .i64 x.box.hi.y, .int .i64 x.box.hi.z, .int .i64 x.at_.x, .int .i64 x.at_.y, .int .i64 x.at_.z, .int .i64 x.turn, .int .i64 x.cell, .int .i64 x.size] | _ => undef) 33 29 8 64 32 [.int .i64 0, .int .i64 0, .int .i64 0, .int .i64 0, .int .i64 0, .int .i64 0, .int .i64 0, .int .i64 0, .int .i64 0, .int .i64 0, .int .i64 0, .int .i64 0, .int .i64 0, .int .i64 0, .int .i64 0, .int .i64 0, .int .i64 0] [.int .i64 x.st.tick, .int .i64 x.st.clock, .int .i64 x.st.site, .int .i64 x.st.seq, .int .i64 x.kind, .int .i64 x.box.lo.x, .int .i64 x.box.lo.y, .int .i64 x.box.lo.z, .int .i64 x.box.hi.x, .int .i64 x.box.hi.y, .int .i64 x.box.hi.z, .int .i64 x.at_.x, .int .i64 x.at_.y, .int .i64 x.at_.z, .int .i64 x.turn, .int .i64 x.cell, .int .i64 x.size] hm (by kernel_rfl) (by kernel_rfl) (noGuardD (by kernel_rfl)) rfl ⟨_, rfl, rfl, rfl⟩ ⟨_, rfl, rfl, rfl, ⟨⟨33, .data⟩, by simp, rfl, rfl⟩, ⟨⟨32, .data⟩, by simp, rfl, rfl⟩⟩ (by decide) rfl (by simp) (by simp) rfl infoE1 (by kernel_rfl) rfl rfl ?_ ?_
     · intro listed w1 i o ho hin hdep hx b K E0 E1 hK
       match i, ho with
       | 0, ho =>
         obtain rfl := Option.some.inj ho
         have e := E0 4 (by kernel_rfl)
         simp only [List.getElem?_toArray, List.getElem?_cons_zero, List.getElem?_cons_succ] at e
         exact op_run (v := .slice (some ⟨g, 0, none⟩) 17 c1) (w2 := w1) (by unfold execOp; simp [e, Act.eval, go_sem, Q4.out w1 hx]) (hK w1 (Ext.refl _))
          | 1, ho =>
         obtain rfl := Option.some.inj ho
         have e0 := E1 0 32 (by decide) (getD_up (hdep ⟨0, .data⟩ (by simp) rfl)) rfl (by simp)
         exact op_run (v := .pointer (some ⟨g, 0, none⟩)) (w2 := w1) (by unfold execOp; simp [e0, Act.eval, go_sem]) (hK w1 (Ext.refl _))
          | 2, ho =>
         obtain rfl := Option.some.inj ho
         have e1 := E1 1 33 (by decide) (getD_up (hdep ⟨1, .data⟩ (by simp) rfl)) rfl (by simp)
         exact op_run (v := .int .i64 x.st.tick) (w2 := w1) (by unfold execOp; simp [e1, Act.eval, go_sem, QC.out w1 hx 0 (.int .i64 x.st.tick) rfl]) (hK w1 (Ext.refl _))
          | 3, ho =>
         obtain rfl := Option.some.inj ho
         have e := E0 4 (by kernel_rfl)
         simp only [List.getElem?_toArray, List.getElem?_cons_zero, List.getElem?_cons_succ] at e
         exact op_run (v := .slice (some ⟨g, 0, none⟩) 17 c1) (w2 := w1) (by unfold execOp; simp [e, Act.eval, go_sem, Q4.out w1 hx]) (hK w1 (Ext.refl _))
          | 4, ho =>
         obtain rfl := Option.some.inj ho
         have e3 := E1 3 35 (by decide) (getD_up (hdep ⟨3, .data⟩ (by simp) rfl)) rfl (by simp)
         exact op_run (v := .pointer (some ⟨g, 1, none⟩)) (w2 := w1) (by unfold execOp; simp [e3, Act.eval, go_sem]) (hK w1 (Ext.refl _))
          | 5, ho =>
         obtain rfl := Option.some.inj ho
         have e4 := E1 4 36 (by decide) (getD_up (hdep ⟨4, .data⟩ (by simp) rfl)) rfl (by simp)
         exact op_run (v := .int .i64 x.st.clock) (w2 := w1) (by unfold execOp; simp [e4, Act.eval, go_sem, QC.out w1 hx 1 (.int .i64 x.st.clock) rfl]) (hK w1 (Ext.refl _))
          | 6, ho =>
         obtain rfl := Option.some.inj ho
         have e := E0 4 (by kernel_rfl)
         simp only [List.getElem?_toArray, List.getElem?_cons_zero, List.getElem?_cons_succ] at e
         exact op_run (v := .slice (some ⟨g, 0, none⟩) 17 c1) (w2 := w1) (by unfold execOp; simp [e, Act.eval, go_sem, Q4.out w1 hx]) (hK w1 (Ext.refl _))
          | 7, ho =>
         obtain rfl := Option.some.inj ho
         have e6 := E1 6 38 (by decide) (getD_up (hdep ⟨6, .data⟩ (by simp) rfl)) rfl (by simp)
         exact op_run (v := .pointer (some ⟨g, 2, none⟩)) (w2 := w1) (by unfold execOp; simp [e6, Act.eval, go_sem]) (hK w1 (Ext.refl _))
          | 8, ho =>
         obtain rfl := Option.some.inj ho
         have e7 := E1 7 39 (by decide) (getD_up (hdep ⟨7, .data⟩ (by simp) rfl)) rfl (by simp)
         exact op_run (v := .int .i64 x.st.site) (w2 := w1) (by unfold execOp; simp [e7, Act.eval, go_sem, QC.out w1 hx 2 (.int .i64 x.st.site) rfl]) (hK w1 (Ext.refl _))
          | 9, ho =>
         obtain rfl := Option.some.inj ho
         have e := E0 4 (by kernel_rfl)
         simp only [List.getElem?_toArray, List.getElem?_cons_zero, List.getElem?_cons_succ] at e
         exact op_run (v := .slice (some ⟨g, 0, none⟩) 17 c1) (w2 := w1) (by unfold execOp; simp [e, Act.eval, go_sem, Q4.out w1 hx]) (hK w1 (Ext.refl _))
          | 10, ho =>
         obtain rfl := Option.some.inj ho
         have e9 := E1 9 41 (by decide) (getD_up (hdep ⟨9, .data⟩ (by simp) rfl)) rfl (by simp)
         exact op_run (v := .pointer (some ⟨g, 3, none⟩)) (w2 := w1) (by unfold execOp; simp [e9, Act.eval, go_sem]) (hK w1 (Ext.refl _))
          | 11, ho =>
         obtain rfl := Option.some.inj ho
         have e10 := E1 10 42 (by decide) (getD_up (hdep ⟨10, .data⟩ (by simp) rfl)) rfl (by simp)
         exact op_run (v := .int .i64 x.st.seq) (w2 := w1) (by unfold execOp; simp [e10, Act.eval, go_sem, QC.out w1 hx 3 (.int .i64 x.st.seq) rfl]) (hK w1 (Ext.refl _))
          | 12, ho =>
         obtain rfl := Option.some.inj ho
         have e2 := E1 2 34 (by decide) (getD_up (hdep ⟨2, .data⟩ (by simp) rfl)) rfl (by simp)
         have e5 := E1 5 37 (by decide) (getD_up (hdep ⟨5, .data⟩ (by simp) rfl)) rfl (by simp)
         have e8 := E1 8 40 (by decide) (getD_up (hdep ⟨8, .data⟩ (by simp) rfl)) rfl (by simp)
         have e11 := E1 11 43 (by decide) (getD_up (hdep ⟨11, .data⟩ (by simp) rfl)) rfl (by simp)
         exact op_run (v := .agg #[.int .i64 x.st.tick, .int .i64 x.st.clock, .int .i64 x.st.site, .int .i64 x.st.seq]) (w2 := w1) (by unfold execOp; simp [e2, e5, e8, e11, Act.eval, go_sem]) (hK w1 (Ext.refl _))
          | 13, ho =>
         obtain rfl := Option.some.inj ho
         have e := E0 4 (by kernel_rfl)
         simp only [List.getElem?_toArray, List.getElem?_cons_zero, List.getElem?_cons_succ] at e
         exact op_run (v := .slice (some ⟨g, 0, none⟩) 17 c1) (w2 := w1) (by unfold execOp; simp [e, Act.eval, go_sem, Q4.out w1 hx]) (hK w1 (Ext.refl _))
          | 14, ho =>
         obtain rfl := Option.some.inj ho
         have e13 := E1 13 45 (by decide) (getD_up (hdep ⟨13, .data⟩ (by simp) rfl)) rfl (by simp)
         exact op_run (v := .pointer (some ⟨g, 4, none⟩)) (w2 := w1) (by unfold execOp; simp [e13, Act.eval, go_sem]) (hK w1 (Ext.refl _))
          | 15, ho =>
         obtain rfl := Option.some.inj ho
         have e14 := E1 14 46 (by decide) (getD_up (hdep ⟨14, .data⟩ (by simp) rfl)) rfl (by simp)
         exact op_run (v := .int .i64 x.kind) (w2 := w1) (by unfold execOp; simp [e14, Act.eval, go_sem, QC.out w1 hx 4 (.int .i64 x.kind) rfl]) (hK w1 (Ext.refl _))
          | 16, ho =>
         obtain rfl := Option.some.inj ho
         have e := E0 7 (by kernel_rfl)
         simp only [List.getElem?_toArray, List.getElem?_cons_zero, List.getElem?_cons_succ] at e
         exact op_move rfl (eval_of e) (hK w1 (Ext.refl _))
          | 17, ho =>
         obtain rfl := Option.some.inj ho
         have e16 := E1 16 48 (by decide) (getD_up (hdep ⟨16, .data⟩ (by simp) rfl)) rfl (by simp)
         refine op_callF (f := 76) (caps := #[.pointer (some ⟨n4, 0, none⟩)]) (vs := #[.int .i64 5, .pointer (some ⟨n4, 0, none⟩)]) (G := fun v w' => v = .agg #[.int .i64 x.box.lo.x, .int .i64 x.box.lo.y, .int .i64 x.box.lo.z] ∧ Ext w1 w') rfl (eval_of e16) (by simp [Act.eval]) (fun _ _ => by kernel_rfl) ((decAt_any 5 17 c1 g n4 x.box.lo.x x.box.lo.y x.box.lo.z (by decide) (by decide) w1 (Q4.out w1 hx) (Nat.lt_of_lt_of_le HL4.out hx.size) (Nat.lt_of_lt_of_le HLG.out hx.size) (QC.out w1 hx 5 _ rfl) (QC.out w1 hx 6 _ rfl) (QC.out w1 hx 7 _ rfl)).mono fun e w' h => ⟨_, h.1, rfl, h.2⟩) (fun v w' h => ?_)
         obtain ⟨rfl, h2⟩ := h
         exact hK w' h2
          | 18, ho =>
         obtain rfl := Option.some.inj ho
         have e := E0 7 (by kernel_rfl)
         simp only [List.getElem?_toArray, List.getElem?_cons_zero, List.getElem?_cons_succ] at e
         exact op_move rfl (eval_of e) (hK w1 (Ext.refl _))
          | 19, ho =>
         obtain rfl := Option.some.inj ho
         have e18 := E1 18 50 (by decide) (getD_up (hdep ⟨18, .data⟩ (by simp) rfl)) rfl (by simp)
         refine op_callF (f := 76) (caps := #[.pointer (some ⟨n4, 0, none⟩)]) (vs := #[.int .i64 8, .pointer (some ⟨n4, 0, none⟩)]) (G := fun v w' => v = .agg #[.int .i64 x.box.hi.x, .int .i64 x.box.hi.y, .int .i64 x.box.hi.z] ∧ Ext w1 w') rfl (eval_of e18) (by simp [Act.eval]) (fun _ _ => by kernel_rfl) ((decAt_any 8 17 c1 g n4 x.box.hi.x x.box.hi.y x.box.hi.z (by decide) (by decide) w1 (Q4.out w1 hx) (Nat.lt_of_lt_of_le HL4.out hx.size) (Nat.lt_of_lt_of_le HLG.out hx.size) (QC.out w1 hx 8 _ rfl) (QC.out w1 hx 9 _ rfl) (QC.out w1 hx 10 _ rfl)).mono fun e w' h => ⟨_, h.1, rfl, h.2⟩) (fun v w' h => ?_)
         obtain ⟨rfl, h2⟩ := h
         exact hK w' h2
          | 20, ho =>
         obtain rfl := Option.some.inj ho
         have e17 := E1 17 49 (by decide) (getD_up (hdep ⟨17, .data⟩ (by simp) rfl)) rfl (by simp)
         have e19 := E1 19 51 (by decide) (getD_up (hdep ⟨19, .data⟩ (by simp) rfl)) rfl (by simp)
         exact op_run (v := .agg #[.int .i64 x.box.lo.x, .int .i64 x.box.lo.y, .int .i64 x.box.lo.z, .int .i64 x.box.hi.x, .int .i64 x.box.hi.y, .int .i64 x.box.hi.z]) (w2 := w1) (by unfold execOp; simp [e17, e19, Act.eval, go_sem]) (hK w1 (Ext.refl _))
          | 21, ho =>
         obtain rfl := Option.some.inj ho
         have e := E0 7 (by kernel_rfl)
         simp only [List.getElem?_toArray, List.getElem?_cons_zero, List.getElem?_cons_succ] at e
         exact op_move rfl (eval_of e) (hK w1 (Ext.refl _))
          | 22, ho =>
         obtain rfl := Option.some.inj ho
         have e21 := E1 21 53 (by decide) (getD_up (hdep ⟨21, .data⟩ (by simp) rfl)) rfl (by simp)
         refine op_callF (f := 76) (caps := #[.pointer (some ⟨n4, 0, none⟩)]) (vs := #[.int .i64 11, .pointer (some ⟨n4, 0, none⟩)]) (G := fun v w' => v = .agg #[.int .i64 x.at_.x, .int .i64 x.at_.y, .int .i64 x.at_.z] ∧ Ext w1 w') rfl (eval_of e21) (by simp [Act.eval]) (fun _ _ => by kernel_rfl) ((decAt_any 11 17 c1 g n4 x.at_.x x.at_.y x.at_.z (by decide) (by decide) w1 (Q4.out w1 hx) (Nat.lt_of_lt_of_le HL4.out hx.size) (Nat.lt_of_lt_of_le HLG.out hx.size) (QC.out w1 hx 11 _ rfl) (QC.out w1 hx 12 _ rfl) (QC.out w1 hx 13 _ rfl)).mono fun e w' h => ⟨_, h.1, rfl, h.2⟩) (fun v w' h => ?_)
         obtain ⟨rfl, h2⟩ := h
         exact hK w' h2
          | 23, ho =>
         obtain rfl := Option.some.inj ho
         have e := E0 4 (by kernel_rfl)
         simp only [List.getElem?_toArray, List.getElem?_cons_zero, List.getElem?_cons_succ] at e
         exact op_run (v := .slice (some ⟨g, 0, none⟩) 17 c1) (w2 := w1) (by unfold execOp; simp [e, Act.eval, go_sem, Q4.out w1 hx]) (hK w1 (Ext.refl _))
          | 24, ho =>
         obtain rfl := Option.some.inj ho
         have e23 := E1 23 55 (by decide) (getD_up (hdep ⟨23, .data⟩ (by simp) rfl)) rfl (by simp)
         exact op_run (v := .pointer (some ⟨g, 14, none⟩)) (w2 := w1) (by unfold execOp; simp [e23, Act.eval, go_sem]) (hK w1 (Ext.refl _))
          | 25, ho =>
         obtain rfl := Option.some.inj ho
         have e24 := E1 24 56 (by decide) (getD_up (hdep ⟨24, .data⟩ (by simp) rfl)) rfl (by simp)
         exact op_run (v := .int .i64 x.turn) (w2 := w1) (by unfold execOp; simp [e24, Act.eval, go_sem, QC.out w1 hx 14 (.int .i64 x.turn) rfl]) (hK w1 (Ext.refl _))
          | 26, ho =>
         obtain rfl := Option.some.inj ho
         have e := E0 4 (by kernel_rfl)
         simp only [List.getElem?_toArray, List.getElem?_cons_zero, List.getElem?_cons_succ] at e
         exact op_run (v := .slice (some ⟨g, 0, none⟩) 17 c1) (w2 := w1) (by unfold execOp; simp [e, Act.eval, go_sem, Q4.out w1 hx]) (hK w1 (Ext.refl _))
          | 27, ho =>
         obtain rfl := Option.some.inj ho
         have e26 := E1 26 58 (by decide) (getD_up (hdep ⟨26, .data⟩ (by simp) rfl)) rfl (by simp)
         exact op_run (v := .pointer (some ⟨g, 15, none⟩)) (w2 := w1) (by unfold execOp; simp [e26, Act.eval, go_sem]) (hK w1 (Ext.refl _))
          | 28, ho =>
         obtain rfl := Option.some.inj ho
         have e27 := E1 27 59 (by decide) (getD_up (hdep ⟨27, .data⟩ (by simp) rfl)) rfl (by simp)
         exact op_run (v := .int .i64 x.cell) (w2 := w1) (by unfold execOp; simp [e27, Act.eval, go_sem, QC.out w1 hx 15 (.int .i64 x.cell) rfl]) (hK w1 (Ext.refl _))
          | 29, ho =>
         obtain rfl := Option.some.inj ho
         have e := E0 4 (by kernel_rfl)
         simp only [List.getElem?_toArray, List.getElem?_cons_zero, List.getElem?_cons_succ] at e
         exact op_run (v := .slice (some ⟨g, 0, none⟩) 17 c1) (w2 := w1) (by unfold execOp; simp [e, Act.eval, go_sem, Q4.out w1 hx]) (hK w1 (Ext.refl _))
          | 30, ho =>
         obtain rfl := Option.some.inj ho
         have e29 := E1 29 61 (by decide) (getD_up (hdep ⟨29, .data⟩ (by simp) rfl)) rfl (by simp)
         exact op_run (v := .pointer (some ⟨g, 16, none⟩)) (w2 := w1) (by unfold execOp; simp [e29, Act.eval, go_sem]) (hK w1 (Ext.refl _))
          | 31, ho =>
         obtain rfl := Option.some.inj ho
         have e30 := E1 30 62 (by decide) (getD_up (hdep ⟨30, .data⟩ (by simp) rfl)) rfl (by simp)
         exact op_run (v := .int .i64 x.size) (w2 := w1) (by unfold execOp; simp [e30, Act.eval, go_sem, QC.out w1 hx 16 (.int .i64 x.size) rfl]) (hK w1 (Ext.refl _))
          | 32, ho =>
         obtain rfl := Option.some.inj ho
         have e12 := E1 12 44 (by decide) (getD_up (hdep ⟨12, .data⟩ (by simp) rfl)) rfl (by simp)
         have e15 := E1 15 47 (by decide) (getD_up (hdep ⟨15, .data⟩ (by simp) rfl)) rfl (by simp)
         have e20 := E1 20 52 (by decide) (getD_up (hdep ⟨20, .data⟩ (by simp) rfl)) rfl (by simp)
         have e22 := E1 22 54 (by decide) (getD_up (hdep ⟨22, .data⟩ (by simp) rfl)) rfl (by simp)
         have e25 := E1 25 57 (by decide) (getD_up (hdep ⟨25, .data⟩ (by simp) rfl)) rfl (by simp)
         have e28 := E1 28 60 (by decide) (getD_up (hdep ⟨28, .data⟩ (by simp) rfl)) rfl (by simp)
         have e31 := E1 31 63 (by decide) (getD_up (hdep ⟨31, .data⟩ (by simp) rfl)) rfl (by simp)
         exact op_run (v := .agg #[.int .i64 x.st.tick, .int .i64 x.st.clock, .int .i64 x.st.site, .int .i64 x.st.seq, .int .i64 x.kind, .int .i64 x.box.lo.x, .int .i64 x.box.lo.y, .int .i64 x.box.lo.z, .int .i64 x.box.hi.x, .int .i64 x.box.hi.y, .int .i64 x.box.hi.z, .int .i64 x.at_.x, .int .i64 x.at_.y, .int .i64 x.at_.z, .int .i64 x.turn, .int .i64 x.cell, .int .i64 x.size]) (w2 := w1) (by unfold execOp; simp [e12, e15, e20, e22, e25, e28, e31, Act.eval, go_sem]) (hK w1 (Ext.refl _))
          | i + 33, ho => omega
     · intro g8 W8 hx hg8 A8
       simp only [List.length_cons, List.length_nil, fillAllN, dstOf, Act.put, List.getElem?_toArray, List.getElem?_cons_zero, List.getElem?_cons_succ, Option.bind_some, List.setIfInBounds_toArray, List.set_cons_zero, List.set_cons_succ, boxV, Nat.lt_irrefl, if_false, if_true, Nat.reduceLT, Nat.reduceEqDiff, Nat.reduceAdd]
       have HB8 := Lib.hid (HB2.out.ext hx); have HX8 := Lib.hid (HX2.out.trans hx); have HA8 := Lib.hid A8
       have HF := Lib.hid (Formed_any x W8 (HR.out.ext HX8.out))
       clear hx hg8 A8 Q4 QC HL4 HLG HB2 HX2 HA4 HQC HGL
       cases hf : formedE x
       · rw [hf] at HF
         rw [if_neg (by simp)]
         go_upto_region 9 with (first
          | (refine ldB 29 8 HA8.out Tryz.underlying29 ?_) | (refine ldB 29 8 (HA8.out.alloc _) Tryz.underlying29 ?_) | (refine ldB 29 8 ((HA8.out.alloc _).alloc _) Tryz.underlying29 ?_)
          | (go_at_call 13; refine HF.out.mono ?_; rintro e w2 ⟨rfl, hx2⟩; have HB8 := Lib.hid (HB8.out.ext hx2); have HX8 := Lib.hid (HX8.out.trans hx2); clear hx2))
         go_wp2_with (refine wpList_store_blk2 29 (.tmp 2) (.tmp 68) rfl rfl HB8.out [.int .i64 0, .int .i64 0, .int .i64 0, .int .i64 0, .int .i64 0, .int .i64 0, .int .i64 0, .int .i64 0, .int .i64 0, .int .i64 0, .int .i64 0, .int .i64 0, .int .i64 0, .int .i64 0, .int .i64 0, .int .i64 0, .int .i64 0] rfl rfl (by kernel_rfl) rfl rfl rfl ?_; intro W9 hW9; have HB9 := Lib.hid (show Arr W9 w.heap.size 29 [.int .i64 0, .int .i64 0, .int .i64 0, .int .i64 0, .int .i64 0, .int .i64 0, .int .i64 0, .int .i64 0, .int .i64 0, .int .i64 0, .int .i64 0, .int .i64 0, .int .i64 0, .int .i64 0, .int .i64 0, .int .i64 0, .int .i64 0] by rw [hW9]; exact HB8.out.setRow _); have HX9 := Lib.hid (show Ext w W9 by rw [hW9]; exact HX8.out.setRow (Nat.le_refl _) _); clear hW9)
         all_goals
          refine bodyPost_ret (v := .tuple #[.agg #[.int .i64 zeroE.st.tick, .int .i64 zeroE.st.clock, .int .i64 zeroE.st.site, .int .i64 zeroE.st.seq, .int .i64 zeroE.kind, .int .i64 zeroE.box.lo.x, .int .i64 zeroE.box.lo.y, .int .i64 zeroE.box.lo.z, .int .i64 zeroE.box.hi.x, .int .i64 zeroE.box.hi.y, .int .i64 zeroE.box.hi.z, .int .i64 zeroE.at_.x, .int .i64 zeroE.at_.y, .int .i64 zeroE.at_.z, .int .i64 zeroE.turn, .int .i64 zeroE.cell, .int .i64 zeroE.size], .int .i64 1]) ?_ rfl ⟨rfl, HX9.out⟩
          exact results_cell_row2 Tryz.results29 _ _ _ _ _ _ _ rfl (HB9.out) Tryz.underlying29 rfl (by kernel_rfl)
       · rw [hf] at HF
         rw [if_pos rfl]
         go_upto_region 10 with (first
          | (refine ldB 29 8 HA8.out Tryz.underlying29 ?_) | (refine ldB 29 8 (HA8.out.alloc _) Tryz.underlying29 ?_) | (refine ldB 29 8 ((HA8.out.alloc _).alloc _) Tryz.underlying29 ?_)
          | (go_at_call 13; refine HF.out.mono ?_; rintro e w2 ⟨rfl, hx2⟩; have HB8 := Lib.hid (HB8.out.ext hx2); have HX8 := Lib.hid (HX8.out.trans hx2); have HA9 := Lib.hid (HA8.out.ext hx2); clear hx2))
         go_wp2_with (first
          | (refine ldB 29 8 HA9.out Tryz.underlying29 ?_) | (refine ldB 29 8 (HA9.out.alloc _) Tryz.underlying29 ?_) | (refine ldB 29 8 ((HA9.out.alloc _).alloc _) Tryz.underlying29 ?_)
          | (refine wpList_store_blk2 29 (.tmp 2) (.tmp 69) rfl rfl HB8.out [.int .i64 x.st.tick, .int .i64 x.st.clock, .int .i64 x.st.site, .int .i64 x.st.seq, .int .i64 x.kind, .int .i64 x.box.lo.x, .int .i64 x.box.lo.y, .int .i64 x.box.lo.z, .int .i64 x.box.hi.x, .int .i64 x.box.hi.y, .int .i64 x.box.hi.z, .int .i64 x.at_.x, .int .i64 x.at_.y, .int .i64 x.at_.z, .int .i64 x.turn, .int .i64 x.cell, .int .i64 x.size] rfl rfl (by kernel_rfl) rfl rfl rfl ?_; intro W9 hW9; have HB9 := Lib.hid (show Arr W9 w.heap.size 29 [.int .i64 x.st.tick, .int .i64 x.st.clock, .int .i64 x.st.site, .int .i64 x.st.seq, .int .i64 x.kind, .int .i64 x.box.lo.x, .int .i64 x.box.lo.y, .int .i64 x.box.lo.z, .int .i64 x.box.hi.x, .int .i64 x.box.hi.y, .int .i64 x.box.hi.z, .int .i64 x.at_.x, .int .i64 x.at_.y, .int .i64 x.at_.z, .int .i64 x.turn, .int .i64 x.cell, .int .i64 x.size] by rw [hW9]; exact HB8.out.setRow _); have HX9 := Lib.hid (show Ext w W9 by rw [hW9]; exact HX8.out.setRow (Nat.le_refl _) _); clear hW9))
         refine bodyPost_ret (v := .tuple #[.agg #[.int .i64 x.st.tick, .int .i64 x.st.clock, .int .i64 x.st.site, .int .i64 x.st.seq, .int .i64 x.kind, .int .i64 x.box.lo.x, .int .i64 x.box.lo.y, .int .i64 x.box.lo.z, .int .i64 x.box.hi.x, .int .i64 x.box.hi.y, .int .i64 x.box.hi.z, .int .i64 x.at_.x, .int .i64 x.at_.y, .int .i64 x.at_.z, .int .i64 x.turn, .int .i64 x.cell, .int .i64 x.size], .int .i64 0]) ?_ rfl ⟨rfl, HX9.out⟩
         exact results_cell_row2 Tryz.results29 _ _ _ _ _ _ _ rfl (HB9.out) Tryz.underlying29 rfl (by kernel_rfl)
end Go.Proofs.YtlinhgannajfpaaGreatDoor
