/- Contract of slices.DeleteFunc at uses, on a row of the call's own. -/
import Derived.Test.YthjmglbjlfgmaaaQe
namespace Go.Proofs.Ythjmglbjlfgmaaa
open Go Go.RowKit

theorem first_at {p : List Value → Bool} {xs : List (List Value)} {i : Nat} (h : idx p xs = i) : ∃ x, xs[i]? = some x ∧ p x = true ∧ ∀ (j : Nat) (y : List Value), j < i → xs[j]? = some y → p y = false := by
  unfold idx at h
  split at h
  · rename_i k hk
    obtain rfl : k = i := by omega
    obtain ⟨hj, hp, hb⟩ := List.findIdx?_eq_some_iff_getElem.1 hk
    refine ⟨_, List.getElem?_eq_getElem hj, hp, fun j y hji hy => ?_⟩
    obtain ⟨h1, rfl⟩ := List.getElem?_eq_some_iff.1 hy
    simpa using hb j hji
  · omega
theorem idx_or (p : List Value → Bool) (xs : List (List Value)) : (idx p xs = -1 ∧ ∀ x, x ∈ xs → p x = false) ∨ ∃ i : Nat, idx p xs = i ∧ i < xs.length := by
  unfold idx
  cases h : xs.findIdx? p with
  | none => exact .inl ⟨rfl, fun x hx => by simpa using List.findIdx?_eq_none_iff.1 h x hx⟩
  | some i => exact .inr ⟨i, rfl, by obtain ⟨h1, _⟩ := List.findIdx?_eq_some_iff_getElem.1 h; exact h1⟩
def nots (p : List Value → Bool) (xs : List (List Value)) : List (List Value) := xs.filter fun x => !p x
theorem nots_all {p : List Value → Bool} {xs : List (List Value)} (h : ∀ x, x ∈ xs → p x = false) : nots p xs = xs := by
  unfold nots; rw [List.filter_eq_self]; intro x hx; simp [h x hx]
theorem nots_le (p : List Value → Bool) (xs : List (List Value)) (j : Nat) : (nots p (xs.take j)).length ≤ j := by
  have h1 := List.length_filter_le (fun x => !p x) (xs.take j)
  have h2 := List.length_take_le j xs
  unfold nots; omega
theorem nots_first {p : List Value → Bool} {xs : List (List Value)} {i : Nat} {x : List Value} (hx : xs[i]? = some x) (hp : p x = true) (hb : ∀ (j : Nat) (y : List Value), j < i → xs[j]? = some y → p y = false) :
    nots p (xs.take (i + 1)) = xs.take i := by
  obtain ⟨hi, rfl⟩ := List.getElem?_eq_some_iff.1 hx
  rw [List.take_succ_eq_append_getElem hi]
  unfold nots
  rw [List.filter_append, List.filter_eq_self.2]
  · simp [hp]
  · intro y hy
    obtain ⟨j, hj⟩ := List.getElem?_of_mem hy
    rw [List.getElem?_take] at hj
    split at hj
    · simp [hb j y (by assumption) hj]
    · cases hj
theorem nots_step {p : List Value → Bool} {xs : List (List Value)} {j : Nat} {x : List Value} (hx : xs[j]? = some x) : nots p (xs.take (j + 1)) = nots p (xs.take j) ++ if p x then [] else [x] := by
  obtain ⟨hi, rfl⟩ := List.getElem?_eq_some_iff.1 hx
  rw [List.take_succ_eq_append_getElem hi]
  unfold nots
  rw [List.filter_append]
  cases h : p xs[j] <;> simp [h]

/-- What the row holds after j rounds: the kept rows so far, then what came, from j on. -/
structure Mid (p : List Value → Bool) (xs ys : List (List Value)) (i j : Nat) : Prop where
  len : ys.length = xs.length
  head : ys.take i = nots p (xs.take j)
  tail : ys.drop j = xs.drop j
  ij : i < j
  jn : j ≤ xs.length
theorem Mid.start {p : List Value → Bool} {xs : List (List Value)} {i : Nat} (h : idx p xs = i) : Mid p xs xs i (i + 1) := by
  obtain ⟨x, hx, hp, hb⟩ := first_at h
  exact ⟨rfl, (nots_first hx hp hb).symm, rfl, by omega, (List.getElem?_eq_some_iff.1 hx).1⟩
theorem Mid.at_ {p : List Value → Bool} {xs ys : List (List Value)} {i j : Nat} (h : Mid p xs ys i j) (hj : j < xs.length) : ∃ x, xs[j]? = some x ∧ ys[j]? = some x := by
  refine ⟨xs[j], List.getElem?_eq_getElem hj, ?_⟩
  have := congrArg (fun l => l[0]?) h.tail
  simpa [hj] using this
theorem Mid.skip {p : List Value → Bool} {xs ys : List (List Value)} {i j : Nat} (h : Mid p xs ys i j) {x : List Value} (hx : xs[j]? = some x) (hp : p x = true) : Mid p xs ys i (j + 1) := by
  have hj := (List.getElem?_eq_some_iff.1 hx).1
  refine ⟨h.len, by rw [nots_step hx, hp]; simpa using h.head, ?_, by have := h.ij; omega, hj⟩
  rw [← List.drop_drop, ← List.drop_drop, h.tail]
theorem Mid.put {p : List Value → Bool} {xs ys : List (List Value)} {i j : Nat} (h : Mid p xs ys i j) {x : List Value} (hx : xs[j]? = some x) (hp : p x = false) : Mid p xs (ys.set i x) (i + 1) (j + 1) := by
  have hj := (List.getElem?_eq_some_iff.1 hx).1
  have hij := h.ij
  have hl := h.len
  refine ⟨by simpa using h.len, ?_, ?_, by omega, hj⟩
  · rw [nots_step hx, hp, ← h.head, List.take_set]
    rw [List.take_succ_eq_append_getElem (by omega), List.set_append_right _ _ (by simp; omega)]
    simp
    rw [Nat.min_eq_left (by omega)]
    simp
  · rw [List.drop_set_of_lt (by omega), ← List.drop_drop, ← List.drop_drop, h.tail]
theorem Mid.fin {p : List Value → Bool} {xs ys : List (List Value)} {i : Nat} (h : Mid p xs ys i xs.length) : ys.take i = nots p xs := by
  rw [h.head, List.take_length]

/-- It hands back the first rows of the same block, the kept ones; only this block has turned. -/
def RetDel (e : TypeId) (k g c : Nat) (base : Nat) (ys : List (List Value)) (w : World) (en : Ending) (w' : World) : Prop :=
  en = .returned (.slice (some ⟨g, 0, none⟩) ys.length c) ∧ w'.ownsRow base e k (.slice (some ⟨g, 0, none⟩) ys.length c) ys.length ys.flatten ∧ w.grownBy w' (some g)

theorem zeroUse (w : World) : (zeroValue 40).run Try.prog w = .ok (.agg #[.int .i64 0, .int .i64 0, .int .i64 0]) w := by kernel_rfl

set_option maxRecDepth 100000 in
set_option maxHeartbeats 1000000 in
theorem DeleteFunc_own (g c base : Nat) (xs : List (List Value)) (w : World) (ho : w.ownsRow base 40 3 (.slice (some ⟨g, 0, none⟩) xs.length c) xs.length xs.flatten) (hr : Rws 3 xs)
    (f : FuncId) (lb : Array Value) (p : List Value → Bool) (hp : Pred Try.prog f lb p xs w (some g)) :
    Calls Try.prog 28 #[.slice (some ⟨g, 0, none⟩) xs.length c, .func (.func f) #[] lb] w (RetDel 40 3 g c base (nots p xs) w) := by
  have hs := Sl.of_own ho hr rfl
  have hln := hs.len
  have eg := hp.enters
  have hp0 : Pred Try.prog f lb p xs w none := ⟨hp.enters, fun x hx w' hw => hp.call x hx w' (grown_none hw _)⟩
  have hgl : g < w.heap.size := by obtain ⟨cur, _, h, _⟩ := own_cur ho; exact (Array.getElem?_eq_some_iff.1 h).1
  have HI := Lib.hid (IndexFunc_any _ c xs w hs f lb p hp0)
  have HO := Lib.hid ho; have HP := Lib.hid hp; have HR := Lib.hid hr
  clear ho hp hs hp0 hr
  rcases idx_or p xs with ⟨h1, h2⟩ | ⟨i0, h1, h2⟩
  · have HN := Lib.hid (nots_all h2); clear h2
    rw [h1] at HI; clear h1
    go_enter Try.func28, Try.ntmps28
    go_wp2_with (go_at_call 35; refine HI.out.mono ?_; rintro e w1 ⟨rfl, hx⟩)
    go_ret
    rw [HN.out]
    exact ⟨rfl, own_ext HO.out hx, hx.by_ _⟩
  · have HM := Lib.hid (Mid.start h1)
    rw [h1] at HI; clear h1
    have he1 : ((i0 : Int) == -1) = false := beq_eq_false_iff_ne.2 (by omega)
    go_enter Try.func28, Try.ntmps28
    go_wp2_with (go_at_call 35; refine HI.out.mono ?_; rintro e w1 ⟨rfl, hx⟩)
    go_loopw [5, 6] (fun i j wr => ∃ (i' j' : Nat) (ys : List (List Value)), i = .int .i64 i' ∧ j = .int .i64 j' ∧ Mid p xs ys i' j' ∧ Rws 3 ys ∧ wr.ownsRow base 40 3 (.slice (some ⟨g, 0, none⟩) xs.length c) xs.length ys.flatten ∧ w.grownBy wr (some g)) (fun _ j _ => xs.length - (intOf j).toNat)
    case atStart => exact ⟨i0, i0 + 1, xs, rfl, by go_num, HM.out, HR.out, own_ext HO.out hx, hx.by_ _⟩
    case round =>
      obtain ⟨i, j, ys, rfl, rfl, hM, hR, hO, hW⟩ := hrel
      have hij := hM.ij
      have hjn := hM.jn
      have hgw := (Nat.lt_of_lt_of_le hgl hW.size)
      have hgw' : g ≠ wr.heap.size := by omega
      by_cases hlt : j < xs.length
      · obtain ⟨x, hxj, hyj⟩ := hM.at_ hlt
        obtain ⟨u0, u1, u2, rfl⟩ := HR.out.row3 (List.mem_of_getElem? hxj)
        obtain ⟨b', off, he, hbl, h0, h1, h2⟩ := (Sl.of_own hO hR hM.len).at3 hyj
        cases he
        simp only [Nat.zero_add] at h0 h1 h2
        have HC := Lib.hid (HP.out.call _ (List.mem_of_getElem? hxj))
        have HA := Lib.hid (fun o : Obj => grown_ext hW ((Ext.refl wr).alloc o))
        have hlm := List.mem_of_getElem? hxj
        have HMM := Lib.hid hM
        have HXJ := Lib.hid hxj
        have HOO := Lib.hid hO
        have HWW := Lib.hid hW
        have HRR := Lib.hid hR
        clear hM hxj hyj hO hW hlm hR
        cases hq : p [.int .i64 u0, .int .i64 u1, .int .i64 u2] with
        | true =>
          rw [hq] at HC
          go_wp2_with (go_at_fn f; refine (HC.out _ (HA.out _)).mono ?_; rintro e w2 ⟨rfl, hy⟩)
          go_roundw
          case rel => exact ⟨i, j + 1, ys, rfl, by go_num, HMM.out.skip HXJ.out hq, HRR.out, own_ext (HOO.out.alloc _) hy, grown_ext (HA.out _) hy⟩
          case measure => simp [intOf]; omega
        | false =>
          rw [hq] at HC
          go_wp2_with fail
          go_at_fn f
          refine (HC.out _ (HA.out _)).mono ?_
          rintro e w2 ⟨rfl, hy⟩
          have b0 := hy.box 0
          have b1 := hy.box 1
          have b2 := hy.box 2
          have hO2 := own_ext (HOO.out.alloc _) hy
          obtain ⟨o0, s0⟩ := own_slot hO2 (i * 3) (by omega)
          obtain ⟨o1, s1⟩ := own_slot hO2 (i * 3 + 1) (by omega)
          obtain ⟨o2, s2⟩ := own_slot hO2 (i * 3 + 2) (by omega)
          have f0 := hO2.frozenAt (i * 3)
          have f1 := hO2.frozenAt (i * 3 + 1)
          have f2 := hO2.frozenAt (i * 3 + 2)
          have HO2 := Lib.hid hO2; clear hO2
          have hz := hy.size1
          go_wp2
          go_roundw
          case rel =>
            refine ⟨i + 1, j + 1, ys.set i _, by go_num, by go_num, HMM.out.put HXJ.out hq, HRR.out.set ⟨[u0, u1, u2], rfl, rfl⟩, ?_, grown_set (grown_set (grown_set (grown_ext (HA.out _) hy) _ _) _ _) _ _⟩
            have hset := set3_flatten ys i (.int .i64 u0) (.int .i64 u1) (.int .i64 u2) HRR.out.len (by have := HMM.out.len; omega)
            rw [← hset]
            exact (((HO2.out.stored _ _).1.stored _ _).1.stored _ _).1
          case measure => simp [intOf]; omega
      · obtain rfl : j = xs.length := by omega
        have hO2 := hO
        obtain ⟨cur, hbg, hcur, hnc, hcm, hcl, htk⟩ := own_cur hO2
        have HF := Lib.hid hM.fin
        have HT := Lib.hid htk
        have HL := Lib.hid hcl
        have HC := Lib.hid hcur
        have HR2 := Lib.hid hR
        have HY := Lib.hid hM.len
        obtain ⟨d, hd⟩ : ∃ d, xs.length - i = d + 1 := ⟨xs.length - i - 1, by omega⟩
        have HD := Lib.hid hd
        have hic : ¬ c = i := by omega
        have hic2 : i ≤ xs.length := by omega
        clear hM hO hO2 htk hcl hcur hR hd
        go_wp2_with (with_reducible refine wpList_clear_rows (n := d) rfl (.tmp 38) 22 rfl 40 3 (.agg #[.int .i64 0, .int .i64 0, .int .i64 0]) Try.underlying22 zeroUse rfl ?h1 g (i * 3) (c - i) ?h2 cur 40 HC.out ?h3 ?_)
        case h1 => exact zeros_one _ _ (by decide) (fun i hi => by
          have : i < 3 := hi
          match i with
          | 0 => rfl
          | 1 => rfl
          | 2 => rfl
          | n + 3 => omega)
        case h2 => simp [go_sem, HD.out]
        case h3 => have := HL.out; have := HD.out; omega
        have hi := HF.out
        have hil : i = (nots p xs).length := by rw [← hi, List.length_take, HY.out]; omega
        have HIL := Lib.hid hil; clear hil hi
        go_ret
        have hD := HD.out
        have hz : (Builtin.zeroCells #[Value.int .i64 0, Value.int .i64 0, Value.int .i64 0] (d + 1)).toList.length = (d + 1) * 3 := by rw [Array.length_toList, size_zeroCells]; rfl
        refine ⟨by rw [← HIL.out]; rfl, ?_, grown_row hW _⟩
        rw [← HIL.out, ← HF.out, flatten_take ys i HR2.out.len (by rw [HY.out]; omega)]
        refine own_of_cur hbg (setRow_heap wr g _ _ _ _ HC.out) (by omega) hcm (by rw [length_splice _ _ _ (by rw [hz, HL.out]; omega)]; exact HL.out) ?_
        rw [splice_take _ _ _ (by rw [HL.out]; omega), ← HT.out, List.take_take]
        congr 1; omega
end Go.Proofs.Ythjmglbjlfgmaaa
