/- Contract of slices.BinarySearchFunc at uses. -/
import Derived.Test.YthjmglbjlfgmaaaQe
namespace Go.Proofs.Ythjmglbjlfgmaaa
open Go Go.RowKit

/-- Called with a row of xs and the target y, in whatever world near w, function g answers cf. -/
structure Cmp3 (P : Program) (g : FuncId) (cap : Array Value) (cf : List Value → Int) (y : List Value) (xs : List (List Value)) (w : World) : Prop where
  enters : ∀ args w, (callFunc g args).run P w = .ok (.enter g args) w
  call : ∀ x, x ∈ xs → ∀ w', Ext w w' → Calls P g (#[.agg x.toArray, .agg y.toArray] ++ cap) w' fun e w'' => e = .returned (.int .i64 (cf x)) ∧ Ext w' w''

def bsPos (cf : List Value → Int) (xs : List (List Value)) : Nat := xs.findIdx fun x => decide (0 ≤ cf x)
def bsHit (cf : List Value → Int) (xs : List (List Value)) : Bool := match xs[bsPos cf xs]? with | some x => cf x == 0 | none => false
theorem bsPos_eq {cf : List Value → Int} {xs : List (List Value)} {i : Nat} (hi : i ≤ xs.length) (hL : ∀ (a : Nat) (x : List Value), a < i → xs[a]? = some x → cf x < 0) (hU : ∀ (a : Nat) (x : List Value), i ≤ a → xs[a]? = some x → 0 ≤ cf x) : bsPos cf xs = i := by
  unfold bsPos
  rcases Nat.lt_or_ge i xs.length with h | h
  · rw [List.findIdx_eq h]
    refine ⟨by simpa using hU i _ (Nat.le_refl _) (List.getElem?_eq_getElem h), fun j hj => ?_⟩
    have := hL j _ hj (List.getElem?_eq_getElem (by omega))
    simp; omega
  · obtain rfl : i = xs.length := by omega
    rw [List.findIdx_eq_length]
    intro x hx
    obtain ⟨a, ha⟩ := List.getElem?_of_mem hx
    have := hL a x (List.getElem?_eq_some_iff.1 ha).1 ha
    simp; omega
theorem bsHit_at {cf : List Value → Int} {xs : List (List Value)} {i : Nat} {x : List Value} {v : Int} (hi : bsPos cf xs = i) (hx : xs[i]? = some x) (hv : cf x = v) : bsHit cf xs = (v == 0) := by unfold bsHit; rw [hi, hx]; simp [hv]
theorem bsHit_no {cf : List Value → Int} {xs : List (List Value)} {i : Nat} (hi : bsPos cf xs = i) (h : ¬ i < xs.length) : bsHit cf xs = false := by unfold bsHit; rw [hi, List.getElem?_eq_none (by omega)]
theorem ret_bs {i j : Nat} {a b : Bool} (h : i = j) (k : a = b) : Ending.returned (.tuple #[.int .i64 (i : Int), .bool a]) = .returned (.tuple #[.int .i64 (j : Int), .bool b]) := by rw [h, k]

set_option maxRecDepth 100000 in
set_option maxHeartbeats 1000000 in
theorem BinarySearchFunc_any (A : Option Addr) (c : Nat) (xs : List (List Value)) (w : World) (hs : Sl w w.heap.size 3 A c xs) (y0 y1 y2 : Int) (g : FuncId) (lb : Array Value) (cf : List Value → Int) (hp : Cmp3 Try.prog g lb cf [.int .i64 y0, .int .i64 y1, .int .i64 y2] xs w) (hln : xs.length ≤ 1000000)
    (hmono : ∀ (i j : Nat) (x y : List Value), i < j → xs[i]? = some x → xs[j]? = some y → cf y < 0 → cf x < 0) :
    Calls Try.prog 25 #[.slice A xs.length c, .agg #[.int .i64 y0, .int .i64 y1, .int .i64 y2], .func (.func g) #[] lb] w fun e w' =>
      e = .returned (.tuple #[.int .i64 (bsPos cf xs : Int), .bool (bsHit cf xs)]) ∧ Ext w w' := by
  have hm := mixed
  have hG := near_old
  have eg := hp.enters
  have HS := Lib.hid hs; clear hs
  have HP := Lib.hid hp; clear hp
  have HM := Lib.hid hmono; clear hmono
  go_enter Try.func25, Try.ntmps25
  go_wp2
  go_loopw [9, 10] (fun i j wr => ∃ i' j' : Nat, i = .int .i64 i' ∧ j = .int .i64 j' ∧ i' ≤ j' ∧ j' ≤ xs.length ∧ (∀ (a : Nat) (x : List Value), a < i' → xs[a]? = some x → cf x < 0) ∧ (∀ (a : Nat) (x : List Value), j' ≤ a → xs[a]? = some x → 0 ≤ cf x) ∧ Ext (w.alloc (.cells #[.int .i64 y0, .int .i64 y1, .int .i64 y2] 40)) wr) (fun i j _ => ((intOf j) - (intOf i)).toNat)
  case atStart => exact ⟨0, xs.length, rfl, rfl, Nat.zero_le _, Nat.le_refl _, fun a x ha => by omega, fun a x ha hx => by have := (List.getElem?_eq_some_iff.1 hx).1; omega, Ext.refl _⟩
  case round =>
    obtain ⟨i, j, rfl, rfl, hij, hjn, hL, hU, hx⟩ := hrel
    have HL := Lib.hid hL; clear hL
    have HU := Lib.hid hU; clear hU
    have hx0 := hx.un
    have hz := hx.size1
    by_cases hlt : i < j
    · obtain ⟨h, hh⟩ : ∃ h : Nat, ((i : Int) + (j : Int)) / 2 = (h : Int) := ⟨(i + j) / 2, by omega⟩
      have hih : i ≤ h := by omega
      have hhj : h < j := by omega
      obtain ⟨x, hxj⟩ : ∃ x, xs[h]? = some x := ⟨_, List.getElem?_eq_getElem (by omega)⟩
      obtain ⟨u0, u1, u2, rfl⟩ := HS.out.rows.row3 (List.mem_of_getElem? hxj)
      obtain ⟨b', off, rfl, hbl, h0, h1, h2⟩ := (HS.out.ext hx0 (Nat.le_refl _)).at3 hxj
      have hbq : b' < wr.heap.size := by have := hx0.size; omega
      have q0 := hx.box 0
      have q1 := hx.box 1
      have q2 := hx.box 2
      simp only [List.getElem?_toArray, List.getElem?_cons_zero, List.getElem?_cons_succ] at q0 q1 q2
      have HC := Lib.hid (HP.out.call _ (List.mem_of_getElem? hxj))
      have HX := Lib.hid hxj; clear hxj
      generalize hcv : cf [.int .i64 u0, .int .i64 u1, .int .i64 u2] = v at HC
      have HV := Lib.hid hcv; clear hcv
      go_wp2_with fail
      refine wp_region_near (by assumption) (by kernel_rfl) ?_
      repeat (go_big_quiet_step ((go_at_fn g; exact near_call (HC.out _ (hx0.trans (Ext.of_near ⟨⟨_, _⟩, rfl⟩))))))
      refine wpQuiet_nil ?_
      intro w1 hw1
      have hy := Ext.of_near hw1
      clear hw1
      go_wp2
      · go_roundw
        case rel =>
          refine ⟨h + 1, j, by go_num, rfl, by omega, by omega, fun a x ha hx => ?_, HU.out, hx.trans hy⟩
          rcases Nat.lt_succ_iff_lt_or_eq.1 ha with h1 | rfl
          · exact HM.out a h x _ h1 hx HX.out (by rw [HV.out]; assumption)
          · rw [HX.out] at hx; injection hx with e; rw [← e, HV.out]; assumption
        case measure => simp [intOf]; omega
      · go_roundw
        case rel =>
          refine ⟨i, h, rfl, rfl, by omega, by omega, HL.out, fun a x ha hx => ?_, hx.trans hy⟩
          rcases Nat.eq_or_lt_of_le ha with rfl | h1
          · rw [HX.out] at hx; injection hx with e; rw [← e, HV.out]; assumption
          · rcases Int.lt_or_le (cf x) 0 with h2 | h2
            · have := HM.out h a _ x h1 HX.out hx h2
              rw [HV.out] at this
              omega
            · exact h2
        case measure => simp [intOf]; omega
    · obtain rfl : i = j := by omega
      by_cases hn : i < xs.length
      · obtain ⟨x, hxj⟩ : ∃ x, xs[i]? = some x := ⟨_, List.getElem?_eq_getElem (by omega)⟩
        obtain ⟨u0, u1, u2, rfl⟩ := HS.out.rows.row3 (List.mem_of_getElem? hxj)
        obtain ⟨b', off, rfl, hbl, h0, h1, h2⟩ := (HS.out.ext hx0 (Nat.le_refl _)).at3 hxj
        have hbq : b' < wr.heap.size := by have := hx0.size; omega
        have q0 := hx.box 0
        have q1 := hx.box 1
        have q2 := hx.box 2
        simp only [List.getElem?_toArray, List.getElem?_cons_zero, List.getElem?_cons_succ] at q0 q1 q2
        have HC := Lib.hid (HP.out.call _ (List.mem_of_getElem? hxj))
        have HX := Lib.hid hxj; clear hxj
        generalize hcv : cf [.int .i64 u0, .int .i64 u1, .int .i64 u2] = v at HC
        have HV := Lib.hid hcv; clear hcv
        have hd : decide ((i : Int) < (xs.length : Int)) = true := decide_eq_true (by omega)
        go_wp2_with fail
        refine wp_region_near (by assumption) (by kernel_rfl) ?_
        repeat (go_big_quiet_step ((go_at_fn g; exact near_call (HC.out _ (hx0.trans (Ext.of_near ⟨⟨_, _⟩, rfl⟩))))))
        refine wpQuiet_nil ?_
        intro w1 hw1
        have hy := Ext.of_near hw1
        clear hw1
        go_wp2
        go_ret2
        have hp := bsPos_eq (by omega) HL.out HU.out
        exact ⟨ret_bs hp.symm (bsHit_at hp HX.out HV.out).symm, hx0.trans hy⟩
      · have hd : decide ((i : Int) < (xs.length : Int)) = false := decide_eq_false (by omega)
        go_wp2_with fail
        refine wp_region_near (by assumption) (by kernel_rfl) ?_
        repeat (go_big_quiet_step (fail))
        refine wpQuiet_nil ?_
        intro w1 hw1
        have hy := Ext.of_near hw1
        clear hw1
        go_wp2
        go_ret2
        have hp := bsPos_eq (by omega) HL.out HU.out
        exact ⟨ret_bs hp.symm (bsHit_no hp hn).symm, hx0.trans hy⟩
end Go.Proofs.Ythjmglbjlfgmaaa
