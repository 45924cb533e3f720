/- Contracts of the quota layer, on: the reference's Used, Left, Valid, Same. -/
import Derived.Test.YthjmglbjlfgmaaaQa
namespace Go.Proofs.Ythjmglbjlfgmaaa
open Go Go.RowKit

set_option maxHeartbeats 400000 in
theorem refUsed_any (t c s k : Int) (cap : Nat) (A : Option Addr) (w : World) (l : List Use) (hs : Sl w w.heap.size 3 A cap (l.map Use.row)) (hf : Fits l) (ht0 : 0 ≤ t) (ht1 : t ≤ 4000) (hk0 : 0 ≤ k) (hk1 : k ≤ 4000) :
    Calls Try.prog 19 #[.slice A l.length cap, .agg #[.int .i64 t, .int .i64 c], .int .i64 s, .int .i64 k] w fun e w' => e = .returned (.int .i64 (used t s k l)) ∧ Ext w w' := by
  go_enter Try.func19, Try.ntmps19
  have HS := Lib.hid hs; clear hs
  have HF := Lib.hid hf; clear hf
  go_wp2
  go_loopw [9, 10] (fun v i wr => ∃ j : Nat, j ≤ l.length ∧ i = .int .i64 j ∧ v = .int .i64 (used t s k (l.take j)) ∧ Ext (w.alloc (.cells #[.int .i64 t, .int .i64 c] 24)) wr) (fun _ i _ => l.length - (intOf i).toNat)
  case atStart => exact ⟨0, Nat.zero_le _, rfl, by simp [used], Ext.refl _⟩
  case round =>
    obtain ⟨j, hj, rfl, rfl, hx⟩ := hrel
    have hz := hx.size1
    have q0 := hx.box 0
    have hb := used_take_bd t s k l HF.out j
    have hln := HF.out.1
    by_cases hlt : j < l.length
    · obtain ⟨x, hxj⟩ : ∃ x, l[j]? = some x := ⟨_, List.getElem?_eq_getElem hlt⟩
      obtain ⟨b', off, rfl, hbl, h0, h1, h2⟩ := (HS.out.ext hx.un (Nat.le_refl _)).at3 (i := j) (by rw [List.getElem?_map, hxj]; rfl)
      have hu := HF.out.2 x (List.mem_of_getElem? hxj)
      have HU := Lib.hid (used_take t s k l j x hxj); clear hxj
      cases c1 : (x.site == s) <;> cases c2 : decide (k - t < x.tick) <;> cases c3 : decide (x.tick ≤ k)
      all_goals
        go_wp2
        go_quiet (fail)
        go_wp2
        go_roundw
        case rel => exact ⟨j + 1, by omega, by go_num, int_eq (by rw [HU.out]; simp at c1 c2 c3; split <;> omega), hx.drewN _⟩
        case measure => simp [intOf]; omega
    · obtain rfl : j = l.length := by omega
      go_wp2
      go_ret
      exact ⟨ret_int (by rw [List.take_length]), hx.un⟩
end Go.Proofs.Ythjmglbjlfgmaaa
