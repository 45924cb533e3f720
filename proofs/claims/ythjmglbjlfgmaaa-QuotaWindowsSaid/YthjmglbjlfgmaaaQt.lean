/- Take at every input; the small functions of the laws; the example that every law plays. -/
import Derived.Test.YthjmglbjlfgmaaaQr
import Derived.Test.YthjmglbjlfgmaaaQs
namespace Go.Proofs.Ythjmglbjlfgmaaa
open Go Go.RowKit

theorem Sl.to {w w' : World} {k c : Nat} {A : Option Addr} {xs : List (List Value)} (h : Sl w w.heap.size k A c xs) (hx : Ext w w') : Sl w' w'.heap.size k A c xs := (h.ext hx (Nat.le_refl _)).more hx.size
theorem Take_anyF (t c s k n : Int) (cap : Nat) (A : Option Addr) (w : World) (l : List Use) (hs : Sl w w.heap.size 3 A cap (l.map Use.row)) :
    Calls Try.prog 9 #[.slice A l.length cap, .agg #[.int .i64 t, .int .i64 c], .int .i64 s, .int .i64 k, .int .i64 n] w (RetTakeF (takeF t c s k n l) w) := by
  by_cases h : checkB t c = 0 ∧ vldB l = true ∧ inB s 1 8 = true ∧ inB k 0 4000 = true ∧ inB n 0 1073741824 = true
  · have ho := (Ok.iff ..).1 h
    cases hl : late k l with
    | true => exact Take_late t c s k n cap A w l hs ho hl
    | false =>
      by_cases hz : leftF t c s k l < n
      · exact Take_mid t c s k n cap A w l hs ho hl (.inl hz)
      · by_cases ht : t = 0
        · exact Take_mid t c s k n cap A w l hs ho hl (.inr ⟨hz, .inl ⟨ht, by rcases ho.q with h | h <;> omega⟩⟩)
        · by_cases hn : n = 0
          · exact Take_mid t c s k n cap A w l hs ho hl (.inr ⟨hz, .inr hn⟩)
          · exact Take_add t c s k n cap A w l hs ho hl hz ht hn
  · exact Take_arg t c s k n cap A w l hs h
theorem Take_any (t c s k n : Int) (cap : Nat) (A : Option Addr) (w : World) (l : List Use) (hs : Sl w w.heap.size 3 A cap (l.map Use.row)) :
    Calls Try.prog 9 #[.slice A l.length cap, .agg #[.int .i64 t, .int .i64 c], .int .i64 s, .int .i64 k, .int .i64 n] w (RetTake (takeF t c s k n l) w) := (Take_anyF t c s k n cap A w l hs).mono fun _ _ h => h.plain
theorem refTake_any (t c s k n : Int) (cap : Nat) (A : Option Addr) (w : World) (l : List Use) (hs : Sl w w.heap.size 3 A cap (l.map Use.row)) :
    Calls Try.prog 10 #[.slice A l.length cap, .agg #[.int .i64 t, .int .i64 c], .int .i64 s, .int .i64 k, .int .i64 n] w (RetTake (takeF t c s k n l) w) := by
  by_cases h : checkB t c = 0 ∧ vldB l = true ∧ inB s 1 8 = true ∧ inB k 0 4000 = true ∧ inB n 0 1073741824 = true
  · exact refTake_ok t c s k n cap A w l hs ((Ok.iff ..).1 h)
  · exact refTake_arg t c s k n cap A w l hs h
theorem take_at {t c s k n : Int} {l : List Use} {r : List Use × Int} (h : takeF t c s k n l = r) (cap : Nat) (A : Option Addr) (w : World) (hs : Sl w w.heap.size 3 A cap (l.map Use.row)) :
    Calls Try.prog 9 #[.slice A l.length cap, .agg #[.int .i64 t, .int .i64 c], .int .i64 s, .int .i64 k, .int .i64 n] w (RetTake r w) := by
  have h1 := Take_any t c s k n cap A w l hs
  rw [h] at h1
  exact h1

set_option maxHeartbeats 400000 in
theorem use_any (a b c : Int) (w : World) :
    Calls Try.prog 23 #[.int .i64 a, .int .i64 b, .int .i64 c] w fun e w' => e = .returned (.agg #[.int .i64 a, .int .i64 b, .int .i64 c]) ∧ Ext w w' := by
  go_enter Try.func23, Try.ntmps23
  go_wp2
  exact bodyPost_ret (v := .agg #[.int .i64 a, .int .i64 b, .int .i64 c]) (by simp [results, Try.results23, go_sem]) rfl ⟨rfl, (Ext.refl w).alloc _⟩

/-- A literal slice of uses, just laid. -/
theorem Sl.lit (w : World) (l : List Use) (hl : l.length ≤ 1000) (cs : Array Value) (hc : cs = (l.map Use.row).flatten.toArray) : Sl (w.alloc (.cells cs 40)) (w.alloc (.cells cs 40)).heap.size 3 (some ⟨w.heap.size, 0, none⟩) l.length (l.map Use.row) := by
  subst hc
  refine ⟨by simp, by unfold maxLen; omega, rws_map l, fun _ => ⟨w.heap.size, 0, rfl, by simp, fun j u hu => ?_⟩⟩
  have := news_new w (l.map Use.row).flatten 40 j u hu
  rwa [add_lit] at this

def tri (s : Int × Int × Int) : Bool := inB s.1 0 20 && (inB s.2.1 1 8 && inB s.2.2 0 1073741824)
set_option maxHeartbeats 1000000 in
theorem tried_any (a b c : Int) (w : World) :
    Calls Try.prog 22 #[.agg #[.int .i64 a, .int .i64 b, .int .i64 c]] w fun e w' => e = .returned (.bool (tri (a, b, c))) ∧ Ext w w' := by
  go_enter Try.func22, Try.ntmps22
  go_wp2
  all_goals
    go_ret
    refine ⟨ret_bool ?_, (Ext.refl w).alloc _⟩
    rw [Bool.eq_iff_iff]
    simp [tri, inB]
    omega
end Go.Proofs.Ythjmglbjlfgmaaa
