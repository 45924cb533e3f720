/- Contracts of the small functions of the quota layer: within, Compare, Or, order, Check, Used, Left. -/
import Derived.Test.YthjmglbjlfgmaaaBase
namespace Go.Proofs.Ythjmglbjlfgmaaa
open Go Go.RowKit

theorem ret_bool {a b : Bool} (h : a = b) : Ending.returned (.bool a) = .returned (.bool b) := by rw [h]
theorem ret_int {k : IntKind} {a b : Int} (h : a = b) : Ending.returned (.int k a) = .returned (.int k b) := by rw [h]

theorem int_eq {k : IntKind} {a b : Int} (h : a = b) : Value.int k a = .int k b := by rw [h]

def inB (a b c : Int) : Bool := decide (b ≤ a) && decide (a ≤ c)

set_option maxHeartbeats 400000 in
theorem within_any (a b c : Int) (w : World) :
    Calls Try.prog 24 #[.int .i64 a, .int .i64 b, .int .i64 c] w fun e w' => e = .returned (.bool (inB a b c)) ∧ w = w' := by
  go_enter Try.func24, Try.ntmps24
  go_wp2
  all_goals (go_ret; exact ⟨ret_bool (by unfold inB; first | (simp; omega) | simp [*]), rfl⟩)

set_option maxHeartbeats 400000 in
theorem isNaN_any (a : Int) (w : World) :
    Calls Try.prog 36 #[.int .i64 a] w fun e w' => e = .returned (.bool false) ∧ w = w' := by
  go_enter Try.func36, Try.ntmps36
  go_wp2
  go_ret
  exact ⟨rfl, rfl⟩

def cmpI (a b : Int) : Int := if a < b then -1 else if b < a then 1 else 0

set_option maxHeartbeats 400000 in
theorem Compare_any (a b : Int) (w : World) :
    Calls Try.prog 32 #[.int .i64 a, .int .i64 b] w fun e w' => e = .returned (.int .i64 (cmpI a b)) ∧ w = w' := by
  go_enter Try.func32, Try.ntmps32
  go_wp2_with (go_at_call 36; refine (isNaN_any _ _).mono ?_; rintro e w' ⟨rfl, rfl⟩)
  all_goals (go_ret; exact ⟨ret_int (by unfold cmpI; split <;> (try split) <;> omega), rfl⟩)

def orI (a b : Int) : Int := if a = 0 then b else a

set_option maxHeartbeats 400000 in
theorem Or_two (a b : Int) (g : Nat) (w : World) (h0 : w.cell? ⟨g, 0, none⟩ = some (.int .i64 a)) (h1 : w.cell? ⟨g, 1, none⟩ = some (.int .i64 b)) :
    Calls Try.prog 31 #[.slice (some ⟨g, 0, none⟩) 2 2] w fun e w' => e = .returned (.int .i64 (orI a b)) ∧ w = w' := by
  go_enter Try.func31, Try.ntmps31
  go_wp2
  go_loop [8] (fun i => ∃ k : Nat, k ≤ 2 ∧ i = .int .i64 k ∧ (0 < k → a = 0) ∧ (1 < k → b = 0)) (fun i => 2 - (intOf i).toNat)
  case atStart => exact ⟨0, by omega, rfl, by omega, by omega⟩
  case round =>
    obtain ⟨k, hk, rfl, g0, g1⟩ := hrel
    obtain rfl | rfl | rfl : k = 0 ∨ k = 1 ∨ k = 2 := by omega
    · by_cases ha : a = 0
      · subst ha
        go_wp2
        go_round
        case rel => exact ⟨1, by omega, rfl, fun _ => trivial, by omega⟩
        case measure => simp [intOf]
      · have hb : (a != 0) = true := by simpa using ha
        go_wp2
        go_ret
        exact ⟨ret_int (by unfold orI; rw [if_neg ha]), rfl⟩
    · obtain rfl := g0 (by omega)
      by_cases ha : b = 0
      · subst ha
        go_wp2
        go_round
        case rel => exact ⟨2, by omega, rfl, fun _ => trivial, fun _ => trivial⟩
        case measure => simp [intOf]
      · have hb : (b != 0) = true := by simpa using ha
        go_wp2
        go_ret
        exact ⟨ret_int (by unfold orI; simp), rfl⟩
    · go_wp2
      go_ret
      exact ⟨ret_int (by unfold orI; split <;> omega), rfl⟩

structure Use where
  tick : Int
  site : Int
  count : Int
def Use.row (u : Use) : List Value := [.int .i64 u.tick, .int .i64 u.site, .int .i64 u.count]
def Use.val (u : Use) : Value := .agg #[.int .i64 u.tick, .int .i64 u.site, .int .i64 u.count]
def ordU (u v : Use) : Int := orI (cmpI u.tick v.tick) (cmpI u.site v.site)

theorem mixed : Try.prog.follows .mixedOrders = true := by kernel_rfl

set_option maxHeartbeats 400000 in
theorem order_any (u v : Use) (w : World) :
    Calls Try.prog 26 #[.agg #[.int .i64 u.tick, .int .i64 u.site, .int .i64 u.count], .agg #[.int .i64 v.tick, .int .i64 v.site, .int .i64 v.count]] w fun e w' => e = .returned (.int .i64 (ordU u v)) ∧ Ext w w' := by
  have hm := mixed
  go_enter Try.func26, Try.ntmps26
  go_wp2
  have hG := near_old
  refine wp_region_near_tail 10 (by assumption) (by kernel_rfl) ?_
  simp only [List.take_succ_cons, List.take_zero, List.drop_succ_cons, List.drop_zero]
  repeat (go_big_quiet_step ((go_at_call 32; exact near_same (Compare_any _ _ _))))
  refine wpQuiet_nil ?_
  intro w1 hw1
  have hy := Ext.of_near hw1
  clear hw1
  go_wp2_with (go_at_call 31; refine (Or_two (cmpI u.tick v.tick) (cmpI u.site v.site) _ _ (by simp [go_sem]) (by simp [go_sem])).mono ?_; rintro e w' ⟨rfl, rfl⟩)
  go_ret
  exact ⟨rfl, (((Ext.refl w).alloc _).alloc _).trans (hy.alloc _)⟩

def checkB (t c : Int) : Int := if (t = 0 ∧ c = 0) ∨ (1 ≤ t ∧ t ≤ 4000 ∧ 0 ≤ c ∧ c ≤ 1073741824) then 0 else 1

set_option maxHeartbeats 400000 in
theorem Check_any (t c : Int) (w : World) :
    Calls Try.prog 13 #[.agg #[.int .i64 t, .int .i64 c]] w fun e w' => e = .returned (.int .i64 (checkB t c)) ∧ Ext w w' := by
  go_enter Try.func13, Try.ntmps13
  go_wp2_with (go_at_call 24; refine (within_any _ _ _ _).mono ?_; rintro e w' ⟨rfl, rfl⟩)
  all_goals (go_ret; exact ⟨ret_int (by unfold checkB; (try unfold inB at *); (try simp at *); first | omega | (split <;> omega)), (Ext.refl _).alloc _⟩)

set_option maxHeartbeats 400000 in
theorem refCheck_any (t c : Int) (w : World) :
    Calls Try.prog 14 #[.agg #[.int .i64 t, .int .i64 c]] w fun e w' => e = .returned (.int .i64 (checkB t c)) ∧ Ext w w' := by
  go_enter Try.func14, Try.ntmps14
  go_wp2
  all_goals (go_ret; exact ⟨ret_int (by unfold checkB; (try simp at *); first | omega | (split <;> omega)), (Ext.refl _).alloc _⟩)

def used (ticks site tick : Int) : List Use → Int
  | [] => 0
  | u :: l => (if u.site = site ∧ tick - ticks + 1 ≤ u.tick ∧ u.tick ≤ tick then u.count else 0) + used ticks site tick l
theorem used_append (t s k : Int) (a b : List Use) : used t s k (a ++ b) = used t s k a + used t s k b := by
  induction a with
  | nil => simp [used]
  | cons x a ih => simp [used, ih]; omega
theorem used_take (t s k : Int) (l : List Use) (i : Nat) (x : Use) (h : l[i]? = some x) :
    used t s k (l.take (i + 1)) = used t s k (l.take i) + (if x.site = s ∧ k - t + 1 ≤ x.tick ∧ x.tick ≤ k then x.count else 0) := by
  obtain ⟨hi, rfl⟩ := List.getElem?_eq_some_iff.1 h
  rw [List.take_succ_eq_append_getElem hi, used_append]; simp [used]
/-- Counts within bounds: sums of them do not wrap. -/
def Fits (l : List Use) : Prop := l.length ≤ 10000 ∧ ∀ u, u ∈ l → 0 ≤ u.count ∧ u.count ≤ 1073741824 ∧ 0 ≤ u.tick ∧ u.tick ≤ 4000
theorem used_bd (t s k : Int) : ∀ (l : List Use), (∀ u, u ∈ l → 0 ≤ u.count ∧ u.count ≤ 1073741824 ∧ 0 ≤ u.tick ∧ u.tick ≤ 4000) → 0 ≤ used t s k l ∧ used t s k l ≤ l.length * 1073741824
  | [], _ => by simp [used]
  | x :: l, h => by
    have h1 := used_bd t s k l (fun u hu => h u (List.mem_cons_of_mem _ hu))
    have h2 := h x (List.mem_cons_self ..)
    simp only [used, List.length_cons]
    split <;> constructor <;> push_cast <;> omega
theorem used_take_bd (t s k : Int) (l : List Use) (h : Fits l) (i : Nat) : 0 ≤ used t s k (l.take i) ∧ used t s k (l.take i) ≤ 10737418240000 := by
  have h1 := used_bd t s k (l.take i) (fun u hu => h.2 u (List.mem_of_mem_take hu))
  have h2 := h.1
  have h3 : (l.take i).length ≤ l.length := List.length_take_le' _ _
  refine ⟨h1.1, Int.le_trans h1.2 ?_⟩
  omega

set_option maxHeartbeats 400000 in
theorem Used_any (t c s k : Int) (cap : Nat) (A : Option Addr) (w : World) (l : List Use) (hs : Sl w w.heap.size 3 A cap (l.map Use.row)) (hf : Fits l) (ht0 : 0 ≤ t) (ht1 : t ≤ 4000) (hk0 : 0 ≤ k) (hk1 : k ≤ 4000) :
    Calls Try.prog 18 #[.slice A l.length cap, .agg #[.int .i64 t, .int .i64 c], .int .i64 s, .int .i64 k] w fun e w' => e = .returned (.int .i64 (used t s k l)) ∧ Ext w w' := by
  go_enter Try.func18, Try.ntmps18
  have HS := Lib.hid hs; clear hs
  have HF := Lib.hid hf; clear hf
  go_wp2
  go_loopw [8, 13] (fun v i wr => ∃ j : Nat, j ≤ l.length ∧ i = .int .i64 j ∧ v = .int .i64 (used t s k (l.take j)) ∧ Ext (w.alloc (.cells #[.int .i64 t, .int .i64 c] 24)) wr) (fun _ i _ => l.length - (intOf i).toNat)
  case atStart => exact ⟨0, Nat.zero_le _, rfl, by simp [used], Ext.refl _⟩
  case round =>
    obtain ⟨j, hj, rfl, rfl, hx⟩ := hrel
    have hz := hx.size1
    have q0 := hx.box 0
    have hb := used_take_bd t s k l HF.out j
    have hln := HF.out.1
    by_cases hlt : j < l.length
    · obtain ⟨x, hxj⟩ : ∃ x, l[j]? = some x := ⟨_, List.getElem?_eq_getElem hlt⟩
      obtain ⟨b', off, rfl, hbl, h0, h1, h2⟩ := (HS.out.ext hx.un (Nat.le_refl _)).at3 (i := j) (by rw [List.getElem?_map, hxj]; rfl)
      have hu := HF.out.2 x (List.mem_of_getElem? hxj)
      have HU := Lib.hid (used_take t s k l j x hxj); clear hxj
      go_wp2_with (go_at_call 24; refine (within_any _ _ _ _).mono ?_; rintro e w' ⟨rfl, rfl⟩)
      all_goals
        go_roundw
        case rel => exact ⟨j + 1, by omega, by go_num, int_eq (by rw [HU.out]; (try unfold inB at *); (try simp only [Bool.and_eq_true, Bool.and_eq_false_iff, decide_eq_true_eq, decide_eq_false_iff_not] at *); split <;> omega), hx.alloc _⟩
        case measure => simp [intOf]; omega
    · obtain rfl : j = l.length := by omega
      go_wp2
      go_ret
      exact ⟨ret_int (by rw [List.take_length]), hx.un⟩
end Go.Proofs.Ythjmglbjlfgmaaa
