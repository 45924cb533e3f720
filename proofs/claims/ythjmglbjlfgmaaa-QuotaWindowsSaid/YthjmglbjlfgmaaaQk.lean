/- Contracts of the quota layer, on: Left, the reference's Left, Prune, Same. -/
import Derived.Test.YthjmglbjlfgmaaaQd
import Derived.Test.YthjmglbjlfgmaaaQi
import Derived.Lib.MinMax
namespace Go.Proofs.Ythjmglbjlfgmaaa
open Go Go.RowKit

def leftF (t c s k : Int) (l : List Use) : Int := if t = 0 then 1073741824 else max 0 (c - used t s k l)
/-- A valid quota. -/
def Quo (t c : Int) : Prop := (t = 0 ∧ c = 0) ∨ (1 ≤ t ∧ t ≤ 4000 ∧ 0 ≤ c ∧ c ≤ 1073741824)

set_option maxHeartbeats 1000000 in
theorem Left_any (t c s k : Int) (cap : Nat) (A : Option Addr) (w : World) (l : List Use) (hs : Sl w w.heap.size 3 A cap (l.map Use.row)) (hf : Fits l) (hq : Quo t c) (hk0 : 0 ≤ k) (hk1 : k ≤ 4000) :
    Calls Try.prog 20 #[.slice A l.length cap, .agg #[.int .i64 t, .int .i64 c], .int .i64 s, .int .i64 k] w fun e w' => e = .returned (.int .i64 (leftF t c s k l)) ∧ Ext w w' := by
  have HS := Lib.hid hs; clear hs
  have hu := used_take_bd t s k l hf l.length
  rw [List.take_length] at hu
  have HF := Lib.hid hf; clear hf
  rcases hq with ⟨rfl, rfl⟩ | ⟨q0, q1, q2, q3⟩
  · clear hu
    go_enter Try.func20, Try.ntmps20
    go_wp2
    go_ret
    exact ⟨ret_int (by simp [leftF]), (Ext.refl w).alloc _⟩
  · have hne : ¬ t = 0 := by omega
    have hm := mixed
    have hG := near_old
    go_enter Try.func20, Try.ntmps20
    go_wp2
    refine wp_region_near (by assumption) (by kernel_rfl) ?_
    repeat (go_big_quiet_step ((go_at_call 18; exact near_call (Used_any t c s k cap A _ l ((HS.out.ext (((Ext.refl w).alloc _).trans (Ext.of_near ⟨⟨_, _⟩, rfl⟩)) (Nat.le_refl _)).more ((((Ext.refl w).alloc _).trans (Ext.of_near ⟨⟨_, _⟩, rfl⟩)).size)) HF.out (by omega) q1 hk0 hk1))))
    refine wpQuiet_nil ?_
    intro w1 hw1
    have hy := Ext.of_near hw1
    clear hw1
    go_wp2
    go_ret
    exact ⟨ret_int (by unfold leftF; rw [if_neg hne]), hy.un⟩

set_option maxHeartbeats 1000000 in
theorem refLeft_any (t c s k : Int) (cap : Nat) (A : Option Addr) (w : World) (l : List Use) (hs : Sl w w.heap.size 3 A cap (l.map Use.row)) (hf : Fits l) (hq : Quo t c) (hk0 : 0 ≤ k) (hk1 : k ≤ 4000) :
    Calls Try.prog 21 #[.slice A l.length cap, .agg #[.int .i64 t, .int .i64 c], .int .i64 s, .int .i64 k] w fun e w' => e = .returned (.int .i64 (leftF t c s k l)) ∧ Ext w w' := by
  have HS := Lib.hid hs; clear hs
  have hu := used_take_bd t s k l hf l.length
  rw [List.take_length] at hu
  have HF := Lib.hid hf; clear hf
  rcases hq with ⟨rfl, rfl⟩ | ⟨q0, q1, q2, q3⟩
  · clear hu
    go_enter Try.func21, Try.ntmps21
    go_wp2
    go_ret
    exact ⟨ret_int (by simp [leftF]), (Ext.refl w).alloc _⟩
  · have hne : ¬ t = 0 := by omega
    have hm := mixed
    have hG := near_old
    go_enter Try.func21, Try.ntmps21
    go_wp2
    refine wp_region_near (by assumption) (by kernel_rfl) ?_
    repeat (go_big_quiet_step ((go_at_call 19; exact near_call (refUsed_any t c s k cap A _ l ((HS.out.ext (((Ext.refl w).alloc _).trans (Ext.of_near ⟨⟨_, _⟩, rfl⟩)) (Nat.le_refl _)).more ((((Ext.refl w).alloc _).trans (Ext.of_near ⟨⟨_, _⟩, rfl⟩)).size)) HF.out (by omega) q1 hk0 hk1))))
    refine wpQuiet_nil ?_
    intro w1 hw1
    have hy := Ext.of_near hw1
    clear hw1
    go_wp2
    go_ret
    exact ⟨ret_int (by unfold leftF; rw [if_neg hne]), hy.un⟩

def isOld (t c k : Int) (u : Use) : Bool := (decide (t = 0) && decide (c = 0)) || decide (u.tick ≤ k - t)
def pruned (t c k : Int) (l : List Use) : List Use := l.filter fun u => !isOld t c k u
theorem pruned_take (t c k : Int) (l : List Use) (j : Nat) (x : Use) (h : l[j]? = some x) : pruned t c k (l.take (j + 1)) = pruned t c k (l.take j) ++ if isOld t c k x then [] else [x] := by
  obtain ⟨hi, rfl⟩ := List.getElem?_eq_some_iff.1 h
  rw [List.take_succ_eq_append_getElem hi]
  unfold pruned
  rw [List.filter_append]
  cases h : isOld t c k l[j] <;> simp [h]
theorem pruned_len (t c k : Int) (l : List Use) (j : Nat) : (pruned t c k (l.take j)).length ≤ l.length := by
  unfold pruned
  exact Nat.le_trans (List.length_filter_le _ _) (by simp; omega)
theorem rws_map (l : List Use) : Rws 3 (l.map Use.row) := fun x hx => by
  obtain ⟨u, _, rfl⟩ := List.mem_map.1 hx
  exact ⟨[u.tick, u.site, u.count], rfl, rfl⟩
/-- It hands back an owned row that holds the uses l. -/
def RetUses (l : List Use) (w : World) (en : Ending) (w' : World) : Prop := RetOwn 40 3 (l.map Use.row) w en w'

set_option maxHeartbeats 1000000 in
theorem refPrune_any (t c k : Int) (cap : Nat) (A : Option Addr) (w : World) (l : List Use) (hs : Sl w w.heap.size 3 A cap (l.map Use.row)) (hb : l.length ≤ 1000000) (hq : Quo t c) (hk0 : 0 ≤ k) (hk1 : k ≤ 4000) :
    Calls Try.prog 17 #[.slice A l.length cap, .agg #[.int .i64 t, .int .i64 c], .int .i64 k] w (RetUses (pruned t c k l) w) := by
  have hm := mixed
  have hG := near_old
  obtain ⟨i0, hi, hz0, hz1, hz2⟩ := info_parts infoUse
  have HI := Lib.hid hi; have HZ := Lib.hid hz0; have HZ1 := Lib.hid hz1; have HZ2 := Lib.hid hz2
  have HS := Lib.hid hs
  have ht : 0 ≤ t ∧ t ≤ 4000 := by rcases hq with h | h <;> omega
  have HQ := Lib.hid hq
  clear hi hz0 hz1 hz2 hs hq
  go_enter Try.func17, Try.ntmps17
  go_wp2
  go_loopw [7, 8] (fun v i wr => ∃ j : Nat, j ≤ l.length ∧ i = .int .i64 j ∧ wr.ownsRow (w.heap.size + 1) 40 3 v (pruned t c k (l.take j)).length ((pruned t c k (l.take j)).map Use.row).flatten ∧ Ext (w.alloc (.cells #[.int .i64 t, .int .i64 c] 24)) wr) (fun _ i _ => l.length - (intOf i).toNat)
  case atStart => exact ⟨0, Nat.zero_le _, rfl, World.ownsRow_nil _ _ _ _, Ext.refl _⟩
  case round =>
    obtain ⟨j, hj, rfl, hO, hx⟩ := hrel
    have hz := hx.size1
    have q0 := hx.box 0
    simp only [List.getElem?_toArray, List.getElem?_cons_zero] at q0
    have HO := Lib.hid hO; clear hO
    by_cases hlt : j < l.length
    · obtain ⟨x, hxj⟩ : ∃ x, l[j]? = some x := ⟨_, List.getElem?_eq_getElem hlt⟩
      obtain ⟨b', off, rfl, hbl, h0, h1, h2⟩ := (HS.out.ext hx.un (Nat.le_refl _)).at3 (i := j) (by rw [List.getElem?_map, hxj]; rfl)
      have hbq : b' < wr.heap.size := by omega
      have HU := Lib.hid (pruned_take t c k l j x hxj); clear hxj
      have hpl := pruned_len t c k l j
      rcases or3 (decide (t ≤ 0)) (decide (k - t < x.tick)) true with c1 | ⟨c1, c2⟩ | ⟨_, _, c2⟩ | ⟨c1, c2, _⟩
      · have c1 : decide (0 < t) = false := by simp at c1 ⊢; omega
        have ho : isOld t c k x = true := by unfold isOld; rcases HQ.out with h | h <;> simp at c1 ⊢ <;> omega
        rw [ho] at HU
        go_wp2_with fail
        refine wp_region_near (by assumption) (by kernel_rfl) ?_
        repeat (go_big_quiet_step (fail))
        refine wpQuiet_nil ?_
        intro w1 hw1
        have hy := Ext.of_near hw1
        clear hw1
        go_wp2
        go_roundw
        case rel => exact ⟨j + 1, by omega, by go_num, by rw [HU.out]; simpa using own_ext HO.out hy, hx.trans hy⟩
        case measure => simp [intOf]; omega
      · have c1 : decide (0 < t) = true := by simp at c1 ⊢; omega
        have ho : isOld t c k x = true := by unfold isOld; simp at c2 ⊢; omega
        rw [ho] at HU
        go_wp2_with fail
        refine wp_region_near (by assumption) (by kernel_rfl) ?_
        repeat (go_big_quiet_step (fail))
        refine wpQuiet_nil ?_
        intro w1 hw1
        have hy := Ext.of_near hw1
        clear hw1
        go_wp2
        go_roundw
        case rel => exact ⟨j + 1, by omega, by go_num, by rw [HU.out]; simpa using own_ext HO.out hy, hx.trans hy⟩
        case measure => simp [intOf]; omega
      · cases c2
      · have c1 : decide (0 < t) = true := by simp at c1 ⊢; omega
        have ho : isOld t c k x = false := by unfold isOld; simp at c1 c2 ⊢; omega
        rw [ho] at HU
        go_wp2_with fail
        refine wp_region_near (by assumption) (by kernel_rfl) ?_
        repeat (go_big_quiet_step (fail))
        refine wpQuiet_nil ?_
        intro w1 hw1
        have hy := Ext.of_near hw1
        clear hw1
        have HOa := Lib.hid (fun o : Obj => (own_ext HO.out hy).alloc o)
        have h3 := hy.cell (p := ⟨b', off + j * 3, none⟩) (by exact hbq)
        have h4 := hy.cell (p := ⟨b', off + j * 3 + 1, none⟩) (by exact hbq)
        have h5 := hy.cell (p := ⟨b', off + j * 3 + 2, none⟩) (by exact hbq)
        rw [h0] at h3; rw [h1] at h4; rw [h2] at h5
        have hz2 := hy.size
        go_wp2_with (at_builtin; refine wpList_append_own _ rfl _ _ 22 rfl (w.heap.size + 1) 40 i0 (.agg #[.int .i64 0, .int .i64 0, .int .i64 0]) 3 24 Try.underlying22 HI.out HZ.out HZ1.out HZ2.out rfl (by decide) _ (pruned t c k (l.take j)).length _ rfl (HOa.out _) ⟨w1.heap.size, 0, none⟩ 1 1 x.row rfl rfl ?c2 ?c3 ?c4 ?c5 ?c6 ?_)
        case c2 => exact news_new _ _ _
        case c3 => exact row_one
        case c4 => unfold maxLen; omega
        case c5 => omega
        case c6 => simp; omega
        intro v' w2 g1 g2 _
        have HO2 := Lib.hid g1; have HG2 := Lib.hid g2; clear g1 g2
        go_wp2
        go_roundw
        case rel => exact ⟨j + 1, by omega, by go_num, by rw [HU.out]; simpa using HO2.out, ((hx.trans hy).alloc _).own (HOa.out _) HG2.out (by simp)⟩
        case measure => simp [intOf]; omega
    · obtain rfl : j = l.length := by omega
      go_wp2
      go_ret
      have h := HO.out
      rw [List.take_length] at h
      obtain ⟨h1, h2⟩ := h
      refine ⟨_, rfl, ⟨by simpa using h1, ?_⟩, hx.un⟩
      rcases h2 with h2 | ⟨g, cp, cur, e1, e2, e3⟩
      · exact .inl (by simpa using h2)
      · exact .inr ⟨g, cp, cur, by simpa using e1, by omega, by simpa using e3⟩
end Go.Proofs.Ythjmglbjlfgmaaa
