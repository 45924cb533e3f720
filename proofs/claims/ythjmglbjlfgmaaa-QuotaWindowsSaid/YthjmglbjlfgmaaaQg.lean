/- Contract of quota.Prune. -/
import Derived.Test.YthjmglbjlfgmaaaQf
namespace Go.Proofs.Ythjmglbjlfgmaaa
open Go Go.RowKit

def cellInt (x : List Value) (j : Nat) : Int := intOf (x.getD j undef)
def old (t c k : Int) (x : List Value) : Bool := (decide (t = 0) && decide (c = 0)) || decide (cellInt x 0 ≤ k - t)

set_option maxHeartbeats 1000000 in
theorem Prune1_any (t c k a b d : Int) (bq bt : Nat) (w : World) (hq0 : w.cell? ⟨bq, 0, none⟩ = some (.int .i64 t)) (hq1 : w.cell? ⟨bq, 1, none⟩ = some (.int .i64 c)) (hk : w.cell? ⟨bt, 0, none⟩ = some (.int .i64 k))
    (hbq : bq < w.heap.size) (hbt : bt < w.heap.size) (ht0 : 0 ≤ t) (ht1 : t ≤ 4000) (hk0 : 0 ≤ k) (hk1 : k ≤ 4000) :
    Calls Try.prog 30 #[.agg #[.int .i64 a, .int .i64 b, .int .i64 d], .pointer (some ⟨bq, 0, none⟩), .pointer (some ⟨bt, 0, none⟩)] w fun e w' => e = .returned (.bool (old t c k [.int .i64 a, .int .i64 b, .int .i64 d])) ∧ Ext w w' := by
  go_enter Try.func30, Try.ntmps30
  go_wp2
  all_goals (go_ret; refine ⟨ret_bool ?_, (Ext.refl w).alloc _⟩; rw [Bool.eq_iff_iff]; simp [old, cellInt, intOf]; omega)

theorem Prune1_pred (t c k : Int) (xs : List (List Value)) (hr : Rws 3 xs) (bq bt : Nat) (w : World) (row : Option Nat) (hq0 : w.cell? ⟨bq, 0, none⟩ = some (.int .i64 t)) (hq1 : w.cell? ⟨bq, 1, none⟩ = some (.int .i64 c)) (hk : w.cell? ⟨bt, 0, none⟩ = some (.int .i64 k))
    (hnq : some bq ≠ row) (hnt : some bt ≠ row) (ht0 : 0 ≤ t) (ht1 : t ≤ 4000) (hk0 : 0 ≤ k) (hk1 : k ≤ 4000) :
    Pred Try.prog 30 #[.pointer (some ⟨bq, 0, none⟩), .pointer (some ⟨bt, 0, none⟩)] (old t c k) xs w row := by
  refine ⟨fun args w => by kernel_rfl, fun x hx w' hw => ?_⟩
  obtain ⟨a, b, d, rfl⟩ := hr.row3 hx
  have g0 := hw.cell hq0 hnq
  have g1 := hw.cell hq1 hnq
  have g2 := hw.cell hk hnt
  exact Prune1_any t c k a b d bq bt w' g0 g1 g2 (World.block_lt_of_cell? _ _ g0) (World.block_lt_of_cell? _ _ g2) ht0 ht1 hk0 hk1

set_option maxHeartbeats 1000000 in
theorem DeleteFunc_nil (w : World) (f : FuncId) (lb : Array Value) (eg : ∀ args w, (callFunc f args).run Try.prog w = .ok (.enter f args) w) :
    Calls Try.prog 28 #[.slice none 0 0, .func (.func f) #[] lb] w fun e w' => e = .returned (.slice none 0 0) ∧ Ext w w' := by
  have HI := Lib.hid (IndexFunc_any none 0 [] w (Sl.nil _ _ _) f lb (fun _ => false) ⟨eg, fun x hx => by simp at hx⟩)
  go_enter Try.func28, Try.ntmps28
  go_wp2_with (go_at_call 35; refine HI.out.mono ?_; rintro e w1 ⟨rfl, hx⟩)
  go_ret
  exact ⟨rfl, hx⟩

set_option maxHeartbeats 1000000 in
theorem Prune_any (t c k : Int) (A : Option Addr) (cap : Nat) (xs : List (List Value)) (w : World) (hs : Sl w w.heap.size 3 A cap xs) (hb : xs.length ≤ 1000000) (ht0 : 0 ≤ t) (ht1 : t ≤ 4000) (hk0 : 0 ≤ k) (hk1 : k ≤ 4000) :
    Calls Try.prog 16 #[.slice A xs.length cap, .agg #[.int .i64 t, .int .i64 c], .int .i64 k] w (RetOwn 40 3 (nots (old t c k) xs) w) := by
  have hR := hs.rows
  have HS := Lib.hid hs; have HR := Lib.hid hR
  clear hs hR
  go_enter Try.func16, Try.ntmps16
  go_wp2_with fail
  refine (Clone_any _ _ _ _ ((HS.out.ext ((((Ext.refl w).alloc _).alloc _)) (Nat.le_refl _)).more (by simp; omega)) hb).mono ?_
  rintro e w1 ⟨v, rfl, ho, hx⟩
  have hz := hx.size
  have g0 : w1.cell? ⟨w.heap.size, 0, none⟩ = some (.int .i64 t) := by rw [hx.cell (by simp; omega)]; simp [go_sem]
  have g1 : w1.cell? ⟨w.heap.size, 1, none⟩ = some (.int .i64 c) := by rw [hx.cell (by simp; omega)]; simp [go_sem]
  have g2 : w1.cell? ⟨w.heap.size + 1, 0, none⟩ = some (.int .i64 k) := by rw [hx.cell (by simp)]; simp [go_sem]
  simp at hz
  have HO := Lib.hid ho; clear ho
  go_wp2_with fail
  rcases HO.out.2 with ⟨rfl, hn⟩ | ⟨g, cp, cur, rfl, hgb, hgg, hle, hmax, hsz, htk⟩
  · have hx0 : xs = [] := List.eq_nil_of_length_eq_zero hn
    subst hx0
    refine (DeleteFunc_nil w1 _ _ (fun _ _ => by kernel_rfl)).mono ?_
    rintro e w2 ⟨rfl, hy⟩
    go_wp2
    go_ret
    exact ⟨_, rfl, World.ownsRow_nil _ _ _ _, (((Ext.refl w).alloc _).alloc _).trans (hx.trans hy)⟩
  · have hgb' : w.heap.size + 2 ≤ g := by simpa using hgb
    have hpr := Prune1_pred t c k xs HR.out w.heap.size (w.heap.size + 1) w1 (some g) g0 g1 g2 (by simp; omega) (by simp; omega) ht0 ht1 hk0 hk1
    refine (DeleteFunc_own g cp _ xs w1 HO.out HR.out _ _ _ hpr).mono ?_
    rintro e w2 ⟨rfl, ho2, hy⟩
    have HO2 := Lib.hid ho2; clear ho2
    have HY := Lib.hid hy; clear hy
    go_wp2
    go_ret
    have hx2 : Ext w w2 := ((((Ext.refl w).alloc _).alloc _).trans hx).grown HY.out (fun k hk => by injection hk with hk; omega)
    refine ⟨_, rfl, ?_, hx2⟩
    obtain ⟨cur, hbg, hcur, hnc, hcm, hcl, htk⟩ := own_cur HO2.out
    exact own_of_cur (by omega) hcur hnc hcm hcl htk
end Go.Proofs.Ythjmglbjlfgmaaa
