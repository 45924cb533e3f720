/- Contracts of slices.IndexFunc, Clone, DeleteFunc at uses. -/
import Derived.Test.YthjmglbjlfgmaaaOwn
import Derived.Test.YthjmglbjlfgmaaaQa
namespace Go.Proofs.Ythjmglbjlfgmaaa
open Go Go.RowKit

set_option maxHeartbeats 1000000 in
theorem IndexFunc_any (A : Option Addr) (c : Nat) (xs : List (List Value)) (w : World) (hs : Sl w w.heap.size 3 A c xs) (g : FuncId) (lb : Array Value) (p : List Value → Bool) (hp : Pred Try.prog g lb p xs w none) :
    Calls Try.prog 35 #[.slice A xs.length c, .func (.func g) #[] lb] w fun e w' => e = .returned (.int .i64 (idx p xs)) ∧ Ext w w' := by
  have hln := hs.len
  have HS := Lib.hid hs; clear hs
  have eg := hp.enters
  have HP := Lib.hid hp; clear hp
  go_enter Try.func35, Try.ntmps35
  go_wp2
  go_loopw [8] (fun i wr => ∃ j : Nat, j ≤ xs.length ∧ i = .int .i64 j ∧ (∀ (i : Nat) (x : List Value), i < j → xs[i]? = some x → p x = false) ∧ Ext w wr) (fun i _ => xs.length - (intOf i).toNat)
  case atStart => exact ⟨0, Nat.zero_le _, rfl, fun i x hi => by omega, Ext.refl _⟩
  case round =>
    obtain ⟨j, hj, rfl, hg, hx⟩ := hrel
    have HG := Lib.hid hg; clear hg
    have hz := hx.size
    by_cases hlt : j < xs.length
    · obtain ⟨x, hxj⟩ : ∃ x, xs[j]? = some x := ⟨_, List.getElem?_eq_getElem hlt⟩
      obtain ⟨u0, u1, u2, rfl⟩ := HS.out.rows.row3 (List.mem_of_getElem? hxj)
      obtain ⟨b', off, rfl, hbl, h0, h1, h2⟩ := (HS.out.ext hx (Nat.le_refl _)).at3 hxj
      have HC := Lib.hid (HP.out.call _ (List.mem_of_getElem? hxj) wr (hx.by_ none))
      cases hq : p [.int .i64 u0, .int .i64 u1, .int .i64 u2] with
      | true =>
        have HX := Lib.hid (idx_at HG.out hxj hq); clear hxj
        rw [hq] at HC
        go_wp2_with (go_at_fn g; refine HC.out.mono ?_; rintro e w' ⟨rfl, hy⟩)
        go_ret
        exact ⟨ret_int HX.out.symm, hx.trans hy⟩
      | false =>
        have HX := Lib.hid (fun (i : Nat) (x : List Value) (hi : i < j + 1) (h : xs[i]? = some x) => (show p x = false from by
          rcases Nat.lt_succ_iff_lt_or_eq.1 hi with h1 | rfl
          · exact HG.out i x h1 h
          · rw [h] at hxj; injection hxj with e; rw [e]; exact hq)); clear hxj
        rw [hq] at HC
        go_wp2_with (go_at_fn g; refine HC.out.mono ?_; rintro e w' ⟨rfl, hy⟩)
        go_roundw
        case rel => exact ⟨j + 1, by omega, by go_num, HX.out, hx.trans hy⟩
        case measure => simp [intOf]; omega
    · obtain rfl : j = xs.length := by omega
      go_wp2
      go_ret
      exact ⟨ret_int (idx_no fun i x hx => HG.out i x (List.getElem?_eq_some_iff.1 hx).1 hx).symm, hx⟩

theorem infoUse : (Try.prog.info? 40).map (fun i => (i.zero, i.size, i.bytes)) = some (some (.agg #[.int .i64 0, .int .i64 0, .int .i64 0]), 3, 24) := by kernel_rfl

set_option maxHeartbeats 1000000 in
theorem Clone_any (A : Option Addr) (c : Nat) (xs : List (List Value)) (w : World) (hs : Sl w w.heap.size 3 A c xs) (hb : xs.length ≤ 1000000) :
    Calls Try.prog 29 #[.slice A xs.length c] w (RetOwn 40 3 xs w) := by
  have hln := hs.len
  obtain ⟨i0, hi, hz0, hz1, hz2⟩ := info_parts infoUse
  have HI := Lib.hid hi; have HZ := Lib.hid hz0; have HZ1 := Lib.hid hz1; have HZ2 := Lib.hid hz2; clear hi hz0 hz1 hz2
  cases A with
  | none =>
    have h0 : xs.length = 0 := by
      rcases Nat.eq_zero_or_pos xs.length with h | h
      · exact h
      · obtain ⟨_, _, h, _⟩ := hs.mem h; cases h
    have hx : xs = [] := List.eq_nil_of_length_eq_zero h0
    subst hx
    have hq := Lib.run_eql_slice_nil (P := Try.prog) w 22 40 none 0 c 0 0 Try.underlying22
    clear hs
    go_enter Try.func29, Try.ntmps29
    go_wp2
    go_ret
    exact ⟨_, rfl, World.ownsRow_nil _ _ _ _, Ext.refl _⟩
  | some a =>
    have HS := Lib.hid hs; clear hs
    have hq := Lib.run_eql_slice_nil (P := Try.prog) w 22 40 (some a) xs.length c 0 0 Try.underlying22
    go_enter Try.func29, Try.ntmps29
    go_wp2_with (at_builtin; refine wpList_append_own _ rfl _ _ 22 rfl w.heap.size 40 i0 (.agg #[.int .i64 0, .int .i64 0, .int .i64 0]) 3 24 Try.underlying22 HI.out HZ.out HZ1.out HZ2.out rfl (by decide) _ 0 [] rfl (World.ownsRow_made w #[] 0 (Nat.le_refl _) (by simp) rfl) a xs.length c xs.flatten rfl ?c1 ?c2 ?c3 ?c4 ?c5 ?c6 ?_)
    case c1 => exact flatten_length xs HS.out.rows.len
    case c2 => exact (HS.out.alloc (Nat.le_refl _) _).news
    case c3 => exact HS.out.rows.one
    case c4 => unfold maxLen; omega
    case c5 => omega
    case c6 => simp
    intro v' w' h1 h2 _
    have HO := Lib.hid h1; have HG := Lib.hid h2; clear h1 h2
    go_wp2
    go_ret
    exact ⟨_, rfl, HO.out, ((Ext.refl w).alloc _).grown HG.out (fun k hk => by simp [Value.ownBlock] at hk; omega)⟩
end Go.Proofs.Ythjmglbjlfgmaaa
