/- YtcfebfblmmbeaaaDoorJe · YtcfebfblmmbeaaaDoorJeP -/
import Derived.Test.YtcfebfblmmbeaaaDoorTie
import Derived.Test.YtcfebfblmmbeaaaDoorCards
import Derived.LaidLaws
import Derived.SevenTiedAt
import Derived.Test.YtcfebfblmmbeaaaDoorZa9
/- HistoryForksStay. -/
namespace Go.Proofs.YtcfebfblmmbeaaaDoor
open Go Go.RowKit

theorem wpList_append_E2 {ops : Array Oper} {rest : List Oper} {o : Oper} {a : Act} {w : World} {Q : Exit → Act → World → Prop} (hgd : o.guard = none) (s x : Operand)
    (ho : o.op = .call { callee := .builtin .append, args := #[s, x], argTypes := #[22, 22] })
    (base : Nat) (v : Value) (xs : List Ed) (hs : a.eval s = v) (n : Nat) (hn : xs.length = n) (hown : w.ownsRow base 32 17 v n (rowsE xs).flatten)
    (A : Option Addr) (c m : Nat) (ys : List Ed) (hx : a.eval x = .slice A m c) (hm : ys.length = m) (hr : Sv w w.heap.size 17 A c (rowsE ys)) (hlen : n + m ≤ 100000) (hbase : base ≤ w.heap.size)
    (zs : List Ed) (hz : zs = xs ++ ys)
    (h : ∀ A' c' w', w'.ownsRow base 32 17 (.slice A' zs.length c') zs.length (rowsE zs).flatten → w.grownBy w' v.ownBlock → wpList Tryd.prog ops Q rest (a.put o.dst (.slice A' zs.length c')) w') : wpList Tryd.prog ops Q (o :: rest) a w := by
  subst hz
  exact wpList_append_E hgd s x ho base v xs hs n hn hown A c m ys hx hm hr _ (by rw [List.length_append, hn, hm]) hlen hbase h
/-- A fork of the beginning stays one. -/
theorem forks_stay {l m : List Ed} {f g : List Nm} (hf : IsForks l f) (hg : IsForks (l ++ m) g) {n : Nm} (hn : n ∈ f) : n ∈ g :=
  (hg.mem n).2 (Forked.mono (fun _x hx => List.mem_append_left _ hx) ((hf.mem n).1 hn))
theorem set_no_fork {l : List Ed} {s : List Ed} {g : List Nm} (hs : IsSet l s) (hg : IsForks l g) {x : Ed} {n : Nm} (hx : x ∈ s) (hn : n ∈ g) : nmE x ≠ n := fun e => ((hs.mem x).1 hx).2.2 (e ▸ (hg.mem n).1 hn)
theorem mem_take_lt {l : List Nm} {k : Nat} {n : Nm} (hk : l[k]? = some n) : decide (n ∈ l.take (k + 1)) = true := by
  rw [take_snocR hk]; simp
set_option maxRecDepth 100000 in
set_option maxHeartbeats 32000000 in
theorem HistoryForksStay_any (A Am : Option Addr) (c cm : Nat) (l m : List Ed) (w : World) (hs : Sv w w.heap.size 17 A c (rowsE l)) (hs2 : Sv w w.heap.size 17 Am cm (rowsE m)) (hR : RowsIn w) :
    Calls Tryd.prog 7 #[.slice A l.length c, .slice Am m.length cm] w fun e w' => e = .returned (.bool true) ∧ Ext w w' := by
  have hm := mixed
  have HL := Lib.hid hs; have HL2 := Lib.hid hs2; have HR := Lib.hid hR
  have hll := hs.len; have hll2 := hs2.len
  rw [rowsE_length] at hll hll2
  have HSN := Lib.hid (sanity_any w hR)
  clear hs hs2 hR
  go_enter Tryd.func7, Tryd.ntmps7
  go_upto_region 2 with (go_at_call 8; refine HSN.out.mono ?_; rintro e W1 ⟨rfl, xs⟩)
  have HL := Lib.hid (HL.out.ext xs); have HL2 := Lib.hid (HL2.out.ext xs); have HR := Lib.hid (HR.out.ext xs); have HX := Lib.hid xs
  clear xs HSN
  by_cases hlong : (30 : Int) < (l.length : Int)
  · go_wp2_with fail
    go_ret
    exact ⟨rfl, HX.out⟩
  by_cases hlong2 : (30 : Int) < (m.length : Int)
  · go_wp2_with fail
    go_ret
    exact ⟨rfl, HX.out⟩
  have hl30 : l.length ≤ 30 := by omega
  have hm30 : m.length ≤ 30 := by omega
  obtain ⟨WZ, hWZ⟩ : ∃ W, W = W1.alloc (.cells #[] 32) := ⟨_, rfl⟩
  have HZ := Lib.hid (show WZ.ownsRow W1.heap.size 32 17 (.slice (some ⟨W1.heap.size, 0, none⟩) 0 0) 0 (rowsE []).flatten by rw [hWZ]; exact own_zero W1 _ 17)
  have HXl := Lib.hid (show Ext W1 WZ by rw [hWZ]; exact (Ext.refl _).alloc _)
  have HWZ := Lib.hid hWZ
  clear hWZ
  obtain ⟨mo, hmo⟩ : ∃ mo, mo = l ++ m := ⟨_, rfl⟩
  have HMO := Lib.hid hmo
  have HMN := Lib.hid (show mo.length = l.length + m.length by rw [hmo, List.length_append])
  clear hmo
  go_upto_region 5 with (first
    | (at_builtin; rw [← HWZ.out]; refine wpList_append_E2 rfl (.tmp 29) (.tmp 30) rfl W1.heap.size _ [] rfl 0 rfl HZ.out A c l.length l rfl rfl (HL.out.ext HXl.out) (by omega) HXl.out.size l rfl ?_; intro A1 c1 WA ho1 hg1; have HO1 := Lib.hid ho1; have HXl := Lib.hid (HXl.out.own HZ.out hg1 (Nat.le_refl _)); clear ho1 hg1)
    | (at_builtin; refine wpList_append_E2 rfl (.tmp 31) (.tmp 32) rfl W1.heap.size _ l rfl l.length rfl HO1.out Am cm m.length m rfl rfl (HL2.out.ext HXl.out) (by omega) HXl.out.size mo HMO.out ?_; intro AM cM W2 ho2 hg2; have HO2 := Lib.hid ho2; have HXl := Lib.hid (HXl.out.own HO1.out hg2 (Nat.le_refl _)); clear ho2 hg2))
  have HM := Lib.hid (own_sv_E HO2.out rfl)
  have HL := Lib.hid (HL.out.ext HXl.out); have HR := Lib.hid (HR.out.ext HXl.out); have HX := Lib.hid (HX.out.trans HXl.out)
  clear HZ HXl HWZ HO1 HO2 HL2
  --STOP1
  have K1 := Lib.hid (Forks_any A c l W2 HL.out (by omega) HR.out)
  go_upto_region 6 with (go_at_call 19; ((with_reducible refine K1.out.mono ?_); rintro e W3 ⟨f, hf, Af, cf, rfl, v1, xa⟩))
  have HF := Lib.hid hf; have HVF := Lib.hid v1; have hfl := hf.len
  have HM := Lib.hid (HM.out.ext xa); have HR := Lib.hid (HR.out.ext xa); have HX := Lib.hid (HX.out.trans xa)
  clear hf v1 xa K1 HL
  have K2 := Lib.hid (Forks_any AM cM mo W3 HM.out (by have := HMN.out; omega) HR.out)
  go_upto_region 7 with (go_at_call 19; ((with_reducible refine K2.out.mono ?_); rintro e W4 ⟨g, hg, Ag, cg, rfl, v1, xa⟩))
  have HGM := Lib.hid hg; have HG := Lib.hid (HMO.out ▸ hg); have HVG := Lib.hid v1; have HVF := Lib.hid (HVF.out.ext xa); have hgl : g.length ≤ 60 := by have := hg.len; have := HMN.out; omega
  have HM := Lib.hid (HM.out.ext xa); have HR := Lib.hid (HR.out.ext xa); have HX := Lib.hid (HX.out.trans xa)
  clear hg v1 xa K2
  have K3 := Lib.hid (Set_any AM cM mo W4 HM.out (by have := HMN.out; omega) HR.out)
  go_upto_region 8 with (go_at_call 16; ((with_reducible refine K3.out.mono ?_); rintro e W5 ⟨st, hst, As, cs, rfl, v1, xa⟩))
  have HS := Lib.hid hst; have HVS := Lib.hid v1; have HVF := Lib.hid (HVF.out.ext xa); have HVG := Lib.hid (HVG.out.ext xa); have hsl : st.length ≤ 60 := by have := hst.len; have := HMN.out; omega
  have HM := Lib.hid (HM.out.ext xa); have HR := Lib.hid (HR.out.ext xa); have HX := Lib.hid (HX.out.trans xa)
  clear hst v1 xa K3
  go_upto_region 9 with fail
  --STOP2
  go_loopw [10] (fun iv wr => ∃ k : Nat, iv = .int .i64 k ∧ k ≤ f.length ∧ Ext W5 wr) (fun iv _ => f.length - (intOf iv).toNat)
  case atStart => exact ⟨0, rfl, Nat.zero_le _, Ext.refl _⟩
  case round =>
    obtain ⟨k, rfl, hk, hx⟩ := hrel
    rename World => wo
    have HXR := Lib.hid hx
    clear hx
    by_cases hlt : k < f.length
    · obtain ⟨q, hq⟩ : ∃ q, f[k]? = some q := ⟨_, List.getElem?_eq_getElem hlt⟩
      have HQG := Lib.hid (forks_stay HF.out HG.out (List.mem_of_getElem? hq))
      obtain ⟨bq, oq, rfl, hbq, q0, q1⟩ := nm_row (HVF.out.ext HXR.out) hq
      have HQ := Lib.hid (fun w2 (h : Ext wo w2) => show w2.rangeAt bq (oq + k * 2) q.cells from rangeAt_ext (by obtain ⟨b', o', e, _, hr⟩ := (HVF.out.ext HXR.out).row (i := k) (x := q.cells) (by simp [rowsN, hq]); injection e with e; injection e with e1 e2; subst e1 e2; exact hr) hbq h)
      have hk0 : 0 ≤ (k : Int) := by omega
      have hk1 : ¬ ((f.length : Int) ≤ (k : Int)) := by omega
      clear hq q0 q1
      go_upto_region 13 with fail
      go_loopw [11, 12] (fun fv jv wz => ∃ i : Nat, jv = .int .i64 i ∧ i ≤ g.length ∧ fv = .bool (decide (q ∈ g.take i)) ∧ Ext wo wz) (fun _ jv _ => g.length - (intOf jv).toNat)
      case atStart => exact ⟨0, rfl, Nat.zero_le _, by simp, Ext.refl _⟩
      case round =>
        obtain ⟨i, rfl, hi, rfl, hx⟩ := hrel
        have HXZ := Lib.hid hx
        clear hx
        by_cases hli : i < g.length
        · obtain ⟨r, hr⟩ : ∃ r, g[i]? = some r := ⟨_, List.getElem?_eq_getElem hli⟩
          obtain ⟨br, or_, rfl, hbr, r0, r1⟩ := nm_row ((HVG.out.ext HXR.out).ext HXZ.out) hr
          have hi0 : 0 ≤ (i : Int) := by omega
          have hi1 : ¬ ((g.length : Int) ≤ (i : Int)) := by omega
          have HST := Lib.hid (show decide (q ∈ g.take (i + 1)) = (decide (q ∈ g.take i) || decide (r = q)) by rw [take_snocR hr]; simp [List.mem_append, eq_comm])
          clear hr
          generalize decide (q ∈ g.take i) = fd at HST
          obtain ⟨ht, hht⟩ : ∃ ht, decide (r = q) = ht := ⟨_, rfl⟩
          rw [hht] at HST
          have hn : ∀ w, (binOp .eql 24 (.agg #[.int .i64 r.site, .int .i64 r.seq]) (.agg #[.int .i64 q.site, .int .i64 q.seq])).run Tryd.prog w = .ok (.bool ht) w := fun w => by have h := eqNm_run r q w; rw [hht] at h; exact h
          clear hht
          have q0 : wr.cell? ⟨bq, oq + k * 2, none⟩ = some (.int .i64 q.site) := (HQ.out wr HXZ.out) 0 _ rfl
          have q1 : wr.cell? ⟨bq, oq + k * 2 + 1, none⟩ = some (.int .i64 q.seq) := (HQ.out wr HXZ.out) 1 _ rfl
          have hbq9 := Nat.lt_of_lt_of_le hbq HXZ.out.size
          have hG := near_old
          cases fd
          · go_upto_region 15 with fail
            refine wp_region_near (by assumption) (by kernel_rfl) ?_
            repeat (go_big_quiet_step (fail))
            refine wpQuiet_nil ?_
            intro w1 hw1
            have hy := Ext.of_near hw1
            clear hw1
            have HXn := Lib.hid (HXZ.out.trans hy)
            clear hy hn
            go_wp2_with fail
            go_roundw
            case rel => exact ⟨i + 1, by go_num, by omega, by rw [HST.out]; simp, HXn.out⟩
            case measure => simp [intOf]; omega
          · go_upto_region 15 with fail
            refine wp_region_near (by assumption) (by kernel_rfl) ?_
            repeat (go_big_quiet_step (fail))
            refine wpQuiet_nil ?_
            intro w1 hw1
            have hy := Ext.of_near hw1
            clear hw1
            have HXn := Lib.hid (HXZ.out.trans hy)
            clear hy hn
            go_wp2_with fail
            go_roundw
            case rel => exact ⟨i + 1, by go_num, by omega, by rw [HST.out]; simp, HXn.out⟩
            case measure => simp [intOf]; omega
        · obtain rfl : i = g.length := by omega
          rw [List.take_length, decide_eq_true HQG.out]
          go_wp2_with fail
          go_roundw
          case rel => exact ⟨k + 1, by go_num, by omega, HXR.out.trans HXZ.out⟩
          case measure => simp [intOf]; omega
    · obtain rfl : k = f.length := by omega
      have HM := Lib.hid (HM.out.ext HXR.out); have HR := Lib.hid (HR.out.ext HXR.out); have HX := Lib.hid (HX.out.trans HXR.out); have HVG := Lib.hid (HVG.out.ext HXR.out); have HVS := Lib.hid (HVS.out.ext HXR.out)
      clear HXR HVF HF HG
      go_upto_region 19 with fail
      --STOP3
      go_loopw [13] (fun iv wr => ∃ k : Nat, iv = .int .i64 k ∧ k ≤ st.length ∧ Ext wo wr) (fun iv _ => st.length - (intOf iv).toNat)
      case atStart => exact ⟨0, rfl, Nat.zero_le _, Ext.refl _⟩
      case round =>
        obtain ⟨k, rfl, hk, hx⟩ := hrel
        rename World => wp
        have HXR := Lib.hid hx
        clear hx
        by_cases hlt : k < st.length
        · obtain ⟨y, hyk⟩ : ∃ y, st[k]? = some y := ⟨_, List.getElem?_eq_getElem hlt⟩
          have HYS := Lib.hid (List.mem_of_getElem? hyk)
          obtain ⟨bq, oq, rfl, hbq, hra⟩ := ed_row (HVS.out.ext HXR.out) hyk
          have HQ := Lib.hid (fun w2 (h : Ext wp w2) => rangeAt_ext hra hbq h)
          have hk0 : 0 ≤ (k : Int) := by omega
          have hk1 : ¬ ((st.length : Int) ≤ (k : Int)) := by omega
          clear hra hyk
          go_upto_region 22 with fail
          go_loopw [14] (fun jv wz => ∃ i : Nat, jv = .int .i64 i ∧ i ≤ g.length ∧ Ext wp wz) (fun jv _ => g.length - (intOf jv).toNat)
          case atStart => exact ⟨0, rfl, Nat.zero_le _, Ext.refl _⟩
          case round =>
            obtain ⟨ni, rfl, hi, hx⟩ := hrel
            have HXZ := Lib.hid hx
            clear hx
            by_cases hli : ni < g.length
            · obtain ⟨r, hr⟩ : ∃ r, g[ni]? = some r := ⟨_, List.getElem?_eq_getElem hli⟩
              obtain ⟨br, or_, rfl, hbr, _, _⟩ := nm_row ((HVG.out.ext HXR.out).ext HXZ.out) hr
              have HRR := Lib.hid (fun w2 (h : Ext wr w2) => show w2.rangeAt br (or_ + ni * 2) r.cells from rangeAt_ext (by obtain ⟨b', o', e, _, hr⟩ := ((HVG.out.ext HXR.out).ext HXZ.out).row (i := ni) (x := r.cells) (by simp [rowsN, hr]); injection e with e; injection e with e1 e2; subst e1 e2; exact hr) hbr h)
              have hi0 : 0 ≤ (ni : Int) := by omega
              have hi1 : ¬ ((g.length : Int) ≤ (ni : Int)) := by omega
              have hne := set_no_fork HS.out HGM.out HYS.out (List.mem_of_getElem? hr)
              have hn := eqNm_run (nmE y) r
              rw [decide_eq_false hne] at hn
              clear hr hne
              go_upto_region 24 with fail
              refine wp_region_rel (fun i v w' => match i with
                  | 0 => v = .slice (some ⟨bq, oq, none⟩) st.length cs
                  | 1 => v = .int .i64 (k : Int)
                  | 2 => v = .pointer (some ⟨bq, oq + k * 17, none⟩)
                  | 3 => v = .agg y.cells.toArray
                  | 4 => v = .agg (nmE y).cells.toArray
                  | 5 => v = .slice (some ⟨br, or_, none⟩) g.length cg
                  | 6 => v = .int .i64 (ni : Int)
                  | 7 => v = .pointer (some ⟨br, or_ + ni * 2, none⟩)
                  | 8 => v = .agg r.cells.toArray
                  | 9 => v = .bool false
                  | _ => True) hm (by kernel_rfl) (by kernel_rfl) rfl ?_ ?_ ?_
              · intro i v w1 w2 hx h
                match i, h with
                | 0, h => exact h
                | 1, h => exact h
                | 2, h => exact h
                | 3, h => exact h
                | 4, h => exact h
                | 5, h => exact h
                | 6, h => exact h
                | 7, h => exact h
                | 8, h => exact h
                | 9, h => exact h
                | i + 10, h => exact h
              · intro i o ho b w1 hx hmiss hdep K hK
                match i, ho with
                | 0, ho =>
                  obtain rfl := Option.some.inj ho
                  have e9 : b.tmps[9]? = some (.slice (some ⟨bq, oq, none⟩) st.length cs) := hmiss 9 rfl
                  refine want_none rfl ?_
                  exact op_move rfl (eval_of e9) (hK _ w1 (Ext.refl _) rfl)
                | 1, ho =>
                  obtain rfl := Option.some.inj ho
                  have e13 : b.tmps[13]? = some (.int .i64 (k : Int)) := hmiss 13 rfl
                  refine want_none rfl ?_
                  exact op_move rfl (eval_of e13) (hK _ w1 (Ext.refl _) rfl)
                | 2, ho =>
                  obtain rfl := Option.some.inj ho
                  obtain ⟨v78, g78, e78⟩ := hdep 0 rfl
                  have g78 : v78 = .slice (some ⟨bq, oq, none⟩) st.length cs := g78
                  subst g78
                  have e78 := e78 78 rfl
                  obtain ⟨v79, g79, e79⟩ := hdep 1 rfl
                  have g79 : v79 = .int .i64 (k : Int) := g79
                  subst g79
                  have e79 := e79 79 rfl
                  refine want_none rfl ?_
                  exact op_run (by unfold execOp; simp [e78, e79, Act.eval, go_sem, hk0, hk1]) (hK _ w1 (Ext.refl _) rfl)
                | 3, ho =>
                  obtain rfl := Option.some.inj ho
                  obtain ⟨v80, g80, e80⟩ := hdep 2 rfl
                  have g80 : v80 = .pointer (some ⟨bq, oq + k * 17, none⟩) := g80
                  subst g80
                  have e80 := e80 80 rfl
                  refine want_none rfl ?_
                  exact wp_load_mid 32 (.tmp 80) rfl (bq) (oq + k * 17) (eval_of e80) (y.cells) _ (HQ.out _ (HXZ.out.trans hx)) Tryd.underlying32 rfl (by kernel_rfl) (hK _ w1 (Ext.refl _) rfl)
                | 4, ho =>
                  obtain rfl := Option.some.inj ho
                  obtain ⟨v81, g81, e81⟩ := hdep 3 rfl
                  have g81 : v81 = .agg y.cells.toArray := g81
                  subst g81
                  have e81 := e81 81 rfl
                  refine want_none rfl ?_
                  have hc : Calls Tryd.prog 24 #[.agg y.cells.toArray] w1 fun e w' => ∃ v, e = .returned v ∧ Ext w1 w' ∧ (v = .agg (nmE y).cells.toArray) := (Name_any y w1).mono fun e w2 ⟨h1, h2⟩ => ⟨_, h1, h2, rfl⟩
                  exact op_call (G := fun v w' => v = .agg (nmE y).cells.toArray) rfl (by simp [eval_of e81]) (fun _ _ => by kernel_rfl) hc (fun v w' h1 h2 => hK v w' h1 h2)
                | 5, ho =>
                  obtain rfl := Option.some.inj ho
                  have e8 : b.tmps[8]? = some (.slice (some ⟨br, or_, none⟩) g.length cg) := hmiss 8 rfl
                  refine want_none rfl ?_
                  exact op_move rfl (eval_of e8) (hK _ w1 (Ext.refl _) rfl)
                | 6, ho =>
                  obtain rfl := Option.some.inj ho
                  have e14 : b.tmps[14]? = some (.int .i64 (ni : Int)) := hmiss 14 rfl
                  refine want_none rfl ?_
                  exact op_move rfl (eval_of e14) (hK _ w1 (Ext.refl _) rfl)
                | 7, ho =>
                  obtain rfl := Option.some.inj ho
                  obtain ⟨v83, g83, e83⟩ := hdep 5 rfl
                  have g83 : v83 = .slice (some ⟨br, or_, none⟩) g.length cg := g83
                  subst g83
                  have e83 := e83 83 rfl
                  obtain ⟨v84, g84, e84⟩ := hdep 6 rfl
                  have g84 : v84 = .int .i64 (ni : Int) := g84
                  subst g84
                  have e84 := e84 84 rfl
                  refine want_none rfl ?_
                  exact op_run (by unfold execOp; simp [e83, e84, Act.eval, go_sem, hli, hi0]) (hK _ w1 (Ext.refl _) rfl)
                | 8, ho =>
                  obtain rfl := Option.some.inj ho
                  obtain ⟨v85, g85, e85⟩ := hdep 7 rfl
                  have g85 : v85 = .pointer (some ⟨br, or_ + ni * 2, none⟩) := g85
                  subst g85
                  have e85 := e85 85 rfl
                  refine want_none rfl ?_
                  exact wp_load_mid 24 (.tmp 85) rfl (br) (or_ + ni * 2) (eval_of e85) (r.cells) _ (HRR.out _ hx) Tryd.underlying24 rfl (by kernel_rfl) (hK _ w1 (Ext.refl _) rfl)
                | 9, ho =>
                  obtain rfl := Option.some.inj ho
                  obtain ⟨v82, g82, e82⟩ := hdep 4 rfl
                  obtain rfl := g82
                  have e82 := e82 82 rfl
                  obtain ⟨v86, g86, e86⟩ := hdep 8 rfl
                  have g86 : v86 = .agg r.cells.toArray := g86
                  subst g86
                  have e86 := e86 86 rfl
                  refine want_none rfl ?_
                  exact op_run (by unfold execOp; simp [e82, e86, Act.eval, go_sem, hn]) (hK _ w1 (Ext.refl _) rfl)
                | i + 10, ho => cases ho
              · intro V w9 hx hg
                have g0 : V 0 = .slice (some ⟨bq, oq, none⟩) st.length cs := hg 0 (by decide)
                have g1 : V 1 = .int .i64 (k : Int) := hg 1 (by decide)
                have g2 : V 2 = .pointer (some ⟨bq, oq + k * 17, none⟩) := hg 2 (by decide)
                have g3 : V 3 = .agg y.cells.toArray := hg 3 (by decide)
                have g5 : V 5 = .slice (some ⟨br, or_, none⟩) g.length cg := hg 5 (by decide)
                have g6 : V 6 = .int .i64 (ni : Int) := hg 6 (by decide)
                have g7 : V 7 = .pointer (some ⟨br, or_ + ni * 2, none⟩) := hg 7 (by decide)
                have g8 : V 8 = .agg r.cells.toArray := hg 8 (by decide)
                have g9 : V 9 = .bool false := hg 9 (by decide)
                have g4 := hg 4 (by decide)
                simp only [List.length_cons, List.length_nil, fillAllN, dstOf, Act.put, List.getElem?_toArray, List.getElem?_cons_zero, List.getElem?_cons_succ, Option.bind_some, g0, g1, g2, g3, g5, g6, g7, g8, g9, List.setIfInBounds_toArray, List.set_cons_zero, List.set_cons_succ]
                clear g0 g1 g2 g3 g5 g6 g7 g8 g9 hg
                have HXn := Lib.hid (HXZ.out.trans hx)
                clear hx hn
                go_wp2_with fail
                go_roundw
                case rel => exact ⟨ni + 1, by go_num, by omega, HXn.out⟩
                case measure => simp [intOf]; omega
            · obtain rfl : ni = g.length := by omega
              go_wp2_with fail
              go_roundw
              case rel => exact ⟨k + 1, by go_num, by omega, HXR.out.trans HXZ.out⟩
              case measure => simp [intOf]; omega
        · obtain rfl : k = st.length := by omega
          have HM := Lib.hid (HM.out.ext HXR.out); have HR := Lib.hid (HR.out.ext HXR.out); have HX := Lib.hid (HX.out.trans HXR.out)
          clear HXR HVG HVS HS HGM
          go_upto_region 27 with fail
          --STOP4
          go_loopw [15] (fun iv wr => ∃ k : Nat, iv = .int .i64 k ∧ (k = 0 ∨ k + 1 ≤ mo.length) ∧ Ext wp wr) (fun iv _ => mo.length - (intOf iv).toNat)
          case atStart => exact ⟨0, rfl, .inl rfl, Ext.refl _⟩
          case round =>
            obtain ⟨k, rfl, hk, hx⟩ := hrel
            have HXR := Lib.hid hx
            clear hx
            have hml := HMN.out
            have hml2 : mo.length ≤ 60 := by omega
            clear hml
            have hwk : IntKind.i64.wrap ((k : Int) + 1) = ((k + 1 : Nat) : Int) := by rw [IntKind.wrap_i64]; omega
            by_cases hlt : k + 1 < mo.length
            · obtain ⟨x, hxk⟩ : ∃ x, mo[k]? = some x := ⟨_, List.getElem?_eq_getElem (by omega)⟩
              obtain ⟨y, hyk⟩ : ∃ y, mo[k + 1]? = some y := ⟨_, List.getElem?_eq_getElem hlt⟩
              obtain ⟨bq, oq, rfl, hbq, hra⟩ := ed_row (HM.out.ext HXR.out) hxk
              obtain ⟨b', o', e, _, hrb⟩ := ed_row (HM.out.ext HXR.out) hyk
              injection e with e
              injection e with e1 e2
              subst e1 e2
              have HA := Lib.hid (show wr.rangeAt bq (oq + k * 17) x.cells from hra)
              have HAB := Lib.hid (fun w2 (h : Ext wr w2) => show w2.rangeAt bq (oq + (k + 1) * 17) y.cells from rangeAt_ext hrb hbq h)
              have HRw := Lib.hid (HR.out.ext HXR.out)
              have hk0 : 0 ≤ (k : Int) := by omega
              have hk1 : ¬ ((mo.length : Int) ≤ (k : Int)) := by omega
              have hk2 : k < mo.length := by omega
              have hj0 : 0 ≤ ((k + 1 : Nat) : Int) := by omega
              have hj1 : ¬ ((mo.length : Int) ≤ ((k + 1 : Nat) : Int)) := by omega
              clear hra hrb hxk hyk
              obtain ⟨jj, hjj⟩ : ∃ j, j = k + 1 := ⟨_, rfl⟩
              rw [← hjj] at hwk hlt HAB hj0 hj1
              have HJJ := Lib.hid hjj
              clear hjj
              go_upto_region 30 with (first
                | (with_reducible refine wpList_load_mid rfl 32 (.tmp 97) rfl bq (oq + k * 17) rfl x.cells _ HA.out Tryd.underlying32 rfl (by kernel_rfl) ?_)
                | (refine wpList_store_blk 32 (.tmp 16) (.tmp 98) rfl rfl (Arr.new wr 32 [.int .i64 0, .int .i64 0, .int .i64 0, .int .i64 0, .int .i64 0, .int .i64 0, .int .i64 0, .int .i64 0, .int .i64 0, .int .i64 0, .int .i64 0, .int .i64 0, .int .i64 0, .int .i64 0, .int .i64 0, .int .i64 0, .int .i64 0]) x.cells rfl rfl (by kernel_rfl) rfl rfl ?_))
              have HXn := Lib.hid (((Ext.refl wr).alloc (.cells ([.int .i64 0, .int .i64 0, .int .i64 0, .int .i64 0, .int .i64 0, .int .i64 0, .int .i64 0, .int .i64 0, .int .i64 0, .int .i64 0, .int .i64 0, .int .i64 0, .int .i64 0, .int .i64 0, .int .i64 0, .int .i64 0, .int .i64 0] : List Value).toArray 32)).setRow (g := wr.heap.size) (Nat.le_refl _) (x.cells : List Value).toArray)
              have HBX := Lib.hid ((Arr.new wr 32 [.int .i64 0, .int .i64 0, .int .i64 0, .int .i64 0, .int .i64 0, .int .i64 0, .int .i64 0, .int .i64 0, .int .i64 0, .int .i64 0, .int .i64 0, .int .i64 0, .int .i64 0, .int .i64 0, .int .i64 0, .int .i64 0, .int .i64 0]).setRow x.cells)
              obtain ⟨Wa, hW⟩ : ∃ W, W = (wr.alloc (.cells ([.int .i64 0, .int .i64 0, .int .i64 0, .int .i64 0, .int .i64 0, .int .i64 0, .int .i64 0, .int .i64 0, .int .i64 0, .int .i64 0, .int .i64 0, .int .i64 0, .int .i64 0, .int .i64 0, .int .i64 0, .int .i64 0, .int .i64 0] : List Value).toArray 32)).setRow wr.heap.size (x.cells : List Value).toArray := ⟨_, rfl⟩
              obtain ⟨bx, hbx⟩ : ∃ b, b = wr.heap.size := ⟨_, rfl⟩
              rw [← hW] at HXn HBX
              rw [← hW]
              clear hW
              rw [← hbx] at HBX
              rw [← hbx]
              clear hbx HA
              have HABa := Lib.hid (HAB.out Wa HXn.out)
              go_upto_region 31 with (first
                | (with_reducible refine wpList_load_mid rfl 32 (.tmp 102) rfl bq (oq + jj * 17) rfl y.cells _ HABa.out Tryd.underlying32 rfl (by kernel_rfl) ?_)
                | (refine wpList_store_blk 32 (.tmp 17) (.tmp 103) rfl rfl (Arr.new Wa 32 [.int .i64 0, .int .i64 0, .int .i64 0, .int .i64 0, .int .i64 0, .int .i64 0, .int .i64 0, .int .i64 0, .int .i64 0, .int .i64 0, .int .i64 0, .int .i64 0, .int .i64 0, .int .i64 0, .int .i64 0, .int .i64 0, .int .i64 0]) y.cells rfl rfl (by kernel_rfl) rfl rfl ?_))
              have HXm := Lib.hid (((Ext.refl Wa).alloc (.cells ([.int .i64 0, .int .i64 0, .int .i64 0, .int .i64 0, .int .i64 0, .int .i64 0, .int .i64 0, .int .i64 0, .int .i64 0, .int .i64 0, .int .i64 0, .int .i64 0, .int .i64 0, .int .i64 0, .int .i64 0, .int .i64 0, .int .i64 0] : List Value).toArray 32)).setRow (g := Wa.heap.size) (Nat.le_refl _) (y.cells : List Value).toArray)
              have HBY := Lib.hid ((Arr.new Wa 32 [.int .i64 0, .int .i64 0, .int .i64 0, .int .i64 0, .int .i64 0, .int .i64 0, .int .i64 0, .int .i64 0, .int .i64 0, .int .i64 0, .int .i64 0, .int .i64 0, .int .i64 0, .int .i64 0, .int .i64 0, .int .i64 0, .int .i64 0]).setRow y.cells)
              obtain ⟨Wb, hW⟩ : ∃ W, W = (Wa.alloc (.cells ([.int .i64 0, .int .i64 0, .int .i64 0, .int .i64 0, .int .i64 0, .int .i64 0, .int .i64 0, .int .i64 0, .int .i64 0, .int .i64 0, .int .i64 0, .int .i64 0, .int .i64 0, .int .i64 0, .int .i64 0, .int .i64 0, .int .i64 0] : List Value).toArray 32)).setRow Wa.heap.size (y.cells : List Value).toArray := ⟨_, rfl⟩
              obtain ⟨by_, hbx⟩ : ∃ b, b = Wa.heap.size := ⟨_, rfl⟩
              rw [← hW] at HXm HBY
              rw [← hW]
              clear hW
              rw [← hbx] at HBY
              rw [← hbx]
              clear hbx HABa
              have HBX := Lib.hid (HBX.out.ext HXm.out)
              have HXab := Lib.hid (HXR.out.trans (HXn.out.trans HXm.out))
              have HRb := Lib.hid (HRw.out.ext (HXn.out.trans HXm.out))
              clear HXn HXm HRw
              --STOP5
              have h1 := eqEd_run x y
              have h2 := neqNm_run (nmE x) (nmE y)
              have HFX := Lib.hid (refFormed_any x); have HFY := Lib.hid (refFormed_any y)
              go_upto_region 31 with fail
              by_cases hxy : x = y
              · rw [decide_eq_true hxy] at h1
                clear h2
                refine wp_region_rel (fun i v w' => match i with
                    | 0 => v = .agg x.cells.toArray
                    | 1 => v = .agg y.cells.toArray
                    | 2 => v = .bool true
                    | 3 => v = .bool true
                    | 4 => v = undef
                    | 5 => v = undef
                    | 6 => v = undef
                    | 7 => v = undef
                    | 8 => v = undef
                    | 9 => v = .bool true
                    | 10 => v = .bool true
                    | 11 => v = undef
                    | 12 => v = undef
                    | 13 => v = undef
                    | 14 => v = .bool true
                    | 15 => v = .bool true
                    | 16 => v = undef
                    | 17 => v = undef
                    | 18 => v = undef
                    | 19 => v = .bool true
                    | _ => True) hm (by kernel_rfl) (by kernel_rfl) rfl ?_ ?_ ?_
                · intro i v w1 w2 hx h
                  match i, h with
                  | 0, h => exact h
                  | 1, h => exact h
                  | 2, h => exact h
                  | 3, h => exact h
                  | 4, h => exact h
                  | 5, h => exact h
                  | 6, h => exact h
                  | 7, h => exact h
                  | 8, h => exact h
                  | 9, h => exact h
                  | 10, h => exact h
                  | 11, h => exact h
                  | 12, h => exact h
                  | 13, h => exact h
                  | 14, h => exact h
                  | 15, h => exact h
                  | 16, h => exact h
                  | 17, h => exact h
                  | 18, h => exact h
                  | 19, h => exact h
                  | i + 20, h => exact h
                · intro i o ho b w1 hx hmiss hdep K hK
                  match i, ho with
                  | 0, ho =>
                    obtain rfl := Option.some.inj ho
                    have e16 : b.tmps[16]? = some (.pointer (some ⟨bx, 0, none⟩)) := hmiss 16 rfl
                    refine want_none rfl ?_
                    exact op_loadrow rfl (eval_of e16) (HBX.out.ext hx) _ Tryd.underlying32 rfl (by kernel_rfl) (hK _ w1 (Ext.refl _) rfl)
                  | 1, ho =>
                    obtain rfl := Option.some.inj ho
                    have e17 : b.tmps[17]? = some (.pointer (some ⟨by_, 0, none⟩)) := hmiss 17 rfl
                    refine want_none rfl ?_
                    exact op_loadrow rfl (eval_of e17) (HBY.out.ext hx) _ Tryd.underlying32 rfl (by kernel_rfl) (hK _ w1 (Ext.refl _) rfl)
                  | 2, ho =>
                    obtain rfl := Option.some.inj ho
                    obtain ⟨v104, g104, e104⟩ := hdep 0 rfl
                    have g104 : v104 = .agg x.cells.toArray := g104
                    subst g104
                    have e104 := e104 104 rfl
                    obtain ⟨v105, g105, e105⟩ := hdep 1 rfl
                    have g105 : v105 = .agg y.cells.toArray := g105
                    subst g105
                    have e105 := e105 105 rfl
                    refine want_none rfl ?_
                    exact op_run (by unfold execOp; simp [e104, e105, Act.eval, go_sem, h1]) (hK _ w1 (Ext.refl _) rfl)
                  | 3, ho =>
                    obtain rfl := Option.some.inj ho
                    obtain ⟨v106, g106, e106⟩ := hdep 2 rfl
                    have g106 : v106 = .bool true := g106
                    subst g106
                    have e106 := e106 106 rfl
                    refine want_none rfl ?_
                    exact op_move rfl (eval_of e106) (hK _ w1 (Ext.refl _) rfl)
                  | 4, ho =>
                    obtain rfl := Option.some.inj ho
                    obtain ⟨vg, gg, eg⟩ := hdep 3 rfl
                    have gg : vg = .bool true := gg
                    subst gg
                    have eg := eg 107 rfl
                    exact want_no rfl rfl (.inl eg) (hK _ w1 (Ext.refl _) rfl)
                  | 5, ho =>
                    obtain rfl := Option.some.inj ho
                    obtain ⟨vg, gg, eg⟩ := hdep 3 rfl
                    have gg : vg = .bool true := gg
                    subst gg
                    have eg := eg 107 rfl
                    exact want_no rfl rfl (.inl eg) (hK _ w1 (Ext.refl _) rfl)
                  | 6, ho =>
                    obtain rfl := Option.some.inj ho
                    obtain ⟨vg, gg, eg⟩ := hdep 3 rfl
                    have gg : vg = .bool true := gg
                    subst gg
                    have eg := eg 107 rfl
                    exact want_no rfl rfl (.inl eg) (hK _ w1 (Ext.refl _) rfl)
                  | 7, ho =>
                    obtain rfl := Option.some.inj ho
                    obtain ⟨vg, gg, eg⟩ := hdep 3 rfl
                    have gg : vg = .bool true := gg
                    subst gg
                    have eg := eg 107 rfl
                    exact want_no rfl rfl (.inl eg) (hK _ w1 (Ext.refl _) rfl)
                  | 8, ho =>
                    obtain rfl := Option.some.inj ho
                    obtain ⟨vg, gg, eg⟩ := hdep 3 rfl
                    have gg : vg = .bool true := gg
                    subst gg
                    have eg := eg 107 rfl
                    exact want_no rfl rfl (.inl eg) (hK _ w1 (Ext.refl _) rfl)
                  | 9, ho =>
                    obtain rfl := Option.some.inj ho
                    obtain ⟨v107, g107, e107⟩ := hdep 3 rfl
                    have g107 : v107 = .bool true := g107
                    subst g107
                    have e107 := e107 107 rfl
                    obtain ⟨v112, g112, e112⟩ := hdep 8 rfl
                    have g112 : v112 = undef := g112
                    subst g112
                    have e112 := e112 112 rfl
                    refine want_none rfl ?_
                    exact op_run (by unfold execOp; simp [e107, e112, Act.eval, go_sem]) (hK _ w1 (Ext.refl _) rfl)
                  | 10, ho =>
                    obtain rfl := Option.some.inj ho
                    obtain ⟨v113, g113, e113⟩ := hdep 9 rfl
                    have g113 : v113 = .bool true := g113
                    subst g113
                    have e113 := e113 113 rfl
                    refine want_none rfl ?_
                    exact op_move rfl (eval_of e113) (hK _ w1 (Ext.refl _) rfl)
                  | 11, ho =>
                    obtain rfl := Option.some.inj ho
                    obtain ⟨vg, gg, eg⟩ := hdep 10 rfl
                    have gg : vg = .bool true := gg
                    subst gg
                    have eg := eg 114 rfl
                    exact want_no rfl rfl (.inl eg) (hK _ w1 (Ext.refl _) rfl)
                  | 12, ho =>
                    obtain rfl := Option.some.inj ho
                    obtain ⟨vg, gg, eg⟩ := hdep 10 rfl
                    have gg : vg = .bool true := gg
                    subst gg
                    have eg := eg 114 rfl
                    exact want_no rfl rfl (.inl eg) (hK _ w1 (Ext.refl _) rfl)
                  | 13, ho =>
                    obtain rfl := Option.some.inj ho
                    obtain ⟨vg, gg, eg⟩ := hdep 10 rfl
                    have gg : vg = .bool true := gg
                    subst gg
                    have eg := eg 114 rfl
                    exact want_no rfl rfl (.inl eg) (hK _ w1 (Ext.refl _) rfl)
                  | 14, ho =>
                    obtain rfl := Option.some.inj ho
                    obtain ⟨v114, g114, e114⟩ := hdep 10 rfl
                    have g114 : v114 = .bool true := g114
                    subst g114
                    have e114 := e114 114 rfl
                    obtain ⟨v117, g117, e117⟩ := hdep 13 rfl
                    have g117 : v117 = undef := g117
                    subst g117
                    have e117 := e117 117 rfl
                    refine want_none rfl ?_
                    exact op_run (by unfold execOp; simp [e114, e117, Act.eval, go_sem]) (hK _ w1 (Ext.refl _) rfl)
                  | 15, ho =>
                    obtain rfl := Option.some.inj ho
                    obtain ⟨v118, g118, e118⟩ := hdep 14 rfl
                    have g118 : v118 = .bool true := g118
                    subst g118
                    have e118 := e118 118 rfl
                    refine want_none rfl ?_
                    exact op_move rfl (eval_of e118) (hK _ w1 (Ext.refl _) rfl)
                  | 16, ho =>
                    obtain rfl := Option.some.inj ho
                    obtain ⟨vg, gg, eg⟩ := hdep 15 rfl
                    have gg : vg = .bool true := gg
                    subst gg
                    have eg := eg 119 rfl
                    exact want_no rfl rfl (.inl eg) (hK _ w1 (Ext.refl _) rfl)
                  | 17, ho =>
                    obtain rfl := Option.some.inj ho
                    obtain ⟨vg, gg, eg⟩ := hdep 15 rfl
                    have gg : vg = .bool true := gg
                    subst gg
                    have eg := eg 119 rfl
                    exact want_no rfl rfl (.inl eg) (hK _ w1 (Ext.refl _) rfl)
                  | 18, ho =>
                    obtain rfl := Option.some.inj ho
                    obtain ⟨vg, gg, eg⟩ := hdep 15 rfl
                    have gg : vg = .bool true := gg
                    subst gg
                    have eg := eg 119 rfl
                    exact want_no rfl rfl (.inl eg) (hK _ w1 (Ext.refl _) rfl)
                  | 19, ho =>
                    obtain rfl := Option.some.inj ho
                    obtain ⟨v119, g119, e119⟩ := hdep 15 rfl
                    have g119 : v119 = .bool true := g119
                    subst g119
                    have e119 := e119 119 rfl
                    obtain ⟨v122, g122, e122⟩ := hdep 18 rfl
                    have g122 : v122 = undef := g122
                    subst g122
                    have e122 := e122 122 rfl
                    refine want_none rfl ?_
                    exact op_run (by unfold execOp; simp [e119, e122, Act.eval, go_sem]) (hK _ w1 (Ext.refl _) rfl)
                  | i + 20, ho => cases ho
                · intro V w9 hx hg
                  have g0 : V 0 = .agg x.cells.toArray := hg 0 (by decide)
                  have g1 : V 1 = .agg y.cells.toArray := hg 1 (by decide)
                  have g2 : V 2 = .bool true := hg 2 (by decide)
                  have g3 : V 3 = .bool true := hg 3 (by decide)
                  have g4 : V 4 = undef := hg 4 (by decide)
                  have g5 : V 5 = undef := hg 5 (by decide)
                  have g6 : V 6 = undef := hg 6 (by decide)
                  have g7 : V 7 = undef := hg 7 (by decide)
                  have g8 : V 8 = undef := hg 8 (by decide)
                  have g9 : V 9 = .bool true := hg 9 (by decide)
                  have g10 : V 10 = .bool true := hg 10 (by decide)
                  have g11 : V 11 = undef := hg 11 (by decide)
                  have g12 : V 12 = undef := hg 12 (by decide)
                  have g13 : V 13 = undef := hg 13 (by decide)
                  have g14 : V 14 = .bool true := hg 14 (by decide)
                  have g15 : V 15 = .bool true := hg 15 (by decide)
                  have g16 : V 16 = undef := hg 16 (by decide)
                  have g17 : V 17 = undef := hg 17 (by decide)
                  have g18 : V 18 = undef := hg 18 (by decide)
                  have g19 : V 19 = .bool true := hg 19 (by decide)
                  simp only [List.length_cons, List.length_nil, fillAllN, dstOf, Act.put, List.getElem?_toArray, List.getElem?_cons_zero, List.getElem?_cons_succ, Option.bind_some, g0, g1, g2, g3, g4, g5, g6, g7, g8, g9, g10, g11, g12, g13, g14, g15, g16, g17, g18, g19, List.setIfInBounds_toArray, List.set_cons_zero, List.set_cons_succ]
                  clear g0 g1 g2 g3 g4 g5 g6 g7 g8 g9 g10 g11 g12 g13 g14 g15 g16 g17 g18 g19 hg
                  have HXn := Lib.hid (HXab.out.trans hx)
                  clear hx h1
                  go_wp2_with fail
                  go_roundw
                  case rel => exact ⟨k + 1, by rw [HJJ.out], .inr (by rw [HJJ.out] at hlt; omega), HXn.out⟩
                  case measure => rw [HJJ.out]; simp [intOf]; omega
              rw [decide_eq_false hxy] at h1
              by_cases hnm : nmE x ≠ nmE y
              · rw [decide_eq_true hnm] at h2
                refine wp_region_rel (fun i v w' => match i with
                    | 0 => v = .agg x.cells.toArray
                    | 1 => v = .agg y.cells.toArray
                    | 2 => v = .bool false
                    | 3 => v = .bool false
                    | 4 => v = .agg x.cells.toArray
                    | 5 => v = .agg (nmE x).cells.toArray
                    | 6 => v = .agg y.cells.toArray
                    | 7 => v = .agg (nmE y).cells.toArray
                    | 8 => v = .bool true
                    | 9 => v = .bool true
                    | 10 => v = .bool true
                    | 11 => v = undef
                    | 12 => v = undef
                    | 13 => v = undef
                    | 14 => v = .bool true
                    | 15 => v = .bool true
                    | 16 => v = undef
                    | 17 => v = undef
                    | 18 => v = undef
                    | 19 => v = .bool true
                    | _ => True) hm (by kernel_rfl) (by kernel_rfl) rfl ?_ ?_ ?_
                · intro i v w1 w2 hx h
                  match i, h with
                  | 0, h => exact h
                  | 1, h => exact h
                  | 2, h => exact h
                  | 3, h => exact h
                  | 4, h => exact h
                  | 5, h => exact h
                  | 6, h => exact h
                  | 7, h => exact h
                  | 8, h => exact h
                  | 9, h => exact h
                  | 10, h => exact h
                  | 11, h => exact h
                  | 12, h => exact h
                  | 13, h => exact h
                  | 14, h => exact h
                  | 15, h => exact h
                  | 16, h => exact h
                  | 17, h => exact h
                  | 18, h => exact h
                  | 19, h => exact h
                  | i + 20, h => exact h
                · intro i o ho b w1 hx hmiss hdep K hK
                  match i, ho with
                  | 0, ho =>
                    obtain rfl := Option.some.inj ho
                    have e16 : b.tmps[16]? = some (.pointer (some ⟨bx, 0, none⟩)) := hmiss 16 rfl
                    refine want_none rfl ?_
                    exact op_loadrow rfl (eval_of e16) (HBX.out.ext hx) _ Tryd.underlying32 rfl (by kernel_rfl) (hK _ w1 (Ext.refl _) rfl)
                  | 1, ho =>
                    obtain rfl := Option.some.inj ho
                    have e17 : b.tmps[17]? = some (.pointer (some ⟨by_, 0, none⟩)) := hmiss 17 rfl
                    refine want_none rfl ?_
                    exact op_loadrow rfl (eval_of e17) (HBY.out.ext hx) _ Tryd.underlying32 rfl (by kernel_rfl) (hK _ w1 (Ext.refl _) rfl)
                  | 2, ho =>
                    obtain rfl := Option.some.inj ho
                    obtain ⟨v104, g104, e104⟩ := hdep 0 rfl
                    have g104 : v104 = .agg x.cells.toArray := g104
                    subst g104
                    have e104 := e104 104 rfl
                    obtain ⟨v105, g105, e105⟩ := hdep 1 rfl
                    have g105 : v105 = .agg y.cells.toArray := g105
                    subst g105
                    have e105 := e105 105 rfl
                    refine want_none rfl ?_
                    exact op_run (by unfold execOp; simp [e104, e105, Act.eval, go_sem, h1]) (hK _ w1 (Ext.refl _) rfl)
                  | 3, ho =>
                    obtain rfl := Option.some.inj ho
                    obtain ⟨v106, g106, e106⟩ := hdep 2 rfl
                    have g106 : v106 = .bool false := g106
                    subst g106
                    have e106 := e106 106 rfl
                    refine want_none rfl ?_
                    exact op_move rfl (eval_of e106) (hK _ w1 (Ext.refl _) rfl)
                  | 4, ho =>
                    obtain rfl := Option.some.inj ho
                    have e16 : b.tmps[16]? = some (.pointer (some ⟨bx, 0, none⟩)) := hmiss 16 rfl
                    obtain ⟨vg, gg, eg⟩ := hdep 3 rfl
                    have gg : vg = .bool false := gg
                    subst gg
                    have eg := eg 107 rfl
                    refine want_yes rfl rfl eg ?_
                    exact op_loadrow rfl (eval_of e16) (HBX.out.ext hx) _ Tryd.underlying32 rfl (by kernel_rfl) (hK _ w1 (Ext.refl _) rfl)
                  | 5, ho =>
                    obtain rfl := Option.some.inj ho
                    obtain ⟨v108, g108, e108⟩ := hdep 4 rfl
                    have g108 : v108 = .agg x.cells.toArray := g108
                    subst g108
                    have e108 := e108 108 rfl
                    obtain ⟨vg, gg, eg⟩ := hdep 3 rfl
                    have gg : vg = .bool false := gg
                    subst gg
                    have eg := eg 107 rfl
                    refine want_yes rfl rfl eg ?_
                    have hc : Calls Tryd.prog 24 #[.agg x.cells.toArray] w1 fun e w' => ∃ v, e = .returned v ∧ Ext w1 w' ∧ (v = .agg (nmE x).cells.toArray) := (Name_any x w1).mono fun e w2 ⟨h1, h2⟩ => ⟨_, h1, h2, rfl⟩
                    exact op_call (G := fun v w' => v = .agg (nmE x).cells.toArray) rfl (by simp [eval_of e108]) (fun _ _ => by kernel_rfl) hc (fun v w' h1 h2 => hK v w' h1 h2)
                  | 6, ho =>
                    obtain rfl := Option.some.inj ho
                    have e17 : b.tmps[17]? = some (.pointer (some ⟨by_, 0, none⟩)) := hmiss 17 rfl
                    obtain ⟨vg, gg, eg⟩ := hdep 3 rfl
                    have gg : vg = .bool false := gg
                    subst gg
                    have eg := eg 107 rfl
                    refine want_yes rfl rfl eg ?_
                    exact op_loadrow rfl (eval_of e17) (HBY.out.ext hx) _ Tryd.underlying32 rfl (by kernel_rfl) (hK _ w1 (Ext.refl _) rfl)
                  | 7, ho =>
                    obtain rfl := Option.some.inj ho
                    obtain ⟨v110, g110, e110⟩ := hdep 6 rfl
                    have g110 : v110 = .agg y.cells.toArray := g110
                    subst g110
                    have e110 := e110 110 rfl
                    obtain ⟨vg, gg, eg⟩ := hdep 3 rfl
                    have gg : vg = .bool false := gg
                    subst gg
                    have eg := eg 107 rfl
                    refine want_yes rfl rfl eg ?_
                    have hc : Calls Tryd.prog 24 #[.agg y.cells.toArray] w1 fun e w' => ∃ v, e = .returned v ∧ Ext w1 w' ∧ (v = .agg (nmE y).cells.toArray) := (Name_any y w1).mono fun e w2 ⟨h1, h2⟩ => ⟨_, h1, h2, rfl⟩
                    exact op_call (G := fun v w' => v = .agg (nmE y).cells.toArray) rfl (by simp [eval_of e110]) (fun _ _ => by kernel_rfl) hc (fun v w' h1 h2 => hK v w' h1 h2)
                  | 8, ho =>
                    obtain rfl := Option.some.inj ho
                    obtain ⟨v109, g109, e109⟩ := hdep 5 rfl
                    obtain rfl := g109
                    have e109 := e109 109 rfl
                    obtain ⟨v111, g111, e111⟩ := hdep 7 rfl
                    obtain rfl := g111
                    have e111 := e111 111 rfl
                    obtain ⟨vg, gg, eg⟩ := hdep 3 rfl
                    have gg : vg = .bool false := gg
                    subst gg
                    have eg := eg 107 rfl
                    refine want_yes rfl rfl eg ?_
                    exact op_run (by unfold execOp; simp [e109, e111, Act.eval, go_sem, h2]) (hK _ w1 (Ext.refl _) rfl)
                  | 9, ho =>
                    obtain rfl := Option.some.inj ho
                    obtain ⟨v107, g107, e107⟩ := hdep 3 rfl
                    have g107 : v107 = .bool false := g107
                    subst g107
                    have e107 := e107 107 rfl
                    obtain ⟨v112, g112, e112⟩ := hdep 8 rfl
                    have g112 : v112 = .bool true := g112
                    subst g112
                    have e112 := e112 112 rfl
                    refine want_none rfl ?_
                    exact op_run (by unfold execOp; simp [e107, e112, Act.eval, go_sem]) (hK _ w1 (Ext.refl _) rfl)
                  | 10, ho =>
                    obtain rfl := Option.some.inj ho
                    obtain ⟨v113, g113, e113⟩ := hdep 9 rfl
                    have g113 : v113 = .bool true := g113
                    subst g113
                    have e113 := e113 113 rfl
                    refine want_none rfl ?_
                    exact op_move rfl (eval_of e113) (hK _ w1 (Ext.refl _) rfl)
                  | 11, ho =>
                    obtain rfl := Option.some.inj ho
                    obtain ⟨vg, gg, eg⟩ := hdep 10 rfl
                    have gg : vg = .bool true := gg
                    subst gg
                    have eg := eg 114 rfl
                    exact want_no rfl rfl (.inl eg) (hK _ w1 (Ext.refl _) rfl)
                  | 12, ho =>
                    obtain rfl := Option.some.inj ho
                    obtain ⟨vg, gg, eg⟩ := hdep 10 rfl
                    have gg : vg = .bool true := gg
                    subst gg
                    have eg := eg 114 rfl
                    exact want_no rfl rfl (.inl eg) (hK _ w1 (Ext.refl _) rfl)
                  | 13, ho =>
                    obtain rfl := Option.some.inj ho
                    obtain ⟨vg, gg, eg⟩ := hdep 10 rfl
                    have gg : vg = .bool true := gg
                    subst gg
                    have eg := eg 114 rfl
                    exact want_no rfl rfl (.inl eg) (hK _ w1 (Ext.refl _) rfl)
                  | 14, ho =>
                    obtain rfl := Option.some.inj ho
                    obtain ⟨v114, g114, e114⟩ := hdep 10 rfl
                    have g114 : v114 = .bool true := g114
                    subst g114
                    have e114 := e114 114 rfl
                    obtain ⟨v117, g117, e117⟩ := hdep 13 rfl
                    have g117 : v117 = undef := g117
                    subst g117
                    have e117 := e117 117 rfl
                    refine want_none rfl ?_
                    exact op_run (by unfold execOp; simp [e114, e117, Act.eval, go_sem]) (hK _ w1 (Ext.refl _) rfl)
                  | 15, ho =>
                    obtain rfl := Option.some.inj ho
                    obtain ⟨v118, g118, e118⟩ := hdep 14 rfl
                    have g118 : v118 = .bool true := g118
                    subst g118
                    have e118 := e118 118 rfl
                    refine want_none rfl ?_
                    exact op_move rfl (eval_of e118) (hK _ w1 (Ext.refl _) rfl)
                  | 16, ho =>
                    obtain rfl := Option.some.inj ho
                    obtain ⟨vg, gg, eg⟩ := hdep 15 rfl
                    have gg : vg = .bool true := gg
                    subst gg
                    have eg := eg 119 rfl
                    exact want_no rfl rfl (.inl eg) (hK _ w1 (Ext.refl _) rfl)
                  | 17, ho =>
                    obtain rfl := Option.some.inj ho
                    obtain ⟨vg, gg, eg⟩ := hdep 15 rfl
                    have gg : vg = .bool true := gg
                    subst gg
                    have eg := eg 119 rfl
                    exact want_no rfl rfl (.inl eg) (hK _ w1 (Ext.refl _) rfl)
                  | 18, ho =>
                    obtain rfl := Option.some.inj ho
                    obtain ⟨vg, gg, eg⟩ := hdep 15 rfl
                    have gg : vg = .bool true := gg
                    subst gg
                    have eg := eg 119 rfl
                    exact want_no rfl rfl (.inl eg) (hK _ w1 (Ext.refl _) rfl)
                  | 19, ho =>
                    obtain rfl := Option.some.inj ho
                    obtain ⟨v119, g119, e119⟩ := hdep 15 rfl
                    have g119 : v119 = .bool true := g119
                    subst g119
                    have e119 := e119 119 rfl
                    obtain ⟨v122, g122, e122⟩ := hdep 18 rfl
                    have g122 : v122 = undef := g122
                    subst g122
                    have e122 := e122 122 rfl
                    refine want_none rfl ?_
                    exact op_run (by unfold execOp; simp [e119, e122, Act.eval, go_sem]) (hK _ w1 (Ext.refl _) rfl)
                  | i + 20, ho => cases ho
                · intro V w9 hx hg
                  have g0 : V 0 = .agg x.cells.toArray := hg 0 (by decide)
                  have g1 : V 1 = .agg y.cells.toArray := hg 1 (by decide)
                  have g2 : V 2 = .bool false := hg 2 (by decide)
                  have g3 : V 3 = .bool false := hg 3 (by decide)
                  have g4 : V 4 = .agg x.cells.toArray := hg 4 (by decide)
                  have g6 : V 6 = .agg y.cells.toArray := hg 6 (by decide)
                  have g8 : V 8 = .bool true := hg 8 (by decide)
                  have g9 : V 9 = .bool true := hg 9 (by decide)
                  have g10 : V 10 = .bool true := hg 10 (by decide)
                  have g11 : V 11 = undef := hg 11 (by decide)
                  have g12 : V 12 = undef := hg 12 (by decide)
                  have g13 : V 13 = undef := hg 13 (by decide)
                  have g14 : V 14 = .bool true := hg 14 (by decide)
                  have g15 : V 15 = .bool true := hg 15 (by decide)
                  have g16 : V 16 = undef := hg 16 (by decide)
                  have g17 : V 17 = undef := hg 17 (by decide)
                  have g18 : V 18 = undef := hg 18 (by decide)
                  have g19 : V 19 = .bool true := hg 19 (by decide)
                  have g5 := hg 5 (by decide)
                  have g7 := hg 7 (by decide)
                  simp only [List.length_cons, List.length_nil, fillAllN, dstOf, Act.put, List.getElem?_toArray, List.getElem?_cons_zero, List.getElem?_cons_succ, Option.bind_some, g0, g1, g2, g3, g4, g6, g8, g9, g10, g11, g12, g13, g14, g15, g16, g17, g18, g19, List.setIfInBounds_toArray, List.set_cons_zero, List.set_cons_succ]
                  clear g0 g1 g2 g3 g4 g6 g8 g9 g10 g11 g12 g13 g14 g15 g16 g17 g18 g19 hg
                  have HXn := Lib.hid (HXab.out.trans hx)
                  clear hx h1 h2
                  go_wp2_with fail
                  go_roundw
                  case rel => exact ⟨k + 1, by rw [HJJ.out], .inr (by rw [HJJ.out] at hlt; omega), HXn.out⟩
                  case measure => rw [HJJ.out]; simp [intOf]; omega
              rw [decide_eq_false hnm] at h2
              have hnm : nmE x = nmE y := by simpa using hnm
              cases hfx : formedE x
              · rw [hfx] at HFX
                refine wp_region_rel (fun i v w' => match i with
                    | 0 => v = .agg x.cells.toArray
                    | 1 => v = .agg y.cells.toArray
                    | 2 => v = .bool false
                    | 3 => v = .bool false
                    | 4 => v = .agg x.cells.toArray
                    | 5 => v = .agg (nmE x).cells.toArray
                    | 6 => v = .agg y.cells.toArray
                    | 7 => v = .agg (nmE y).cells.toArray
                    | 8 => v = .bool false
                    | 9 => v = .bool false
                    | 10 => v = .bool false
                    | 11 => v = .agg x.cells.toArray
                    | 12 => v = .bool false
                    | 13 => v = .bool true
                    | 14 => v = .bool true
                    | 15 => v = .bool true
                    | 16 => v = undef
                    | 17 => v = undef
                    | 18 => v = undef
                    | 19 => v = .bool true
                    | _ => True) hm (by kernel_rfl) (by kernel_rfl) rfl ?_ ?_ ?_
                · intro i v w1 w2 hx h
                  match i, h with
                  | 0, h => exact h
                  | 1, h => exact h
                  | 2, h => exact h
                  | 3, h => exact h
                  | 4, h => exact h
                  | 5, h => exact h
                  | 6, h => exact h
                  | 7, h => exact h
                  | 8, h => exact h
                  | 9, h => exact h
                  | 10, h => exact h
                  | 11, h => exact h
                  | 12, h => exact h
                  | 13, h => exact h
                  | 14, h => exact h
                  | 15, h => exact h
                  | 16, h => exact h
                  | 17, h => exact h
                  | 18, h => exact h
                  | 19, h => exact h
                  | i + 20, h => exact h
                · intro i o ho b w1 hx hmiss hdep K hK
                  match i, ho with
                  | 0, ho =>
                    obtain rfl := Option.some.inj ho
                    have e16 : b.tmps[16]? = some (.pointer (some ⟨bx, 0, none⟩)) := hmiss 16 rfl
                    refine want_none rfl ?_
                    exact op_loadrow rfl (eval_of e16) (HBX.out.ext hx) _ Tryd.underlying32 rfl (by kernel_rfl) (hK _ w1 (Ext.refl _) rfl)
                  | 1, ho =>
                    obtain rfl := Option.some.inj ho
                    have e17 : b.tmps[17]? = some (.pointer (some ⟨by_, 0, none⟩)) := hmiss 17 rfl
                    refine want_none rfl ?_
                    exact op_loadrow rfl (eval_of e17) (HBY.out.ext hx) _ Tryd.underlying32 rfl (by kernel_rfl) (hK _ w1 (Ext.refl _) rfl)
                  | 2, ho =>
                    obtain rfl := Option.some.inj ho
                    obtain ⟨v104, g104, e104⟩ := hdep 0 rfl
                    have g104 : v104 = .agg x.cells.toArray := g104
                    subst g104
                    have e104 := e104 104 rfl
                    obtain ⟨v105, g105, e105⟩ := hdep 1 rfl
                    have g105 : v105 = .agg y.cells.toArray := g105
                    subst g105
                    have e105 := e105 105 rfl
                    refine want_none rfl ?_
                    exact op_run (by unfold execOp; simp [e104, e105, Act.eval, go_sem, h1]) (hK _ w1 (Ext.refl _) rfl)
                  | 3, ho =>
                    obtain rfl := Option.some.inj ho
                    obtain ⟨v106, g106, e106⟩ := hdep 2 rfl
                    have g106 : v106 = .bool false := g106
                    subst g106
                    have e106 := e106 106 rfl
                    refine want_none rfl ?_
                    exact op_move rfl (eval_of e106) (hK _ w1 (Ext.refl _) rfl)
                  | 4, ho =>
                    obtain rfl := Option.some.inj ho
                    have e16 : b.tmps[16]? = some (.pointer (some ⟨bx, 0, none⟩)) := hmiss 16 rfl
                    obtain ⟨vg, gg, eg⟩ := hdep 3 rfl
                    have gg : vg = .bool false := gg
                    subst gg
                    have eg := eg 107 rfl
                    refine want_yes rfl rfl eg ?_
                    exact op_loadrow rfl (eval_of e16) (HBX.out.ext hx) _ Tryd.underlying32 rfl (by kernel_rfl) (hK _ w1 (Ext.refl _) rfl)
                  | 5, ho =>
                    obtain rfl := Option.some.inj ho
                    obtain ⟨v108, g108, e108⟩ := hdep 4 rfl
                    have g108 : v108 = .agg x.cells.toArray := g108
                    subst g108
                    have e108 := e108 108 rfl
                    obtain ⟨vg, gg, eg⟩ := hdep 3 rfl
                    have gg : vg = .bool false := gg
                    subst gg
                    have eg := eg 107 rfl
                    refine want_yes rfl rfl eg ?_
                    have hc : Calls Tryd.prog 24 #[.agg x.cells.toArray] w1 fun e w' => ∃ v, e = .returned v ∧ Ext w1 w' ∧ (v = .agg (nmE x).cells.toArray) := (Name_any x w1).mono fun e w2 ⟨h1, h2⟩ => ⟨_, h1, h2, rfl⟩
                    exact op_call (G := fun v w' => v = .agg (nmE x).cells.toArray) rfl (by simp [eval_of e108]) (fun _ _ => by kernel_rfl) hc (fun v w' h1 h2 => hK v w' h1 h2)
                  | 6, ho =>
                    obtain rfl := Option.some.inj ho
                    have e17 : b.tmps[17]? = some (.pointer (some ⟨by_, 0, none⟩)) := hmiss 17 rfl
                    obtain ⟨vg, gg, eg⟩ := hdep 3 rfl
                    have gg : vg = .bool false := gg
                    subst gg
                    have eg := eg 107 rfl
                    refine want_yes rfl rfl eg ?_
                    exact op_loadrow rfl (eval_of e17) (HBY.out.ext hx) _ Tryd.underlying32 rfl (by kernel_rfl) (hK _ w1 (Ext.refl _) rfl)
                  | 7, ho =>
                    obtain rfl := Option.some.inj ho
                    obtain ⟨v110, g110, e110⟩ := hdep 6 rfl
                    have g110 : v110 = .agg y.cells.toArray := g110
                    subst g110
                    have e110 := e110 110 rfl
                    obtain ⟨vg, gg, eg⟩ := hdep 3 rfl
                    have gg : vg = .bool false := gg
                    subst gg
                    have eg := eg 107 rfl
                    refine want_yes rfl rfl eg ?_
                    have hc : Calls Tryd.prog 24 #[.agg y.cells.toArray] w1 fun e w' => ∃ v, e = .returned v ∧ Ext w1 w' ∧ (v = .agg (nmE y).cells.toArray) := (Name_any y w1).mono fun e w2 ⟨h1, h2⟩ => ⟨_, h1, h2, rfl⟩
                    exact op_call (G := fun v w' => v = .agg (nmE y).cells.toArray) rfl (by simp [eval_of e110]) (fun _ _ => by kernel_rfl) hc (fun v w' h1 h2 => hK v w' h1 h2)
                  | 8, ho =>
                    obtain rfl := Option.some.inj ho
                    obtain ⟨v109, g109, e109⟩ := hdep 5 rfl
                    obtain rfl := g109
                    have e109 := e109 109 rfl
                    obtain ⟨v111, g111, e111⟩ := hdep 7 rfl
                    obtain rfl := g111
                    have e111 := e111 111 rfl
                    obtain ⟨vg, gg, eg⟩ := hdep 3 rfl
                    have gg : vg = .bool false := gg
                    subst gg
                    have eg := eg 107 rfl
                    refine want_yes rfl rfl eg ?_
                    exact op_run (by unfold execOp; simp [e109, e111, Act.eval, go_sem, h2]) (hK _ w1 (Ext.refl _) rfl)
                  | 9, ho =>
                    obtain rfl := Option.some.inj ho
                    obtain ⟨v107, g107, e107⟩ := hdep 3 rfl
                    have g107 : v107 = .bool false := g107
                    subst g107
                    have e107 := e107 107 rfl
                    obtain ⟨v112, g112, e112⟩ := hdep 8 rfl
                    have g112 : v112 = .bool false := g112
                    subst g112
                    have e112 := e112 112 rfl
                    refine want_none rfl ?_
                    exact op_run (by unfold execOp; simp [e107, e112, Act.eval, go_sem]) (hK _ w1 (Ext.refl _) rfl)
                  | 10, ho =>
                    obtain rfl := Option.some.inj ho
                    obtain ⟨v113, g113, e113⟩ := hdep 9 rfl
                    have g113 : v113 = .bool false := g113
                    subst g113
                    have e113 := e113 113 rfl
                    refine want_none rfl ?_
                    exact op_move rfl (eval_of e113) (hK _ w1 (Ext.refl _) rfl)
                  | 11, ho =>
                    obtain rfl := Option.some.inj ho
                    have e16 : b.tmps[16]? = some (.pointer (some ⟨bx, 0, none⟩)) := hmiss 16 rfl
                    obtain ⟨vg, gg, eg⟩ := hdep 10 rfl
                    have gg : vg = .bool false := gg
                    subst gg
                    have eg := eg 114 rfl
                    refine want_yes rfl rfl eg ?_
                    exact op_loadrow rfl (eval_of e16) (HBX.out.ext hx) _ Tryd.underlying32 rfl (by kernel_rfl) (hK _ w1 (Ext.refl _) rfl)
                  | 12, ho =>
                    obtain rfl := Option.some.inj ho
                    obtain ⟨v115, g115, e115⟩ := hdep 11 rfl
                    have g115 : v115 = .agg x.cells.toArray := g115
                    subst g115
                    have e115 := e115 115 rfl
                    obtain ⟨vg, gg, eg⟩ := hdep 10 rfl
                    have gg : vg = .bool false := gg
                    subst gg
                    have eg := eg 114 rfl
                    refine want_yes rfl rfl eg ?_
                    have hc : Calls Tryd.prog 27 #[.agg x.cells.toArray] w1 fun e w' => ∃ v, e = .returned v ∧ Ext w1 w' ∧ (v = .bool false) := (HFX.out w1).mono fun e w2 ⟨h1, h2⟩ => ⟨_, h1, h2, rfl⟩
                    exact op_call (G := fun v w' => v = .bool false) rfl (by simp [eval_of e115]) (fun _ _ => by kernel_rfl) hc (fun v w' h1 h2 => hK v w' h1 h2)
                  | 13, ho =>
                    obtain rfl := Option.some.inj ho
                    obtain ⟨v116, g116, e116⟩ := hdep 12 rfl
                    obtain rfl := g116
                    have e116 := e116 116 rfl
                    obtain ⟨vg, gg, eg⟩ := hdep 10 rfl
                    have gg : vg = .bool false := gg
                    subst gg
                    have eg := eg 114 rfl
                    refine want_yes rfl rfl eg ?_
                    exact op_run (by unfold execOp; simp [e116, Act.eval, go_sem]) (hK _ w1 (Ext.refl _) rfl)
                  | 14, ho =>
                    obtain rfl := Option.some.inj ho
                    obtain ⟨v114, g114, e114⟩ := hdep 10 rfl
                    have g114 : v114 = .bool false := g114
                    subst g114
                    have e114 := e114 114 rfl
                    obtain ⟨v117, g117, e117⟩ := hdep 13 rfl
                    have g117 : v117 = .bool true := g117
                    subst g117
                    have e117 := e117 117 rfl
                    refine want_none rfl ?_
                    exact op_run (by unfold execOp; simp [e114, e117, Act.eval, go_sem]) (hK _ w1 (Ext.refl _) rfl)
                  | 15, ho =>
                    obtain rfl := Option.some.inj ho
                    obtain ⟨v118, g118, e118⟩ := hdep 14 rfl
                    have g118 : v118 = .bool true := g118
                    subst g118
                    have e118 := e118 118 rfl
                    refine want_none rfl ?_
                    exact op_move rfl (eval_of e118) (hK _ w1 (Ext.refl _) rfl)
                  | 16, ho =>
                    obtain rfl := Option.some.inj ho
                    obtain ⟨vg, gg, eg⟩ := hdep 15 rfl
                    have gg : vg = .bool true := gg
                    subst gg
                    have eg := eg 119 rfl
                    exact want_no rfl rfl (.inl eg) (hK _ w1 (Ext.refl _) rfl)
                  | 17, ho =>
                    obtain rfl := Option.some.inj ho
                    obtain ⟨vg, gg, eg⟩ := hdep 15 rfl
                    have gg : vg = .bool true := gg
                    subst gg
                    have eg := eg 119 rfl
                    exact want_no rfl rfl (.inl eg) (hK _ w1 (Ext.refl _) rfl)
                  | 18, ho =>
                    obtain rfl := Option.some.inj ho
                    obtain ⟨vg, gg, eg⟩ := hdep 15 rfl
                    have gg : vg = .bool true := gg
                    subst gg
                    have eg := eg 119 rfl
                    exact want_no rfl rfl (.inl eg) (hK _ w1 (Ext.refl _) rfl)
                  | 19, ho =>
                    obtain rfl := Option.some.inj ho
                    obtain ⟨v119, g119, e119⟩ := hdep 15 rfl
                    have g119 : v119 = .bool true := g119
                    subst g119
                    have e119 := e119 119 rfl
                    obtain ⟨v122, g122, e122⟩ := hdep 18 rfl
                    have g122 : v122 = undef := g122
                    subst g122
                    have e122 := e122 122 rfl
                    refine want_none rfl ?_
                    exact op_run (by unfold execOp; simp [e119, e122, Act.eval, go_sem]) (hK _ w1 (Ext.refl _) rfl)
                  | i + 20, ho => cases ho
                · intro V w9 hx hg
                  have g0 : V 0 = .agg x.cells.toArray := hg 0 (by decide)
                  have g1 : V 1 = .agg y.cells.toArray := hg 1 (by decide)
                  have g2 : V 2 = .bool false := hg 2 (by decide)
                  have g3 : V 3 = .bool false := hg 3 (by decide)
                  have g4 : V 4 = .agg x.cells.toArray := hg 4 (by decide)
                  have g6 : V 6 = .agg y.cells.toArray := hg 6 (by decide)
                  have g8 : V 8 = .bool false := hg 8 (by decide)
                  have g9 : V 9 = .bool false := hg 9 (by decide)
                  have g10 : V 10 = .bool false := hg 10 (by decide)
                  have g11 : V 11 = .agg x.cells.toArray := hg 11 (by decide)
                  have g13 : V 13 = .bool true := hg 13 (by decide)
                  have g14 : V 14 = .bool true := hg 14 (by decide)
                  have g15 : V 15 = .bool true := hg 15 (by decide)
                  have g16 : V 16 = undef := hg 16 (by decide)
                  have g17 : V 17 = undef := hg 17 (by decide)
                  have g18 : V 18 = undef := hg 18 (by decide)
                  have g19 : V 19 = .bool true := hg 19 (by decide)
                  have g5 := hg 5 (by decide)
                  have g7 := hg 7 (by decide)
                  have g12 := hg 12 (by decide)
                  simp only [List.length_cons, List.length_nil, fillAllN, dstOf, Act.put, List.getElem?_toArray, List.getElem?_cons_zero, List.getElem?_cons_succ, Option.bind_some, g0, g1, g2, g3, g4, g6, g8, g9, g10, g11, g13, g14, g15, g16, g17, g18, g19, List.setIfInBounds_toArray, List.set_cons_zero, List.set_cons_succ]
                  clear g0 g1 g2 g3 g4 g6 g8 g9 g10 g11 g13 g14 g15 g16 g17 g18 g19 hg
                  have HXn := Lib.hid (HXab.out.trans hx)
                  clear hx h1 h2
                  go_wp2_with fail
                  go_roundw
                  case rel => exact ⟨k + 1, by rw [HJJ.out], .inr (by rw [HJJ.out] at hlt; omega), HXn.out⟩
                  case measure => rw [HJJ.out]; simp [intOf]; omega
              rw [hfx] at HFX
              cases hfy : formedE y
              · rw [hfy] at HFY
                refine wp_region_rel (fun i v w' => match i with
                    | 0 => v = .agg x.cells.toArray
                    | 1 => v = .agg y.cells.toArray
                    | 2 => v = .bool false
                    | 3 => v = .bool false
                    | 4 => v = .agg x.cells.toArray
                    | 5 => v = .agg (nmE x).cells.toArray
                    | 6 => v = .agg y.cells.toArray
                    | 7 => v = .agg (nmE y).cells.toArray
                    | 8 => v = .bool false
                    | 9 => v = .bool false
                    | 10 => v = .bool false
                    | 11 => v = .agg x.cells.toArray
                    | 12 => v = .bool true
                    | 13 => v = .bool false
                    | 14 => v = .bool false
                    | 15 => v = .bool false
                    | 16 => v = .agg y.cells.toArray
                    | 17 => v = .bool false
                    | 18 => v = .bool true
                    | 19 => v = .bool true
                    | _ => True) hm (by kernel_rfl) (by kernel_rfl) rfl ?_ ?_ ?_
                · intro i v w1 w2 hx h
                  match i, h with
                  | 0, h => exact h
                  | 1, h => exact h
                  | 2, h => exact h
                  | 3, h => exact h
                  | 4, h => exact h
                  | 5, h => exact h
                  | 6, h => exact h
                  | 7, h => exact h
                  | 8, h => exact h
                  | 9, h => exact h
                  | 10, h => exact h
                  | 11, h => exact h
                  | 12, h => exact h
                  | 13, h => exact h
                  | 14, h => exact h
                  | 15, h => exact h
                  | 16, h => exact h
                  | 17, h => exact h
                  | 18, h => exact h
                  | 19, h => exact h
                  | i + 20, h => exact h
                · intro i o ho b w1 hx hmiss hdep K hK
                  match i, ho with
                  | 0, ho =>
                    obtain rfl := Option.some.inj ho
                    have e16 : b.tmps[16]? = some (.pointer (some ⟨bx, 0, none⟩)) := hmiss 16 rfl
                    refine want_none rfl ?_
                    exact op_loadrow rfl (eval_of e16) (HBX.out.ext hx) _ Tryd.underlying32 rfl (by kernel_rfl) (hK _ w1 (Ext.refl _) rfl)
                  | 1, ho =>
                    obtain rfl := Option.some.inj ho
                    have e17 : b.tmps[17]? = some (.pointer (some ⟨by_, 0, none⟩)) := hmiss 17 rfl
                    refine want_none rfl ?_
                    exact op_loadrow rfl (eval_of e17) (HBY.out.ext hx) _ Tryd.underlying32 rfl (by kernel_rfl) (hK _ w1 (Ext.refl _) rfl)
                  | 2, ho =>
                    obtain rfl := Option.some.inj ho
                    obtain ⟨v104, g104, e104⟩ := hdep 0 rfl
                    have g104 : v104 = .agg x.cells.toArray := g104
                    subst g104
                    have e104 := e104 104 rfl
                    obtain ⟨v105, g105, e105⟩ := hdep 1 rfl
                    have g105 : v105 = .agg y.cells.toArray := g105
                    subst g105
                    have e105 := e105 105 rfl
                    refine want_none rfl ?_
                    exact op_run (by unfold execOp; simp [e104, e105, Act.eval, go_sem, h1]) (hK _ w1 (Ext.refl _) rfl)
                  | 3, ho =>
                    obtain rfl := Option.some.inj ho
                    obtain ⟨v106, g106, e106⟩ := hdep 2 rfl
                    have g106 : v106 = .bool false := g106
                    subst g106
                    have e106 := e106 106 rfl
                    refine want_none rfl ?_
                    exact op_move rfl (eval_of e106) (hK _ w1 (Ext.refl _) rfl)
                  | 4, ho =>
                    obtain rfl := Option.some.inj ho
                    have e16 : b.tmps[16]? = some (.pointer (some ⟨bx, 0, none⟩)) := hmiss 16 rfl
                    obtain ⟨vg, gg, eg⟩ := hdep 3 rfl
                    have gg : vg = .bool false := gg
                    subst gg
                    have eg := eg 107 rfl
                    refine want_yes rfl rfl eg ?_
                    exact op_loadrow rfl (eval_of e16) (HBX.out.ext hx) _ Tryd.underlying32 rfl (by kernel_rfl) (hK _ w1 (Ext.refl _) rfl)
                  | 5, ho =>
                    obtain rfl := Option.some.inj ho
                    obtain ⟨v108, g108, e108⟩ := hdep 4 rfl
                    have g108 : v108 = .agg x.cells.toArray := g108
                    subst g108
                    have e108 := e108 108 rfl
                    obtain ⟨vg, gg, eg⟩ := hdep 3 rfl
                    have gg : vg = .bool false := gg
                    subst gg
                    have eg := eg 107 rfl
                    refine want_yes rfl rfl eg ?_
                    have hc : Calls Tryd.prog 24 #[.agg x.cells.toArray] w1 fun e w' => ∃ v, e = .returned v ∧ Ext w1 w' ∧ (v = .agg (nmE x).cells.toArray) := (Name_any x w1).mono fun e w2 ⟨h1, h2⟩ => ⟨_, h1, h2, rfl⟩
                    exact op_call (G := fun v w' => v = .agg (nmE x).cells.toArray) rfl (by simp [eval_of e108]) (fun _ _ => by kernel_rfl) hc (fun v w' h1 h2 => hK v w' h1 h2)
                  | 6, ho =>
                    obtain rfl := Option.some.inj ho
                    have e17 : b.tmps[17]? = some (.pointer (some ⟨by_, 0, none⟩)) := hmiss 17 rfl
                    obtain ⟨vg, gg, eg⟩ := hdep 3 rfl
                    have gg : vg = .bool false := gg
                    subst gg
                    have eg := eg 107 rfl
                    refine want_yes rfl rfl eg ?_
                    exact op_loadrow rfl (eval_of e17) (HBY.out.ext hx) _ Tryd.underlying32 rfl (by kernel_rfl) (hK _ w1 (Ext.refl _) rfl)
                  | 7, ho =>
                    obtain rfl := Option.some.inj ho
                    obtain ⟨v110, g110, e110⟩ := hdep 6 rfl
                    have g110 : v110 = .agg y.cells.toArray := g110
                    subst g110
                    have e110 := e110 110 rfl
                    obtain ⟨vg, gg, eg⟩ := hdep 3 rfl
                    have gg : vg = .bool false := gg
                    subst gg
                    have eg := eg 107 rfl
                    refine want_yes rfl rfl eg ?_
                    have hc : Calls Tryd.prog 24 #[.agg y.cells.toArray] w1 fun e w' => ∃ v, e = .returned v ∧ Ext w1 w' ∧ (v = .agg (nmE y).cells.toArray) := (Name_any y w1).mono fun e w2 ⟨h1, h2⟩ => ⟨_, h1, h2, rfl⟩
                    exact op_call (G := fun v w' => v = .agg (nmE y).cells.toArray) rfl (by simp [eval_of e110]) (fun _ _ => by kernel_rfl) hc (fun v w' h1 h2 => hK v w' h1 h2)
                  | 8, ho =>
                    obtain rfl := Option.some.inj ho
                    obtain ⟨v109, g109, e109⟩ := hdep 5 rfl
                    obtain rfl := g109
                    have e109 := e109 109 rfl
                    obtain ⟨v111, g111, e111⟩ := hdep 7 rfl
                    obtain rfl := g111
                    have e111 := e111 111 rfl
                    obtain ⟨vg, gg, eg⟩ := hdep 3 rfl
                    have gg : vg = .bool false := gg
                    subst gg
                    have eg := eg 107 rfl
                    refine want_yes rfl rfl eg ?_
                    exact op_run (by unfold execOp; simp [e109, e111, Act.eval, go_sem, h2]) (hK _ w1 (Ext.refl _) rfl)
                  | 9, ho =>
                    obtain rfl := Option.some.inj ho
                    obtain ⟨v107, g107, e107⟩ := hdep 3 rfl
                    have g107 : v107 = .bool false := g107
                    subst g107
                    have e107 := e107 107 rfl
                    obtain ⟨v112, g112, e112⟩ := hdep 8 rfl
                    have g112 : v112 = .bool false := g112
                    subst g112
                    have e112 := e112 112 rfl
                    refine want_none rfl ?_
                    exact op_run (by unfold execOp; simp [e107, e112, Act.eval, go_sem]) (hK _ w1 (Ext.refl _) rfl)
                  | 10, ho =>
                    obtain rfl := Option.some.inj ho
                    obtain ⟨v113, g113, e113⟩ := hdep 9 rfl
                    have g113 : v113 = .bool false := g113
                    subst g113
                    have e113 := e113 113 rfl
                    refine want_none rfl ?_
                    exact op_move rfl (eval_of e113) (hK _ w1 (Ext.refl _) rfl)
                  | 11, ho =>
                    obtain rfl := Option.some.inj ho
                    have e16 : b.tmps[16]? = some (.pointer (some ⟨bx, 0, none⟩)) := hmiss 16 rfl
                    obtain ⟨vg, gg, eg⟩ := hdep 10 rfl
                    have gg : vg = .bool false := gg
                    subst gg
                    have eg := eg 114 rfl
                    refine want_yes rfl rfl eg ?_
                    exact op_loadrow rfl (eval_of e16) (HBX.out.ext hx) _ Tryd.underlying32 rfl (by kernel_rfl) (hK _ w1 (Ext.refl _) rfl)
                  | 12, ho =>
                    obtain rfl := Option.some.inj ho
                    obtain ⟨v115, g115, e115⟩ := hdep 11 rfl
                    have g115 : v115 = .agg x.cells.toArray := g115
                    subst g115
                    have e115 := e115 115 rfl
                    obtain ⟨vg, gg, eg⟩ := hdep 10 rfl
                    have gg : vg = .bool false := gg
                    subst gg
                    have eg := eg 114 rfl
                    refine want_yes rfl rfl eg ?_
                    have hc : Calls Tryd.prog 27 #[.agg x.cells.toArray] w1 fun e w' => ∃ v, e = .returned v ∧ Ext w1 w' ∧ (v = .bool true) := (HFX.out w1).mono fun e w2 ⟨h1, h2⟩ => ⟨_, h1, h2, rfl⟩
                    exact op_call (G := fun v w' => v = .bool true) rfl (by simp [eval_of e115]) (fun _ _ => by kernel_rfl) hc (fun v w' h1 h2 => hK v w' h1 h2)
                  | 13, ho =>
                    obtain rfl := Option.some.inj ho
                    obtain ⟨v116, g116, e116⟩ := hdep 12 rfl
                    obtain rfl := g116
                    have e116 := e116 116 rfl
                    obtain ⟨vg, gg, eg⟩ := hdep 10 rfl
                    have gg : vg = .bool false := gg
                    subst gg
                    have eg := eg 114 rfl
                    refine want_yes rfl rfl eg ?_
                    exact op_run (by unfold execOp; simp [e116, Act.eval, go_sem]) (hK _ w1 (Ext.refl _) rfl)
                  | 14, ho =>
                    obtain rfl := Option.some.inj ho
                    obtain ⟨v114, g114, e114⟩ := hdep 10 rfl
                    have g114 : v114 = .bool false := g114
                    subst g114
                    have e114 := e114 114 rfl
                    obtain ⟨v117, g117, e117⟩ := hdep 13 rfl
                    have g117 : v117 = .bool false := g117
                    subst g117
                    have e117 := e117 117 rfl
                    refine want_none rfl ?_
                    exact op_run (by unfold execOp; simp [e114, e117, Act.eval, go_sem]) (hK _ w1 (Ext.refl _) rfl)
                  | 15, ho =>
                    obtain rfl := Option.some.inj ho
                    obtain ⟨v118, g118, e118⟩ := hdep 14 rfl
                    have g118 : v118 = .bool false := g118
                    subst g118
                    have e118 := e118 118 rfl
                    refine want_none rfl ?_
                    exact op_move rfl (eval_of e118) (hK _ w1 (Ext.refl _) rfl)
                  | 16, ho =>
                    obtain rfl := Option.some.inj ho
                    have e17 : b.tmps[17]? = some (.pointer (some ⟨by_, 0, none⟩)) := hmiss 17 rfl
                    obtain ⟨vg, gg, eg⟩ := hdep 15 rfl
                    have gg : vg = .bool false := gg
                    subst gg
                    have eg := eg 119 rfl
                    refine want_yes rfl rfl eg ?_
                    exact op_loadrow rfl (eval_of e17) (HBY.out.ext hx) _ Tryd.underlying32 rfl (by kernel_rfl) (hK _ w1 (Ext.refl _) rfl)
                  | 17, ho =>
                    obtain rfl := Option.some.inj ho
                    obtain ⟨v120, g120, e120⟩ := hdep 16 rfl
                    have g120 : v120 = .agg y.cells.toArray := g120
                    subst g120
                    have e120 := e120 120 rfl
                    obtain ⟨vg, gg, eg⟩ := hdep 15 rfl
                    have gg : vg = .bool false := gg
                    subst gg
                    have eg := eg 119 rfl
                    refine want_yes rfl rfl eg ?_
                    have hc : Calls Tryd.prog 27 #[.agg y.cells.toArray] w1 fun e w' => ∃ v, e = .returned v ∧ Ext w1 w' ∧ (v = .bool false) := (HFY.out w1).mono fun e w2 ⟨h1, h2⟩ => ⟨_, h1, h2, rfl⟩
                    exact op_call (G := fun v w' => v = .bool false) rfl (by simp [eval_of e120]) (fun _ _ => by kernel_rfl) hc (fun v w' h1 h2 => hK v w' h1 h2)
                  | 18, ho =>
                    obtain rfl := Option.some.inj ho
                    obtain ⟨v121, g121, e121⟩ := hdep 17 rfl
                    obtain rfl := g121
                    have e121 := e121 121 rfl
                    obtain ⟨vg, gg, eg⟩ := hdep 15 rfl
                    have gg : vg = .bool false := gg
                    subst gg
                    have eg := eg 119 rfl
                    refine want_yes rfl rfl eg ?_
                    exact op_run (by unfold execOp; simp [e121, Act.eval, go_sem]) (hK _ w1 (Ext.refl _) rfl)
                  | 19, ho =>
                    obtain rfl := Option.some.inj ho
                    obtain ⟨v119, g119, e119⟩ := hdep 15 rfl
                    have g119 : v119 = .bool false := g119
                    subst g119
                    have e119 := e119 119 rfl
                    obtain ⟨v122, g122, e122⟩ := hdep 18 rfl
                    have g122 : v122 = .bool true := g122
                    subst g122
                    have e122 := e122 122 rfl
                    refine want_none rfl ?_
                    exact op_run (by unfold execOp; simp [e119, e122, Act.eval, go_sem]) (hK _ w1 (Ext.refl _) rfl)
                  | i + 20, ho => cases ho
                · intro V w9 hx hg
                  have g0 : V 0 = .agg x.cells.toArray := hg 0 (by decide)
                  have g1 : V 1 = .agg y.cells.toArray := hg 1 (by decide)
                  have g2 : V 2 = .bool false := hg 2 (by decide)
                  have g3 : V 3 = .bool false := hg 3 (by decide)
                  have g4 : V 4 = .agg x.cells.toArray := hg 4 (by decide)
                  have g6 : V 6 = .agg y.cells.toArray := hg 6 (by decide)
                  have g8 : V 8 = .bool false := hg 8 (by decide)
                  have g9 : V 9 = .bool false := hg 9 (by decide)
                  have g10 : V 10 = .bool false := hg 10 (by decide)
                  have g11 : V 11 = .agg x.cells.toArray := hg 11 (by decide)
                  have g13 : V 13 = .bool false := hg 13 (by decide)
                  have g14 : V 14 = .bool false := hg 14 (by decide)
                  have g15 : V 15 = .bool false := hg 15 (by decide)
                  have g16 : V 16 = .agg y.cells.toArray := hg 16 (by decide)
                  have g18 : V 18 = .bool true := hg 18 (by decide)
                  have g19 : V 19 = .bool true := hg 19 (by decide)
                  have g5 := hg 5 (by decide)
                  have g7 := hg 7 (by decide)
                  have g12 := hg 12 (by decide)
                  have g17 := hg 17 (by decide)
                  simp only [List.length_cons, List.length_nil, fillAllN, dstOf, Act.put, List.getElem?_toArray, List.getElem?_cons_zero, List.getElem?_cons_succ, Option.bind_some, g0, g1, g2, g3, g4, g6, g8, g9, g10, g11, g13, g14, g15, g16, g18, g19, List.setIfInBounds_toArray, List.set_cons_zero, List.set_cons_succ]
                  clear g0 g1 g2 g3 g4 g6 g8 g9 g10 g11 g13 g14 g15 g16 g18 g19 hg
                  have HXn := Lib.hid (HXab.out.trans hx)
                  clear hx h1 h2
                  go_wp2_with fail
                  go_roundw
                  case rel => exact ⟨k + 1, by rw [HJJ.out], .inr (by rw [HJJ.out] at hlt; omega), HXn.out⟩
                  case measure => rw [HJJ.out]; simp [intOf]; omega
              rw [hfy] at HFY
              have HTF := Lib.hid (fun (f : List Nm) (h : IsForks [x, y] f) => two_forks hxy hnm hfx hfy h)
              have HNM := Lib.hid hnm
              clear hxy hnm hfx hfy
              refine wp_region_rel (fun i v w' => match i with
                  | 0 => v = .agg x.cells.toArray
                  | 1 => v = .agg y.cells.toArray
                  | 2 => v = .bool false
                  | 3 => v = .bool false
                  | 4 => v = .agg x.cells.toArray
                  | 5 => v = .agg (nmE x).cells.toArray
                  | 6 => v = .agg y.cells.toArray
                  | 7 => v = .agg (nmE y).cells.toArray
                  | 8 => v = .bool false
                  | 9 => v = .bool false
                  | 10 => v = .bool false
                  | 11 => v = .agg x.cells.toArray
                  | 12 => v = .bool true
                  | 13 => v = .bool false
                  | 14 => v = .bool false
                  | 15 => v = .bool false
                  | 16 => v = .agg y.cells.toArray
                  | 17 => v = .bool true
                  | 18 => v = .bool false
                  | 19 => v = .bool false
                  | _ => True) hm (by kernel_rfl) (by kernel_rfl) rfl ?_ ?_ ?_
              · intro i v w1 w2 hx h
                match i, h with
                | 0, h => exact h
                | 1, h => exact h
                | 2, h => exact h
                | 3, h => exact h
                | 4, h => exact h
                | 5, h => exact h
                | 6, h => exact h
                | 7, h => exact h
                | 8, h => exact h
                | 9, h => exact h
                | 10, h => exact h
                | 11, h => exact h
                | 12, h => exact h
                | 13, h => exact h
                | 14, h => exact h
                | 15, h => exact h
                | 16, h => exact h
                | 17, h => exact h
                | 18, h => exact h
                | 19, h => exact h
                | i + 20, h => exact h
              · intro i o ho b w1 hx hmiss hdep K hK
                match i, ho with
                | 0, ho =>
                  obtain rfl := Option.some.inj ho
                  have e16 : b.tmps[16]? = some (.pointer (some ⟨bx, 0, none⟩)) := hmiss 16 rfl
                  refine want_none rfl ?_
                  exact op_loadrow rfl (eval_of e16) (HBX.out.ext hx) _ Tryd.underlying32 rfl (by kernel_rfl) (hK _ w1 (Ext.refl _) rfl)
                | 1, ho =>
                  obtain rfl := Option.some.inj ho
                  have e17 : b.tmps[17]? = some (.pointer (some ⟨by_, 0, none⟩)) := hmiss 17 rfl
                  refine want_none rfl ?_
                  exact op_loadrow rfl (eval_of e17) (HBY.out.ext hx) _ Tryd.underlying32 rfl (by kernel_rfl) (hK _ w1 (Ext.refl _) rfl)
                | 2, ho =>
                  obtain rfl := Option.some.inj ho
                  obtain ⟨v104, g104, e104⟩ := hdep 0 rfl
                  have g104 : v104 = .agg x.cells.toArray := g104
                  subst g104
                  have e104 := e104 104 rfl
                  obtain ⟨v105, g105, e105⟩ := hdep 1 rfl
                  have g105 : v105 = .agg y.cells.toArray := g105
                  subst g105
                  have e105 := e105 105 rfl
                  refine want_none rfl ?_
                  exact op_run (by unfold execOp; simp [e104, e105, Act.eval, go_sem, h1]) (hK _ w1 (Ext.refl _) rfl)
                | 3, ho =>
                  obtain rfl := Option.some.inj ho
                  obtain ⟨v106, g106, e106⟩ := hdep 2 rfl
                  have g106 : v106 = .bool false := g106
                  subst g106
                  have e106 := e106 106 rfl
                  refine want_none rfl ?_
                  exact op_move rfl (eval_of e106) (hK _ w1 (Ext.refl _) rfl)
                | 4, ho =>
                  obtain rfl := Option.some.inj ho
                  have e16 : b.tmps[16]? = some (.pointer (some ⟨bx, 0, none⟩)) := hmiss 16 rfl
                  obtain ⟨vg, gg, eg⟩ := hdep 3 rfl
                  have gg : vg = .bool false := gg
                  subst gg
                  have eg := eg 107 rfl
                  refine want_yes rfl rfl eg ?_
                  exact op_loadrow rfl (eval_of e16) (HBX.out.ext hx) _ Tryd.underlying32 rfl (by kernel_rfl) (hK _ w1 (Ext.refl _) rfl)
                | 5, ho =>
                  obtain rfl := Option.some.inj ho
                  obtain ⟨v108, g108, e108⟩ := hdep 4 rfl
                  have g108 : v108 = .agg x.cells.toArray := g108
                  subst g108
                  have e108 := e108 108 rfl
                  obtain ⟨vg, gg, eg⟩ := hdep 3 rfl
                  have gg : vg = .bool false := gg
                  subst gg
                  have eg := eg 107 rfl
                  refine want_yes rfl rfl eg ?_
                  have hc : Calls Tryd.prog 24 #[.agg x.cells.toArray] w1 fun e w' => ∃ v, e = .returned v ∧ Ext w1 w' ∧ (v = .agg (nmE x).cells.toArray) := (Name_any x w1).mono fun e w2 ⟨h1, h2⟩ => ⟨_, h1, h2, rfl⟩
                  exact op_call (G := fun v w' => v = .agg (nmE x).cells.toArray) rfl (by simp [eval_of e108]) (fun _ _ => by kernel_rfl) hc (fun v w' h1 h2 => hK v w' h1 h2)
                | 6, ho =>
                  obtain rfl := Option.some.inj ho
                  have e17 : b.tmps[17]? = some (.pointer (some ⟨by_, 0, none⟩)) := hmiss 17 rfl
                  obtain ⟨vg, gg, eg⟩ := hdep 3 rfl
                  have gg : vg = .bool false := gg
                  subst gg
                  have eg := eg 107 rfl
                  refine want_yes rfl rfl eg ?_
                  exact op_loadrow rfl (eval_of e17) (HBY.out.ext hx) _ Tryd.underlying32 rfl (by kernel_rfl) (hK _ w1 (Ext.refl _) rfl)
                | 7, ho =>
                  obtain rfl := Option.some.inj ho
                  obtain ⟨v110, g110, e110⟩ := hdep 6 rfl
                  have g110 : v110 = .agg y.cells.toArray := g110
                  subst g110
                  have e110 := e110 110 rfl
                  obtain ⟨vg, gg, eg⟩ := hdep 3 rfl
                  have gg : vg = .bool false := gg
                  subst gg
                  have eg := eg 107 rfl
                  refine want_yes rfl rfl eg ?_
                  have hc : Calls Tryd.prog 24 #[.agg y.cells.toArray] w1 fun e w' => ∃ v, e = .returned v ∧ Ext w1 w' ∧ (v = .agg (nmE y).cells.toArray) := (Name_any y w1).mono fun e w2 ⟨h1, h2⟩ => ⟨_, h1, h2, rfl⟩
                  exact op_call (G := fun v w' => v = .agg (nmE y).cells.toArray) rfl (by simp [eval_of e110]) (fun _ _ => by kernel_rfl) hc (fun v w' h1 h2 => hK v w' h1 h2)
                | 8, ho =>
                  obtain rfl := Option.some.inj ho
                  obtain ⟨v109, g109, e109⟩ := hdep 5 rfl
                  obtain rfl := g109
                  have e109 := e109 109 rfl
                  obtain ⟨v111, g111, e111⟩ := hdep 7 rfl
                  obtain rfl := g111
                  have e111 := e111 111 rfl
                  obtain ⟨vg, gg, eg⟩ := hdep 3 rfl
                  have gg : vg = .bool false := gg
                  subst gg
                  have eg := eg 107 rfl
                  refine want_yes rfl rfl eg ?_
                  exact op_run (by unfold execOp; simp [e109, e111, Act.eval, go_sem, h2]) (hK _ w1 (Ext.refl _) rfl)
                | 9, ho =>
                  obtain rfl := Option.some.inj ho
                  obtain ⟨v107, g107, e107⟩ := hdep 3 rfl
                  have g107 : v107 = .bool false := g107
                  subst g107
                  have e107 := e107 107 rfl
                  obtain ⟨v112, g112, e112⟩ := hdep 8 rfl
                  have g112 : v112 = .bool false := g112
                  subst g112
                  have e112 := e112 112 rfl
                  refine want_none rfl ?_
                  exact op_run (by unfold execOp; simp [e107, e112, Act.eval, go_sem]) (hK _ w1 (Ext.refl _) rfl)
                | 10, ho =>
                  obtain rfl := Option.some.inj ho
                  obtain ⟨v113, g113, e113⟩ := hdep 9 rfl
                  have g113 : v113 = .bool false := g113
                  subst g113
                  have e113 := e113 113 rfl
                  refine want_none rfl ?_
                  exact op_move rfl (eval_of e113) (hK _ w1 (Ext.refl _) rfl)
                | 11, ho =>
                  obtain rfl := Option.some.inj ho
                  have e16 : b.tmps[16]? = some (.pointer (some ⟨bx, 0, none⟩)) := hmiss 16 rfl
                  obtain ⟨vg, gg, eg⟩ := hdep 10 rfl
                  have gg : vg = .bool false := gg
                  subst gg
                  have eg := eg 114 rfl
                  refine want_yes rfl rfl eg ?_
                  exact op_loadrow rfl (eval_of e16) (HBX.out.ext hx) _ Tryd.underlying32 rfl (by kernel_rfl) (hK _ w1 (Ext.refl _) rfl)
                | 12, ho =>
                  obtain rfl := Option.some.inj ho
                  obtain ⟨v115, g115, e115⟩ := hdep 11 rfl
                  have g115 : v115 = .agg x.cells.toArray := g115
                  subst g115
                  have e115 := e115 115 rfl
                  obtain ⟨vg, gg, eg⟩ := hdep 10 rfl
                  have gg : vg = .bool false := gg
                  subst gg
                  have eg := eg 114 rfl
                  refine want_yes rfl rfl eg ?_
                  have hc : Calls Tryd.prog 27 #[.agg x.cells.toArray] w1 fun e w' => ∃ v, e = .returned v ∧ Ext w1 w' ∧ (v = .bool true) := (HFX.out w1).mono fun e w2 ⟨h1, h2⟩ => ⟨_, h1, h2, rfl⟩
                  exact op_call (G := fun v w' => v = .bool true) rfl (by simp [eval_of e115]) (fun _ _ => by kernel_rfl) hc (fun v w' h1 h2 => hK v w' h1 h2)
                | 13, ho =>
                  obtain rfl := Option.some.inj ho
                  obtain ⟨v116, g116, e116⟩ := hdep 12 rfl
                  obtain rfl := g116
                  have e116 := e116 116 rfl
                  obtain ⟨vg, gg, eg⟩ := hdep 10 rfl
                  have gg : vg = .bool false := gg
                  subst gg
                  have eg := eg 114 rfl
                  refine want_yes rfl rfl eg ?_
                  exact op_run (by unfold execOp; simp [e116, Act.eval, go_sem]) (hK _ w1 (Ext.refl _) rfl)
                | 14, ho =>
                  obtain rfl := Option.some.inj ho
                  obtain ⟨v114, g114, e114⟩ := hdep 10 rfl
                  have g114 : v114 = .bool false := g114
                  subst g114
                  have e114 := e114 114 rfl
                  obtain ⟨v117, g117, e117⟩ := hdep 13 rfl
                  have g117 : v117 = .bool false := g117
                  subst g117
                  have e117 := e117 117 rfl
                  refine want_none rfl ?_
                  exact op_run (by unfold execOp; simp [e114, e117, Act.eval, go_sem]) (hK _ w1 (Ext.refl _) rfl)
                | 15, ho =>
                  obtain rfl := Option.some.inj ho
                  obtain ⟨v118, g118, e118⟩ := hdep 14 rfl
                  have g118 : v118 = .bool false := g118
                  subst g118
                  have e118 := e118 118 rfl
                  refine want_none rfl ?_
                  exact op_move rfl (eval_of e118) (hK _ w1 (Ext.refl _) rfl)
                | 16, ho =>
                  obtain rfl := Option.some.inj ho
                  have e17 : b.tmps[17]? = some (.pointer (some ⟨by_, 0, none⟩)) := hmiss 17 rfl
                  obtain ⟨vg, gg, eg⟩ := hdep 15 rfl
                  have gg : vg = .bool false := gg
                  subst gg
                  have eg := eg 119 rfl
                  refine want_yes rfl rfl eg ?_
                  exact op_loadrow rfl (eval_of e17) (HBY.out.ext hx) _ Tryd.underlying32 rfl (by kernel_rfl) (hK _ w1 (Ext.refl _) rfl)
                | 17, ho =>
                  obtain rfl := Option.some.inj ho
                  obtain ⟨v120, g120, e120⟩ := hdep 16 rfl
                  have g120 : v120 = .agg y.cells.toArray := g120
                  subst g120
                  have e120 := e120 120 rfl
                  obtain ⟨vg, gg, eg⟩ := hdep 15 rfl
                  have gg : vg = .bool false := gg
                  subst gg
                  have eg := eg 119 rfl
                  refine want_yes rfl rfl eg ?_
                  have hc : Calls Tryd.prog 27 #[.agg y.cells.toArray] w1 fun e w' => ∃ v, e = .returned v ∧ Ext w1 w' ∧ (v = .bool true) := (HFY.out w1).mono fun e w2 ⟨h1, h2⟩ => ⟨_, h1, h2, rfl⟩
                  exact op_call (G := fun v w' => v = .bool true) rfl (by simp [eval_of e120]) (fun _ _ => by kernel_rfl) hc (fun v w' h1 h2 => hK v w' h1 h2)
                | 18, ho =>
                  obtain rfl := Option.some.inj ho
                  obtain ⟨v121, g121, e121⟩ := hdep 17 rfl
                  obtain rfl := g121
                  have e121 := e121 121 rfl
                  obtain ⟨vg, gg, eg⟩ := hdep 15 rfl
                  have gg : vg = .bool false := gg
                  subst gg
                  have eg := eg 119 rfl
                  refine want_yes rfl rfl eg ?_
                  exact op_run (by unfold execOp; simp [e121, Act.eval, go_sem]) (hK _ w1 (Ext.refl _) rfl)
                | 19, ho =>
                  obtain rfl := Option.some.inj ho
                  obtain ⟨v119, g119, e119⟩ := hdep 15 rfl
                  have g119 : v119 = .bool false := g119
                  subst g119
                  have e119 := e119 119 rfl
                  obtain ⟨v122, g122, e122⟩ := hdep 18 rfl
                  have g122 : v122 = .bool false := g122
                  subst g122
                  have e122 := e122 122 rfl
                  refine want_none rfl ?_
                  exact op_run (by unfold execOp; simp [e119, e122, Act.eval, go_sem]) (hK _ w1 (Ext.refl _) rfl)
                | i + 20, ho => cases ho
              · intro V w9 hx hg
                have g0 : V 0 = .agg x.cells.toArray := hg 0 (by decide)
                have g1 : V 1 = .agg y.cells.toArray := hg 1 (by decide)
                have g2 : V 2 = .bool false := hg 2 (by decide)
                have g3 : V 3 = .bool false := hg 3 (by decide)
                have g4 : V 4 = .agg x.cells.toArray := hg 4 (by decide)
                have g6 : V 6 = .agg y.cells.toArray := hg 6 (by decide)
                have g8 : V 8 = .bool false := hg 8 (by decide)
                have g9 : V 9 = .bool false := hg 9 (by decide)
                have g10 : V 10 = .bool false := hg 10 (by decide)
                have g11 : V 11 = .agg x.cells.toArray := hg 11 (by decide)
                have g13 : V 13 = .bool false := hg 13 (by decide)
                have g14 : V 14 = .bool false := hg 14 (by decide)
                have g15 : V 15 = .bool false := hg 15 (by decide)
                have g16 : V 16 = .agg y.cells.toArray := hg 16 (by decide)
                have g18 : V 18 = .bool false := hg 18 (by decide)
                have g19 : V 19 = .bool false := hg 19 (by decide)
                have g5 := hg 5 (by decide)
                have g7 := hg 7 (by decide)
                have g12 := hg 12 (by decide)
                have g17 := hg 17 (by decide)
                simp only [List.length_cons, List.length_nil, fillAllN, dstOf, Act.put, List.getElem?_toArray, List.getElem?_cons_zero, List.getElem?_cons_succ, Option.bind_some, g0, g1, g2, g3, g4, g6, g8, g9, g10, g11, g13, g14, g15, g16, g18, g19, List.setIfInBounds_toArray, List.set_cons_zero, List.set_cons_succ]
                clear g0 g1 g2 g3 g4 g6 g8 g9 g10 g11 g13 g14 g15 g16 g18 g19 hg
                have HXc := Lib.hid (HXab.out.trans hx)
                have HBX := Lib.hid (HBX.out.ext hx); have HBY := Lib.hid (HBY.out.ext hx); have HRc := Lib.hid (HRb.out.ext hx)
                clear hx h1 h2 HFX HFY HRb HXab
                --STOP6
                have KF := Lib.hid (fun (W : World) (A : Option Addr) (h : Sv W W.heap.size 17 A 2 (rowsE [x, y])) (hR : RowsIn W) => Forks_any A 2 [x, y] W h (by simp) hR)
                go_upto_region 33 with (first
                  | (refine wpList_load_blk 32 (.tmp 16) rfl rfl HBX.out rfl _ Tryd.underlying32 rfl (by kernel_rfl) ?_)
                  | (refine wpList_load_blk 32 (.tmp 17) rfl rfl HBY.out rfl _ Tryd.underlying32 rfl (by kernel_rfl) ?_)
                  | (refine wpList_buildRows rfl 22 32 2 _ rfl 17 (by decide) (rowsE [x, y]) (rows_len17 _) rfl (by decide) (by decide) (by kernel_rfl) Tryd.underlying22 (by kernel_rfl) (by kernel_rfl) ?_)
                  | (go_at_call 19; refine (KF.out _ _ (svE_lit w9 [x, y] (by simp)) (HRc.out.ext ((Ext.refl _).alloc _))).mono ?_; rintro e Wf ⟨f2, hf2, Af, cf2, rfl, v1, xa⟩))
                obtain rfl := HTF.out _ hf2
                have HXd := Lib.hid (HXc.out.trans (((Ext.refl w9).alloc _).trans xa))
                have HBXd := Lib.hid (HBX.out.ext (((Ext.refl w9).alloc _).trans xa))
                obtain ⟨bf, of_, rfl, hbf, f0, f1⟩ := nm_row (j := 0) (p := nmE x) v1 rfl
                have HFR := Lib.hid (show ∀ w2, Ext Wf w2 → w2.rangeAt bf (of_ + 0 * 2) (nmE x).cells from fun w2 h => rangeAt_ext (by obtain ⟨b', o', e, _, hr⟩ := v1.row (i := 0) (x := (nmE x).cells) rfl; injection e with e; injection e with e1 e2; subst e1 e2; exact hr) hbf h)
                clear hf2 v1 xa f0 f1 KF HXc HTF
                have h2 := neqNm_run (nmE x) (nmE x)
                go_upto_region 33 with fail
                --STOP7
                refine wp_region_rel (fun i v w' => match i with
                    | 0 => v = .slice (some ⟨bf, of_, none⟩) 1 cf2
                    | 1 => v = .int .i64 1
                    | 2 => v = .bool false
                    | 3 => v = .bool false
                    | 4 => v = .slice (some ⟨bf, of_, none⟩) 1 cf2
                    | 5 => v = .pointer (some ⟨bf, of_ + 0 * 2, none⟩)
                    | 6 => v = .agg (nmE x).cells.toArray
                    | 7 => v = .agg x.cells.toArray
                    | 8 => v = .agg (nmE x).cells.toArray
                    | 9 => v = .bool false
                    | 10 => v = .bool false
                    | _ => True) hm (by kernel_rfl) (by kernel_rfl) rfl ?_ ?_ ?_
                · intro i v w1 w2 hx h
                  match i, h with
                  | 0, h => exact h
                  | 1, h => exact h
                  | 2, h => exact h
                  | 3, h => exact h
                  | 4, h => exact h
                  | 5, h => exact h
                  | 6, h => exact h
                  | 7, h => exact h
                  | 8, h => exact h
                  | 9, h => exact h
                  | 10, h => exact h
                  | i + 11, h => exact h
                · intro i o ho b w1 hx hmiss hdep K hK
                  match i, ho with
                  | 0, ho =>
                    obtain rfl := Option.some.inj ho
                    have e18 : b.tmps[18]? = some (.slice (some ⟨bf, of_, none⟩) 1 cf2) := hmiss 18 rfl
                    refine want_none rfl ?_
                    exact op_move rfl (eval_of e18) (hK _ w1 (Ext.refl _) rfl)
                  | 1, ho =>
                    obtain rfl := Option.some.inj ho
                    obtain ⟨v128, g128, e128⟩ := hdep 0 rfl
                    have g128 : v128 = .slice (some ⟨bf, of_, none⟩) 1 cf2 := g128
                    subst g128
                    have e128 := e128 128 rfl
                    refine want_none rfl ?_
                    exact op_run (by unfold execOp; simp [e128, Act.eval, go_sem]) (hK _ w1 (Ext.refl _) rfl)
                  | 2, ho =>
                    obtain rfl := Option.some.inj ho
                    obtain ⟨v129, g129, e129⟩ := hdep 1 rfl
                    have g129 : v129 = .int .i64 1 := g129
                    subst g129
                    have e129 := e129 129 rfl
                    refine want_none rfl ?_
                    exact op_run (by unfold execOp; simp [e129, Act.eval, go_sem]) (hK _ w1 (Ext.refl _) rfl)
                  | 3, ho =>
                    obtain rfl := Option.some.inj ho
                    obtain ⟨v130, g130, e130⟩ := hdep 2 rfl
                    have g130 : v130 = .bool false := g130
                    subst g130
                    have e130 := e130 130 rfl
                    refine want_none rfl ?_
                    exact op_move rfl (eval_of e130) (hK _ w1 (Ext.refl _) rfl)
                  | 4, ho =>
                    obtain rfl := Option.some.inj ho
                    have e18 : b.tmps[18]? = some (.slice (some ⟨bf, of_, none⟩) 1 cf2) := hmiss 18 rfl
                    obtain ⟨vg, gg, eg⟩ := hdep 3 rfl
                    have gg : vg = .bool false := gg
                    subst gg
                    have eg := eg 131 rfl
                    refine want_yes rfl rfl eg ?_
                    exact op_move rfl (eval_of e18) (hK _ w1 (Ext.refl _) rfl)
                  | 5, ho =>
                    obtain rfl := Option.some.inj ho
                    obtain ⟨v132, g132, e132⟩ := hdep 4 rfl
                    have g132 : v132 = .slice (some ⟨bf, of_, none⟩) 1 cf2 := g132
                    subst g132
                    have e132 := e132 132 rfl
                    obtain ⟨vg, gg, eg⟩ := hdep 3 rfl
                    have gg : vg = .bool false := gg
                    subst gg
                    have eg := eg 131 rfl
                    refine want_yes rfl rfl eg ?_
                    exact op_run (by unfold execOp; simp [e132, Act.eval, go_sem]) (hK _ w1 (Ext.refl _) rfl)
                  | 6, ho =>
                    obtain rfl := Option.some.inj ho
                    obtain ⟨v133, g133, e133⟩ := hdep 5 rfl
                    have g133 : v133 = .pointer (some ⟨bf, of_ + 0 * 2, none⟩) := g133
                    subst g133
                    have e133 := e133 133 rfl
                    obtain ⟨vg, gg, eg⟩ := hdep 3 rfl
                    have gg : vg = .bool false := gg
                    subst gg
                    have eg := eg 131 rfl
                    refine want_yes rfl rfl eg ?_
                    exact wp_load_mid 24 (.tmp 133) rfl (bf) (of_ + 0 * 2) (eval_of e133) ((nmE x).cells) _ (HFR.out _ hx) Tryd.underlying24 rfl (by kernel_rfl) (hK _ w1 (Ext.refl _) rfl)
                  | 7, ho =>
                    obtain rfl := Option.some.inj ho
                    have e16 : b.tmps[16]? = some (.pointer (some ⟨bx, 0, none⟩)) := hmiss 16 rfl
                    obtain ⟨vg, gg, eg⟩ := hdep 3 rfl
                    have gg : vg = .bool false := gg
                    subst gg
                    have eg := eg 131 rfl
                    refine want_yes rfl rfl eg ?_
                    exact op_loadrow rfl (eval_of e16) (HBXd.out.ext hx) _ Tryd.underlying32 rfl (by kernel_rfl) (hK _ w1 (Ext.refl _) rfl)
                  | 8, ho =>
                    obtain rfl := Option.some.inj ho
                    obtain ⟨v135, g135, e135⟩ := hdep 7 rfl
                    have g135 : v135 = .agg x.cells.toArray := g135
                    subst g135
                    have e135 := e135 135 rfl
                    obtain ⟨vg, gg, eg⟩ := hdep 3 rfl
                    have gg : vg = .bool false := gg
                    subst gg
                    have eg := eg 131 rfl
                    refine want_yes rfl rfl eg ?_
                    have hc : Calls Tryd.prog 24 #[.agg x.cells.toArray] w1 fun e w' => ∃ v, e = .returned v ∧ Ext w1 w' ∧ (v = .agg (nmE x).cells.toArray) := (Name_any x w1).mono fun e w2 ⟨h1, h2⟩ => ⟨_, h1, h2, rfl⟩
                    exact op_call (G := fun v w' => v = .agg (nmE x).cells.toArray) rfl (by simp [eval_of e135]) (fun _ _ => by kernel_rfl) hc (fun v w' h1 h2 => hK v w' h1 h2)
                  | 9, ho =>
                    obtain rfl := Option.some.inj ho
                    obtain ⟨v134, g134, e134⟩ := hdep 6 rfl
                    have g134 : v134 = .agg (nmE x).cells.toArray := g134
                    subst g134
                    have e134 := e134 134 rfl
                    obtain ⟨v136, g136, e136⟩ := hdep 8 rfl
                    obtain rfl := g136
                    have e136 := e136 136 rfl
                    obtain ⟨vg, gg, eg⟩ := hdep 3 rfl
                    have gg : vg = .bool false := gg
                    subst gg
                    have eg := eg 131 rfl
                    refine want_yes rfl rfl eg ?_
                    exact op_run (by unfold execOp; simp [e134, e136, Act.eval, go_sem, h2]) (hK _ w1 (Ext.refl _) rfl)
                  | 10, ho =>
                    obtain rfl := Option.some.inj ho
                    obtain ⟨v131, g131, e131⟩ := hdep 3 rfl
                    have g131 : v131 = .bool false := g131
                    subst g131
                    have e131 := e131 131 rfl
                    obtain ⟨v137, g137, e137⟩ := hdep 9 rfl
                    have g137 : v137 = .bool false := g137
                    subst g137
                    have e137 := e137 137 rfl
                    refine want_none rfl ?_
                    exact op_run (by unfold execOp; simp [e131, e137, Act.eval, go_sem]) (hK _ w1 (Ext.refl _) rfl)
                  | i + 11, ho => cases ho
                · intro V w9 hx hg
                  have g0 : V 0 = .slice (some ⟨bf, of_, none⟩) 1 cf2 := hg 0 (by decide)
                  have g1 : V 1 = .int .i64 1 := hg 1 (by decide)
                  have g2 : V 2 = .bool false := hg 2 (by decide)
                  have g3 : V 3 = .bool false := hg 3 (by decide)
                  have g4 : V 4 = .slice (some ⟨bf, of_, none⟩) 1 cf2 := hg 4 (by decide)
                  have g5 : V 5 = .pointer (some ⟨bf, of_ + 0 * 2, none⟩) := hg 5 (by decide)
                  have g6 : V 6 = .agg (nmE x).cells.toArray := hg 6 (by decide)
                  have g7 : V 7 = .agg x.cells.toArray := hg 7 (by decide)
                  have g9 : V 9 = .bool false := hg 9 (by decide)
                  have g10 : V 10 = .bool false := hg 10 (by decide)
                  have g8 := hg 8 (by decide)
                  simp only [List.length_cons, List.length_nil, fillAllN, dstOf, Act.put, List.getElem?_toArray, List.getElem?_cons_zero, List.getElem?_cons_succ, Option.bind_some, g0, g1, g2, g3, g4, g5, g6, g7, g9, g10, List.setIfInBounds_toArray, List.set_cons_zero, List.set_cons_succ]
                  clear g0 g1 g2 g3 g4 g5 g6 g7 g9 g10 hg
                  have HXn := Lib.hid (HXd.out.trans hx)
                  clear hx h2
                  go_wp2_with fail
                  go_roundw
                  case rel => exact ⟨k + 1, by rw [HJJ.out], .inr (by rw [HJJ.out] at hlt; omega), HXn.out⟩
                  case measure => rw [HJJ.out]; simp [intOf]; omega
            · go_wp2_with fail
              go_ret
              exact ⟨rfl, HX.out.trans HXR.out⟩
end Go.Proofs.YtcfebfblmmbeaaaDoor

/- HistoryForksStay: for every input the law returns true, and each argument reads as it did. No condition. -/
namespace Go.Proofs.YtcfebfblmmbeaaaDoor
open Go Go.RowKit Go.ChangeShapes Go.WideShapes Go.ChangeAt

set_option maxHeartbeats 1600000 in
set_option maxRecDepth 100000 in
theorem historyForksStay_lifted (os : Os) (started : os.Started) (H : Type) (enc : TypeId × Value → H) :
    ReturnsInHanded {} Tryd.checked os 7 .any (fun w args => (Rows.historyForksStaySpec.pre enc Tryd.prog Tryd.f7 Rows.historyForksStayRow.domain false w args ∧ laidMetH Tryd.prog laidL w) ∧ sizedMet enc Tryd.prog Tryd.f7 (OpenSpec.ofChange Rows.historyForksStaySpec) false w args) (Rows.historyForksStaySpec.post enc Tryd.prog Tryd.f7 false true false false) := by
  refine returnsInHanded_of_change_and (C := Tryd.checked) (X := fun w _ => laidMetH Tryd.prog laidL w) (fun _ _ _ hh h => h.of_heap hh) own_ started (by kernel_rfl) Tryd.func7
    (ChangeSpec.witness_shaped (enc := enc) (C := Tryd.checked) (os := os) (X := fun w _ => laidMetH Tryd.prog laidL w) false (World.laidAll Tryd.prog os laidL) #[.slice none 0 0, .slice none 0 0] 8 (World.laidAll_os _ _ _) (World.shaped_of_ZipB (by kernel_rfl) (by kernel_rfl)) (by kernel_rfl) (by kernel_rfl) (by kernel_rfl)
      (by rw [MakeChecks.laidMetH_plain _ _ _ (by kernel_rfl)]; exact laidMet_laidAll _ (by kernel_rfl) (by kernel_rfl))) ?_
  intro W base args ds gs before hval0 hW hcnd _ hLd _
  have hval : ∀ (j : Nat) t v, Tryd.f7.params[j]? = some t → args[j]? = some v → Value.okWide Tryd.prog W .any base t v := hval0
  have hLd := laid_of hLd
  have hW' := hW
  obtain ⟨p, q, hA0, hV, rfl, hfz, hnd⟩ := hW
  have hA : DataW.TrodAll enc Tryd.prog W 0 (fun _ => true) true Tryd.f7.params.toList args.toList ds p := hA0
  have hAll := hA
  rw [Tryd.params7] at hA hval
  obtain ⟨v0, vs0, d0, ds0, p0, q0, ha, rfl, rfl, h0, r0⟩ := trodAll_cons hA
  obtain ⟨v1, vs1, d1, ds1, p1, q1, rfl, rfl, rfl, h1, r1⟩ := trodAll_cons r0
  obtain ⟨rfl, rfl, rfl⟩ := trodAll_nil r1
  obtain ⟨rfl, rfl⟩ := trodVars_none hV
  have hargs : args = #[v0, v1] := by apply Array.ext'; exact ha
  subst hargs
  obtain ⟨A, c, l, rfl, hs, _⟩ := read_Eds (hval 0 _ _ rfl rfl) h0
  obtain ⟨A2, c2, m, rfl, hs2, _⟩ := read_Eds (hval 1 _ _ rfl rfl) h1
  refine (HistoryForksStay_any A A2 c c2 l m W hs hs2 hLd).mono fun e W' ⟨he, hx⟩ => ?_
  subst he
  have hlt : ∀ x, x ∈ (p0 ++ (p1 ++ [])) → x.block < W.heap.size := fun x hx2 => hW'.lt x (by simpa using hx2)
  exact ⟨_, rfl, _, _, _, [], _, [], hW', trodAll_mk1 (shut_bool Tryd.underlying4 true), args_below laidOut_ _ _ _ _ W' (by rw [Tryd.params7]; intro t ht; simp at ht; rcases ht with rfl <;> exact ⟨by kernel_rfl, of_decide_eq_true (by kernel_rfl)⟩) hAll hx.below hlt, rfl, hx.below.frame _, fun h => by cases h⟩

theorem historyForksStay_row : Rows.HistoryForksStaySaid :=
  OpenClaim.holds_of_wide 7 Tryd.f7 rfl rfl rfl rfl rfl rfl rfl ⟨rfl, rfl, rfl, rfl, rfl⟩ rfl rfl rfl rfl rfl (by kernel_rfl) Tryd.func7 (by kernel_rfl)
    (of_decide_eq_true (by kernel_rfl)) (by unfold Func.isWrapper; rw [if_neg (of_decide_eq_false (by kernel_rfl))]; exact ⟨rfl, rfl⟩)
    (fun os started H enc _ => historyForksStay_lifted os started H enc)

theorem historyForksStay_holds : Rows.HistoryForksStayCardSaid :=
  Claim7.holds_tied_plain_at .later [] [.data] true Rows.historyForksStayCard.stood.harness false
    historyForksStay_row (fun _ h => by cases h) (by kernel_rfl) (fun _ h => by cases h) historyForksStay_row_tie rfl ⟨rfl, rfl⟩ (by kernel_rfl) rfl
    (fun f fn hf hfn => by
      obtain rfl : f = 7 := Option.some.inj ((show Tryd.prog.funcNamed "voxel/voxellaw27.HistoryForksStay" = some 7 by kernel_rfl).symm.trans hf) |>.symm
      obtain rfl : fn = Tryd.f7 := (Option.some.inj (Tryd.func7.symm.trans hfn)).symm
      exact ⟨by kernel_rfl, fun j t ht => by
        rw [Tryd.params7] at ht
        have hm : t ∈ [22, 22] := by simpa using Array.mem_of_getElem? ht
        have hall : ([22, 22].all fun u => !Tryd.prog.wantsStandIn u) = true := by kernel_rfl
        exact (show Tryd.prog.wantsStandIn t = false by simpa using List.all_eq_true.1 hall t hm)⟩)
    (by kernel_rfl)
end Go.Proofs.YtcfebfblmmbeaaaDoor
