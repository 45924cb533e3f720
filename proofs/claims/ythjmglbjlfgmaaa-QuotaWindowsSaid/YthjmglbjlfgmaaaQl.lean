/- Contract of the reference's Same. -/
import Derived.Test.YthjmglbjlfgmaaaQk
import Derived.Laws.StructEq
namespace Go.Proofs.Ythjmglbjlfgmaaa
open Go Go.RowKit

def eqU (x y : Use) : Bool := x.tick == y.tick && (x.site == y.site && x.count == y.count)
theorem eqU_iff (x y : Use) : eqU x y = true ↔ x = y := by
  cases x; cases y; simp [eqU]
def sameB (a b : List Use) : Bool := decide (a.length = b.length) && (List.range a.length).all fun i => eqU (useAt a i) (useAt b i)
theorem sameB_iff (a b : List Use) : sameB a b = true ↔ a = b := by
  unfold sameB
  simp only [Bool.and_eq_true, decide_eq_true_eq, List.all_eq_true, List.mem_range, eqU_iff]
  constructor
  · rintro ⟨h1, h2⟩
    apply List.ext_getElem h1
    intro i h3 h4
    have := h2 i h3
    simpa [useAt, h3, h4] using this
  · rintro rfl
    exact ⟨rfl, fun _ _ => rfl⟩
theorem sameB_no {a b : List Use} {i : Nat} {x y : Use} (hx : a[i]? = some x) (hy : b[i]? = some y) (h : eqU x y = false) : sameB a b = false := by
  rw [← Bool.not_eq_true, sameB_iff]
  rintro rfl
  rw [hx] at hy
  injection hy with e
  rw [← Bool.not_eq_true, eqU_iff] at h
  exact h e
theorem sameB_yes {a b : List Use} (hl : a.length = b.length) (h : ∀ i, i < a.length → a[i]? = b[i]?) : sameB a b = true := by
  rw [sameB_iff]
  apply List.ext_getElem? 
  intro i
  rcases Nat.lt_or_ge i a.length with h1 | h1
  · exact h i h1
  · rw [List.getElem?_eq_none h1, List.getElem?_eq_none (by omega)]

set_option maxHeartbeats 1000000 in
theorem Same_any (c1 c2 : Nat) (A B : Option Addr) (w : World) (a b : List Use) (ha : Sl w w.heap.size 3 A c1 (a.map Use.row)) (hb : Sl w w.heap.size 3 B c2 (b.map Use.row)) :
    Calls Try.prog 12 #[.slice A a.length c1, .slice B b.length c2] w fun e w' => e = .returned (.bool (sameB a b)) ∧ Ext w w' := by
  have hm := mixed
  have hG := near_old
  have hl1 := ha.len
  have hl2 := hb.len
  simp only [List.length_map] at hl1 hl2
  have HA := Lib.hid ha; have HB := Lib.hid hb; clear ha hb
  by_cases hl : a.length = b.length
  · have HL := Lib.hid hl
    have hne : ((a.length : Int) != (b.length : Int)) = false := by rw [hl]; simp
    clear hl
    go_enter Try.func12, Try.ntmps12
    go_wp2
    go_loopw [5] (fun i wr => ∃ j : Nat, j ≤ a.length ∧ i = .int .i64 j ∧ (∀ i, i < j → a[i]? = b[i]?) ∧ Ext w wr) (fun i _ => a.length - (intOf i).toNat)
    case atStart => exact ⟨0, Nat.zero_le _, rfl, fun i hi => by omega, Ext.refl _⟩
    case round =>
      obtain ⟨j, hj, rfl, hg, hx⟩ := hrel
      have HG := Lib.hid hg; clear hg
      by_cases hlt : j < a.length
      · have hlt2 : j < b.length := by have := HL.out; omega
        obtain ⟨x, hxj⟩ : ∃ x, a[j]? = some x := ⟨_, List.getElem?_eq_getElem hlt⟩
        obtain ⟨y, hyj⟩ : ∃ y, b[j]? = some y := ⟨_, List.getElem?_eq_getElem hlt2⟩
        obtain ⟨b1, o1, rfl, hb1, h0, h1, h2⟩ := (HA.out.ext hx (Nat.le_refl _)).at3 (i := j) (by rw [List.getElem?_map, hxj]; rfl)
        obtain ⟨b2, o2, rfl, hb2, g0, g1, g2⟩ := (HB.out.ext hx (Nat.le_refl _)).at3 (i := j) (by rw [List.getElem?_map, hyj]; rfl)
        have hz := hx.size
        have hbq1 : b1 < wr.heap.size := by omega
        have hbq2 : b2 < wr.heap.size := by omega
        have HX := Lib.hid hxj; have HY := Lib.hid hyj; clear hxj hyj
        have HN := Lib.hid (fun h => sameB_no HX.out HY.out h)
        go_wp2
        refine wp_region_near_tail 8 (by assumption) (by kernel_rfl) ?_
        simp only [List.take_succ_cons, List.take_zero, List.drop_succ_cons, List.drop_zero]
        repeat (go_big_quiet_step (fail))
        refine wpQuiet_nil ?_
        intro w1 hw1
        have hy := Ext.of_near hw1
        clear hw1
        go_wp2
        · have he : x = y := (eqU_iff x y).1 (by simp only [eqU, Bool.and_eq_true, beq_iff_eq]; exact ⟨by assumption, by assumption, by assumption⟩)
          have HE := Lib.hid he; clear he
          go_roundw
          case rel =>
            refine ⟨j + 1, by omega, by go_num, fun i hi => ?_, hx.trans hy⟩
            rcases Nat.lt_succ_iff_lt_or_eq.1 hi with h1 | rfl
            · exact HG.out i h1
            · rw [HX.out, HY.out, HE.out]
          case measure => simp [intOf]; omega
        all_goals
          have hf : eqU x y = false := by simp only [eqU, Bool.and_eq_false_iff, beq_eq_false_iff_ne, ne_eq]; first | exact .inl (by assumption) | exact .inr (.inl (by assumption)) | exact .inr (.inr (by assumption))
          go_ret
          exact ⟨ret_bool (HN.out hf).symm, hx.trans hy⟩
      · obtain rfl : j = a.length := by omega
        go_wp2
        go_ret
        exact ⟨ret_bool (sameB_yes HL.out HG.out).symm, hx⟩
  · have hne : ((a.length : Int) != (b.length : Int)) = true := by simp; omega
    have HF := Lib.hid (show sameB a b = false by unfold sameB; simp [hl])
    clear hl
    go_enter Try.func12, Try.ntmps12
    go_wp2
    go_ret
    exact ⟨ret_bool HF.out.symm, Ext.refl _⟩
end Go.Proofs.Ythjmglbjlfgmaaa
