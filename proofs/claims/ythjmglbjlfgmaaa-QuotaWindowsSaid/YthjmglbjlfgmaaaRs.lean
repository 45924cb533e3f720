/- Reading of the steps that a law plays. -/
import Derived.Test.YthjmglbjlfgmaaaPa
namespace Go.Proofs.Ythjmglbjlfgmaaa
open Go Go.RowKit Go.ChangeShapes Go.WideShapes Go.ChangeAt

theorem cellsStep : Try.prog.cellsOf 37 = 3 := by kernel_rfl
theorem intsStep : IntsT Try.prog 37 := by
  refine ints_struct Try.underlying37 (fun i f h => ?_) (fun j hj => ?_)
  · match i, h with
    | 0, h => injection h with h; subst h; exact intsInt
    | 1, h => injection h with h; subst h; exact intsInt
    | 2, h => injection h with h; subst h; exact intsInt
    | i + 3, h => simp at h
  · rw [cellsStep] at hj
    have c1 : Try.prog.cellsOf 3 = 1 := by kernel_rfl
    match j, hj with
    | 0, _ => exact ⟨0, _, rfl, Nat.le_refl _, by show 0 < 0 + Try.prog.cellsOf 3; rw [c1]; decide⟩
    | 1, _ => exact ⟨1, _, rfl, Nat.le_refl _, by show 1 < 1 + Try.prog.cellsOf 3; rw [c1]; decide⟩
    | 2, _ => exact ⟨2, _, rfl, Nat.le_refl _, by show 2 < 2 + Try.prog.cellsOf 3; rw [c1]; decide⟩
/-- A slice of steps that came in. -/
theorem read_steps {H : Type} {enc : TypeId × Value → H} {W : World} {base : Nat} {r : Reach} {v : Value} {d : DataW H} {ps : List MemPlace}
    (hv : Value.okWide Try.prog W r base 35 v) (h : DataW.Trod enc Try.prog W 0 (fun _ => true) true 35 v d ps) :
    ∃ (A : Option Addr) (c : Nat) (l : List Use), v = .slice A l.length c ∧ Sl W W.heap.size 3 A c (l.map Use.row) := by
  obtain ⟨A, c, ls, rfl, hs, hl⟩ := read_rows Try.underlying35 cellsStep (by decide) intsStep hv h
  obtain ⟨l, hll⟩ : ∃ l : List Use, ls.map (fun l => l.map (Value.int .i64)) = l.map Use.row := by
    clear hs hv h
    induction ls with
    | nil => exact ⟨[], rfl⟩
    | cons x xs ih =>
      obtain ⟨l, hl'⟩ := ih (fun y hy => hl y (List.mem_cons_of_mem _ hy))
      have h3 := (hl x (List.mem_cons_self ..)).1
      match x, h3 with
      | [a, b, d], _ => exact ⟨⟨a, b, d⟩ :: l, by simp only [List.map_cons, hl']; rfl⟩
  rw [hll] at hs
  have hlen := congrArg List.length hll
  simp only [List.length_map] at hlen
  exact ⟨A, c, l, by rw [hlen], hs⟩
end Go.Proofs.Ythjmglbjlfgmaaa
