/- Reading of arguments: a type all of whose cells are ints; a slice of such; a struct by value; the step from a walk to a law's row. For every program that the seat's is. -/
import Derived.Test.YthjmglbjlfgmaaaOwn
import Derived.ProofKit
import Derived.Lib.SmallJoins
import Derived.Deep.Slices
import Derived.OpenShut
namespace Go.Proofs.Ythjmglbjlfgmaaa
open Go Go.RowKit Go.ChangeShapes Go.WideShapes Go.ChangeAt

section
variable {P : Program}
/-- Whatever reads at type t is a row of ints. -/
def IntsT (P : Program) (t : TypeId) : Prop := ∀ (H : Type) (enc : TypeId × Value → H) (w : World) (base : Nat) (spare : Nat → Bool) (held : Bool) (fuel : Nat) (cs : List Value) (x : DataW H × List MemPlace),
  DataW.trod enc P w base spare held fuel t cs = some x → cs.length = P.cellsOf t ∧ ∀ (c : Value), c ∈ cs → ∃ n : Int, c = .int .i64 n ∧ (Lit.int .i64 n).wf = true
theorem ints_int {t : TypeId} (ht : P.underlying t = some (.int .i64)) (hc : P.cellsOf t = 1) : IntsT P t := fun H enc w base spare held fuel cs x h => by
  obtain ⟨n, rfl, _, hw⟩ := DataW.trod_int ht h
  exact ⟨by rw [hc]; rfl, fun c hc => by simp only [List.mem_singleton] at hc; exact ⟨n, hc, hw⟩⟩
theorem ints_struct {t : TypeId} {fs : Array Field} (ht : P.underlying t = some (.struct fs)) (hf : ∀ (i : Nat) (f : Field), fs[i]? = some f → IntsT P f.type)
    (hcov : ∀ j, j < P.cellsOf t → ∃ (i : Nat) (f : Field), fs[i]? = some f ∧ f.offset ≤ j ∧ j < f.offset + P.cellsOf f.type) : IntsT P t := fun H enc w base spare held fuel cs x h => by
  obtain ⟨xs, n, _, _, hlen, hxl, hg⟩ := DataW.trod_struct ht h
  refine ⟨hlen, fun c hc => ?_⟩
  obtain ⟨j, hj⟩ := List.getElem?_of_mem hc
  have hjl := (List.getElem?_eq_some_iff.1 hj).1
  obtain ⟨i, f, hif, h1, h2⟩ := hcov j (by omega)
  have hx : ∃ y, xs[i]? = some y := ⟨xs[i]'(by rw [hxl]; exact (Array.getElem?_eq_some_iff.1 hif).1), List.getElem?_eq_getElem _⟩
  obtain ⟨y, hy⟩ := hx
  have h3 := hg i f hif
  rw [hy] at h3
  obtain ⟨_, h5⟩ := hf i f hif H enc w base spare held n _ y h3
  refine h5 c ?_
  have : ((cs.drop f.offset).take (P.cellsOf f.type))[j - f.offset]? = some c := by
    rw [List.getElem?_take, if_pos (by omega), List.getElem?_drop, show f.offset + (j - f.offset) = j by omega, hj]
  exact List.mem_of_getElem? this
theorem ints_list {cs : List Value} (h : ∀ (c : Value), c ∈ cs → ∃ n : Int, c = .int .i64 n ∧ (Lit.int .i64 n).wf = true) : ∃ l : List Int, cs = l.map (Value.int .i64) ∧ ∀ n, n ∈ l → (Lit.int .i64 n).wf = true := by
  induction cs with
  | nil => exact ⟨[], rfl, fun n hn => by simp at hn⟩
  | cons c cs ih =>
    obtain ⟨n, rfl, hw⟩ := h c (List.mem_cons_self ..)
    obtain ⟨l, rfl, hl⟩ := ih (fun d hd => h d (List.mem_cons_of_mem _ hd))
    exact ⟨n :: l, rfl, fun m hm => by rcases List.mem_cons.1 hm with rfl | hm; exact hw; exact hl m hm⟩

variable {H : Type} {enc : TypeId × Value → H} {W : World}
/-- A slice of such rows that came in. -/
theorem read_rows {t e : TypeId} {k : Nat} (ht : P.underlying t = some (.slice e)) (hc : P.cellsOf e = k) (hk : 0 < k) (hi : IntsT P e) {base : Nat} {r : Reach} {v : Value} {d : DataW H} {ps : List MemPlace}
    (hv : Value.okWide P W r base t v) (h : DataW.Trod enc P W 0 (fun _ => true) true t v d ps) :
    ∃ (A : Option Addr) (c : Nat) (ls : List (List Int)), v = .slice A ls.length c ∧ Sl W W.heap.size k A c (ls.map fun l => l.map (Value.int .i64)) ∧ ∀ l, l ∈ ls → l.length = k ∧ ∀ n, n ∈ l → (Lit.int .i64 n).wf = true := by
  obtain ⟨a0, len0, cap0, rfl⟩ := okWide_slice ht hv
  obtain ⟨fuel, hf⟩ := h
  have hf' : DataW.trod enc P W 0 (fun _ => true) true fuel t [.slice a0 len0 cap0] = some (d, ps) := by simpa [Value.cells] using hf
  rcases Go.Deep.open_slice ht hf' with ⟨hcs, _⟩ | ⟨a, len, cap, m, n, D, Pl, hcs, _, hl, hm, hmm, _, hel⟩
  · simp only [List.cons.injEq, and_true, Value.slice.injEq] at hcs
    obtain ⟨rfl, rfl, rfl⟩ := hcs
    exact ⟨none, 0, [], rfl, Sl.nil _ _ _, fun l hl => by simp at hl⟩
  · simp only [List.cons.injEq, and_true, Value.slice.injEq] at hcs
    obtain ⟨rfl, rfl, rfl⟩ := hcs
    have hmc : len0 ≤ m := by rw [hmm]; simp; exact hl
    have hall : ∀ i, ∃ l : List Int, i < len0 → l.length = k ∧ (∀ n, n ∈ l → (Lit.int .i64 n).wf = true) ∧ ∀ (j : Nat) (u : Value), (l.map (Value.int .i64))[j]? = some u → W.cell? (a.add (i * k + j)) = some u := by
      intro i
      by_cases hi2 : i < len0
      · obtain ⟨cs', hcells, htr⟩ := hel i (by omega)
        rw [hc] at hcells
        obtain ⟨h1, h2⟩ := hi H enc W 0 (fun _ => true) true n cs' _ htr
        obtain ⟨l, rfl, hw⟩ := ints_list h2
        obtain ⟨_, h3, h4⟩ := World.cells?_some hcells
        refine ⟨l, fun _ => ⟨by simpa using h3, hw, fun j u hu => ?_⟩⟩
        have hj : j < k := by have := (List.getElem?_eq_some_iff.1 hu).1; simp at this h3; omega
        rw [← Go.Deep.add_add, h4 j hj]
        exact hu
      · exact ⟨[], fun h => absurd h hi2⟩
    obtain ⟨f, hfs⟩ := Classical.axiomOfChoice hall
    refine ⟨some a, cap0, (List.range len0).map f, by simp, ⟨by simpa using hl, hm, ?_, fun hpos => ?_⟩, ?_⟩
    · intro x hx
      simp only [List.map_map, List.mem_map, List.mem_range, Function.comp] at hx
      obtain ⟨i, hi2, rfl⟩ := hx
      exact ⟨f i, (hfs i hi2).1, rfl⟩
    · have hpos' : 0 < len0 := by simpa using hpos
      have h0 : ∃ u, W.cell? a = some u := by
        obtain ⟨h1, _, h3⟩ := hfs 0 hpos'
        have hl0 : 0 < ((f 0).map (Value.int .i64)).length := by simp; omega
        have := h3 0 _ (List.getElem?_eq_getElem hl0)
        simp only [Nat.zero_mul, Nat.add_zero] at this
        have ha : a.add 0 = a := by unfold Addr.add; simp
        rw [ha] at this
        exact ⟨_, this⟩
      obtain ⟨u0, h0⟩ := h0
      have hsp := World.cell?_spot h0
      obtain ⟨b, off, spot⟩ := a
      simp only at hsp
      subst hsp
      refine ⟨b, off, rfl, World.block_lt_of_cell? W _ h0, fun j u hu => ?_⟩
      have hlen : ∀ x, x ∈ ((List.range len0).map f).map (fun l => l.map (Value.int .i64)) → x.length = k := by
        intro x hx
        simp only [List.map_map, List.mem_map, List.mem_range, Function.comp] at hx
        obtain ⟨i, hi2, rfl⟩ := hx
        simpa using (hfs i hi2).1
      have hjl : j < (((List.range len0).map f).map (fun l => l.map (Value.int .i64))).flatten.length := (List.getElem?_eq_some_iff.1 hu).1
      rw [flatten_length _ hlen] at hjl
      simp only [List.length_map, List.length_range] at hjl
      have hi2 : j / k < len0 := Nat.div_lt_of_lt_mul (by rw [Nat.mul_comm]; exact hjl)
      have hr : j % k < k := Nat.mod_lt _ hk
      have hj : j = j / k * k + j % k := by rw [Nat.mul_comm]; exact (Nat.div_add_mod j k).symm
      have hrow : (((List.range len0).map f).map (fun l => l.map (Value.int .i64)))[j / k]? = some ((f (j / k)).map (Value.int .i64)) := by
        simp [hi2]
      have hrl : j % k < ((f (j / k)).map (Value.int .i64)).length := by simp [(hfs _ hi2).1]; exact hr
      have h5 := flatten_at _ hlen (j / k) _ hrow (j % k) _ (List.getElem?_eq_getElem hrl)
      rw [← hj, hu] at h5
      have h6 := (hfs _ hi2).2.2 (j % k) _ (List.getElem?_eq_getElem hrl)
      rw [add_lit, ← hj] at h6
      rw [h5]; exact h6
    · intro l hl2
      simp only [List.mem_map, List.mem_range] at hl2
      obtain ⟨i, hi2, rfl⟩ := hl2
      exact ⟨(hfs i hi2).1, (hfs i hi2).2.1⟩

/-- A struct of ints, by value. -/
theorem read_struct {t : TypeId} {fs : Array Field} (ht : P.underlying t = some (.struct fs)) (hi : IntsT P t) {base : Nat} {r : Reach} {v : Value} {d : DataW H} {ps : List MemPlace}
    (hv : Value.okWide P W r base t v) (h : DataW.Trod enc P W 0 (fun _ => true) true t v d ps) :
    ∃ l : List Int, v = .agg (l.map (Value.int .i64)).toArray ∧ l.length = P.cellsOf t ∧ ∀ n, n ∈ l → (Lit.int .i64 n).wf = true := by
  obtain ⟨cs, rfl, hsz⟩ := okWide_struct ht hv
  obtain ⟨fuel, hf⟩ := h
  obtain ⟨h1, h2⟩ := hi H enc W 0 (fun _ => true) true fuel cs.toList _ (by simpa [Value.cells] using hf)
  obtain ⟨l, hl, hw⟩ := ints_list h2
  refine ⟨l, by rw [← hl], ?_, hw⟩
  have := congrArg List.length hl
  simp at this
  omega

/-- The arguments, read again behind a call that leaves what was there alone. -/
theorem args_below (hl : laidOutB P = true) : ∀ (ts : List TypeId) (vs : List Value) (ds : List (DataW H)) (ps : List MemPlace) (W' : World), (∀ t, t ∈ ts → P.readableRec t = true ∧ t < P.types.size) →
    DataW.TrodAll enc P W 0 (fun _ => true) true ts vs ds ps → Below W.heap.size W W' → (∀ x, x ∈ ps → x.block < W.heap.size) → DataW.TrodAll enc P W' 0 (fun b => decide (b < W.heap.size)) true ts vs ds ps
  | [], vs, ds, ps, W', _, h, _, _ => by
    obtain ⟨rfl, rfl, rfl⟩ := trodAll_nil h
    exact rfl
  | t :: ts, vs, ds, ps, W', hr, h, hb, hlt => by
    obtain ⟨v, vs', d, ds', p, q, rfl, rfl, rfl, h1, h2⟩ := trodAll_cons h
    obtain ⟨r1, r2⟩ := hr t (List.mem_cons_self ..)
    exact ⟨p, q, Below.trod hl r1 r2 h1 hb (fun x hx => hlt x (List.mem_append.2 (.inl hx))), args_below hl ts vs' ds' q W' (fun t ht => hr t (List.mem_cons_of_mem _ ht)) h2 hb (fun x hx => hlt x (List.mem_append.2 (.inr hx))), rfl⟩
theorem wf_bounds {n : Int} (h : (Lit.int .i64 n).wf = true) : -9223372036854775808 ≤ n ∧ n ≤ 9223372036854775807 := by
  have h1 : IntKind.i64.min = -9223372036854775808 := rfl
  have h2 : IntKind.i64.max = 9223372036854775807 := rfl
  simp [Lit.wf, h1, h2] at h
  exact h
end
end Go.Proofs.Ythjmglbjlfgmaaa
