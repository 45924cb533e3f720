/- The contracts of the slices functions, said of lists of uses. -/
import Derived.Test.YthjmglbjlfgmaaaQm
import Derived.Test.YthjmglbjlfgmaaaQg
import Derived.Test.YthjmglbjlfgmaaaQj
namespace Go.Proofs.Ythjmglbjlfgmaaa
open Go Go.RowKit

theorem nots_uses (t c k : Int) (l : List Use) : nots (old t c k) (l.map Use.row) = (pruned t c k l).map Use.row := by
  unfold nots pruned
  rw [List.filter_map]
  congr 1
theorem Prune_uses (t c k : Int) (A : Option Addr) (cap : Nat) (l : List Use) (w : World) (hs : Sl w w.heap.size 3 A cap (l.map Use.row)) (hb : l.length ≤ 1000000) (ht0 : 0 ≤ t) (ht1 : t ≤ 4000) (hk0 : 0 ≤ k) (hk1 : k ≤ 4000) :
    Calls Try.prog 16 #[.slice A l.length cap, .agg #[.int .i64 t, .int .i64 c], .int .i64 k] w (RetUses (pruned t c k l) w) := by
  have h := Prune_any t c k A cap (l.map Use.row) w hs (by simpa using hb) ht0 ht1 hk0 hk1
  rw [nots_uses, List.length_map] at h
  exact h

def toUse (x : List Value) : Use := ⟨cellInt x 0, cellInt x 1, cellInt x 2⟩
theorem toUse_row (u : Use) : toUse u.row = u := rfl
theorem bsPos_uses (s k : Int) (l : List Use) : bsPos (fun x => ordU (toUse x) (newU s k 0)) (l.map Use.row) = spot s k l := by
  unfold bsPos spot
  rw [List.findIdx_map]
  rfl
theorem bsHit_uses (s k : Int) (l : List Use) : bsHit (fun x => ordU (toUse x) (newU s k 0)) (l.map Use.row) = hitU s k l := by
  unfold bsHit hitU
  rw [bsPos_uses, List.getElem?_map]
  cases l[spot s k l]? <;> simp [toUse_row]
theorem order_enters : ∀ args w, (callFunc 26 args).run Try.prog w = .ok (.enter 26 args) w := fun _ _ => by kernel_rfl
theorem BS_uses (A : Option Addr) (cap : Nat) (l : List Use) (w : World) (hs : Sl w w.heap.size 3 A cap (l.map Use.row)) (s k : Int) (hb : l.length ≤ 1000000) (hp : l.Pairwise ltU) :
    Calls Try.prog 25 #[.slice A l.length cap, .agg #[.int .i64 k, .int .i64 s, .int .i64 0], .func (.func 26) #[] #[]] w fun e w' =>
      e = .returned (.tuple #[.int .i64 (spot s k l : Int), .bool (hitU s k l)]) ∧ Ext w w' := by
  have h := BinarySearchFunc_any A cap (l.map Use.row) w hs k s 0 26 #[] (fun x => ordU (toUse x) (newU s k 0)) ⟨order_enters, fun x hx w' _ => by
    obtain ⟨u, _, rfl⟩ := List.mem_map.1 hx
    exact order_any u (newU s k 0) w'⟩ (by simpa using hb) (fun i j x y hij hx hy hlt => by
    rw [List.getElem?_map] at hx hy
    simp only [Option.map_eq_some_iff] at hx hy
    obtain ⟨u, hu, rfl⟩ := hx
    obtain ⟨v, hv, rfl⟩ := hy
    rw [toUse_row, ordU_lt] at hlt ⊢
    obtain ⟨h1, rfl⟩ := List.getElem?_eq_some_iff.1 hu
    obtain ⟨h2, rfl⟩ := List.getElem?_eq_some_iff.1 hv
    exact ltU_trans ((List.pairwise_iff_getElem.1 hp) i j h1 h2 hij) hlt)
  rw [bsPos_uses, bsHit_uses, List.length_map] at h
  exact h

theorem Insert_uses (v : Value) (base : Nat) (l : List Use) (w : World) (ho : w.ownsRow base 40 3 v l.length (l.map Use.row).flatten) (hb : l.length ≤ 1000000) (hbase : base ≤ w.heap.size) (i : Nat) (hi : i ≤ l.length)
    (u : Use) (vb : Nat) (hvb : v.ownBlock ≠ some vb) (hv : w.heap[vb]? = some (.cells u.row.toArray 40 (0, 0))) :
    Calls Try.prog 27 #[v, .int .i64 i, .slice (some ⟨vb, 0, none⟩) 1 1] w (RetEnd 40 3 base ((l.take i ++ u :: l.drop i).map Use.row) v.ownBlock w) := by
  have h := Insert_any v base (l.map Use.row) w (by simpa using ho) (rws_map l) (by simpa using hb) hbase i (by simpa using hi) u.tick u.site u.count vb hvb hv
  have e : (l.take i ++ u :: l.drop i).map Use.row = insAt (l.map Use.row) i (row u.tick u.site u.count) := by simp [insAt, Use.row, row]
  rw [e]
  exact h

theorem set_third (l : List Use) (i : Nat) (u : Use) (n : Int) (h : l[i]? = some u) : (l.map Use.row).flatten.set (i * 3 + 2) (.int .i64 (u.count + n)) = ((l.modify i (raise n)).map Use.row).flatten := by
  obtain ⟨hi, rfl⟩ := List.getElem?_eq_some_iff.1 h
  have hr := (rws_map l).len
  have h3 := set3_flatten (l.map Use.row) i (.int .i64 l[i].tick) (.int .i64 l[i].site) (.int .i64 (l[i].count + n)) hr (by simpa using hi)
  have hf := flatten_at (l.map Use.row) hr i l[i].row (by simp [hi])
  have e0 : (l.map Use.row).flatten.set (i * 3) (.int .i64 l[i].tick) = (l.map Use.row).flatten := by
    obtain ⟨h1, h2⟩ := List.getElem?_eq_some_iff.1 (hf 0 _ rfl)
    simp only [Nat.add_zero] at h1 h2
    rw [← h2, List.set_getElem_self]
  have e1 : (l.map Use.row).flatten.set (i * 3 + 1) (.int .i64 l[i].site) = (l.map Use.row).flatten := by
    obtain ⟨h1, h2⟩ := List.getElem?_eq_some_iff.1 (hf 1 _ rfl)
    rw [← h2, List.set_getElem_self]
  rw [e0, e1] at h3
  rw [h3]
  congr 1
  apply List.ext_getElem?
  intro j
  rw [List.getElem?_set, List.getElem?_map, List.getElem?_map, List.getElem?_modify]
  by_cases hj : i = j
  · subst hj; simp [hi, raise, Use.row]
  · simp [hj]

/-- What a take hands back, read. -/
def RetTake (r : List Use × Int) (w : World) (en : Ending) (w' : World) : Prop :=
  ∃ A cap, en = .returned (.tuple #[.slice A r.1.length cap, .int .i64 r.2]) ∧ Sl w' w'.heap.size 3 A cap (r.1.map Use.row) ∧ Ext w w'
theorem RetTake.err {r : List Use × Int} {w w' : World} {code : Int} (h : r = ([], code)) (hx : Ext w w') : RetTake r w (.returned (.tuple #[.slice none 0 0, .int .i64 code])) w' := by
  subst h
  exact ⟨none, 0, rfl, Sl.nil _ _ _, hx⟩
theorem RetTake.own {r : List Use × Int} {l : List Use} {w w' : World} {base : Nat} {v : Value} {n : Nat} (h : r = (l, 0)) (hn : n = l.length) (ho : w'.ownsRow base 40 3 v n (l.map Use.row).flatten) (hx : Ext w w') : RetTake r w (.returned (.tuple #[v, .int .i64 0])) w' := by
  subst h hn
  obtain ⟨A, c, rfl, _, _⟩ := own_form ho
  exact ⟨A, c, rfl, Sl.of_own ho (rws_map l) (by simp), hx⟩
/-- The same, and the list lies in a block that was not there before. -/
def RetTakeF (r : List Use × Int) (w : World) (en : Ending) (w' : World) : Prop :=
  ∃ A cap, en = .returned (.tuple #[.slice A r.1.length cap, .int .i64 r.2]) ∧ Sl w' w'.heap.size 3 A cap (r.1.map Use.row) ∧ Ext w w' ∧ ∀ a : Addr, A = some a → w.heap.size ≤ a.block
theorem RetTakeF.plain {r : List Use × Int} {w w' : World} {en : Ending} (h : RetTakeF r w en w') : RetTake r w en w' := by
  obtain ⟨A, c, h1, h2, h3, _⟩ := h
  exact ⟨A, c, h1, h2, h3⟩
theorem RetTakeF.err {r : List Use × Int} {w w' : World} {code : Int} (h : r = ([], code)) (hx : Ext w w') : RetTakeF r w (.returned (.tuple #[.slice none 0 0, .int .i64 code])) w' := by
  subst h
  exact ⟨none, 0, rfl, Sl.nil _ _ _, hx, fun a h => by cases h⟩
theorem RetTakeF.own {r : List Use × Int} {l : List Use} {w w' : World} {base : Nat} {v : Value} {n : Nat} (h : r = (l, 0)) (hn : n = l.length) (ho : w'.ownsRow base 40 3 v n (l.map Use.row).flatten) (hx : Ext w w') (hb : w.heap.size ≤ base) : RetTakeF r w (.returned (.tuple #[v, .int .i64 0])) w' := by
  subst h hn
  have ho2 := ho
  obtain ⟨_, h2⟩ := ho
  obtain ⟨A, c, rfl, _, _⟩ := own_form ho2
  refine ⟨A, c, rfl, Sl.of_own ho2 (rws_map l) (by simp), hx, fun a ha => ?_⟩
  rcases h2 with h2 | ⟨g, cp, cur, e1, e2, _⟩
  · rw [ha] at h2; simp at h2
  · rw [ha] at e1; simp at e1; rw [e1.1]; simp; omega
theorem pruned_sorted {t c k : Int} {l : List Use} (h : l.Pairwise ltU) : (pruned t c k l).Pairwise ltU := h.filter _
theorem pruned_len' (t c k : Int) (l : List Use) : (pruned t c k l).length ≤ l.length := List.length_filter_le _ _
end Go.Proofs.Ythjmglbjlfgmaaa
