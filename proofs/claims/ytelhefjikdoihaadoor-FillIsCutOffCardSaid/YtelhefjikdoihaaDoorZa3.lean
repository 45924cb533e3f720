/- YtelhefjikdoihaaDoorFp · YtelhefjikdoihaaDoorFf · YtelhefjikdoihaaDoorFg · YtelhefjikdoihaaDoorMk · YtelhefjikdoihaaDoorFh · YtelhefjikdoihaaDoorFi · YtelhefjikdoihaaDoorFj · YtelhefjikdoihaaDoorGl · YtelhefjikdoihaaDoorFk · YtelhefjikdoihaaDoorFq -/
import Derived.Outline
import Derived.OwnWalk
import Derived.MapKept
import Derived.Laws.Rows
import Derived.LaidMore
import Derived.Stop.Joined
import Derived.Lay
import Derived.Test.YtelhefjikdoihaaDoorRows
import Derived.Test.YtelhefjikdoihaaDoorZa2
/- Plain laws of points: the order, sorted lists, insertion; regions; the grid's cells by number. -/
namespace Go.Proofs.YtelhefjikdoihaaDoor
open Go Go.RowKit

theorem befP_iff (a b : Pt) : befP a b = true ↔ (a.z < b.z ∨ a.z = b.z ∧ (a.y < b.y ∨ a.y = b.y ∧ a.x < b.x)) := by simp [befP]
theorem befP_irr (a : Pt) : befP a a = false := by rw [Bool.eq_false_iff]; intro h; rw [befP_iff] at h; omega
theorem befP_trans {a b c : Pt} (h : befP a b = true) (k : befP b c = true) : befP a c = true := by rw [befP_iff] at *; omega
theorem befP_total {a b : Pt} (h : befP a b = false) (k : a ≠ b) : befP b a = true := by
  rw [Bool.eq_false_iff] at h
  have h1 : ¬ (a.z < b.z ∨ a.z = b.z ∧ (a.y < b.y ∨ a.y = b.y ∧ a.x < b.x)) := fun g => h ((befP_iff a b).2 g)
  rw [befP_iff]
  have h2 : ¬ (a.x = b.x ∧ a.y = b.y ∧ a.z = b.z) := fun ⟨e1, e2, e3⟩ => k (by cases a; cases b; simp_all)
  omega
theorem befP_asymm {a b : Pt} (h : befP a b = true) : befP b a = false := by
  rw [Bool.eq_false_iff]; intro k; rw [befP_iff] at *; omega
theorem befP_ne {a b : Pt} (h : befP a b = true) : a ≠ b := by rintro rfl; rw [befP_irr] at h; cases h
def SortP (l : List Pt) : Prop := l.Pairwise fun a b => befP a b = true
theorem SortP.nodup {l : List Pt} (h : SortP l) : l.Nodup := h.imp fun h => befP_ne h
theorem SortP.eq {a b : List Pt} (ha : SortP a) (hb : SortP b) (h : ∀ q, q ∈ a ↔ q ∈ b) : a = b := by
  induction a generalizing b with
  | nil =>
    cases b with
    | nil => rfl
    | cons y ys => exact absurd ((h y).2 (List.mem_cons_self ..)) (by simp)
  | cons x xs ih =>
    cases b with
    | nil => exact absurd ((h x).1 (List.mem_cons_self ..)) (by simp)
    | cons y ys =>
      unfold SortP at ha hb
      rw [List.pairwise_cons] at ha hb
      have hxy : x = y := by
        rcases List.mem_cons.1 ((h x).1 (List.mem_cons_self ..)) with e | hx
        · exact e
        · rcases List.mem_cons.1 ((h y).2 (List.mem_cons_self ..)) with e | hy
          · exact e.symm
          · have h1 := befP_asymm (ha.1 y hy)
            rw [hb.1 x hx] at h1
            cases h1
      subst hxy
      congr 1
      refine ih ha.2 hb.2 fun q => ⟨fun hq => ?_, fun hq => ?_⟩
      · rcases List.mem_cons.1 ((h q).1 (List.mem_cons_of_mem _ hq)) with rfl | h1
        · exact absurd rfl (befP_ne (ha.1 q hq))
        · exact h1
      · rcases List.mem_cons.1 ((h q).2 (List.mem_cons_of_mem _ hq)) with rfl | h1
        · exact absurd rfl (befP_ne (hb.1 q hq))
        · exact h1
def insP (p : Pt) : List Pt → List Pt
  | [] => [p]
  | x :: xs => if befP x p then x :: insP p xs else if x = p then x :: xs else p :: x :: xs
theorem putL_ins (p : Pt) : ∀ l, putL l p = insP p l
  | [] => rfl
  | x :: xs => by
    have ih := putL_ins p xs
    unfold insP
    unfold putL at ih ⊢
    have hk : putK (x :: xs) p = if befP x p then putK xs p + 1 else 0 := by
      unfold putK
      rw [List.takeWhile_cons]
      split <;> simp_all
    rw [hk]
    by_cases hb : befP x p = true
    · rw [if_pos hb, if_pos hb, ← ih]
      simp only [List.getElem?_cons_succ, List.take_succ_cons, List.drop_succ_cons]
      split <;> rfl
    · rw [if_neg hb, if_neg hb]
      simp
theorem insP_mem (p q : Pt) : ∀ l, q ∈ insP p l ↔ q = p ∨ q ∈ l
  | [] => by simp [insP]
  | x :: xs => by
    have ih := insP_mem p q xs
    unfold insP
    split
    · simp only [List.mem_cons, ih]
      constructor <;> (intro h; rcases h with h | h | h <;> simp_all)
    · split
      · rename_i h; subst h; simp
      · simp
theorem insP_sort (p : Pt) : ∀ l, SortP l → SortP (insP p l)
  | [], _ => List.pairwise_singleton ..
  | x :: xs, h => by
    unfold SortP at h
    rw [List.pairwise_cons] at h
    unfold insP
    split
    · rename_i hb
      unfold SortP
      rw [List.pairwise_cons]
      refine ⟨fun q hq => ?_, insP_sort p xs h.2⟩
      rcases (insP_mem p q xs).1 hq with rfl | hq
      · exact hb
      · exact h.1 q hq
    · split
      · exact List.pairwise_cons.2 h
      · rename_i hb hne
        have hpx : befP p x = true := befP_total (by simpa using hb) hne
        refine List.pairwise_cons.2 ⟨fun q hq => ?_, List.pairwise_cons.2 h⟩
        rcases List.mem_cons.1 hq with rfl | hq
        · exact hpx
        · exact befP_trans hpx (h.1 q hq)
theorem insP_len {p : Pt} : ∀ {l}, p ∉ l → (insP p l).length = l.length + 1
  | [], _ => rfl
  | x :: xs, h => by
    simp only [List.mem_cons, not_or] at h
    unfold insP
    split
    · rw [List.length_cons, insP_len h.2]; rfl
    · rw [if_neg (fun e => h.1 e.symm)]; rfl
theorem nodup_le : ∀ (n : Nat) (l : List Nat), l.Nodup → (∀ x, x ∈ l → x < n) → l.length ≤ n
  | 0, [], _, _ => Nat.le_refl _
  | 0, x :: _, _, h => absurd (h x (List.mem_cons_self ..)) (by omega)
  | n + 1, l, hd, h => by
    by_cases hn : n ∈ l
    · have h1 := nodup_le n (l.erase n) (hd.erase n) (fun x hx => by
        have hx' := (hd.mem_erase_iff).1 hx
        have := h x hx'.2
        omega)
      rw [List.length_erase_of_mem hn] at h1
      omega
    · have := nodup_le n l hd (fun x hx => by
        have h1 := h x hx
        have h2 : x ≠ n := by rintro rfl; exact hn hx
        omega)
      omega
theorem nodup_map_le {α : Type} (f : α → Nat) (n : Nat) (l : List α) (hd : l.Nodup) (h : ∀ x, x ∈ l → f x < n) (hi : ∀ x y, x ∈ l → y ∈ l → f x = f y → x = y) : l.length ≤ n := by
  have := nodup_le n (l.map f) (by
    unfold List.Nodup at hd ⊢
    rw [List.pairwise_map]
    exact hd.imp_of_mem (fun {a b} ha hb hne he => hne (hi a b ha hb he))) (fun x hx => by obtain ⟨y, hy, rfl⟩ := List.mem_map.1 hx; exact h y hy)
  simpa using this

/-- Two cells are neighbours. -/
def adj (a b : Pt) : Prop := (b.x = a.x ∧ b.y = a.y ∧ (b.z = a.z + 1 ∨ b.z = a.z - 1)) ∨ (b.x = a.x ∧ b.z = a.z ∧ (b.y = a.y + 1 ∨ b.y = a.y - 1)) ∨ (b.y = a.y ∧ b.z = a.z ∧ (b.x = a.x + 1 ∨ b.x = a.x - 1))
theorem adj_symm {a b : Pt} (h : adj a b) : adj b a := by unfold adj at *; omega
/-- The region of a: what can be reached from it by steps to neighbours that F gives c. -/
inductive Reach (F : Pt → Option Int) (c : Int) (a : Pt) : Pt → Prop
  | base : Reach F c a a
  | step {p q : Pt} : Reach F c a p → adj p q → F q = some c → Reach F c a q
theorem Reach.val {F : Pt → Option Int} {c : Int} {a q : Pt} (h : Reach F c a q) (ha : F a = some c) : F q = some c := by
  cases h with
  | base => exact ha
  | step _ _ h => exact h
theorem Reach.trans {F : Pt → Option Int} {c : Int} {a b q : Pt} (h : Reach F c a b) (k : Reach F c b q) : Reach F c a q := by
  induction k with
  | base => exact h
  | step _ h1 h2 ih => exact ih.step h1 h2
theorem Reach.symm {F : Pt → Option Int} {c : Int} {a q : Pt} (h : Reach F c a q) (ha : F a = some c) : Reach F c q a := by
  induction h with
  | base => exact .base
  | step h1 h2 h3 ih => exact ((Reach.base (F := F)).step (adj_symm h2) (h1.val ha)).trans ih
/-- l is the region of a, in order. -/
structure IsReg (F : Pt → Option Int) (c : Int) (a : Pt) (l : List Pt) : Prop where
  sort : SortP l
  mem : ∀ q, q ∈ l ↔ Reach F c a q
theorem IsReg.uniq {F : Pt → Option Int} {c : Int} {a : Pt} {l m : List Pt} (h : IsReg F c a l) (k : IsReg F c a m) : l = m := h.sort.eq k.sort fun q => (h.mem q).trans (k.mem q).symm
/-- l is the border of the region of a, in order. -/
structure IsBrd (F : Pt → Option Int) (c : Int) (a : Pt) (l : List Pt) : Prop where
  sort : SortP l
  mem : ∀ q, q ∈ l ↔ (∃ v, F q = some v ∧ v ≠ c) ∧ ∃ p, Reach F c a p ∧ adj p q
theorem IsBrd.uniq {F : Pt → Option Int} {c : Int} {a : Pt} {l m : List Pt} (h : IsBrd F c a l) (k : IsBrd F c a m) : l = m := h.sort.eq k.sort fun q => (h.mem q).trans (k.mem q).symm

/-! ### grids -/
structure GoodG (g : Gr) (sx sy sz : Nat) : Prop where
  lx : -1048575 ≤ g.box.lo.x ∧ g.box.lo.x ≤ 1048575
  ly : -1048575 ≤ g.box.lo.y ∧ g.box.lo.y ≤ 1048575
  lz : -1048575 ≤ g.box.lo.z ∧ g.box.lo.z ≤ 1048575
  hx : g.box.hi.x = g.box.lo.x + sx
  hy : g.box.hi.y = g.box.lo.y + sy
  hz : g.box.hi.z = g.box.lo.z + sz
  bx : sx ≤ 2097150
  by_ : sy ≤ 2097150
  bz : sz ≤ 2097150
  vol : g.cells.length = sx * sy * sz
  size : volP g.box = g.cells.length
  sp : 0 < g.cells.length → sizeP g.box = ⟨sx, sy, sz⟩
  mat : ∀ v, v ∈ g.cells → 0 ≤ v ∧ v < 256
theorem wrap_small {x : Int} (h : -9223372036854775808 ≤ x ∧ x ≤ 9223372036854775807) : wrap64 x = x := by
  unfold wrap64; omega
theorem good_of {g : Gr} (h : validG g = true) : ∃ sx sy sz, GoodG g sx sy sz := by
  unfold validG shapeG rngP nearN at h
  simp only [Bool.and_eq_true, decide_eq_true_eq, Bool.not_eq_true', Bool.or_eq_false_iff, Bool.and_eq_false_iff, decide_eq_false_iff_not, List.all_eq_true] at h
  obtain ⟨⟨⟨a1, a2⟩, ⟨a3, a4⟩, a5, a6⟩, ⟨⟨b1, b2⟩, ⟨b3, b4⟩, b5, b6⟩, ⟨⟨h0, hle⟩, hlen⟩, hall⟩ := h
  have hlen : (g.cells.length : Int) = volP g.box := by simpa using hlen
  have hmat : ∀ v, v ∈ g.cells → 0 ≤ v ∧ v < 256 := fun v hv => by have := hall v hv; simpa [matN] using this
  by_cases hq : emptyB g.box = true
  · have hv : volP g.box = 0 := by unfold volP sizeP; rw [if_pos hq]; decide +kernel
    have hz : g.box = zeroBx := by
      rcases h0 with h | h
      · exact absurd hv h
      · simpa using h
    refine ⟨0, 0, 0, ⟨by omega, by omega, by omega, by rw [hz]; rfl, by rw [hz]; rfl, by rw [hz]; rfl, by omega, by omega, by omega, by rw [hv] at hlen; omega, hlen.symm, fun hp => by rw [hv] at hlen; omega, hmat⟩⟩
  · have hs : sizeP g.box = subP g.box.hi g.box.lo := by unfold sizeP; rw [if_neg hq]
    have he : g.box.lo.x < g.box.hi.x ∧ g.box.lo.y < g.box.hi.y ∧ g.box.lo.z < g.box.hi.z := by
      have : emptyB g.box = false := by simpa using hq
      simpa [emptyB, inP] using this
    obtain ⟨sx, ex⟩ : ∃ sx : Nat, g.box.hi.x = g.box.lo.x + sx := ⟨(g.box.hi.x - g.box.lo.x).toNat, by omega⟩
    obtain ⟨sy, ey⟩ : ∃ sy : Nat, g.box.hi.y = g.box.lo.y + sy := ⟨(g.box.hi.y - g.box.lo.y).toNat, by omega⟩
    obtain ⟨sz, ez⟩ : ∃ sz : Nat, g.box.hi.z = g.box.lo.z + sz := ⟨(g.box.hi.z - g.box.lo.z).toNat, by omega⟩
    have hsub : subP g.box.hi g.box.lo = ⟨sx, sy, sz⟩ := by
      unfold subP
      rw [wrap_small (by omega), wrap_small (by omega), wrap_small (by omega), ex, ey, ez]
      congr 1 <;> omega
    have n1 : sx * sy ≤ 2097150 * 2097150 := Nat.mul_le_mul (by omega) (by omega)
    have n2 : sx * sy * sz ≤ 2097150 * 2097150 * 2097150 := Nat.mul_le_mul n1 (by omega)
    have hvol : volP g.box = ((sx * sy * sz : Nat) : Int) := by
      unfold volP
      rw [hs, hsub]
      simp only
      have e1 : ((sx : Int) * (sy : Int)) = ((sx * sy : Nat) : Int) := by simp
      rw [e1, wrap_small (x := ((sx * sy : Nat) : Int)) (by omega)]
      have e2 : (((sx * sy : Nat) : Int) * (sz : Int)) = ((sx * sy * sz : Nat) : Int) := by simp
      rw [e2, wrap_small (x := ((sx * sy * sz : Nat) : Int)) (by omega)]
    refine ⟨sx, sy, sz, ⟨by omega, by omega, by omega, ex, ey, ez, by omega, by omega, by omega, by rw [hvol] at hlen; exact Int.ofNat.inj hlen, hlen.symm, fun _ => by rw [hs, hsub], hmat⟩⟩
/-- The number of a cell, and the cell with a number. -/
def idxG (g : Gr) (sx sy : Nat) (p : Pt) : Nat := (p.x - g.box.lo.x).toNat + sx * ((p.y - g.box.lo.y).toNat + sy * (p.z - g.box.lo.z).toNat)
def atG (g : Gr) (sx sy i : Nat) : Pt := ⟨g.box.lo.x + ((i % sx : Nat) : Int), g.box.lo.y + ((i / sx % sy : Nat) : Int), g.box.lo.z + ((i / sx / sy : Nat) : Int)⟩
theorem inP_iff (p : Pt) (b : Bx) : inP p b = true ↔ (b.lo.x ≤ p.x ∧ p.x < b.hi.x) ∧ (b.lo.y ≤ p.y ∧ p.y < b.hi.y) ∧ (b.lo.z ≤ p.z ∧ p.z < b.hi.z) := by
  simp [inP]; omega
section
variable {g : Gr} {sx sy sz : Nat}
theorem mix3 {x y z sx sy sz : Nat} (hx : x < sx) (hy : y < sy) (hz : z < sz) : x + sx * (y + sy * z) < sx * sy * sz := by
  have h1 : y + sy * z + 1 ≤ sy * sz := by
    have := Nat.mul_le_mul_left sy (show z + 1 ≤ sz by omega)
    rw [Nat.mul_add] at this
    omega
  have h2 := Nat.mul_le_mul_left sx h1
  rw [Nat.mul_add, ← Nat.mul_assoc sx sy sz] at h2
  omega
theorem GoodG.idx (G : GoodG g sx sy sz) {p : Pt} (h : inP p g.box = true) : idxG g sx sy p < g.cells.length ∧ atG g sx sy (idxG g sx sy p) = p := by
  rw [inP_iff] at h
  have h1 := G.hx; have h2 := G.hy; have h3 := G.hz
  obtain ⟨x, ex⟩ : ∃ x : Nat, p.x - g.box.lo.x = x := ⟨(p.x - g.box.lo.x).toNat, by omega⟩
  obtain ⟨y, ey⟩ : ∃ y : Nat, p.y - g.box.lo.y = y := ⟨(p.y - g.box.lo.y).toNat, by omega⟩
  obtain ⟨z, ez⟩ : ∃ z : Nat, p.z - g.box.lo.z = z := ⟨(p.z - g.box.lo.z).toNat, by omega⟩
  have hx : x < sx := by omega
  have hy : y < sy := by omega
  have hz : z < sz := by omega
  have e : idxG g sx sy p = x + sx * (y + sy * z) := by unfold idxG; rw [ex, ey, ez]; rfl
  refine ⟨by rw [e, G.vol]; exact mix3 hx hy hz, ?_⟩
  have e1 : (x + sx * (y + sy * z)) % sx = x := by rw [Nat.add_mul_mod_self_left, Nat.mod_eq_of_lt hx]
  have e2 : (x + sx * (y + sy * z)) / sx = y + sy * z := by rw [Nat.add_mul_div_left _ _ (by omega), Nat.div_eq_of_lt hx]; omega
  have e3 : (y + sy * z) % sy = y := by rw [Nat.add_mul_mod_self_left, Nat.mod_eq_of_lt hy]
  have e4 : (y + sy * z) / sy = z := by rw [Nat.add_mul_div_left _ _ (by omega), Nat.div_eq_of_lt hy]; omega
  unfold atG
  rw [e, e1, e2, e3, e4]
  cases p
  simp only at *
  congr 1 <;> omega
theorem GoodG.pos (G : GoodG g sx sy sz) (h : 0 < g.cells.length) : 0 < sx ∧ 0 < sy ∧ 0 < sz := by
  have hv := G.vol
  refine ⟨Nat.pos_of_ne_zero ?_, Nat.pos_of_ne_zero ?_, Nat.pos_of_ne_zero ?_⟩ <;> (rintro rfl; simp at hv; simp [hv] at h)
theorem GoodG.at_ (G : GoodG g sx sy sz) {i : Nat} (h : i < g.cells.length) : inP (atG g sx sy i) g.box = true ∧ idxG g sx sy (atG g sx sy i) = i := by
  obtain ⟨px, py, pz⟩ := G.pos (by omega)
  have hv := G.vol
  have n1 : i % sx < sx := Nat.mod_lt _ px
  have n2 : i / sx % sy < sy := Nat.mod_lt _ py
  have n3 : i / sx / sy < sz := by
    rw [Nat.div_div_eq_div_mul, Nat.div_lt_iff_lt_mul (Nat.mul_pos px py), Nat.mul_comm]
    omega
  have h1 := G.hx; have h2 := G.hy; have h3 := G.hz
  refine ⟨?_, ?_⟩
  · rw [inP_iff]
    unfold atG
    simp only
    generalize i % sx = u at *
    generalize i / sx % sy = v at *
    generalize i / sx / sy = t at *
    omega
  · unfold idxG atG
    simp only
    rw [show g.box.lo.x + ((i % sx : Nat) : Int) - g.box.lo.x = ((i % sx : Nat) : Int) by omega, show g.box.lo.y + ((i / sx % sy : Nat) : Int) - g.box.lo.y = ((i / sx % sy : Nat) : Int) by omega, show g.box.lo.z + ((i / sx / sy : Nat) : Int) - g.box.lo.z = ((i / sx / sy : Nat) : Int) by omega]
    rw [Int.toNat_natCast, Int.toNat_natCast, Int.toNat_natCast, Nat.mod_add_div, Nat.mod_add_div]
theorem GoodG.inj (G : GoodG g sx sy sz) {p q : Pt} (hp : inP p g.box = true) (hq : inP q g.box = true) (h : idxG g sx sy p = idxG g sx sy q) : p = q := by
  rw [← (G.idx hp).2, ← (G.idx hq).2, h]
theorem GoodG.idxW (G : GoodG g sx sy sz) {p : Pt} (h : inP p g.box = true) : idxW g.box p = idxG g sx sy p := by
  have hp := (G.idx h).1
  have hsz := G.sp (by omega)
  obtain ⟨px, py, pz⟩ := G.pos (by omega)
  rw [inP_iff] at h
  have h1 := G.hx; have h2 := G.hy; have h3 := G.hz
  have b1 := G.bx; have b2 := G.by_; have b3 := G.bz
  have l1 := G.lx; have l2 := G.ly; have l3 := G.lz
  obtain ⟨x, ex⟩ : ∃ x : Nat, p.x - g.box.lo.x = x := ⟨(p.x - g.box.lo.x).toNat, by omega⟩
  obtain ⟨y, ey⟩ : ∃ y : Nat, p.y - g.box.lo.y = y := ⟨(p.y - g.box.lo.y).toNat, by omega⟩
  obtain ⟨z, ez⟩ : ∃ z : Nat, p.z - g.box.lo.z = z := ⟨(p.z - g.box.lo.z).toNat, by omega⟩
  have hsub : subP p g.box.lo = ⟨x, y, z⟩ := by
    unfold subP
    rw [ex, ey, ez, wrap_small (by omega), wrap_small (by omega), wrap_small (by omega)]
  have hx : x < sx := by omega
  have hy : y < sy := by omega
  have hz : z < sz := by omega
  have m1 : sy * z ≤ 2097150 * 2097150 := Nat.mul_le_mul (by omega) (by omega)
  have m2 := mix3 hx hy hz
  have n1 : sx * sy ≤ 2097150 * 2097150 := Nat.mul_le_mul (by omega) (by omega)
  have n2 : sx * sy * sz ≤ 2097150 * 2097150 * 2097150 := Nat.mul_le_mul n1 (by omega)
  unfold Go.Proofs.YtelhefjikdoihaaDoor.idxW idxG
  rw [hsub, hsz, ex, ey, ez]
  simp only [Int.toNat_natCast]
  have e1 : ((sy : Int) * (z : Int)) = ((sy * z : Nat) : Int) := by simp
  rw [e1, wrap_small (x := ((sy * z : Nat) : Int)) (by omega)]
  have e2 : ((y : Int) + ((sy * z : Nat) : Int)) = ((y + sy * z : Nat) : Int) := by simp
  rw [e2, wrap_small (x := ((y + sy * z : Nat) : Int)) (by omega)]
  have e3 : ((sx : Int) * ((y + sy * z : Nat) : Int)) = ((sx * (y + sy * z) : Nat) : Int) := by simp
  rw [e3, wrap_small (x := ((sx * (y + sy * z) : Nat) : Int)) (by omega)]
  have e4 : ((x : Int) + ((sx * (y + sy * z) : Nat) : Int)) = ((x + sx * (y + sy * z) : Nat) : Int) := by simp
  rw [e4, wrap_small (x := ((x + sx * (y + sy * z) : Nat) : Int)) (by omega)]
theorem GoodG.atW (G : GoodG g sx sy sz) {i : Nat} (h : i < g.cells.length) : addP g.box.lo ⟨(i : Int) % sx, (i : Int) / sx % sy, (i : Int) / sx / sy⟩ = atG g sx sy i := by
  have hi := (G.at_ h).1
  rw [inP_iff] at hi
  have h1 := G.hx; have h2 := G.hy; have h3 := G.hz
  have b1 := G.bx; have b2 := G.by_; have b3 := G.bz
  have l1 := G.lx; have l2 := G.ly; have l3 := G.lz
  unfold addP
  have e1 : (i : Int) % (sx : Int) = ((i % sx : Nat) : Int) := by simp
  have e2 : (i : Int) / (sx : Int) % (sy : Int) = ((i / sx % sy : Nat) : Int) := by simp
  have e3 : (i : Int) / (sx : Int) / (sy : Int) = ((i / sx / sy : Nat) : Int) := by simp
  unfold atG at hi ⊢
  simp only at hi ⊢
  rw [e1, e2, e3]
  generalize i % sx = u at *
  generalize i / sx % sy = v at *
  generalize i / sx / sy = t at *
  rw [ wrap_small (by omega), wrap_small (by omega), wrap_small (by omega)]
end
/-- The grid as a field. -/
def fld (g : Gr) (p : Pt) : Option Int := if inP p g.box then some (match idxW g.box p with | .ofNat k => g.cells.getD k 0 | _ => 0) else none
theorem GoodG.fld_in {g : Gr} {sx sy sz : Nat} (G : GoodG g sx sy sz) {p : Pt} (h : inP p g.box = true) : ∃ v, fld g p = some v ∧ g.cells[idxG g sx sy p]? = some v := by
  have hk := (G.idx h).1
  refine ⟨g.cells[idxG g sx sy p], ?_, List.getElem?_eq_getElem hk⟩
  unfold fld
  rw [if_pos h, G.idxW h]
  simp [List.getD, List.getElem?_eq_getElem hk]
theorem fld_out {g : Gr} {p : Pt} (h : inP p g.box = false) : fld g p = none := by unfold fld; rw [h]; rfl
theorem fld_some {g : Gr} {p : Pt} {v : Int} (h : fld g p = some v) : inP p g.box = true := by
  cases hq : inP p g.box
  · rw [fld_out hq] at h; cases h
  · rfl
/-- Small coordinates. -/
def Small (p : Pt) : Prop := (-2000000 ≤ p.x ∧ p.x ≤ 2000000) ∧ (-2000000 ≤ p.y ∧ p.y ≤ 2000000) ∧ (-2000000 ≤ p.z ∧ p.z ≤ 2000000)
theorem GoodG.small {g : Gr} {sx sy sz : Nat} (G : GoodG g sx sy sz) (hr : rngP g.box.hi = true) {p : Pt} (h : inP p g.box = true) : Small p := by
  rw [inP_iff] at h
  have l1 := G.lx; have l2 := G.ly; have l3 := G.lz
  unfold rngP nearN at hr
  simp only [Bool.and_eq_true, decide_eq_true_eq] at hr
  unfold Small
  omega
theorem sq_one (a b c : Int) : a * a + b * b + c * c = 1 ↔ (a = 0 ∧ b = 0 ∧ (c = 1 ∨ c = -1)) ∨ (a = 0 ∧ c = 0 ∧ (b = 1 ∨ b = -1)) ∨ (b = 0 ∧ c = 0 ∧ (a = 1 ∨ a = -1)) := by
  have key : ∀ x : Int, x * x = 0 ∧ x = 0 ∨ x * x = 1 ∧ (x = 1 ∨ x = -1) ∨ 4 ≤ x * x ∧ x ≠ 0 ∧ x ≠ 1 ∧ x ≠ -1 := fun x => by
    rcases (show x = 0 ∨ x = 1 ∨ x = -1 ∨ 2 ≤ x ∨ x ≤ -2 by omega) with rfl | rfl | rfl | h | h
    · left; simp
    · right; left; simp
    · right; left; simp
    · right; right; have := Int.mul_le_mul h h (by omega) (by omega); omega
    · right; right
      have h2 : 2 ≤ -x := by omega
      have := Int.mul_le_mul h2 h2 (by omega) (by omega)
      rw [Int.neg_mul_neg] at this
      omega
  have ka := key a; have kb := key b; have kc := key c
  generalize a * a = aa at *
  generalize b * b = bb at *
  generalize c * c = cc at *
  omega
theorem nearW_iff {a b : Pt} (ha : Small a) (hb : Small b) : nearW a b = true ↔ adj a b := by
  unfold nearW Small at *
  obtain ⟨ax, ay, az⟩ := a
  obtain ⟨bx, by_, bz⟩ := b
  simp only at ha hb ⊢
  rw [decide_eq_true_eq]
  have sq : ∀ x : Int, -4000000 ≤ x ∧ x ≤ 4000000 → 0 ≤ x * x ∧ x * x ≤ 16000000000000 := fun x hx => by
    rcases Int.le_total 0 x with h | h
    · have h1 := Int.mul_nonneg h h
      have h2 := Int.mul_le_mul hx.2 hx.2 h (by omega)
      omega
    · have h1 := Int.mul_nonneg (show 0 ≤ -x by omega) (show 0 ≤ -x by omega)
      have h2 := Int.mul_le_mul (show -x ≤ 4000000 by omega) (show -x ≤ 4000000 by omega) (show 0 ≤ -x by omega) (by omega)
      rw [Int.neg_mul_neg] at h1 h2
      omega
  have sx := sq (ax - bx) (by omega)
  have sy := sq (ay - by_) (by omega)
  have sz := sq (az - bz) (by omega)
  rw [wrap_small (x := ax - bx) (by omega), wrap_small (x := ay - by_) (by omega), wrap_small (x := az - bz) (by omega)]
  rw [wrap_small (x := (ax - bx) * (ax - bx)) (by omega), wrap_small (x := (ay - by_) * (ay - by_)) (by omega), wrap_small (x := (az - bz) * (az - bz)) (by omega)]
  rw [wrap_small (x := (ax - bx) * (ax - bx) + (ay - by_) * (ay - by_)) (by omega), wrap_small (by omega), sq_one]
  unfold adj
  simp only
  omega
end Go.Proofs.YtelhefjikdoihaaDoor

/- Contract of the reference's region. -/
namespace Go.Proofs.YtelhefjikdoihaaDoor
open Go Go.RowKit

def lenOf : Value → Nat
  | .slice _ n _ => n
  | _ => 0
theorem atG_any {g : Gr} {sx sy sz : Nat} (G : GoodG g sx sy sz) {i : Nat} (h : i < g.cells.length) (h2 : g.cells.length ≤ 100000) (w : World) :
    Calls Tryd.prog 37 #[.agg #[.int .i64 g.box.lo.x, .int .i64 g.box.lo.y, .int .i64 g.box.lo.z, .int .i64 g.box.hi.x, .int .i64 g.box.hi.y, .int .i64 g.box.hi.z], .int .i64 i] w fun e w' => e = .returned (.tuple #[.agg #[.int .i64 (atG g sx sy i).x, .int .i64 (atG g sx sy i).y, .int .i64 (atG g sx sy i).z], .bool true]) ∧ Ext w w' := by
  obtain ⟨px, py, pz⟩ := G.pos (by omega)
  have h1 := refAt_any g.box i g.cells.length sx sy sz w G.size h (G.sp (by omega)) px py (by have := G.bx; omega) (by have := G.by_; omega) (by omega)
  rw [G.atW h] at h1
  exact h1
theorem get_any {g : Gr} {sx sy sz : Nat} (G : GoodG g sx sy sz) (A : Option Addr) (c : Nat) (p : Pt) (w : World) (hs : Sv w w.heap.size 1 A c (rowsI g.cells)) {v : Int} (h : fld g p = some v) :
    Calls Tryd.prog 27 #[.agg #[.int .i64 g.box.lo.x, .int .i64 g.box.lo.y, .int .i64 g.box.lo.z, .int .i64 g.box.hi.x, .int .i64 g.box.hi.y, .int .i64 g.box.hi.z, .slice A g.cells.length c], .agg #[.int .i64 p.x, .int .i64 p.y, .int .i64 p.z]] w fun e w' => e = .returned (.int .i64 v) ∧ Ext w w' := by
  have hin := fld_some h
  obtain ⟨u, h1, h2⟩ := G.fld_in hin
  rw [h] at h1
  injection h1 with h1
  subst h1
  exact refGet_in g A c p w hs hin _ _ (G.idxW hin) h2
structure GoodL (g : Gr) (v : Int) (a : Pt) (l : List Pt) : Prop where
  sort : SortP l
  mem : a ∈ l
  reach : ∀ q, q ∈ l → Reach (fld g) v a q
theorem GoodL.inb {g : Gr} {v : Int} {a : Pt} {l : List Pt} (h : GoodL g v a l) (ha : fld g a = some v) {q : Pt} (hq : q ∈ l) : inP q g.box = true := fld_some ((h.reach q hq).val ha)
theorem GoodL.len {g : Gr} {v : Int} {a : Pt} {l : List Pt} {sx sy sz : Nat} (h : GoodL g v a l) (ha : fld g a = some v) (G : GoodG g sx sy sz) : l.length ≤ g.cells.length :=
  nodup_map_le (idxG g sx sy) _ l h.sort.nodup (fun _x hx => (G.idx (h.inb ha hx)).1) (fun _x _y hx hy e => G.inj (h.inb ha hx) (h.inb ha hy) e)
theorem GoodL.put {g : Gr} {v : Int} {a : Pt} {l : List Pt} {sx sy sz k : Nat} (h : GoodL g v a l) (ha : fld g a = some v) (G : GoodG g sx sy sz) (hr : rngP g.box.hi = true) (hk : g.cells[k]? = some v) (hn : l.any (fun y => nearW y (atG g sx sy k)) = true) : GoodL g v a (putL l (atG g sx sy k)) := by
  have hkl := (List.getElem?_eq_some_iff.1 hk).1
  have hat := G.at_ hkl
  obtain ⟨y, hy, hny⟩ := List.any_eq_true.1 hn
  have hF : fld g (atG g sx sy k) = some v := by
    obtain ⟨u, h1, h2⟩ := G.fld_in hat.1
    rw [hat.2, hk] at h2
    rw [h1, h2]
  have hR : Reach (fld g) v a (atG g sx sy k) := (h.reach y hy).step ((nearW_iff (G.small hr (h.inb ha hy)) (G.small hr hat.1)).1 hny) hF
  rw [putL_ins]
  exact ⟨insP_sort _ _ h.sort, (insP_mem _ _ _).2 (.inr h.mem), fun q hq => by
    rcases (insP_mem _ _ _).1 hq with rfl | hq
    · exact hR
    · exact h.reach q hq⟩
/-- What a pass that adds nothing shows. -/
def Closed (g : Gr) (v : Int) (sx sy : Nat) (l : List Pt) (k : Nat) : Prop := ∀ j, j < k → atG g sx sy j ∉ l → l.any (fun y => nearW y (atG g sx sy j)) = true → g.cells[j]? ≠ some v
theorem GoodL.isReg {g : Gr} {v : Int} {a : Pt} {l : List Pt} {sx sy sz : Nat} (h : GoodL g v a l) (ha : fld g a = some v) (G : GoodG g sx sy sz) (hr : rngP g.box.hi = true) (hc : Closed g v sx sy l g.cells.length) : IsReg (fld g) v a l :=
  ⟨h.sort, fun q => ⟨h.reach q, fun hq => by
    induction hq with
    | base => exact h.mem
    | @step p q hp ha2 hF ih =>
      apply Classical.byContradiction
      intro hno
      have hin := fld_some hF
      have hi := G.idx hin
      refine hc _ hi.1 (by rw [hi.2]; exact hno) ?_ ?_
      · rw [hi.2, List.any_eq_true]
        exact ⟨p, ih, (nearW_iff (G.small hr (h.inb ha ih)) (G.small hr hin)).2 ha2⟩
      · obtain ⟨u, h1, h2⟩ := G.fld_in hin
        rw [h2, ← h1, hF]⟩⟩
def RetReg (F : Pt → Option Int) (v : Int) (a : Pt) (w : World) (en : Ending) (w' : World) : Prop := ∃ l, IsReg F v a l ∧ RetP l w en w'
/-- The state within a pass. -/
structure PassR (g : Gr) (v : Int) (a : Pt) (sx sy : Nat) (l0 l : List Pt) (gb : Bool) (k : Nat) : Prop where
  good : GoodL g v a l
  more : gb = true → l0.length < l.length
  same : gb = false → l = l0 ∧ Closed g v sx sy l0 k
theorem PassR.keep {g : Gr} {v : Int} {a : Pt} {sx sy k : Nat} {l0 l : List Pt} {gb : Bool} (h : PassR g v a sx sy l0 l gb k) (hno : atG g sx sy k ∈ l ∨ l.any (fun y => nearW y (atG g sx sy k)) = false ∨ g.cells[k]? ≠ some v) : PassR g v a sx sy l0 l gb (k + 1) :=
  ⟨h.good, h.more, fun hg => by
    obtain ⟨rfl, hc⟩ := h.same hg
    refine ⟨rfl, fun j hj h1 h2 => ?_⟩
    rcases Nat.lt_succ_iff_lt_or_eq.1 hj with h3 | rfl
    · exact hc j h3 h1 h2
    · rcases hno with h4 | h4 | h4
      · exact absurd h4 h1
      · rw [h2] at h4; cases h4
      · exact h4⟩
theorem PassR.grow {g : Gr} {v : Int} {a : Pt} {sx sy sz k : Nat} {l0 l : List Pt} {gb : Bool} (h : PassR g v a sx sy l0 l gb k) (ha : fld g a = some v) (G : GoodG g sx sy sz) (hr : rngP g.box.hi = true) (h1 : atG g sx sy k ∉ l) (h2 : l.any (fun y => nearW y (atG g sx sy k)) = true) (h3 : g.cells[k]? = some v) : PassR g v a sx sy l0 (putL l (atG g sx sy k)) true (k + 1) :=
  ⟨h.good.put ha G hr h3 h2, fun _ => by
    have e : (putL l (atG g sx sy k)).length = l.length + 1 := by rw [putL_ins, insP_len h1]
    rw [e]
    cases gb
    · rw [(h.same rfl).1]; omega
    · have := h.more rfl; omega, fun h => by cases h⟩
set_option maxRecDepth 100000 in
set_option maxHeartbeats 8000000 in
theorem region_any (g : Gr) (A : Option Addr) (c : Nat) (a : Pt) (v : Int) (w : World) (hs : Sv w w.heap.size 1 A c (rowsI g.cells)) (hv : validG g = true) (h200 : g.cells.length ≤ 200) (hF : fld g a = some v) :
    Calls Tryd.prog 35 #[.agg #[.int .i64 g.box.lo.x, .int .i64 g.box.lo.y, .int .i64 g.box.lo.z, .int .i64 g.box.hi.x, .int .i64 g.box.hi.y, .int .i64 g.box.hi.z, .slice A g.cells.length c], .agg #[.int .i64 a.x, .int .i64 a.y, .int .i64 a.z]] w (RetReg (fld g) v a w) := by
  obtain ⟨sx, sy, sz, G⟩ := good_of hv
  have hr : rngP g.box.hi = true := by unfold validG at hv; simp only [Bool.and_eq_true] at hv; exact hv.2.1
  have HG := Lib.hid G; have HR := Lib.hid hr; have HF := Lib.hid hF; have HS := Lib.hid hs
  clear G hr hF hs hv
  go_enter Tryd.func35, Tryd.ntmps35
  go_upto_region 1 with fail
  have B0 := Arr.new w 28 [.int .i64 g.box.lo.x, .int .i64 g.box.lo.y, .int .i64 g.box.lo.z, .int .i64 g.box.hi.x, .int .i64 g.box.hi.y, .int .i64 g.box.hi.z, .slice A g.cells.length c]
  have B1 := Arr.new (w.alloc (.cells #[.int .i64 g.box.lo.x, .int .i64 g.box.lo.y, .int .i64 g.box.lo.z, .int .i64 g.box.hi.x, .int .i64 g.box.hi.y, .int .i64 g.box.hi.z, .slice A g.cells.length c] 28)) 23 [.int .i64 a.x, .int .i64 a.y, .int .i64 a.z]
  have B0 := B0.alloc (.cells #[.int .i64 a.x, .int .i64 a.y, .int .i64 a.z] 23)
  simp only [World.size_alloc_] at B1
  obtain ⟨W0, hW⟩ : ∃ W, W = (w.alloc (.cells #[.int .i64 g.box.lo.x, .int .i64 g.box.lo.y, .int .i64 g.box.lo.z, .int .i64 g.box.hi.x, .int .i64 g.box.hi.y, .int .i64 g.box.hi.z, .slice A g.cells.length c] 28)).alloc (.cells #[.int .i64 a.x, .int .i64 a.y, .int .i64 a.z] 23) := ⟨_, rfl⟩
  have hx0 : Ext w W0 := by rw [hW]; exact ((Ext.refl w).alloc _).alloc _
  rw [← hW] at B0 B1
  rw [← hW]
  clear hW
  have HX0 := Lib.hid hx0
  have HB0 := Lib.hid B0; have HB1 := Lib.hid B1
  clear hx0 B0 B1
  go_upto_region 2 with (first
    | (refine wpList_load_blk 23 (.tmp 3) rfl rfl HB1.out rfl _ Tryd.underlying23 rfl (by kernel_rfl) ?_)
    | (refine wpList_buildRow rfl 31 23 13 rfl 3 (by decide) (by decide) ([.int .i64 a.x, .int .i64 a.y, .int .i64 a.z]) rfl rfl Tryd.underlying31 (by kernel_rfl) (by kernel_rfl) ?_))
  have hs1 : Sv (W0.alloc (.cells #[.int .i64 a.x, .int .i64 a.y, .int .i64 a.z] 23)) (W0.alloc (.cells #[.int .i64 a.x, .int .i64 a.y, .int .i64 a.z] 23)).heap.size 3 (some ⟨W0.heap.size, 0, none⟩) 1 (rowsP [a]) :=
    ⟨Nat.le_refl _, by decide, rowsP_rwk _, fun _ => ⟨W0.heap.size, 0, rfl, by simp, fun j u hu => by
      rw [Nat.zero_add, cell_of_row _ _ _ _ _ _ (heap_alloc_new W0 _)]
      simpa [rowsP, Pt.cells] using hu⟩⟩
  have hx1 : Ext W0 (W0.alloc (.cells #[.int .i64 a.x, .int .i64 a.y, .int .i64 a.z] 23)) := (Ext.refl _).alloc _
  obtain ⟨W1, hW⟩ : ∃ W, W = W0.alloc (.cells #[.int .i64 a.x, .int .i64 a.y, .int .i64 a.z] 23) := ⟨_, rfl⟩
  rw [← hW] at hs1 hx1
  rw [← hW]
  clear hW
  have HX1 := Lib.hid (HX0.out.trans hx1)
  have HB2 := Lib.hid (HB0.out.ext hx1); have HB3 := Lib.hid (HB1.out.ext hx1)
  have HS1 := Lib.hid hs1
  clear hx1 hs1
  go_wp2_with (first
    | (refine wpList_load_blk 28 (.tmp 2) rfl rfl HB2.out rfl _ Tryd.underlying28 rfl (by kernel_rfl) ?_)
    | (refine wpList_load_blk 23 (.tmp 3) rfl rfl HB3.out rfl _ Tryd.underlying23 rfl (by kernel_rfl) ?_)
    | (go_at_call 27; refine (get_any HG.out A c a _ (HS.out.ext HX1.out) HF.out).mono ?_; rintro e W2 ⟨rfl, x2⟩))
  have HX2 := Lib.hid (HX1.out.trans x2)
  have HB4 := Lib.hid (HB2.out.ext x2)
  have HS2 := Lib.hid (HS1.out.ext x2)
  clear x2
  go_loopw [5] (fun lv wr => ∃ (l : List Pt) (A' : Option Addr) (c' : Nat), lv = .slice A' l.length c' ∧ Sv wr wr.heap.size 3 A' c' (rowsP l) ∧ GoodL g v a l ∧ Ext W2 wr) (fun lv _ => g.cells.length + 1 - lenOf lv)
  case atStart => exact ⟨[a], _, 1, rfl, HS2.out, ⟨List.pairwise_singleton .., by simp, fun q hq => by simp at hq; subst hq; exact .base⟩, Ext.refl _⟩
  case round =>
    obtain ⟨l0, A0, c0, rfl, hs0, hgl, hx0⟩ := hrel
    have hl0 := hgl.len HF.out HG.out
    have HS0 := Lib.hid hs0; have HGL := Lib.hid hgl; have HXO := Lib.hid hx0
    clear hs0 hgl hx0
    obtain ⟨wo, hwo⟩ : ∃ wo : World, wo = wr := ⟨_, rfl⟩
    rw [← hwo] at HS0 HXO
    rw [← hwo]
    clear hwo
    go_wp2_with fail
    go_loopw [5, 7, 8] (fun lv gr i wi => ∃ (l : List Pt) (A' : Option Addr) (c' k : Nat) (gb : Bool), lv = .slice A' l.length c' ∧ gr = .bool gb ∧ i = .int .i64 k ∧ k ≤ g.cells.length ∧ Sv wi wi.heap.size 3 A' c' (rowsP l) ∧ PassR g v a sx sy l0 l gb k ∧ Ext wo wi) (fun _ _ i _ => g.cells.length - (intOf i).toNat)
    case atStart => exact ⟨l0, A0, c0, 0, false, rfl, rfl, rfl, Nat.zero_le _, HS0.out, ⟨HGL.out, fun h => absurd h (by simp), fun _ => ⟨rfl, fun j hj => absurd hj (by omega)⟩⟩, Ext.refl _⟩
    case round =>
      obtain ⟨l, A', c', k, gb, rfl, rfl, rfl, hk, hsl, hp, hx⟩ := hrel
      have hll := hp.good.len HF.out HG.out
      have HSL := Lib.hid hsl; have HP := Lib.hid hp; have HX := Lib.hid hx
      have HXA := Lib.hid (HX2.out.trans (HXO.out.trans hx))
      have HB := Lib.hid (HB4.out.ext (HXO.out.trans hx))
      clear hsl hp hx
      have cB := HB.out.cell 6
      have lB := HB.out.lt
      simp only [List.getElem?_cons_zero, List.getElem?_cons_succ] at cB
      by_cases hlt : k < g.cells.length
      · obtain ⟨u, hu⟩ : ∃ u, g.cells[k]? = some u := ⟨_, List.getElem?_eq_getElem hlt⟩
        obtain ⟨b', off, rfl, hbl, r0⟩ := int_row (HS.out.ext HXA.out) hu
        have hl2 : g.cells.length ≤ 100000 := by omega
        have HAT := Lib.hid (fun w' => atG_any HG.out hlt hl2 w')
        have HU := Lib.hid hu
        have HKP := Lib.hid (fun h1 => HP.out.keep (k := k) h1)
        have HGR := Lib.hid (fun h1 h2 h3 => HP.out.grow (k := k) HF.out HG.out HR.out h1 h2 h3)
        clear hu hl2 HP
        generalize atG g sx sy k = p at HAT HKP HGR
        go_upto_region 8 with (first
          | (refine wpList_load_part 25 (.tmp 26) rfl rfl HB.out 0 [.int .i64 g.box.lo.x, .int .i64 g.box.lo.y, .int .i64 g.box.lo.z, .int .i64 g.box.hi.x, .int .i64 g.box.hi.y, .int .i64 g.box.hi.z] rfl rfl _ Tryd.underlying25 rfl (by kernel_rfl) ?_)
          | (go_at_call 37; refine (HAT.out _).mono ?_; rintro e w3 ⟨rfl, x3⟩))
        have B5 := Arr.new w3 23 [.int .i64 p.x, .int .i64 p.y, .int .i64 p.z]
        have hx4 : Ext wr (w3.alloc (.cells #[.int .i64 p.x, .int .i64 p.y, .int .i64 p.z] 23)) := x3.alloc _
        obtain ⟨W4, hW⟩ : ∃ W, W = w3.alloc (.cells #[.int .i64 p.x, .int .i64 p.y, .int .i64 p.z] 23) := ⟨_, rfl⟩
        rw [← hW] at B5 hx4
        rw [← hW]
        clear hW
        have HB5 := Lib.hid B5; have HX4 := Lib.hid hx4
        have r0 : W4.cell? ⟨b', off + k, none⟩ = some (.int .i64 u) := by rw [hx4.cell hbl]; exact r0
        have cB : W4.cell? ⟨w.heap.size, 6, none⟩ = some (.slice (some ⟨b', off, none⟩) g.cells.length c) := by rw [hx4.cell lB]; exact cB
        have lB := Nat.lt_of_lt_of_le lB hx4.size
        have hbl := Nat.lt_of_lt_of_le hbl hx4.size
        have HSL4 := Lib.hid (HSL.out.ext hx4)
        clear x3 hx4 B5
        have HH := Lib.hid (fun (w' : World) (hx : Ext W4 w') => Has_any A' c' l p w' (HSL4.out.ext hx))
        have HT := Lib.hid (fun (w' : World) (hx : Ext W4 w') => touches_any A' c' l p w' (HSL4.out.ext hx))
        generalize hbt : decide (p ∈ l) = bt at HH
        generalize hbn : (l.any fun y => nearW y p) = bn at HT HKP HGR
        have HBT := Lib.hid hbt
        clear hbt hbn
        go_upto_region 9 with (first
          | (refine wpList_load_blk 23 (.tmp 9) rfl rfl HB5.out rfl _ Tryd.underlying23 rfl (by kernel_rfl) ?_)
          | (go_at_call 28; refine (HH.out _ (Ext.refl _)).mono ?_; rintro e W5 ⟨rfl, x5⟩))
        have HB6 := Lib.hid (HB5.out.ext x5)
        go_upto_region 10 with (first
          | (refine wpList_load_blk 23 (.tmp 9) rfl rfl HB6.out rfl _ Tryd.underlying23 rfl (by kernel_rfl) ?_)
          | (go_at_call 38; refine (HT.out _ x5).mono ?_; rintro e W6 ⟨rfl, x6⟩))
        have hx6 := x5.trans x6
        have HB7 := Lib.hid (HB6.out.ext x6)
        have r0 : W6.cell? ⟨b', off + k, none⟩ = some (.int .i64 u) := by rw [hx6.cell hbl]; exact r0
        have cB : W6.cell? ⟨w.heap.size, 6, none⟩ = some (.slice (some ⟨b', off, none⟩) g.cells.length c) := by rw [hx6.cell lB]; exact cB
        have lB := Nat.lt_of_lt_of_le lB hx6.size
        have hbl := Nat.lt_of_lt_of_le hbl hx6.size
        have HX6 := Lib.hid (HX4.out.trans hx6)
        have HXB := Lib.hid (HX.out.trans HX6.out)
        have HSL6 := Lib.hid (HSL4.out.ext hx6)
        clear x5 x6 hx6
        have hcase : (bt = true ∨ (bt = false ∧ bn = false)) ∨ (bt = false ∧ bn = true ∧ u ≠ v) ∨ (bt = false ∧ bn = true ∧ u = v) := by
          cases bt <;> cases bn <;> simp
          exact (Classical.em (u = v)).symm
        rcases hcase with h1 | ⟨rfl, rfl, hne⟩ | ⟨rfl, rfl, rfl⟩
        · have HK := Lib.hid (HKP.out (h1.elim (fun h => .inl (of_decide_eq_true (HBT.out.trans h))) (fun h => .inr (.inl h.2))))
          rcases h1 with rfl | ⟨rfl, rfl⟩ <;>
          · go_wp2
            go_roundw
            case rel => exact ⟨l, A', c', k + 1, gb, rfl, rfl, by go_num, by omega, HSL6.out, HK.out, HXB.out⟩
            case measure => simp [intOf]; omega
        · have HK := Lib.hid (HKP.out (.inr (.inr (by rw [HU.out]; simpa using hne))))
          have hne2 : (u == v) = false := by simpa using hne
          clear hne
          go_wp2
          go_roundw
          case rel => exact ⟨l, A', c', k + 1, gb, rfl, rfl, by go_num, by omega, HSL6.out, HK.out, HXB.out⟩
          case measure => simp [intOf]; omega
        · have HK := Lib.hid (HGR.out (by simpa using HBT.out) rfl HU.out)
          have hb2 : l.length ≤ 100000 := by omega
          have HPUT := Lib.hid (Put_any A' c' l p W6 HSL6.out hb2)
          go_upto_region 11 with fail
          go_wp2_with (first
            | (refine wpList_load_blk 23 (.tmp 9) rfl rfl HB7.out rfl _ Tryd.underlying23 rfl (by kernel_rfl) ?_)
            | (go_at_call 39; refine HPUT.out.mono ?_; rintro e W7 ⟨A7, c7, rfl, s7, x7⟩))
          go_roundw
          case rel => exact ⟨putL l p, A7, c7, k + 1, true, rfl, rfl, by go_num, by omega, s7, HK.out, HXB.out.trans x7⟩
          case measure => simp [intOf]; omega
      · obtain rfl : k = g.cells.length := by omega
        cases gb
        · obtain ⟨rfl, hcl⟩ := HP.out.same rfl
          have HCL := Lib.hid hcl
          clear hcl
          go_wp2
          go_ret
          exact ⟨l, HP.out.good.isReg HF.out HG.out HR.out HCL.out, A', c', rfl, HSL.out, HXA.out⟩
        · have hmore := HP.out.more rfl
          go_wp2
          go_roundw
          case rel => exact ⟨l, A', c', rfl, HSL.out, HP.out.good, HXO.out.trans HX.out⟩
          case measure => simp [lenOf]; omega
end Go.Proofs.YtelhefjikdoihaaDoor

/- Contracts of the reference's Flood, Joined, Border. -/
namespace Go.Proofs.YtelhefjikdoihaaDoor
open Go Go.RowKit

/-- More than 'most' cells can be reached. -/
def Big (F : Pt → Option Int) (v : Int) (a : Pt) (most : Int) : Prop := ∃ r : List Pt, r.Nodup ∧ (∀ q, q ∈ r → Reach F v a q) ∧ most < r.length
theorem nodup_sub : ∀ {l m : List Pt}, l.Nodup → (∀ x, x ∈ l → x ∈ m) → l.length ≤ m.length
  | [], _, _, _ => Nat.zero_le _
  | x :: xs, m, hd, hs => by
    rw [List.nodup_cons] at hd
    have hx := hs x (List.mem_cons_self ..)
    have ih := nodup_sub (l := xs) (m := m.erase x) hd.2 (fun y hy => by
      have hne : y ≠ x := by rintro rfl; exact hd.1 hy
      exact (List.mem_erase_of_ne hne).2 (hs y (List.mem_cons_of_mem _ hy)))
    rw [List.length_erase_of_mem hx] at ih
    have := List.length_pos_of_mem hx
    simp only [List.length_cons]
    omega
theorem Big.no {F : Pt → Option Int} {v : Int} {a : Pt} {most : Int} {l : List Pt} (h : Big F v a most) (hl : IsReg F v a l) (hm : (l.length : Int) ≤ most) : False := by
  obtain ⟨r, h1, h2, h3⟩ := h
  have := nodup_sub h1 (fun x hx => (hl.mem x).2 (h2 x hx))
  omega
theorem IsReg.big {F : Pt → Option Int} {v : Int} {a : Pt} {most : Int} {l : List Pt} (h : IsReg F v a l) (hm : most < l.length) : Big F v a most := ⟨l, h.sort.nodup, fun q hq => (h.mem q).1 hq, hm⟩
def FloodOut (F : Pt → Option Int) (a : Pt) (most : Int) (l : List Pt) (er : Int) : Prop :=
  (F a = none ∧ l = [] ∧ er = 9) ∨ ∃ v, F a = some v ∧ ((Big F v a most ∧ l = [] ∧ er = 2) ∨ (IsReg F v a l ∧ (l.length : Int) ≤ most ∧ er = 0))
theorem FloodOut.uniq {F : Pt → Option Int} {a : Pt} {most : Int} {l l' : List Pt} {er er' : Int} (h : FloodOut F a most l er) (k : FloodOut F a most l' er') : l = l' ∧ er = er' := by
  rcases h with ⟨h1, rfl, rfl⟩ | ⟨v, h1, h3⟩
  · rcases k with ⟨k1, rfl, rfl⟩ | ⟨v', k1, k3⟩
    · exact ⟨rfl, rfl⟩
    · rw [h1] at k1; cases k1
  · rcases k with ⟨k1, rfl, rfl⟩ | ⟨v', k1, k3⟩
    · rw [h1] at k1; cases k1
    · rw [h1] at k1; injection k1 with k1; subst k1
      rcases h3 with ⟨a1, rfl, rfl⟩ | ⟨a1, a2, rfl⟩ <;> rcases k3 with ⟨b1, rfl, rfl⟩ | ⟨b1, b2, rfl⟩
      · exact ⟨rfl, rfl⟩
      · exact (a1.no b1 b2).elim
      · exact (b1.no a1 a2).elim
      · exact ⟨a1.uniq b1, rfl⟩
def BorderOut (F : Pt → Option Int) (a : Pt) (most : Int) (l : List Pt) (er : Int) : Prop :=
  (F a = none ∧ l = [] ∧ er = 9) ∨ ∃ v, F a = some v ∧ ((Big F v a most ∧ l = [] ∧ er = 2) ∨ ((∃ r, IsReg F v a r ∧ (r.length : Int) ≤ most) ∧ IsBrd F v a l ∧ er = 0))
theorem BorderOut.uniq {F : Pt → Option Int} {a : Pt} {most : Int} {l l' : List Pt} {er er' : Int} (h : BorderOut F a most l er) (k : BorderOut F a most l' er') : l = l' ∧ er = er' := by
  rcases h with ⟨h1, rfl, rfl⟩ | ⟨v, h1, h3⟩
  · rcases k with ⟨k1, rfl, rfl⟩ | ⟨v', k1, k3⟩
    · exact ⟨rfl, rfl⟩
    · rw [h1] at k1; cases k1
  · rcases k with ⟨k1, rfl, rfl⟩ | ⟨v', k1, k3⟩
    · rw [h1] at k1; cases k1
    · rw [h1] at k1; injection k1 with k1; subst k1
      rcases h3 with ⟨a1, rfl, rfl⟩ | ⟨⟨r, a1, a2⟩, hb, rfl⟩ <;> rcases k3 with ⟨b1, rfl, rfl⟩ | ⟨⟨r', b1, b2⟩, kb, rfl⟩
      · exact ⟨rfl, rfl⟩
      · exact (a1.no b1 b2).elim
      · exact (b1.no a1 a2).elim
      · exact ⟨hb.uniq kb, rfl⟩
/-- It hands back a slice of points and a code, as P says. -/
def RetPE (P : List Pt → Int → Prop) (w : World) (en : Ending) (w' : World) : Prop :=
  ∃ l er A c, P l er ∧ en = .returned (.tuple #[.slice A l.length c, .int .i64 er]) ∧ Sv w' w'.heap.size 3 A c (rowsP l) ∧ Ext w w'
theorem fld_none {g : Gr} {a : Pt} {sx sy sz : Nat} (_G : GoodG g sx sy sz) (h : inP a g.box = false) : fld g a = none := fld_out h
set_option maxRecDepth 100000 in
set_option maxHeartbeats 4000000 in
theorem refFlood_any (g : Gr) (A : Option Addr) (c : Nat) (a : Pt) (most : Int) (w : World) (hs : Sv w w.heap.size 1 A c (rowsI g.cells)) (hv : validG g = true) (h200 : g.cells.length ≤ 200) :
    Calls Tryd.prog 12 #[.agg #[.int .i64 g.box.lo.x, .int .i64 g.box.lo.y, .int .i64 g.box.lo.z, .int .i64 g.box.hi.x, .int .i64 g.box.hi.y, .int .i64 g.box.hi.z, .slice A g.cells.length c], .agg #[.int .i64 a.x, .int .i64 a.y, .int .i64 a.z], .int .i64 most] w (RetPE (FloodOut (fld g) a most) w) := by
  obtain ⟨sx, sy, sz, G⟩ := good_of hv
  have HI := Lib.hid (fun w' => refIn_any a g.box w')
  have B0 := Arr.new w 28 [.int .i64 g.box.lo.x, .int .i64 g.box.lo.y, .int .i64 g.box.lo.z, .int .i64 g.box.hi.x, .int .i64 g.box.hi.y, .int .i64 g.box.hi.z, .slice A g.cells.length c]
  have B1 := Arr.new (w.alloc (.cells #[.int .i64 g.box.lo.x, .int .i64 g.box.lo.y, .int .i64 g.box.lo.z, .int .i64 g.box.hi.x, .int .i64 g.box.hi.y, .int .i64 g.box.hi.z, .slice A g.cells.length c] 28)) 23 [.int .i64 a.x, .int .i64 a.y, .int .i64 a.z]
  have B0 := B0.alloc (.cells #[.int .i64 a.x, .int .i64 a.y, .int .i64 a.z] 23)
  simp only [World.size_alloc_] at B1
  have hx0 : Ext w ((w.alloc (.cells #[.int .i64 g.box.lo.x, .int .i64 g.box.lo.y, .int .i64 g.box.lo.z, .int .i64 g.box.hi.x, .int .i64 g.box.hi.y, .int .i64 g.box.hi.z, .slice A g.cells.length c] 28)).alloc (.cells #[.int .i64 a.x, .int .i64 a.y, .int .i64 a.z] 23)) := ((Ext.refl w).alloc _).alloc _
  have HB0 := Lib.hid B0; have HB1 := Lib.hid B1; have HX0 := Lib.hid hx0
  clear B0 B1 hx0
  cases hin : inP a g.box
  · have HF := Lib.hid (fld_out hin)
    rw [hin] at HI
    clear hin G hs
    go_enter Tryd.func12, Tryd.ntmps12
    go_upto_region 2 with (first
      | (refine wpList_load_blk 23 (.tmp 4) rfl rfl HB1.out rfl _ Tryd.underlying23 rfl (by kernel_rfl) ?_)
      | (refine wpList_load_part 25 (.tmp 11) rfl rfl HB0.out 0 [.int .i64 g.box.lo.x, .int .i64 g.box.lo.y, .int .i64 g.box.lo.z, .int .i64 g.box.hi.x, .int .i64 g.box.hi.y, .int .i64 g.box.hi.z] rfl rfl _ Tryd.underlying25 rfl (by kernel_rfl) ?_)
      | (go_at_call 26; refine (HI.out _).mono ?_; rintro e wx ⟨rfl, xx⟩))
    go_wp2
    go_ret2
    exact ⟨[], 9, none, 0, .inl ⟨HF.out, rfl, rfl⟩, rfl, Sv.nil _ _ _, HX0.out.trans xx⟩
  · obtain ⟨v, hF, _⟩ := G.fld_in hin
    rw [hin] at HI
    have HF := Lib.hid hF
    have HR := Lib.hid (fun (w' : World) (hx : Ext w w') => region_any g A c a v w' (hs.ext hx) hv h200 hF)
    clear hin G hs hF hv
    go_enter Tryd.func12, Tryd.ntmps12
    go_upto_region 2 with (first
      | (refine wpList_load_blk 23 (.tmp 4) rfl rfl HB1.out rfl _ Tryd.underlying23 rfl (by kernel_rfl) ?_)
      | (refine wpList_load_part 25 (.tmp 11) rfl rfl HB0.out 0 [.int .i64 g.box.lo.x, .int .i64 g.box.lo.y, .int .i64 g.box.lo.z, .int .i64 g.box.hi.x, .int .i64 g.box.hi.y, .int .i64 g.box.hi.z] rfl rfl _ Tryd.underlying25 rfl (by kernel_rfl) ?_)
      | (go_at_call 26; refine (HI.out _).mono ?_; rintro e wx ⟨rfl, xx⟩))
    have HX1 := Lib.hid (HX0.out.trans xx)
    have HB2 := Lib.hid (HB0.out.ext xx); have HB3 := Lib.hid (HB1.out.ext xx)
    clear xx
    go_upto_region 5 with (first
      | (refine wpList_load_blk 23 (.tmp 4) rfl rfl HB3.out rfl _ Tryd.underlying23 rfl (by kernel_rfl) ?_)
      | (refine wpList_load_blk 28 (.tmp 3) rfl rfl HB2.out rfl _ Tryd.underlying28 rfl (by kernel_rfl) ?_)
      | (go_at_call 35; refine (HR.out _ HX1.out).mono ?_; rintro e wy ⟨l, hreg, A1, c1, rfl, s1, xx⟩))
    by_cases hm : most < l.length
    · go_wp2
      go_ret2
      exact ⟨[], 2, none, 0, .inr ⟨v, HF.out, .inl ⟨hreg.big hm, rfl, rfl⟩⟩, rfl, Sv.nil _ _ _, HX1.out.trans xx⟩
    · go_wp2
      go_ret2
      exact ⟨l, 0, A1, c1, .inr ⟨v, HF.out, .inr ⟨hreg, by omega, rfl⟩⟩, rfl, s1, HX1.out.trans xx⟩
set_option maxRecDepth 100000 in
set_option maxHeartbeats 4000000 in
theorem refJoined_any (g : Gr) (A : Option Addr) (c : Nat) (a b : Pt) (most : Int) (w : World) (hs : Sv w w.heap.size 1 A c (rowsI g.cells)) (hv : validG g = true) (h200 : g.cells.length ≤ 200) :
    Calls Tryd.prog 14 #[.agg #[.int .i64 g.box.lo.x, .int .i64 g.box.lo.y, .int .i64 g.box.lo.z, .int .i64 g.box.hi.x, .int .i64 g.box.hi.y, .int .i64 g.box.hi.z, .slice A g.cells.length c], .agg #[.int .i64 a.x, .int .i64 a.y, .int .i64 a.z], .agg #[.int .i64 b.x, .int .i64 b.y, .int .i64 b.z], .int .i64 most] w fun e w' => ∃ l er, FloodOut (fld g) a most l er ∧ e = .returned (.tuple #[.bool (decide (b ∈ l)), .int .i64 er]) ∧ Ext w w' := by
  have HF := Lib.hid (fun (w' : World) (hx : Ext w w') => refFlood_any g A c a most w' (hs.ext hx) hv h200)
  clear hs hv
  go_enter Tryd.func14, Tryd.ntmps14
  go_upto_region 1 with fail
  have B0 := Arr.new w 28 [.int .i64 g.box.lo.x, .int .i64 g.box.lo.y, .int .i64 g.box.lo.z, .int .i64 g.box.hi.x, .int .i64 g.box.hi.y, .int .i64 g.box.hi.z, .slice A g.cells.length c]
  have B1 := Arr.new (w.alloc (.cells #[.int .i64 g.box.lo.x, .int .i64 g.box.lo.y, .int .i64 g.box.lo.z, .int .i64 g.box.hi.x, .int .i64 g.box.hi.y, .int .i64 g.box.hi.z, .slice A g.cells.length c] 28)) 23 [.int .i64 a.x, .int .i64 a.y, .int .i64 a.z]
  have B2 := Arr.new ((w.alloc (.cells #[.int .i64 g.box.lo.x, .int .i64 g.box.lo.y, .int .i64 g.box.lo.z, .int .i64 g.box.hi.x, .int .i64 g.box.hi.y, .int .i64 g.box.hi.z, .slice A g.cells.length c] 28)).alloc (.cells #[.int .i64 a.x, .int .i64 a.y, .int .i64 a.z] 23)) 23 [.int .i64 b.x, .int .i64 b.y, .int .i64 b.z]
  have B0 := (B0.alloc (.cells #[.int .i64 a.x, .int .i64 a.y, .int .i64 a.z] 23)).alloc (.cells #[.int .i64 b.x, .int .i64 b.y, .int .i64 b.z] 23)
  have B1 := B1.alloc (.cells #[.int .i64 b.x, .int .i64 b.y, .int .i64 b.z] 23)
  have hx0 : Ext w (((w.alloc (.cells #[.int .i64 g.box.lo.x, .int .i64 g.box.lo.y, .int .i64 g.box.lo.z, .int .i64 g.box.hi.x, .int .i64 g.box.hi.y, .int .i64 g.box.hi.z, .slice A g.cells.length c] 28)).alloc (.cells #[.int .i64 a.x, .int .i64 a.y, .int .i64 a.z] 23)).alloc (.cells #[.int .i64 b.x, .int .i64 b.y, .int .i64 b.z] 23)) := (((Ext.refl w).alloc _).alloc _).alloc _
  simp only [World.size_alloc_] at B1 B2
  have HB0 := Lib.hid B0; have HB1 := Lib.hid B1; have HB2 := Lib.hid B2; have HX0 := Lib.hid hx0
  clear B0 B1 B2 hx0
  go_upto_region 2 with (first
    | (refine wpList_load_blk 23 (.tmp 5) rfl rfl HB1.out rfl _ Tryd.underlying23 rfl (by kernel_rfl) ?_)
    | (refine wpList_load_blk 28 (.tmp 4) rfl rfl HB0.out rfl _ Tryd.underlying28 rfl (by kernel_rfl) ?_)
    | (go_at_call 12; refine (HF.out _ HX0.out).mono ?_; rintro e wy ⟨l, er, A1, c1, hP, rfl, s1, xx⟩))
  have HB3 := Lib.hid (HB2.out.ext xx)
  have HX1 := Lib.hid (HX0.out.trans xx)
  have HP := Lib.hid hP
  have HH := Lib.hid (Has_any A1 c1 l b wy s1)
  clear xx hP s1
  go_wp2_with (first
    | (refine wpList_load_blk 23 (.tmp 6) rfl rfl HB3.out rfl _ Tryd.underlying23 rfl (by kernel_rfl) ?_)
    | (go_at_call 28; refine HH.out.mono ?_; rintro e wz ⟨rfl, x2⟩))
  go_ret2
  exact ⟨l, er, HP.out, rfl, HX1.out.trans x2⟩
/-- What the border's pass has found. -/
structure BrdR (g : Gr) (sx sy : Nat) (l o : List Pt) (k : Nat) : Prop where
  sort : SortP o
  mem : ∀ q, q ∈ o ↔ ∃ j, j < k ∧ q = atG g sx sy j ∧ q ∉ l ∧ l.any (fun y => nearW y q) = true
theorem BrdR.len {g : Gr} {sx sy sz k : Nat} {l o : List Pt} (h : BrdR g sx sy l o k) (G : GoodG g sx sy sz) (hk : k ≤ g.cells.length) : o.length ≤ g.cells.length :=
  nodup_map_le (idxG g sx sy) _ o h.sort.nodup (fun x hx => by
    obtain ⟨j, hj, rfl, _⟩ := (h.mem x).1 hx
    rw [(G.at_ (by omega)).2]; omega) (fun x y hx hy e => by
    obtain ⟨j, hj, rfl, _⟩ := (h.mem x).1 hx
    obtain ⟨j', hj', rfl, _⟩ := (h.mem y).1 hy
    exact G.inj (G.at_ (by omega)).1 (G.at_ (by omega)).1 e)
theorem BrdR.keep {g : Gr} {sx sy k : Nat} {l o : List Pt} (h : BrdR g sx sy l o k) (hno : atG g sx sy k ∈ l ∨ l.any (fun y => nearW y (atG g sx sy k)) = false) : BrdR g sx sy l o (k + 1) :=
  ⟨h.sort, fun q => (h.mem q).trans ⟨fun ⟨j, hj, h1⟩ => ⟨j, by omega, h1⟩, fun ⟨j, hj, h1, h2, h3⟩ => by
    rcases Nat.lt_succ_iff_lt_or_eq.1 hj with h4 | rfl
    · exact ⟨j, h4, h1, h2, h3⟩
    · subst h1
      rcases hno with h5 | h5
      · exact absurd h5 h2
      · rw [h5] at h3; cases h3⟩⟩
theorem BrdR.grow {g : Gr} {sx sy k : Nat} {l o : List Pt} (h : BrdR g sx sy l o k) (h1 : atG g sx sy k ∉ l) (h2 : l.any (fun y => nearW y (atG g sx sy k)) = true) : BrdR g sx sy l (putL o (atG g sx sy k)) (k + 1) := by
  rw [putL_ins]
  refine ⟨insP_sort _ _ h.sort, fun q => ?_⟩
  rw [insP_mem, h.mem]
  constructor
  · rintro (rfl | ⟨j, hj, h3⟩)
    · exact ⟨k, by omega, rfl, h1, h2⟩
    · exact ⟨j, by omega, h3⟩
  · rintro ⟨j, hj, rfl, h3, h4⟩
    rcases Nat.lt_succ_iff_lt_or_eq.1 hj with h5 | rfl
    · exact .inr ⟨j, h5, rfl, h3, h4⟩
    · exact .inl rfl
theorem BrdR.done {g : Gr} {v : Int} {a : Pt} {sx sy sz : Nat} {l o : List Pt} (h : BrdR g sx sy l o g.cells.length) (ha : fld g a = some v) (G : GoodG g sx sy sz) (hr : rngP g.box.hi = true) (hl : IsReg (fld g) v a l) : IsBrd (fld g) v a o := by
  refine ⟨h.sort, fun q => (h.mem q).trans ⟨?_, ?_⟩⟩
  · rintro ⟨j, hj, rfl, h1, h2⟩
    have hat := G.at_ hj
    obtain ⟨u, hu, _⟩ := G.fld_in hat.1
    obtain ⟨y, hy, hn⟩ := List.any_eq_true.1 h2
    have hyr := (hl.mem y).1 hy
    have ha2 := (nearW_iff (G.small hr (fld_some (hyr.val ha))) (G.small hr hat.1)).1 hn
    refine ⟨⟨u, hu, ?_⟩, y, hyr, ha2⟩
    rintro rfl
    exact h1 ((hl.mem _).2 (hyr.step ha2 hu))
  · rintro ⟨⟨u, hu, hne⟩, p, hp, hap⟩
    have hin := fld_some hu
    have hi := G.idx hin
    refine ⟨idxG g sx sy q, hi.1, hi.2.symm, fun hq => ?_, ?_⟩
    · have := ((hl.mem q).1 hq).val ha
      rw [hu] at this
      injection this with this
      exact hne this
    · rw [List.any_eq_true]
      exact ⟨p, (hl.mem p).2 hp, (nearW_iff (G.small hr (fld_some (hp.val ha))) (G.small hr hin)).2 hap⟩
set_option maxRecDepth 100000 in
set_option maxHeartbeats 8000000 in
theorem refBorder_any (g : Gr) (A : Option Addr) (c : Nat) (a : Pt) (most : Int) (w : World) (hs : Sv w w.heap.size 1 A c (rowsI g.cells)) (hv : validG g = true) (h200 : g.cells.length ≤ 200) :
    Calls Tryd.prog 16 #[.agg #[.int .i64 g.box.lo.x, .int .i64 g.box.lo.y, .int .i64 g.box.lo.z, .int .i64 g.box.hi.x, .int .i64 g.box.hi.y, .int .i64 g.box.hi.z, .slice A g.cells.length c], .agg #[.int .i64 a.x, .int .i64 a.y, .int .i64 a.z], .int .i64 most] w (RetPE (BorderOut (fld g) a most) w) := by
  obtain ⟨sx, sy, sz, G⟩ := good_of hv
  have hr : rngP g.box.hi = true := by unfold validG at hv; simp only [Bool.and_eq_true] at hv; exact hv.2.1
  have HF := Lib.hid (fun (w' : World) (hx : Ext w w') => refFlood_any g A c a most w' (hs.ext hx) hv h200)
  have HG := Lib.hid G; have HR := Lib.hid hr
  clear G hr hs hv
  go_enter Tryd.func16, Tryd.ntmps16
  go_upto_region 1 with fail
  have B0 := Arr.new w 28 [.int .i64 g.box.lo.x, .int .i64 g.box.lo.y, .int .i64 g.box.lo.z, .int .i64 g.box.hi.x, .int .i64 g.box.hi.y, .int .i64 g.box.hi.z, .slice A g.cells.length c]
  have B1 := Arr.new (w.alloc (.cells #[.int .i64 g.box.lo.x, .int .i64 g.box.lo.y, .int .i64 g.box.lo.z, .int .i64 g.box.hi.x, .int .i64 g.box.hi.y, .int .i64 g.box.hi.z, .slice A g.cells.length c] 28)) 23 [.int .i64 a.x, .int .i64 a.y, .int .i64 a.z]
  have B0 := B0.alloc (.cells #[.int .i64 a.x, .int .i64 a.y, .int .i64 a.z] 23)
  have hx0 : Ext w ((w.alloc (.cells #[.int .i64 g.box.lo.x, .int .i64 g.box.lo.y, .int .i64 g.box.lo.z, .int .i64 g.box.hi.x, .int .i64 g.box.hi.y, .int .i64 g.box.hi.z, .slice A g.cells.length c] 28)).alloc (.cells #[.int .i64 a.x, .int .i64 a.y, .int .i64 a.z] 23)) := ((Ext.refl w).alloc _).alloc _
  simp only [World.size_alloc_] at B1
  have HB0 := Lib.hid B0; have HB1 := Lib.hid B1; have HX0 := Lib.hid hx0
  clear B0 B1 hx0
  go_upto_region 2 with (first
    | (refine wpList_load_blk 23 (.tmp 4) rfl rfl HB1.out rfl _ Tryd.underlying23 rfl (by kernel_rfl) ?_)
    | (refine wpList_load_blk 28 (.tmp 3) rfl rfl HB0.out rfl _ Tryd.underlying28 rfl (by kernel_rfl) ?_)
    | (go_at_call 12; refine (HF.out _ HX0.out).mono ?_; rintro e wy ⟨l, er, A1, c1, hP, rfl, s1, xx⟩))
  have HB3 := Lib.hid (HB0.out.ext xx)
  have HX1 := Lib.hid (HX0.out.trans xx)
  have HS1 := Lib.hid s1
  clear xx s1
  rcases hP with ⟨hf, rfl, rfl⟩ | ⟨v, hf, ⟨hreg, rfl, rfl⟩ | ⟨hreg, hm, rfl⟩⟩
  · have HFA := Lib.hid hf
    clear hf
    go_wp2
    go_ret2
    exact ⟨[], 9, none, 0, .inl ⟨HFA.out, rfl, rfl⟩, rfl, Sv.nil _ _ _, HX1.out⟩
  · have HFA := Lib.hid hf; have HREG := Lib.hid hreg
    clear hf hreg
    go_wp2
    go_ret2
    exact ⟨[], 2, none, 0, .inr ⟨v, HFA.out, .inl ⟨HREG.out, rfl, rfl⟩⟩, rfl, Sv.nil _ _ _, HX1.out⟩
  · have HFA := Lib.hid hf; have HREG := Lib.hid hreg
    have HM := Lib.hid hm
    clear hf hreg hm
    have HS2 := HS1
    have hrl : l.length ≤ 9223372036854775807 := by have h := HS1.out.len; rw [rowsP_length] at h; exact h
    go_wp2_with fail
    go_loopw [10, 11] (fun ov i wr => ∃ (o : List Pt) (A' : Option Addr) (c' k : Nat), ov = .slice A' o.length c' ∧ i = .int .i64 k ∧ k ≤ g.cells.length ∧ Sv wr wr.heap.size 3 A' c' (rowsP o) ∧ BrdR g sx sy l o k ∧ Ext wy wr) (fun _ i _ => g.cells.length - (intOf i).toNat)
    case atStart => exact ⟨[], none, 0, 0, rfl, rfl, Nat.zero_le _, Sv.nil _ _ _, ⟨List.Pairwise.nil, fun q => ⟨fun h => absurd h (by simp), fun ⟨j, hj, _⟩ => absurd hj (by omega)⟩⟩, Ext.refl _⟩
    case round =>
      obtain ⟨o, A', c', k, rfl, rfl, hk, hso, hp, hx⟩ := hrel
      have hol := hp.len HG.out hk
      have HSO := Lib.hid hso; have HP := Lib.hid hp; have HX := Lib.hid hx
      have HXA := Lib.hid (HX1.out.trans hx)
      have HB := Lib.hid (HB3.out.ext hx)
      have HSL := Lib.hid (HS1.out.ext hx)
      clear hso hp hx
      have cB := HB.out.cell 6
      have lB := HB.out.lt
      simp only [List.getElem?_cons_zero, List.getElem?_cons_succ] at cB
      by_cases hlt : k < g.cells.length
      · have hl2 : g.cells.length ≤ 100000 := by omega
        have HAT := Lib.hid (fun w' => atG_any HG.out hlt hl2 w')
        have HKP := Lib.hid (fun h1 => HP.out.keep (k := k) h1)
        have HGR := Lib.hid (fun h1 h2 => HP.out.grow (k := k) h1 h2)
        clear hl2 HP
        generalize atG g sx sy k = p at HAT HKP HGR
        go_upto_region 9 with (first
          | (refine wpList_load_part 25 (.tmp 34) rfl rfl HB.out 0 [.int .i64 g.box.lo.x, .int .i64 g.box.lo.y, .int .i64 g.box.lo.z, .int .i64 g.box.hi.x, .int .i64 g.box.hi.y, .int .i64 g.box.hi.z] rfl rfl _ Tryd.underlying25 rfl (by kernel_rfl) ?_)
          | (go_at_call 37; refine (HAT.out _).mono ?_; rintro e w3 ⟨rfl, x3⟩))
        have B5 := Arr.new w3 23 [.int .i64 p.x, .int .i64 p.y, .int .i64 p.z]
        have hx4 : Ext wr (w3.alloc (.cells #[.int .i64 p.x, .int .i64 p.y, .int .i64 p.z] 23)) := x3.alloc _
        obtain ⟨W4, hW⟩ : ∃ W, W = w3.alloc (.cells #[.int .i64 p.x, .int .i64 p.y, .int .i64 p.z] 23) := ⟨_, rfl⟩
        rw [← hW] at B5 hx4
        rw [← hW]
        clear hW
        have HB5 := Lib.hid B5; have HX4 := Lib.hid hx4
        have HSL4 := Lib.hid (HSL.out.ext hx4)
        clear x3 hx4 B5 cB lB
        have HH := Lib.hid (fun (w' : World) (hx : Ext W4 w') => Has_any A1 c1 l p w' (HSL4.out.ext hx))
        have HT := Lib.hid (fun (w' : World) (hx : Ext W4 w') => touches_any A1 c1 l p w' (HSL4.out.ext hx))
        generalize hbt : decide (p ∈ l) = bt at HH
        generalize hbn : (l.any fun y => nearW y p) = bn at HT HKP HGR
        have HBT := Lib.hid hbt
        clear hbt hbn
        go_upto_region 10 with (first
          | (refine wpList_load_blk 23 (.tmp 12) rfl rfl HB5.out rfl _ Tryd.underlying23 rfl (by kernel_rfl) ?_)
          | (go_at_call 28; refine (HH.out _ (Ext.refl _)).mono ?_; rintro e W5 ⟨rfl, x5⟩))
        have HB6 := Lib.hid (HB5.out.ext x5)
        go_upto_region 11 with (first
          | (refine wpList_load_blk 23 (.tmp 12) rfl rfl HB6.out rfl _ Tryd.underlying23 rfl (by kernel_rfl) ?_)
          | (go_at_call 38; refine (HT.out _ x5).mono ?_; rintro e W6 ⟨rfl, x6⟩))
        have hx6 := x5.trans x6
        have HB7 := Lib.hid (HB6.out.ext x6)
        have HX6 := Lib.hid (HX4.out.trans hx6)
        have HXB := Lib.hid (HX.out.trans HX6.out)
        have HSO6 := Lib.hid (HSO.out.ext HX6.out)
        clear x5 x6 hx6
        have hcase : (bt = true ∨ (bt = false ∧ bn = false)) ∨ (bt = false ∧ bn = true) := by
          cases bt <;> cases bn <;> simp
        rcases hcase with h1 | ⟨rfl, rfl⟩
        · have HK := Lib.hid (HKP.out (h1.elim (fun h => .inl (of_decide_eq_true (HBT.out.trans h))) (fun h => .inr h.2)))
          rcases h1 with rfl | ⟨rfl, rfl⟩ <;>
          · go_wp2
            go_roundw
            case rel => exact ⟨o, A', c', k + 1, rfl, by go_num, by omega, HSO6.out, HK.out, HXB.out⟩
            case measure => simp [intOf]; omega
        · have HK := Lib.hid (HGR.out (by simpa using HBT.out) rfl)
          have hb2 : o.length ≤ 100000 := by omega
          have HPUT := Lib.hid (Put_any A' c' o p W6 HSO6.out hb2)
          go_upto_region 12 with fail
          go_wp2_with (first
            | (refine wpList_load_blk 23 (.tmp 12) rfl rfl HB7.out rfl _ Tryd.underlying23 rfl (by kernel_rfl) ?_)
            | (go_at_call 39; refine HPUT.out.mono ?_; rintro e W7 ⟨A7, c7, rfl, s7, x7⟩))
          go_roundw
          case rel => exact ⟨putL o p, A7, c7, k + 1, rfl, by go_num, by omega, s7, HK.out, HXB.out.trans x7⟩
          case measure => simp [intOf]; omega
      · obtain rfl : k = g.cells.length := by omega
        go_wp2
        go_ret2
        exact ⟨o, 0, A', c', .inr ⟨v, HFA.out, .inr ⟨⟨l, HREG.out, HM.out⟩, HP.out.done HFA.out HG.out HR.out HREG.out, rfl⟩⟩, rfl, HSO.out, HXA.out⟩
end Go.Proofs.YtelhefjikdoihaaDoor

/- Maps whose keys are structs: what a block that is a map says of each key. For every program. -/
namespace Go.Proofs.YtelhefjikdoihaaDoor
open Go Go.RowKit

section
variable {P : Program} {K : Type} [DecidableEq K] {t T e : TypeId} {enc : K → Value}
/-- The type t is a struct whose values enc x are compared as the x are. -/
structure KeyT (P : Program) (t : TypeId) (enc : K → Value) : Prop where
  agg : ∀ x, ∃ cs, enc x = .agg cs
  kind : ∃ fs, P.underlying t = some (.struct fs)
  eq : ∀ x y w, (Op.equal t (enc x) (enc y)).run P w = .ok (decide (x = y)) w
  chk : ∀ b x w, (Instr.checkKey b 10000 t (enc x)).run P w = .ok () w
  same : ∀ x, Instr.sameBits 10000 (enc x) (enc x) = true
  inj : ∀ x y, enc x = enc y → x = y

def findI (q : K) : List (K × Value) → Nat → Option (Nat × Value)
  | [], _ => none
  | e :: es, i => if q = e.1 then some (i, e.2) else findI q es (i + 1)
def lookK (ents : List (K × Value)) (q : K) : Option Value := (findI q ents 0).map (·.2)
theorem findI_shift (q : K) : ∀ (ents : List (K × Value)) (i : Nat), findI q ents (i + 1) = (findI q ents i).map fun x => (x.1 + 1, x.2)
  | [], _ => rfl
  | e :: es, i => by
    unfold findI
    split
    · rfl
    · exact findI_shift q es (i + 1)
theorem lookK_cons (x : K × Value) (ents : List (K × Value)) (q : K) : lookK (x :: ents) q = if q = x.1 then some x.2 else lookK ents q := by
  unfold lookK
  rw [findI]
  split
  · rfl
  · rw [findI_shift]; simp [Option.map_map, Function.comp_def]
theorem lookK_nil (q : K) : lookK ([] : List (K × Value)) q = none := rfl
theorem lookK_snoc (ents : List (K × Value)) (q r : K) (v : Value) (h : lookK ents q = none) : lookK (ents ++ [(q, v)]) r = if r = q then some v else lookK ents r := by
  induction ents with
  | nil => rw [List.nil_append, lookK_cons, lookK_nil]
  | cons x xs ih =>
    rw [lookK_cons] at h
    have hq : q ≠ x.1 := by intro hq; rw [if_pos hq] at h; cases h
    rw [if_neg hq] at h
    rw [List.cons_append, lookK_cons, lookK_cons, ih h]
    by_cases hr : r = x.1
    · rw [if_pos hr, if_pos hr, if_neg (by rw [hr]; exact fun h => hq h.symm)]
    · rw [if_neg hr, if_neg hr]
theorem findI_some {q : K} : ∀ {ents : List (K × Value)} {i : Nat} {v : Value}, findI q ents 0 = some (i, v) → ents[i]? = some (q, v)
  | [], _, _, h => by cases h
  | x :: xs, i, v, h => by
    unfold findI at h
    split at h
    · rename_i hq
      injection h with h; injection h with h1 h2
      subst h1 h2 hq
      rfl
    · rw [findI_shift] at h
      obtain ⟨⟨j, u⟩, hj, he⟩ := Option.map_eq_some_iff.1 h
      injection he with h1 h2
      subst h1 h2
      exact findI_some (ents := xs) hj
theorem findI_none {q : K} {ents : List (K × Value)} {i : Nat} (h : findI q ents i = none) : lookK ents q = none := by
  unfold lookK
  have : ∀ (l : List (K × Value)) (i j : Nat), findI q l i = none → findI q l j = none := by
    intro l
    induction l with
    | nil => intros; rfl
    | cons x xs ih =>
      intro i j h
      unfold findI at h ⊢
      split at h
      · cases h
      · rename_i hq; rw [if_neg hq]; exact ih _ _ h
  rw [this ents i 0 h]; rfl
theorem lookK_modify (q r : K) (v : Value) : ∀ (ents : List (K × Value)) (i : Nat) (u : Value), findI q ents 0 = some (i, u) → lookK (ents.modify i fun _ => (q, v)) r = if r = q then some v else lookK ents r
  | [], _, _, h => by cases h
  | x :: xs, i, u, h => by
    unfold findI at h
    split at h
    · rename_i hq
      injection h with h; injection h with h1 h2
      subst h1
      rw [List.modify_zero_cons, lookK_cons, lookK_cons, ← hq]
      split <;> rfl
    · rename_i hq
      rw [findI_shift] at h
      obtain ⟨⟨j, u'⟩, hj, he⟩ := Option.map_eq_some_iff.1 h
      injection he with h1 h2
      subst h1
      rw [List.modify_succ_cons, lookK_cons, lookK_cons, lookK_modify q r v xs j u' hj]
      by_cases hr : r = x.1
      · rw [if_pos hr, if_pos hr, if_neg (by rw [hr]; exact fun h => hq h.symm)]
      · rw [if_neg hr, if_neg hr]
theorem lookK_mem {ents : List (K × Value)} {q : K} (h : q ∉ ents.map (·.1)) : lookK ents q = none := by
  induction ents with
  | nil => rfl
  | cons x xs ih =>
    simp only [List.map_cons, List.mem_cons, not_or] at h
    rw [lookK_cons, if_neg h.1]
    exact ih h.2
theorem lookK_erase (q r : K) : ∀ (ents : List (K × Value)) (i : Nat) (u : Value), (ents.map (·.1)).Nodup → findI q ents 0 = some (i, u) → lookK (ents.eraseIdx i) r = if r = q then none else lookK ents r
  | [], _, _, _, h => by cases h
  | x :: xs, i, u, hn, h => by
    simp only [List.map_cons, List.nodup_cons] at hn
    unfold findI at h
    split at h
    · rename_i hq
      injection h with h; injection h with h1 h2
      subst h1
      rw [List.eraseIdx_cons_zero, lookK_cons, ← hq]
      by_cases hr : r = q
      · rw [if_pos hr, hr, hq]; exact lookK_mem hn.1
      · rw [if_neg hr, if_neg hr]
    · rename_i hq
      rw [findI_shift] at h
      obtain ⟨⟨j, u'⟩, hj, he⟩ := Option.map_eq_some_iff.1 h
      injection he with h1 h2
      subst h1
      rw [List.eraseIdx_cons_succ, lookK_cons, lookK_cons, lookK_erase q r xs j u' hn.2 hj]
      by_cases hr : r = x.1
      · rw [if_pos hr, if_pos hr, if_neg (by rw [hr]; exact fun h => hq h.symm)]
      · rw [if_neg hr, if_neg hr]

theorem run_findAsking (kt : KeyT P t enc) (q : K) (w : World) : ∀ (es : List MapEntry) (ents : List (K × Value)) (i : Nat), es.map (fun e => (e.key, e.val)) = ents.map (fun e => (enc e.1, e.2)) →
    (Instr.findAsking t (enc q) es i).run P w = .ok (findI q ents i) w
  | [], [], _, _ => rfl
  | [], _ :: _, _, h => by simp at h
  | _ :: _, [], _, h => by simp at h
  | x :: xs, y :: ys, i, h => by
    simp only [List.map_cons, List.cons.injEq, Prod.mk.injEq] at h
    obtain ⟨⟨hk, hv⟩, ht⟩ := h
    have heq := kt.eq q y.1 w
    have ih := run_findAsking kt q w xs ys (i + 1) ht
    unfold Instr.findAsking findI
    rw [hk]
    by_cases hq : q = y.1
    · rw [decide_eq_true hq] at heq
      simp [hq, hv] at *
      simp [heq]
    · rw [decide_eq_false hq] at heq
      simp [heq, hq, ih]
theorem run_findKey (kt : KeyT P t enc) (q : K) (w : World) (es : List MapEntry) (ents : List (K × Value)) (h : es.map (fun e => (e.key, e.val)) = ents.map (fun e => (enc e.1, e.2))) :
    (Instr.findKey t (enc q) es).run P w = .ok (findI q ents 0) w := by
  have h1 := run_findAsking kt q w es ents 0 h
  obtain ⟨fs, hk⟩ := kt.kind
  unfold Instr.findKey
  cases es with
  | nil =>
    cases ents with
    | nil => simp [run_underlying hk, Instr.findNow, findI]
    | cons => simp at h
  | cons x xs => simp [run_underlying hk, Instr.findNow, Instr.sameNow, h1]

/-- Block b is a map that says m of its keys. -/
def MapF (enc : K → Value) (w : World) (b : Nat) (m : K → Option Value) : Prop :=
  ∃ es clock, ∃ ents : List (K × Value), w.heap[b]? = some (.map es clock) ∧ es.toList.map (fun e => (e.key, e.val)) = ents.map (fun e => (enc e.1, e.2)) ∧ (ents.map (·.1)).Nodup ∧ ∀ q, lookK ents q = m q
theorem MapF.lt {w : World} {b : Nat} {m : K → Option Value} (h : MapF enc w b m) : b < w.heap.size := by
  obtain ⟨es, clock, ents, hb, _⟩ := h
  exact (Array.getElem?_eq_some_iff.1 hb).1
theorem MapF.kept {w w' : World} {b : Nat} {m : K → Option Value} {row : Option Nat} (h : MapF enc w b m) (hg : w.grownBy w' row) (hne : row ≠ some b) : MapF enc w' b m := by
  have hl := h.lt
  obtain ⟨es, clock, ents, hb, h2⟩ := h
  exact ⟨es, clock, ents, (hg.block b hl (fun h => hne h.symm)).trans hb, h2⟩
theorem MapF.ext {w w' : World} {b : Nat} {m : K → Option Value} (h : MapF enc w b m) (hx : Ext w w') : MapF enc w' b m := h.kept (hx.by_ none) (by simp)
theorem MapF.alloc {w : World} {b : Nat} {m : K → Option Value} (h : MapF enc w b m) (o : Obj) : MapF enc (w.alloc o) b m := h.ext ((Ext.refl w).alloc o)
theorem MapF.setCell {w : World} {b : Nat} {m : K → Option Value} (h : MapF enc w b m) {p : Addr} (hp : b ≠ p.block) (u : Value) : MapF enc (w.setCell p u) b m := by
  obtain ⟨es, clock, ents, hb, h2⟩ := h
  exact ⟨es, clock, ents, (heap_setCell_other w p b u hp).trans hb, h2⟩
theorem MapF.cong {w : World} {b : Nat} {m m' : K → Option Value} (h : MapF enc w b m) (hm : ∀ q, m q = m' q) : MapF enc w b m' := by
  obtain ⟨es, clock, ents, h1, h2, h3, h4⟩ := h
  exact ⟨es, clock, ents, h1, h2, h3, fun q => (h4 q).trans (hm q)⟩
theorem MapF.made (w : World) : MapF enc (w.alloc (.map #[] 0)) w.heap.size (fun _ : K => none) :=
  ⟨#[], 0, [], heap_alloc_new w _, rfl, List.nodup_nil, fun _ => rfl⟩
theorem MapF.look {w : World} {b : Nat} {m : K → Option Value} (h : MapF enc w b m) (kt : KeyT P t enc) (ht : P.underlying T = some (.map t e)) {z : Value} (hz : (zeroValue e).run P w = .ok z w) (q : K) (c : Bool) :
    (Instr.lookup T (.map (some b)) (enc q) c).run P w = .ok (if c then .tuple #[(m q).getD z, .bool (m q).isSome] else (m q).getD z) w := by
  obtain ⟨es, clock, ents, hb, hes, _, hm⟩ := h
  have h1 := run_findKey kt q w es.toList ents hes
  have h2 := kt.chk es.isEmpty q w
  have h3 := hm q
  unfold lookK at h3
  unfold Instr.lookup
  cases hf : findI q ents 0 with
  | none =>
    rw [hf] at h1 h3
    simp only [Option.map_none] at h3
    simp [run_underlying ht, MapKept.run_getObj_map hb, h2, h1, hz, ← h3]
  | some x =>
    rw [hf] at h1 h3
    simp only [Option.map_some] at h3
    simp [run_underlying ht, MapKept.run_getObj_map hb, h2, h1, ← h3]
theorem run_keyStays (kt : KeyT P t enc) (q : K) (w : World) : (Instr.keyThatStays (enc q) (enc q)).run P w = .ok (enc q) w := by
  unfold Instr.keyThatStays
  simp [kt.same q]
theorem grown_setObj (w : World) (b : Nat) (o : Obj) : w.grownBy { w with heap := w.heap.setIfInBounds b o } (some b) :=
  ⟨rfl, rfl, rfl, by simp, fun k _ hne => by
    simp only [Array.getElem?_setIfInBounds]
    rw [if_neg (by rintro rfl; exact hne rfl)]⟩
theorem MapF.update {w : World} {b : Nat} {m : K → Option Value} (h : MapF enc w b m) (kt : KeyT P t enc) (ht : P.underlying T = some (.map t e)) (q : K) (v : Value) :
    ∃ w', (Instr.mapUpdate T (.map (some b)) (enc q) v).run P w = .ok () w' ∧ MapF enc w' b (fun r => if r = q then some v else m r) ∧ w.grownBy w' (some b) := by
  have hl := h.lt
  obtain ⟨es, clock, ents, hb, hes, hnd, hm⟩ := h
  have h1 := run_findKey kt q w es.toList ents hes
  have h2 := kt.chk false q w
  cases hf : findI q ents 0 with
  | none =>
    rw [hf] at h1
    have hno := findI_none hf
    refine ⟨{ w with heap := w.heap.setIfInBounds b (.map (es.push { key := enc q, val := v, born := clock }) (clock + 1)) }, ?_, ⟨es.push { key := enc q, val := v, born := clock }, clock + 1, ents ++ [(q, v)], ?_, ?_, ?_, ?_⟩, grown_setObj _ _ _⟩
    · unfold Instr.mapUpdate
      simp [run_underlying ht, MapKept.run_getObj_map hb, MapKept.run_setObj_map _ hb, h2, h1]
    · simp [hl]
    · simp [hes]
    · rw [List.map_append, List.nodup_append]
      refine ⟨hnd, by simp, ?_⟩
      intro a ha c hc
      simp at hc
      subst hc
      rintro rfl
      have : lookK ents a ≠ none := by
        clear hno h1 hes hm hf hnd
        induction ents with
        | nil => simp at ha
        | cons x xs ih =>
          rw [lookK_cons]
          split
          · simp
          · rename_i hne
            simp only [List.map_cons, List.mem_cons] at ha
            exact ih (ha.resolve_left hne)
      exact this hno
    · intro r
      rw [lookK_snoc _ _ _ _ hno, hm r]
  | some x =>
    obtain ⟨i, u⟩ := x
    rw [hf] at h1
    have hat := findI_some hf
    have hkey : es.toList[i]?.map (fun e => (e.key, e.val)) = some (enc q, u) := by
      have := congrArg (fun l => l[i]?) hes
      simp only [List.getElem?_map, hat, Option.map_some] at this
      exact this
    obtain ⟨me, hme, hmk⟩ := Option.map_eq_some_iff.1 hkey
    injection hmk with hmk hmv
    have hme2 : es[i]? = some me := by simpa using hme
    have h3 := run_keyStays kt q w
    refine ⟨{ w with heap := w.heap.setIfInBounds b (.map (es.modify i fun e => { e with key := enc q, val := v }) clock) }, ?_, ⟨es.modify i fun e => { e with key := enc q, val := v }, clock, ents.modify i (fun _ => (q, v)), ?_, ?_, ?_, ?_⟩, grown_setObj _ _ _⟩
    · unfold Instr.mapUpdate
      simp [run_underlying ht, MapKept.run_getObj_map hb, MapKept.run_setObj_map _ hb, h2, h1, hme2, hmk, h3]
    · simp [hl]
    · apply List.ext_getElem?
      intro j
      have h5 := congrArg (fun l => l[j]?) hes
      simp only [List.getElem?_map, Array.getElem?_toList] at h5
      simp only [List.getElem?_map, Array.getElem?_toList, List.getElem?_modify, Array.getElem?_modify]
      by_cases hij : i = j
      · subst hij
        simp [hme2, hat]
      · simp [hij, h5]
    · have : (ents.modify i (fun _ => (q, v))).map (·.1) = ents.map (·.1) := by
        apply List.ext_getElem?
        intro j
        simp only [List.getElem?_map, List.getElem?_modify]
        by_cases hij : i = j
        · subst hij; simp [hat]
        · simp [hij]
      rw [this]; exact hnd
    · intro r
      rw [lookK_modify q r v ents i u hf, hm r]
theorem wpList_mapUpdate_F {w : World} {ops : Array Oper} {rest : List Oper} {o : Oper} {a : Act} {Q : Exit → Act → World → Prop} (hg : o.guard = none) (mo x y : Operand) (hop : o.op = .mapUpdate T mo x y)
    {b : Nat} {m : K → Option Value} (h : MapF enc w b m) (kt : KeyT P t enc) (ht : P.underlying T = some (.map t e)) (q : K) (v : Value) (hm : a.eval mo = .map (some b)) (hx : a.eval x = enc q) (hv : a.eval y = v)
    (hK : ∀ w', MapF enc w' b (fun r => if r = q then some v else m r) → w.grownBy w' (some b) → wpList P ops Q rest (a.put o.dst undef) w') : wpList P ops Q (o :: rest) a w := by
  refine wpList_plain hg fun K' hK' => ?_
  obtain ⟨w', hrun, r1, r2⟩ := h.update kt ht q v
  unfold Oper.wp
  simp [execOp, hop, hm, hx, hv, hrun, Result.andThen]
  exact hK' _ _ (hK w' r1 r2)
theorem wpList_insert_F {w : World} {ops : Array Oper} {rest : List Oper} {o : Oper} {a : Act} {Q : Exit → Act → World → Prop} (hg : o.guard = none) (mo x y : Operand) (hop : o.op = .insert T mo x y)
    {b : Nat} {m : K → Option Value} (h : MapF enc w b m) (kt : KeyT P t enc) (ht : P.underlying T = some (.map t e)) (q : K) (v : Value) (hm : a.eval mo = .map (some b)) (hx : a.eval x = enc q) (hv : a.eval y = v)
    (hK : ∀ w', MapF enc w' b (fun r => if r = q then some v else m r) → w.grownBy w' (some b) → wpList P ops Q rest (a.put o.dst undef) w') : wpList P ops Q (o :: rest) a w := by
  refine wpList_plain hg fun K' hK' => ?_
  obtain ⟨w', hrun, r1, r2⟩ := h.update kt ht q v
  unfold Oper.wp
  simp [execOp, hop, hm, hx, hv, hrun, Result.andThen]
  exact hK' _ _ (hK w' r1 r2)
theorem map_eraseIdx_ {α β : Type} (f : α → β) : ∀ (l : List α) (i : Nat), (l.eraseIdx i).map f = (l.map f).eraseIdx i
  | [], _ => rfl
  | _ :: _, 0 => rfl
  | x :: xs, i + 1 => by simp [map_eraseIdx_ f xs i]
theorem MapF.delete {w : World} {b : Nat} {m : K → Option Value} (h : MapF enc w b m) (kt : KeyT P t enc) (ht : P.underlying T = some (.map t e)) (q : K) (ty : TypeId) :
    ∃ w', (Builtin.delete_ #[T, t] ty #[.map (some b), enc q]).run P w = .ok (.tuple #[]) w' ∧ MapF enc w' b (fun r => if r = q then none else m r) ∧ w.grownBy w' (some b) := by
  have hl := h.lt
  obtain ⟨es, clock, ents, hb, hes, hnd, hm⟩ := h
  have h1 := run_findKey kt q w es.toList ents hes
  have h2 := kt.chk es.isEmpty q w
  cases hf : findI q ents 0 with
  | none =>
    rw [hf] at h1
    have hno := findI_none hf
    refine ⟨{ w with heap := w.heap.setIfInBounds b (.map es clock) }, ?_, ⟨es, clock, ents, ?_, hes, hnd, ?_⟩, grown_setObj _ _ _⟩
    · unfold Builtin.delete_
      simp [run_underlying ht, MapKept.run_getObj_map hb, MapKept.run_setObj_map _ hb, h2, h1]
    · simp [hl]
    · intro r
      show lookK ents r = if r = q then none else m r
      by_cases hr : r = q
      · rw [if_pos hr, hr]; exact hno
      · rw [if_neg hr]; exact hm r
  | some x =>
    obtain ⟨i, u⟩ := x
    rw [hf] at h1
    have hat := findI_some hf
    refine ⟨{ w with heap := w.heap.setIfInBounds b (.map (es.eraseIdxIfInBounds i) clock) }, ?_, ⟨es.eraseIdxIfInBounds i, clock, ents.eraseIdx i, ?_, ?_, ?_, ?_⟩, grown_setObj _ _ _⟩
    · unfold Builtin.delete_
      simp [run_underlying ht, MapKept.run_getObj_map hb, MapKept.run_setObj_map _ hb, h2, h1]
    · simp [hl]
    · rw [Array.toList_eraseIdxIfInBounds, map_eraseIdx_, map_eraseIdx_, hes]
    · rw [map_eraseIdx_]
      exact hnd.sublist (List.eraseIdx_sublist ..)
    · intro r
      rw [lookK_erase q r ents i u hnd hf, hm r]
theorem wpList_delete_F {w : World} {ops : Array Oper} {rest : List Oper} {o : Oper} {a : Act} {Q : Exit → Act → World → Prop} (hg : o.guard = none) (mo x : Operand) (hop : o.op = .call { callee := .builtin .delete, args := #[mo, x], argTypes := #[T, t] })
    {b : Nat} {m : K → Option Value} (h : MapF enc w b m) (kt : KeyT P t enc) (ht : P.underlying T = some (.map t e)) (q : K) (hm : a.eval mo = .map (some b)) (hx : a.eval x = enc q)
    (hK : ∀ w', MapF enc w' b (fun r => if r = q then none else m r) → w.grownBy w' (some b) → wpList P ops Q rest (a.put o.dst (.tuple #[])) w') : wpList P ops Q (o :: rest) a w := by
  refine wpList_plain hg fun K' hK' => ?_
  obtain ⟨w', hrun, r1, r2⟩ := h.delete kt ht q o.type
  unfold Oper.wp
  simp [execOp, hop, resolve, invoke, builtin, hm, hx, hrun, Result.andThen]
  exact hK' _ _ (hK w' r1 r2)
end
end Go.Proofs.YtelhefjikdoihaaDoor

/- A field that is asked through the interface; the state of a flood. -/
namespace Go.Proofs.YtelhefjikdoihaaDoor
open Go Go.RowKit

theorem Arr.kept {w w' : World} {b : Nat} {t : TypeId} {vs : List Value} (h : Arr w b t vs) {row : Option Nat} (hg : w.grownBy w' row) (hne : row ≠ some b) : Arr w' b t vs :=
  (hg.block b h.lt (fun h => hne h.symm)).trans h
/-- A field: how the interface value fv answers; Cnt n says that its memory is in order and n questions have been asked; that memory lies below block B. -/
structure FieldV (B : Nat) (D : TypeId) (rv rv' : Value) (K : FuncId) (F : Pt → Option Int) (fbo : Option Nat) (Cnt : Nat → World → Prop) : Prop where
  meth : ∀ w, (method 242 D rv "Cell").run Tryd.prog w = .ok (K, rv') w
  enters : ∀ args w, (callFunc K args).run Tryd.prog w = .ok (.enter K args) w
  low : ∀ k, fbo = some k → k < B
  keep : ∀ n w w', Cnt n w → (∀ b, b < B → w'.heap[b]? = w.heap[b]?) → Cnt n w'
  call : ∀ q n w, B ≤ w.heap.size → n ≤ 1000000 → Cnt n w → Calls Tryd.prog K #[rv', .agg #[.int .i64 q.x, .int .i64 q.y, .int .i64 q.z]] w fun e w' => (∃ u, e = .returned (.tuple #[.int .i64 u, .bool (F q).isSome]) ∧ ∀ v, F q = some v → u = v) ∧ Cnt (n + 1) w' ∧ w.grownBy w' fbo
/-- Cells seen, the region's, the border's. -/
structure Fs where
  seen : List Pt
  l : List Pt
  bd : List Pt
def visitS (F : Pt → Option Int) (c : Int) (s : Fs) (q : Pt) : Fs :=
  match F q with
  | some v => if v = c then { s with l := s.l ++ [q] } else { s with bd := s.bd ++ [q] }
  | none => s
def ptV (p : Pt) : Value := .agg #[.int .i64 p.x, .int .i64 p.y, .int .i64 p.z]
/-- The blocks of a flood's own variables. -/
structure Bs where
  f : Nat
  at_ : Nat
  bd : Nat
  cell : Nat
  wv : Nat
  walk : Nat
  map : Nat
  base : Nat
structure Bs.Ok (K : Bs) (B : Nat) : Prop where
  nd : [K.f, K.at_, K.bd, K.cell, K.wv, K.walk, K.map].Nodup
  lo : ∀ b, b ∈ [K.f, K.at_, K.bd, K.cell, K.wv, K.walk, K.map] → B ≤ b ∧ b < K.base
/-- Other blocks that are to stay: each with its type and its cells. -/
abbrev Prot := List (Nat × TypeId × List Value)
structure FSx (B : Nat) (K : Bs) (Pr : Prot) (fv : Value) (a : Pt) (c : Int) (s : Fs) (lv bv : Value) (w : World) : Prop where
  ok : K.Ok B
  af : Arr w K.f 61 [fv]
  aa : Arr w K.at_ 23 [.int .i64 a.x, .int .i64 a.y, .int .i64 a.z]
  ab : Arr w K.bd 31 [bv]
  ac : Arr w K.cell 3 [.int .i64 c]
  aw : Arr w K.wv 84 [.pointer (some ⟨K.walk, 0, none⟩)]
  as_ : Arr w K.walk 86 [.map (some K.map), lv]
  am : MapF ptV w K.map (fun q => if q ∈ s.seen then some (.bool true) else none)
  rl : w.ownsRow K.base 23 3 lv s.l.length (rowsP s.l).flatten
  rb : w.ownsRow K.base 23 3 bv s.bd.length (rowsP s.bd).flatten
  apart : ∀ b, lv.ownBlock = some b → bv.ownBlock ≠ some b
  hb : K.base ≤ w.heap.size
  pr : ∀ b t vs, (b, t, vs) ∈ Pr → Arr w b t vs ∧ B ≤ b ∧ (b ≠ K.bd ∧ b ≠ K.walk ∧ b ≠ K.map) ∧ lv.ownBlock ≠ some b ∧ bv.ownBlock ≠ some b
section
variable {B : Nat} {K : Bs} {Pr : Prot} {fv : Value} {a : Pt} {c : Int} {s : Fs} {lv bv : Value} {w w' : World}
theorem Bs.Ok.ne (h : K.Ok B) : K.f ≠ K.bd ∧ K.f ≠ K.walk ∧ K.f ≠ K.map ∧ K.at_ ≠ K.bd ∧ K.at_ ≠ K.walk ∧ K.at_ ≠ K.map ∧ K.bd ≠ K.cell ∧ K.bd ≠ K.wv ∧ K.bd ≠ K.walk ∧ K.bd ≠ K.map ∧ K.cell ≠ K.walk ∧ K.cell ≠ K.map ∧ K.wv ≠ K.walk ∧ K.wv ≠ K.map ∧ K.walk ≠ K.map := by
  have := h.nd
  simp only [List.nodup_cons, List.mem_cons, List.not_mem_nil, or_false, not_or, List.nodup_nil, not_false_eq_true, and_true] at this
  omega
theorem Bs.Ok.low (h : K.Ok B) : (B ≤ K.f ∧ K.f < K.base) ∧ (B ≤ K.at_ ∧ K.at_ < K.base) ∧ (B ≤ K.bd ∧ K.bd < K.base) ∧ (B ≤ K.cell ∧ K.cell < K.base) ∧ (B ≤ K.wv ∧ K.wv < K.base) ∧ (B ≤ K.walk ∧ K.walk < K.base) ∧ (B ≤ K.map ∧ K.map < K.base) :=
  ⟨h.lo _ (by simp), h.lo _ (by simp), h.lo _ (by simp), h.lo _ (by simp), h.lo _ (by simp), h.lo _ (by simp), h.lo _ (by simp)⟩
theorem own_keep {base n k : Nat} {e : TypeId} {v : Value} {zs : List Value} (h : w.ownsRow base e k v n zs) {row : Option Nat} (hg : w.grownBy w' row) (hr : ∀ b, row = some b → v.ownBlock ≠ some b) : w'.ownsRow base e k v n zs :=
  h.kept hg (by
    cases hv : v.ownBlock with
    | none => exact .inl rfl
    | some x => exact .inr (fun e => hr x e.symm hv))
/-- Kept while only blocks change that lie below B, or none. -/
theorem FSx.kept (h : FSx B K Pr fv a c s lv bv w) {row : Option Nat} (hg : w.grownBy w' row) (hr : ∀ k, row = some k → k < B) : FSx B K Pr fv a c s lv bv w' := by
  obtain ⟨l1, l2, l3, l4, l5, l6, l7⟩ := h.ok.low
  have ne : ∀ b, B ≤ b → row ≠ some b := fun b hb e => by have := hr b e; omega
  refine ⟨h.ok, h.af.kept hg (ne _ l1.1), h.aa.kept hg (ne _ l2.1), h.ab.kept hg (ne _ l3.1), h.ac.kept hg (ne _ l4.1), h.aw.kept hg (ne _ l5.1), h.as_.kept hg (ne _ l6.1), h.am.kept hg (ne _ l7.1), own_keep h.rl hg (fun b hb hv => ?_), own_keep h.rb hg (fun b hb hv => ?_), h.apart, Nat.le_trans h.hb hg.size, fun b t vs hm => by
    obtain ⟨p1, p2, p3⟩ := h.pr b t vs hm
    exact ⟨p1.kept hg (ne _ p2), p2, p3⟩⟩
  · have := own_low h.rl b hv; have := hr b hb; omega
  · have := own_low h.rb b hv; have := hr b hb; omega
theorem FSx.ext (h : FSx B K Pr fv a c s lv bv w) (hx : Ext w w') : FSx B K Pr fv a c s lv bv w' := h.kept (hx.by_ none) (fun k hk => by cases hk)
theorem below_grown {g : Nat} (hg : w.grownBy w' (some g)) (hb : B ≤ g) (hs : B ≤ w.heap.size) : Below B w w' :=
  ⟨hg.os, hg.tape, hg.output, hg.size, fun k hk => hg.block k (by omega) (by simp; omega)⟩
theorem below_own {base n k : Nat} {e : TypeId} {v : Value} {zs : List Value} (h : w.ownsRow base e k v n zs) (hg : w.grownBy w' v.ownBlock) (hb : B ≤ base) (hs : B ≤ w.heap.size) : Below B w w' :=
  ⟨hg.os, hg.tape, hg.output, hg.size, fun k hk => hg.block k (by omega) (fun e => by have := own_low h k e.symm; omega)⟩
theorem mem_snoc (q r : Pt) (l : List Pt) : (r ∈ l ++ [q]) ↔ r = q ∨ r ∈ l := by simp [or_comm]
/-- The map has taken one cell more. -/
theorem FSx.see (h : FSx B K Pr fv a c s lv bv w) {q : Pt} (hm : MapF ptV w' K.map (fun r => if r = q then some (.bool true) else if r ∈ s.seen then some (.bool true) else none)) (hg : w.grownBy w' (some K.map)) : FSx B K Pr fv a c { s with seen := s.seen ++ [q] } lv bv w' ∧ Below B w w' := by
  obtain ⟨l1, l2, l3, l4, l5, l6, l7⟩ := h.ok.low
  obtain ⟨n1, n2, n3, n4, n5, n6, n7, n8, n9, n10, n11, n12, n13, n14, n15⟩ := h.ok.ne
  have ne : ∀ b, b ≠ K.map → some K.map ≠ some b := fun b hb e => hb (Option.some.inj e).symm
  refine ⟨⟨h.ok, h.af.kept hg (ne _ n3), h.aa.kept hg (ne _ n6), h.ab.kept hg (ne _ n10), h.ac.kept hg (ne _ n12), h.aw.kept hg (ne _ n14), h.as_.kept hg (ne _ n15), hm.cong fun r => ?_, own_keep h.rl hg (fun b hb hv => ?_), own_keep h.rb hg (fun b hb hv => ?_), h.apart, Nat.le_trans h.hb hg.size, fun b t vs hm => by
    obtain ⟨p1, p2, p3, p4⟩ := h.pr b t vs hm
    exact ⟨p1.kept hg (ne _ p3.2.2), p2, p3, p4⟩⟩, below_grown hg l7.1 (by have := h.hb; omega)⟩
  · simp only [mem_snoc]
    by_cases hr : r = q <;> simp [hr]
  · have := own_low h.rl b hv; injection hb with hb; omega
  · have := own_low h.rb b hv; injection hb with hb; omega
theorem rowsP_snoc (l : List Pt) (q : Pt) : (rowsP (l ++ [q])).flatten = (rowsP l).flatten ++ q.cells := by simp [rowsP]
/-- The region has grown by one cell. -/
theorem FSx.push (h : FSx B K Pr fv a c s lv bv w) {q : Pt} {v' : Value} {w1 : World} (hg : w.grownBy w1 lv.ownBlock) (ho : w1.ownsRow K.base 23 3 v' (s.l.length + 1) ((rowsP s.l).flatten ++ q.cells)) (hv : v'.ownBlock = lv.ownBlock ∨ ∀ b, v'.ownBlock = some b → w.heap.size ≤ b) :
    FSx B K Pr fv a c { s with l := s.l ++ [q] } v' bv (w1.setCell ⟨K.walk, 1, none⟩ v') ∧ Below B w (w1.setCell ⟨K.walk, 1, none⟩ v') := by
  obtain ⟨l1, l2, l3, l4, l5, l6, l7⟩ := h.ok.low
  obtain ⟨n1, n2, n3, n4, n5, n6, n7, n8, n9, n10, n11, n12, n13, n14, n15⟩ := h.ok.ne
  have ne : ∀ b, b < K.base → lv.ownBlock ≠ some b := fun b hb e => by have := own_low h.rl b e; omega
  have hs1 := hg.size
  have hb0 := h.hb
  refine ⟨⟨h.ok, (h.af.kept hg (ne _ l1.2)).other n2 _, (h.aa.kept hg (ne _ l2.2)).other n5 _, (h.ab.kept hg (ne _ l3.2)).other n9 _, (h.ac.kept hg (ne _ l4.2)).other n11 _, (h.aw.kept hg (ne _ l5.2)).other n13 _, (h.as_.kept hg (ne _ l6.2)).set 1 v', (h.am.kept hg (ne _ l7.2)).setCell (fun e => n15 e.symm) _, ?_, ?_, ?_, by rw [World.size_setCell_]; omega, fun b t vs hm => by
    obtain ⟨p1, p2, p3, p4, p5⟩ := h.pr b t vs hm
    have hlt := p1.lt
    refine ⟨(p1.kept hg p4).other p3.2.1 _, p2, p3, fun e => ?_, p5⟩
    rcases hv with hv | hv
    · exact p4 (hv ▸ e)
    · have := hv b e; omega⟩, ?_⟩
  · rw [rowsP_snoc, List.length_append]
    exact own_keep ho (grown_set (grown_refl w1 _) 1 v') (fun b hb hv => by have := own_low ho b hv; injection hb with hb; omega)
  · exact own_keep (own_keep h.rb hg (fun b hb hv => h.apart b hb hv)) (grown_set (grown_refl w1 _) 1 v') (fun b hb hv => by have := own_low h.rb b hv; injection hb with hb; omega)
  · intro b hb hbv
    rcases hv with hv | hv
    · exact h.apart b (by rw [← hv]; exact hb) hbv
    · have h1 := hv b hb
      have h2 := (h.rb.lt b hbv).2
      omega
  · exact (below_own h.rl hg (by omega) (by omega)).setCell l6.1 _
/-- The border has grown by one cell. -/
theorem FSx.edge (h : FSx B K Pr fv a c s lv bv w) {q : Pt} {v' : Value} {w1 : World} (hg : w.grownBy w1 bv.ownBlock) (ho : w1.ownsRow K.base 23 3 v' (s.bd.length + 1) ((rowsP s.bd).flatten ++ q.cells)) (hv : v'.ownBlock = bv.ownBlock ∨ ∀ b, v'.ownBlock = some b → w.heap.size ≤ b) :
    FSx B K Pr fv a c { s with bd := s.bd ++ [q] } lv v' (w1.setCell ⟨K.bd, 0, none⟩ v') ∧ Below B w (w1.setCell ⟨K.bd, 0, none⟩ v') := by
  obtain ⟨l1, l2, l3, l4, l5, l6, l7⟩ := h.ok.low
  obtain ⟨n1, n2, n3, n4, n5, n6, n7, n8, n9, n10, n11, n12, n13, n14, n15⟩ := h.ok.ne
  have ne : ∀ b, b < K.base → bv.ownBlock ≠ some b := fun b hb e => by have := own_low h.rb b e; omega
  have hs1 := hg.size
  have hb0 := h.hb
  refine ⟨⟨h.ok, (h.af.kept hg (ne _ l1.2)).other n1 _, (h.aa.kept hg (ne _ l2.2)).other n4 _, (h.ab.kept hg (ne _ l3.2)).set 0 v', (h.ac.kept hg (ne _ l4.2)).other (fun e => n7 e.symm) _, (h.aw.kept hg (ne _ l5.2)).other (fun e => n8 e.symm) _, (h.as_.kept hg (ne _ l6.2)).other (fun e => n9 e.symm) _, (h.am.kept hg (ne _ l7.2)).setCell (fun e => n10 e.symm) _, ?_, ?_, ?_, by rw [World.size_setCell_]; omega, fun b t vs hm => by
    obtain ⟨p1, p2, p3, p4, p5⟩ := h.pr b t vs hm
    have hlt := p1.lt
    refine ⟨(p1.kept hg p5).other p3.1 _, p2, p3, p4, fun e => ?_⟩
    rcases hv with hv | hv
    · exact p5 (hv ▸ e)
    · have := hv b e; omega⟩, ?_⟩
  · exact own_keep (own_keep h.rl hg (fun b hb hv => h.apart b hv hb)) (grown_set (grown_refl w1 _) 0 v') (fun b hb hv => by have := own_low h.rl b hv; injection hb with hb; omega)
  · rw [rowsP_snoc, List.length_append]
    exact own_keep ho (grown_set (grown_refl w1 _) 0 v') (fun b hb hv => by have := own_low ho b hv; injection hb with hb; omega)
  · intro b hb hbv
    rcases hv with hv | hv
    · exact h.apart b hb (by rw [← hv]; exact hbv)
    · have h1 := hv b hbv
      have h2 := (h.rl.lt b hb).2
      omega
  · exact (below_own h.rb hg (by omega) (by omega)).setCell l3.1 _
end
/-- The whole state: the flood's own blocks, the field's, and what was there when it began. -/
structure FW (B : Nat) (K : Bs) (Pr : Prot) (fv : Value) (a : Pt) (c : Int) (fbo : Option Nat) (Cnt : Nat → World → Prop) (w0 : World) (s : Fs) (n : Nat) (w : World) : Prop where
  st : ∃ lv bv, FSx B K Pr fv a c s lv bv w
  cnt : Cnt n w
  grown : w0.grownBy w fbo
theorem grown_below {w0 w w' : World} {fbo : Option Nat} (h : w0.grownBy w fbo) (hb : Below w0.heap.size w w') : w0.grownBy w' fbo :=
  ⟨hb.os.trans h.os, hb.tape.trans h.tape, hb.output.trans h.output, Nat.le_trans h.size hb.size, fun k hk hne => (hb.block k hk).trans (h.block k hk hne)⟩
section
variable {K : Bs} {Pr : Prot} {fv : Value} {a : Pt} {c : Int} {fbo : Option Nat} {Cnt : Nat → World → Prop} {w0 w w' : World} {s s' : Fs} {n : Nat} {D : TypeId} {rv rv' : Value} {G : FuncId} {F : Pt → Option Int}
theorem FW.step (V : FieldV w0.heap.size D rv rv' G F fbo Cnt) (h : FW w0.heap.size K Pr fv a c fbo Cnt w0 s n w) {lv bv : Value} (hs : FSx w0.heap.size K Pr fv a c s' lv bv w') (hb : Below w0.heap.size w w') : FW w0.heap.size K Pr fv a c fbo Cnt w0 s' n w' :=
  ⟨⟨lv, bv, hs⟩, V.keep n w w' h.cnt hb.block, grown_below h.grown hb⟩
theorem FW.ext (V : FieldV w0.heap.size D rv rv' G F fbo Cnt) (h : FW w0.heap.size K Pr fv a c fbo Cnt w0 s n w) (hx : Ext w w') : FW w0.heap.size K Pr fv a c fbo Cnt w0 s n w' := by
  obtain ⟨lv, bv, hs⟩ := h.st
  have hsz := h.grown.size
  exact h.step V (hs.ext hx) (hx.below.mono hsz)
theorem FW.asked (V : FieldV w0.heap.size D rv rv' G F fbo Cnt) (h : FW w0.heap.size K Pr fv a c fbo Cnt w0 s n w) (hc : Cnt (n + 1) w') (hg : w.grownBy w' fbo) : FW w0.heap.size K Pr fv a c fbo Cnt w0 s (n + 1) w' := by
  obtain ⟨lv, bv, hs⟩ := h.st
  exact ⟨⟨lv, bv, hs.kept hg V.low⟩, hc, grown_trans h.grown hg⟩
/-- A new block is laid and is to stay. -/
theorem FW.protect (V : FieldV w0.heap.size D rv rv' G F fbo Cnt) (h : FW w0.heap.size K Pr fv a c fbo Cnt w0 s n w) (t : TypeId) (vs : List Value) : FW w0.heap.size K ((w.heap.size, t, vs) :: Pr) fv a c fbo Cnt w0 s n (w.alloc (.cells vs.toArray t)) := by
  have h1 := h.ext V ((Ext.refl w).alloc (.cells vs.toArray t))
  obtain ⟨lv, bv, hs⟩ := h.st
  have hs1 := hs.ext ((Ext.refl w).alloc (.cells vs.toArray t))
  obtain ⟨l1, l2, l3, l4, l5, l6, l7⟩ := hs.ok.low
  have hb := hs.hb
  refine ⟨⟨lv, bv, ⟨hs1.ok, hs1.af, hs1.aa, hs1.ab, hs1.ac, hs1.aw, hs1.as_, hs1.am, hs1.rl, hs1.rb, hs1.apart, hs1.hb, fun b t' vs' hm => ?_⟩⟩, h1.cnt, h1.grown⟩
  rcases List.mem_cons.1 hm with e | hm
  · injection e with e1 e2
    injection e2 with e2 e3
    subst e1 e2 e3
    exact ⟨Arr.new w _ _, by omega, by omega, fun e => by have := (hs.rl.lt _ e).2; omega, fun e => by have := (hs.rb.lt _ e).2; omega⟩
  · exact hs1.pr b t' vs' hm
theorem FW.drop {x : Nat × TypeId × List Value} (h : FW w0.heap.size K (x :: Pr) fv a c fbo Cnt w0 s n w) : FW w0.heap.size K Pr fv a c fbo Cnt w0 s n w := by
  obtain ⟨lv, bv, hs⟩ := h.st
  exact ⟨⟨lv, bv, ⟨hs.ok, hs.af, hs.aa, hs.ab, hs.ac, hs.aw, hs.as_, hs.am, hs.rl, hs.rb, hs.apart, hs.hb, fun b t vs hm => hs.pr b t vs (List.mem_cons_of_mem _ hm)⟩⟩, h.cnt, h.grown⟩
theorem FW.prot {b : Nat} {t : TypeId} {vs : List Value} (h : FW w0.heap.size K Pr fv a c fbo Cnt w0 s n w) (hm : (b, t, vs) ∈ Pr) : Arr w b t vs := by
  obtain ⟨lv, bv, hs⟩ := h.st
  exact (hs.pr b t vs hm).1
end
end Go.Proofs.YtelhefjikdoihaaDoor

/- A flood's push, and the closure that visits a cell. -/
namespace Go.Proofs.YtelhefjikdoihaaDoor
open Go Go.RowKit

theorem store_form {w : World} {base n : Nat} {e : TypeId} {v : Value} {zs : List Value} {k : Nat} (h : w.ownsRow base e k v n zs) : ∃ A m c, v = .slice A m c := by
  rcases h.2 with ⟨rfl, _⟩ | ⟨g, cap, cur, rfl, _⟩
  · exact ⟨_, _, _, rfl⟩
  · exact ⟨_, _, _, rfl⟩
theorem own_len {w : World} {base n : Nat} {e : TypeId} {v : Value} {zs : List Value} {k : Nat} (h : w.ownsRow base e k v n zs) : ∃ A c, v = .slice A n c := by
  rcases h.2 with ⟨rfl, rfl⟩ | ⟨g, cap, cur, rfl, _⟩
  · exact ⟨_, _, rfl⟩
  · exact ⟨_, _, rfl⟩
section
variable {D : TypeId} {rv rv' : Value} {G : FuncId} {F : Pt → Option Int} {fbo : Option Nat} {Cnt : Nat → World → Prop} {w0 : World} {K : Bs} {Pr : Prot} {fv : Value} {a : Pt} {c : Int} {s : Fs} {n : Nat}
set_option maxRecDepth 100000 in
set_option maxHeartbeats 1000000 in
theorem push_any (V : FieldV w0.heap.size D rv rv' G F fbo Cnt) (q : Pt) (nb : Nat) (w : World) (h : FW w0.heap.size K Pr fv a c fbo Cnt w0 s n w) (hN : Arr w nb 23 [.int .i64 q.x, .int .i64 q.y, .int .i64 q.z]) (hl : s.l.length ≤ 100000) :
    Calls Tryd.prog 49 #[.pointer (some ⟨K.walk, 0, none⟩), .slice (some ⟨nb, 0, none⟩) 1 1] w fun e w' => e = .returned (.tuple #[]) ∧ FW w0.heap.size K Pr fv a c fbo Cnt w0 { s with l := s.l ++ [q] } n w' := by
  obtain ⟨lv, bv, hs⟩ := h.st
  have hsz := h.grown.size
  have HH := Lib.hid h; have HS := Lib.hid hs
  have HRL := Lib.hid hs.rl
  have HB := Lib.hid hs.hb
  obtain ⟨LA, Lc, rfl⟩ := own_len hs.rl
  obtain ⟨l1, l2, l3, l4, l5, l6, l7⟩ := hs.ok.low
  have as1 := hs.as_.cell 1
  simp only [List.getElem?_cons_zero, List.getElem?_cons_succ] at as1
  have HAS := Lib.hid hs.as_
  have HNE := Lib.hid (show (Value.slice LA s.l.length Lc).ownBlock ≠ some K.walk from fun e => by have := own_low hs.rl _ e; omega)
  obtain ⟨i0, hi, hz0, hz1, hz2⟩ := info_parts infoPt
  have HI := Lib.hid hi; have HZ := Lib.hid hz0; have HZ1 := Lib.hid hz1; have HZ2 := Lib.hid hz2
  have hNew : ∀ j u, ([.int .i64 q.x, .int .i64 q.y, .int .i64 q.z] : List Value)[j]? = some u → w.cell? ((⟨nb, 0, none⟩ : Addr).add j) = some u := fun j u hu => by
    rw [add_lit, Nat.zero_add, hN.cell]; exact hu
  have HNew := Lib.hid hNew
  have hOne : ∀ u, u ∈ ([.int .i64 q.x, .int .i64 q.y, .int .i64 q.z] : List Value) → u.oneCell' = true := fun u hu => by simp at hu; rcases hu with rfl | rfl | rfl <;> rfl
  have HOne := Lib.hid hOne
  clear hi hz0 hz1 hz2 h hs hN hNew hOne
  go_enter Tryd.func49, Tryd.ntmps49
  go_wp2_with (at_builtin; refine wpList_append_mine _ rfl (.tmp 8) (.tmp 9) 31 rfl K.base 23 i0 (.agg #[.int .i64 0, .int .i64 0, .int .i64 0]) 3 24 Tryd.underlying31 HI.out HZ.out HZ1.out HZ2.out rfl (by decide) (.slice LA s.l.length Lc) s.l.length (rowsP s.l).flatten rfl HRL.out ⟨nb, 0, none⟩ 1 1 [.int .i64 q.x, .int .i64 q.y, .int .i64 q.z] rfl rfl HNew.out HOne.out (by unfold maxLen; omega) (by omega) HB.out ?_)
  intro v' w1 ho hg hv
  obtain ⟨A1, m1, c1, rfl⟩ := store_form ho
  have A1' := HAS.out.kept hg HNE.out
  have as2 := A1'.cell 1
  have fs2 := A1'.frozen 1
  simp only [List.getElem?_cons_zero, List.getElem?_cons_succ] at as2
  have HP := Lib.hid (HS.out.push (q := q) hg ho hv)
  clear ho hg hv A1'
  go_wp2
  go_end0
  exact ⟨rfl, HH.out.step V HP.out.1 (HP.out.2)⟩
theorem vis_c {F : Pt → Option Int} {c v : Int} {s : Fs} {q : Pt} (h : F q = some v) (hv : v = c) : visitS F c s q = { s with l := s.l ++ [q] } := by unfold visitS; rw [h]; simp [hv]
theorem vis_o {F : Pt → Option Int} {c v : Int} {s : Fs} {q : Pt} (h : F q = some v) (hv : v ≠ c) : visitS F c s q = { s with bd := s.bd ++ [q] } := by unfold visitS; rw [h]; simp [hv]
theorem vis_n {F : Pt → Option Int} {c : Int} {s : Fs} {q : Pt} (h : F q = none) : visitS F c s q = s := by unfold visitS; rw [h]
set_option maxRecDepth 100000 in
set_option maxHeartbeats 4000000 in
theorem visit_none (V : FieldV w0.heap.size D rv rv' G F fbo Cnt) (q : Pt) (w : World) (h : FW w0.heap.size K Pr (.iface D rv) a c fbo Cnt w0 s n w) (_hl : s.l.length ≤ 100000) (_hbd : s.bd.length ≤ 100000) (hn : n ≤ 1000000) (hF : F q = none) :
    Calls Tryd.prog 51 #[.agg #[.int .i64 q.x, .int .i64 q.y, .int .i64 q.z], .pointer (some ⟨K.f, 0, none⟩), .pointer (some ⟨K.cell, 0, none⟩), .pointer (some ⟨K.wv, 0, none⟩), .pointer (some ⟨K.bd, 0, none⟩)] w fun e w' => e = .returned (.tuple #[]) ∧ FW w0.heap.size K Pr (.iface D rv) a c fbo Cnt w0 (s) (n + 1) w' := by
  have HW0 := h.grown.size
  have hx0 : Ext w (w.alloc (.cells #[.int .i64 q.x, .int .i64 q.y, .int .i64 q.z] 23)) := (Ext.refl w).alloc _
  have h1 := h.ext V hx0
  have hsz := h1.grown.size
  have B5 := Arr.new w 23 [.int .i64 q.x, .int .i64 q.y, .int .i64 q.z]
  have hc := V.call q n _ hsz hn h1.cnt
  rw [hF] at hc
  simp only [Option.isSome] at hc
  have HCALL := Lib.hid hc
  have HM := Lib.hid V.meth
  have HE := Lib.hid V.enters
  have HV := Lib.hid V
  have HB5 := Lib.hid B5; have H1 := Lib.hid h1
  clear hx0 h1 hsz B5 h V hF hc
  go_enter Tryd.func51, Tryd.ntmps51
  go_upto_region 1 with fail
  obtain ⟨W1, hW⟩ : ∃ W, W = w.alloc (.cells #[.int .i64 q.x, .int .i64 q.y, .int .i64 q.z] 23) := ⟨_, rfl⟩
  rw [← hW] at HB5 H1 HCALL
  rw [← hW]
  clear hW
  have l5 := HB5.out.lt
  have hm := HM.out
  have he := HE.out
  have af0 : W1.cell? ⟨K.f, 0, none⟩ = some (.iface D rv) := by
    obtain ⟨lv, bv, hs⟩ := H1.out.st
    exact hs.af.cell 0
  go_upto_region 2 with (first
    | (refine wpList_load_blk 23 (.tmp 5) rfl rfl HB5.out rfl _ Tryd.underlying23 rfl (by kernel_rfl) ?_)
    | (go_at_fn G; refine HCALL.out.mono ?_; rintro e W2 ⟨⟨u, rfl, hu⟩, hc, hg⟩))
  have H2 := Lib.hid (H1.out.asked HV.out hc hg)
  have hne : ∀ k, fbo = some k → k ≠ w.heap.size := fun k hk e => by
    have h1 := HV.out.low k hk
    obtain ⟨lv, bv, hs⟩ := H1.out.st
    have h3 := H1.out.grown.size
    have h4 := HW0
    omega
  have HB6 := Lib.hid (HB5.out.kept hg (fun e => hne _ e rfl))
  clear hc hg hm he af0 hne l5
  clear hu
  go_wp2
  go_end0
  exact ⟨rfl, H2.out⟩
set_option maxRecDepth 100000 in
set_option maxHeartbeats 4000000 in
theorem visit_in (V : FieldV w0.heap.size D rv rv' G F fbo Cnt) (q : Pt) (w : World) (h : FW w0.heap.size K Pr (.iface D rv) a c fbo Cnt w0 s n w) (hl : s.l.length ≤ 100000) (_hbd : s.bd.length ≤ 100000) (hn : n ≤ 1000000) (hF : F q = some c) :
    Calls Tryd.prog 51 #[.agg #[.int .i64 q.x, .int .i64 q.y, .int .i64 q.z], .pointer (some ⟨K.f, 0, none⟩), .pointer (some ⟨K.cell, 0, none⟩), .pointer (some ⟨K.wv, 0, none⟩), .pointer (some ⟨K.bd, 0, none⟩)] w fun e w' => e = .returned (.tuple #[]) ∧ FW w0.heap.size K Pr (.iface D rv) a c fbo Cnt w0 ({ s with l := s.l ++ [q] }) (n + 1) w' := by
  have HW0 := h.grown.size
  have hx0 : Ext w (w.alloc (.cells #[.int .i64 q.x, .int .i64 q.y, .int .i64 q.z] 23)) := (Ext.refl w).alloc _
  have h1 := h.ext V hx0
  have hsz := h1.grown.size
  have B5 := Arr.new w 23 [.int .i64 q.x, .int .i64 q.y, .int .i64 q.z]
  have hc := V.call q n _ hsz hn h1.cnt
  rw [hF] at hc
  simp only [Option.isSome] at hc
  have HCALL := Lib.hid hc
  have HM := Lib.hid V.meth
  have HE := Lib.hid V.enters
  have HV := Lib.hid V
  have HB5 := Lib.hid B5; have H1 := Lib.hid h1
  clear hx0 h1 hsz B5 h V hF hc
  go_enter Tryd.func51, Tryd.ntmps51
  go_upto_region 1 with fail
  obtain ⟨W1, hW⟩ : ∃ W, W = w.alloc (.cells #[.int .i64 q.x, .int .i64 q.y, .int .i64 q.z] 23) := ⟨_, rfl⟩
  rw [← hW] at HB5 H1 HCALL
  rw [← hW]
  clear hW
  have l5 := HB5.out.lt
  have hm := HM.out
  have he := HE.out
  have af0 : W1.cell? ⟨K.f, 0, none⟩ = some (.iface D rv) := by
    obtain ⟨lv, bv, hs⟩ := H1.out.st
    exact hs.af.cell 0
  go_upto_region 2 with (first
    | (refine wpList_load_blk 23 (.tmp 5) rfl rfl HB5.out rfl _ Tryd.underlying23 rfl (by kernel_rfl) ?_)
    | (go_at_fn G; refine HCALL.out.mono ?_; rintro e W2 ⟨⟨u, rfl, hu⟩, hc, hg⟩))
  have H2 := Lib.hid (H1.out.asked HV.out hc hg)
  have hne : ∀ k, fbo = some k → k ≠ w.heap.size := fun k hk e => by
    have h1 := HV.out.low k hk
    obtain ⟨lv, bv, hs⟩ := H1.out.st
    have h3 := H1.out.grown.size
    have h4 := HW0
    omega
  have HB6 := Lib.hid (HB5.out.kept hg (fun e => hne _ e rfl))
  clear hc hg hm he af0 hne l5
  obtain rfl := hu _ rfl
  have HH := Lib.hid H2.out
  obtain ⟨lv, bv, hs⟩ := H2.out.st
  have ac := hs.ac.cell 0
  have aw := hs.aw.cell 0
  simp only [List.getElem?_cons_zero] at ac aw
  have l6 := HB6.out.lt
  clear hs hu
  go_upto_region 3 with fail
  have hx3 : Ext W2 (W2.alloc (.cells ([.int .i64 q.x, .int .i64 q.y, .int .i64 q.z] : List Value).toArray 23)) := (Ext.refl W2).alloc _
  have HPU := Lib.hid (push_any HV.out q W2.heap.size _ (HH.out.ext HV.out hx3) (Arr.new W2 23 [.int .i64 q.x, .int .i64 q.y, .int .i64 q.z]) hl)
  clear hx3
  go_wp2_with (first
    | (refine wpList_load_blk 23 (.tmp 5) rfl rfl HB6.out rfl _ Tryd.underlying23 rfl (by kernel_rfl) ?_)
    | (refine wpList_buildRow rfl 31 23 22 rfl 3 (by decide) (by decide) [.int .i64 q.x, .int .i64 q.y, .int .i64 q.z] rfl rfl Tryd.underlying31 (by kernel_rfl) (by kernel_rfl) ?_)
    | (go_at_call 49; refine HPU.out.mono ?_; rintro e W4 ⟨rfl, h4⟩))
  go_end0
  exact ⟨rfl, h4⟩
set_option maxRecDepth 100000 in
set_option maxHeartbeats 4000000 in
theorem visit_out (V : FieldV w0.heap.size D rv rv' G F fbo Cnt) (q : Pt) (w : World) (h : FW w0.heap.size K Pr (.iface D rv) a c fbo Cnt w0 s n w) (_hl : s.l.length ≤ 100000) (hbd : s.bd.length ≤ 100000) (hn : n ≤ 1000000) {v : Int} (hF : F q = some v) (hv : v ≠ c) :
    Calls Tryd.prog 51 #[.agg #[.int .i64 q.x, .int .i64 q.y, .int .i64 q.z], .pointer (some ⟨K.f, 0, none⟩), .pointer (some ⟨K.cell, 0, none⟩), .pointer (some ⟨K.wv, 0, none⟩), .pointer (some ⟨K.bd, 0, none⟩)] w fun e w' => e = .returned (.tuple #[]) ∧ FW w0.heap.size K Pr (.iface D rv) a c fbo Cnt w0 ({ s with bd := s.bd ++ [q] }) (n + 1) w' := by
  have HW0 := h.grown.size
  have hx0 : Ext w (w.alloc (.cells #[.int .i64 q.x, .int .i64 q.y, .int .i64 q.z] 23)) := (Ext.refl w).alloc _
  have h1 := h.ext V hx0
  have hsz := h1.grown.size
  have B5 := Arr.new w 23 [.int .i64 q.x, .int .i64 q.y, .int .i64 q.z]
  have hc := V.call q n _ hsz hn h1.cnt
  rw [hF] at hc
  simp only [Option.isSome] at hc
  have HCALL := Lib.hid hc
  have HM := Lib.hid V.meth
  have HE := Lib.hid V.enters
  have HV := Lib.hid V
  have HB5 := Lib.hid B5; have H1 := Lib.hid h1
  clear hx0 h1 hsz B5 h V hF hc
  go_enter Tryd.func51, Tryd.ntmps51
  go_upto_region 1 with fail
  obtain ⟨W1, hW⟩ : ∃ W, W = w.alloc (.cells #[.int .i64 q.x, .int .i64 q.y, .int .i64 q.z] 23) := ⟨_, rfl⟩
  rw [← hW] at HB5 H1 HCALL
  rw [← hW]
  clear hW
  have l5 := HB5.out.lt
  have hm := HM.out
  have he := HE.out
  have af0 : W1.cell? ⟨K.f, 0, none⟩ = some (.iface D rv) := by
    obtain ⟨lv, bv, hs⟩ := H1.out.st
    exact hs.af.cell 0
  go_upto_region 2 with (first
    | (refine wpList_load_blk 23 (.tmp 5) rfl rfl HB5.out rfl _ Tryd.underlying23 rfl (by kernel_rfl) ?_)
    | (go_at_fn G; refine HCALL.out.mono ?_; rintro e W2 ⟨⟨u, rfl, hu⟩, hc, hg⟩))
  have H2 := Lib.hid (H1.out.asked HV.out hc hg)
  have hne : ∀ k, fbo = some k → k ≠ w.heap.size := fun k hk e => by
    have h1 := HV.out.low k hk
    obtain ⟨lv, bv, hs⟩ := H1.out.st
    have h3 := H1.out.grown.size
    have h4 := HW0
    omega
  have HB6 := Lib.hid (HB5.out.kept hg (fun e => hne _ e rfl))
  clear hc hg hm he af0 hne l5
  obtain rfl := hu _ rfl
  have HH := Lib.hid H2.out
  obtain ⟨lv, bv, hs⟩ := H2.out.st
  have hcne : (u == c) = false := by simpa using hv
  have ac := hs.ac.cell 0
  have ab := hs.ab.cell 0
  simp only [List.getElem?_cons_zero] at ac ab
  have l6 := HB6.out.lt
  obtain ⟨BA, Bc, rfl⟩ := own_len hs.rb
  have HS := Lib.hid (hs.ext ((Ext.refl W2).alloc (.cells ([.int .i64 q.x, .int .i64 q.y, .int .i64 q.z] : List Value).toArray 23)))
  have lbd := hs.ab.lt
  obtain ⟨i0, hi, hz0, hz1, hz2⟩ := info_parts infoPt
  have HI := Lib.hid hi; have HZ := Lib.hid hz0; have HZ1 := Lib.hid hz1; have HZ2 := Lib.hid hz2
  have hNew : ∀ j u, ([.int .i64 q.x, .int .i64 q.y, .int .i64 q.z] : List Value)[j]? = some u → (W2.alloc (.cells ([.int .i64 q.x, .int .i64 q.y, .int .i64 q.z] : List Value).toArray 23)).cell? ((⟨W2.heap.size, 0, none⟩ : Addr).add j) = some u := fun j u hu => by
    rw [add_lit, Nat.zero_add, (Arr.new W2 23 [.int .i64 q.x, .int .i64 q.y, .int .i64 q.z]).cell]; exact hu
  have HNew := Lib.hid hNew
  have hOne : ∀ u, u ∈ ([.int .i64 q.x, .int .i64 q.y, .int .i64 q.z] : List Value) → u.oneCell' = true := fun u hu => by simp at hu; rcases hu with rfl | rfl | rfl <;> rfl
  have HOne := Lib.hid hOne
  have HNE := Lib.hid (show (Value.slice BA s.bd.length Bc).ownBlock ≠ some K.bd from fun e => by have := own_low hs.rb _ e; have := hs.ok.low.2.2.1.2; omega)
  clear hi hz0 hz1 hz2 hNew hOne hs hv hu
  go_wp2_with (first
    | (refine wpList_load_blk 23 (.tmp 5) rfl rfl HB6.out rfl _ Tryd.underlying23 rfl (by kernel_rfl) ?_)
    | (refine wpList_buildRow rfl 31 23 28 rfl 3 (by decide) (by decide) [.int .i64 q.x, .int .i64 q.y, .int .i64 q.z] rfl rfl Tryd.underlying31 (by kernel_rfl) (by kernel_rfl) ?_)
    | (at_builtin; refine wpList_append_mine _ rfl (.tmp 27) (.tmp 29) 31 rfl K.base 23 i0 (.agg #[.int .i64 0, .int .i64 0, .int .i64 0]) 3 24 Tryd.underlying31 HI.out HZ.out HZ1.out HZ2.out rfl (by decide) (.slice BA s.bd.length Bc) s.bd.length (rowsP s.bd).flatten rfl HS.out.rb ⟨W2.heap.size, 0, none⟩ 1 1 [.int .i64 q.x, .int .i64 q.y, .int .i64 q.z] rfl rfl HNew.out HOne.out (by unfold maxLen; omega) (by omega) HS.out.hb ?_))
  intro v' w1 ho hg hv
  obtain ⟨A1, m1, c1, rfl⟩ := store_form ho
  have A1' := HS.out.ab.kept hg HNE.out
  have as2 := A1'.cell 0
  have fs2 := A1'.frozen 0
  simp only [List.getElem?_cons_zero] at as2
  have HP := Lib.hid (HS.out.edge (q := q) hg ho (hv.imp id (fun h b hb => by rw [World.size_alloc_]; exact h b hb)))
  clear ho hg hv A1'
  go_wp2
  go_end0
  exact ⟨rfl, (HH.out.ext HV.out ((Ext.refl W2).alloc _)).step HV.out HP.out.1 HP.out.2⟩
theorem visit_any (V : FieldV w0.heap.size D rv rv' G F fbo Cnt) (q : Pt) (w : World) (h : FW w0.heap.size K Pr (.iface D rv) a c fbo Cnt w0 s n w) (hl : s.l.length ≤ 100000) (hbd : s.bd.length ≤ 100000) (hn : n ≤ 1000000) :
    Calls Tryd.prog 51 #[.agg #[.int .i64 q.x, .int .i64 q.y, .int .i64 q.z], .pointer (some ⟨K.f, 0, none⟩), .pointer (some ⟨K.cell, 0, none⟩), .pointer (some ⟨K.wv, 0, none⟩), .pointer (some ⟨K.bd, 0, none⟩)] w fun e w' => e = .returned (.tuple #[]) ∧ FW w0.heap.size K Pr (.iface D rv) a c fbo Cnt w0 (visitS F c s q) (n + 1) w' := by
  cases hF : F q with
  | none => rw [vis_n hF]; exact visit_none V q w h hl hbd hn hF
  | some v =>
    by_cases hv : v = c
    · rw [vis_c hF hv]; subst hv; exact visit_in V q w h hl hbd hn hF
    · rw [vis_o hF hv]; exact visit_out V q w h hl hbd hn hF hv
end
end Go.Proofs.YtelhefjikdoihaaDoor

/- A flood's round: the neighbours of a cell. -/
namespace Go.Proofs.YtelhefjikdoihaaDoor
open Go Go.RowKit

def steps6 : List Pt := [⟨1, 0, 0⟩, ⟨-1, 0, 0⟩, ⟨0, 1, 0⟩, ⟨0, -1, 0⟩, ⟨0, 0, 1⟩, ⟨0, 0, -1⟩]
def steps18 : List Value := [.int .i64 1, .int .i64 0, .int .i64 0, .int .i64 (-1), .int .i64 0, .int .i64 0, .int .i64 0, .int .i64 1, .int .i64 0, .int .i64 0, .int .i64 (-1), .int .i64 0, .int .i64 0, .int .i64 0, .int .i64 1, .int .i64 0, .int .i64 0, .int .i64 (-1)]
/-- The laid variable is there. -/
def StepsIn (w : World) : Prop := ∃ t fr, w.heap[0]? = some (.cells steps18.toArray t fr)
theorem StepsIn.lt {w : World} (h : StepsIn w) : 0 < w.heap.size := by
  obtain ⟨t, fr, h⟩ := h
  exact (Array.getElem?_eq_some_iff.1 h).1
theorem StepsIn.kept {w w' : World} (h : StepsIn w) {row : Option Nat} (hg : w.grownBy w' row) (hne : row ≠ some 0) : StepsIn w' := by
  have hl := h.lt
  obtain ⟨t, fr, h⟩ := h
  exact ⟨t, fr, (hg.block _ hl (fun h => hne h.symm)).trans h⟩
theorem StepsIn.ext {w w' : World} (h : StepsIn w) (hx : Ext w w') : StepsIn w' := h.kept (hx.by_ none) (by simp)
theorem wpList_load_fr {P : Program} {ops : Array Oper} {rest : List Oper} {o : Oper} {a : Act} {w : World} {Q : Exit → Act → World → Prop} (ty : TypeId) (x : Operand) (ho : o.op = .load ty x) (hw : Region.wanted o (yielded ops a.tmps) = true)
    {b : Nat} {t : TypeId} {fr : Nat × Nat} {vs : List Value} (hB : w.heap[b]? = some (.cells vs.toArray t fr)) (hx : a.eval x = .pointer (some ⟨b, 0, none⟩)) (d : TypeDesc) (hu : P.underlying ty = some d)
    (hd : (match d with | .struct _ | .array _ _ => true | _ => false) = true) (hi : (P.info? ty).map (·.size) = some vs.length) (h : wpList P ops Q rest (a.put o.dst (.agg vs.toArray)) w) : wpList P ops Q (o :: rest) a w := by
  refine wpList_step fun K hK => ?_
  rw [if_pos hw]
  exact wp_load_row ty x ho b hx t vs.toArray fr d hB hu hd (by simpa using hi) (hK _ _ h)
def stepS (F : Pt → Option Int) (c : Int) (p : Pt) (s : Fs) (d : Pt) : Fs := if addP p d ∈ s.seen then s else visitS F c { s with seen := s.seen ++ [addP p d] } (addP p d)
def foldS (F : Pt → Option Int) (c : Int) (p : Pt) (s : Fs) (k : Nat) : Fs := (steps6.take k).foldl (stepS F c p) s
theorem foldS_succ {F : Pt → Option Int} {c : Int} {p : Pt} {s : Fs} {k : Nat} {d : Pt} (h : steps6[k]? = some d) : foldS F c p s (k + 1) = stepS F c p (foldS F c p s k) d := by
  unfold foldS
  obtain ⟨hk, rfl⟩ := List.getElem?_eq_some_iff.1 h
  rw [List.take_succ_eq_append_getElem hk, List.foldl_append]
  rfl
theorem visitS_seen (F : Pt → Option Int) (c : Int) (s : Fs) (q : Pt) : (visitS F c s q).seen = s.seen := by
  unfold visitS
  split
  · split <;> rfl
  · rfl
theorem visitS_len (F : Pt → Option Int) (c : Int) (s : Fs) (q : Pt) : s.l.length ≤ (visitS F c s q).l.length ∧ (visitS F c s q).l.length ≤ s.l.length + 1 ∧ s.bd.length ≤ (visitS F c s q).bd.length ∧ (visitS F c s q).bd.length ≤ s.bd.length + 1 := by
  unfold visitS
  split
  · split
    · simp
    · simp
  · simp
theorem stepS_len (F : Pt → Option Int) (c : Int) (p : Pt) (s : Fs) (d : Pt) : (stepS F c p s d).l.length ≤ s.l.length + 1 ∧ (stepS F c p s d).bd.length ≤ s.bd.length + 1 ∧ (stepS F c p s d).seen.length ≤ s.seen.length + 1 := by
  unfold stepS
  split
  · omega
  · have h := visitS_len F c { s with seen := s.seen ++ [addP p d] } (addP p d)
    simp only at h
    refine ⟨by omega, by omega, by rw [visitS_seen]; simp⟩
theorem foldS_len (F : Pt → Option Int) (c : Int) (p : Pt) (s : Fs) : ∀ k, k ≤ 6 → (foldS F c p s k).l.length ≤ s.l.length + k ∧ (foldS F c p s k).bd.length ≤ s.bd.length + k ∧ (foldS F c p s k).seen.length ≤ s.seen.length + k
  | 0, _ => by simp [foldS]
  | k + 1, hk => by
    have ih := foldS_len F c p s k (by omega)
    obtain ⟨d, hd⟩ : ∃ d, steps6[k]? = some d := ⟨_, List.getElem?_eq_getElem (by simp [steps6]; omega)⟩
    rw [foldS_succ hd]
    have := stepS_len F c p (foldS F c p s k) d
    omega
theorem ktPt : KeyT Tryd.prog 23 ptV where
  agg p := ⟨_, rfl⟩
  kind := ⟨_, Tryd.underlying23⟩
  eq x y w := by
    obtain ⟨a1, a2, a3⟩ := x
    obtain ⟨b1, b2, b3⟩ := y
    unfold Op.equal ptV
    rw [show Op.maxDepth = 9999 + 1 from rfl, run_equalIn_struct w _ _ _ _ (by kernel_rfl) (by kernel_rfl)]
    rw [show (9999 : Nat) = 9998 + 1 from rfl]
    simp [go_sem]
    by_cases h1 : a1 = b1
    · by_cases h2 : a2 = b2
      · by_cases h3 : a3 = b3 <;> simp [h1, h2, h3]
      · simp [h1, h2]
    · simp [h1]
  chk b x w := by
    cases b <;> kernel_rfl
  same x := by
    simp [ptV, Instr.sameBits]
  inj x y h := by
    unfold ptV at h
    cases x; cases y
    simpa using h
end Go.Proofs.YtelhefjikdoihaaDoor

/- What the laid variable gives: the six steps. -/
namespace Go.Proofs.YtelhefjikdoihaaDoor
open Go Go.RowKit Go.ChangeShapes Go.WideShapes Go.ChangeAt

section
variable {P : Program} {H : Type} {enc : TypeId × Value → H} {w : World} {spare : Nat → Bool} {held : Bool} {n : Nat}
theorem int_at {t : TypeId} (ht : P.underlying t = some (.int .i64)) {cs : List Value} {off : Nat} {v : Int} {p : List MemPlace} (h : DataW.trod enc P w 0 spare held n t ((cs.drop off).take 1) = some (.lit (.int .i64 v), p)) : cs[off]? = some (.int .i64 v) := by
  obtain ⟨k, e1, e2, _⟩ := DataW.trod_int ht h
  injection e2 with e2 _
  injection e2 with e2
  injection e2 with _ e2
  subst e2
  have h1 : ((cs.drop off).take 1)[0]? = some (.int .i64 v) := by rw [e1]; rfl
  rw [List.getElem?_take, if_pos (by decide), List.getElem?_drop] at h1
  exact h1
theorem part_at {ds : List (DataW H)} {xs : List (DataW H × List MemPlace)} {p : List MemPlace} {q : List MemPlace} (hx : ((DataW.agg ds, p) : DataW H × List MemPlace) = (.agg (xs.map (·.1)), q)) {i : Nat} {d : DataW H} (hd : ds[i]? = some d) : ∃ r, xs[i]? = some (d, r) := by
  injection hx with hx _
  injection hx with hx
  subst hx
  rw [List.getElem?_map] at hd
  obtain ⟨x, hx, rfl⟩ := Option.map_eq_some_iff.1 hd
  exact ⟨x.2, hx⟩
end
theorem pt_at {H : Type} {enc : TypeId × Value → H} {w : World} {spare : Nat → Bool} {held : Bool} {n : Nat} {cs : List Value} {a b c : Int} {p : List MemPlace} (h : DataW.trod enc Tryd.prog w 0 spare held n 23 cs = some (.agg [.lit (.int .i64 a), .lit (.int .i64 b), .lit (.int .i64 c)], p)) :
    cs[0]? = some (.int .i64 a) ∧ cs[1]? = some (.int .i64 b) ∧ cs[2]? = some (.int .i64 c) := by
  obtain ⟨xs, m, _, hx, _, _, hg⟩ := DataW.trod_struct Tryd.underlying23 h
  obtain ⟨r0, h0⟩ := part_at hx (i := 0) rfl
  obtain ⟨r1, h1⟩ := part_at hx (i := 1) rfl
  obtain ⟨r2, h2⟩ := part_at hx (i := 2) rfl
  have c1 : Tryd.prog.cellsOf 3 = 1 := by kernel_rfl
  have g0 : DataW.trod enc Tryd.prog w 0 spare held m 3 ((cs.drop 0).take (Tryd.prog.cellsOf 3)) = xs[0]? := hg 0 _ rfl
  have g1 : DataW.trod enc Tryd.prog w 0 spare held m 3 ((cs.drop 1).take (Tryd.prog.cellsOf 3)) = xs[1]? := hg 1 _ rfl
  have g2 : DataW.trod enc Tryd.prog w 0 spare held m 3 ((cs.drop 2).take (Tryd.prog.cellsOf 3)) = xs[2]? := hg 2 _ rfl
  rw [h0] at g0; rw [h1] at g1; rw [h2] at g2
  rw [c1] at g0 g1 g2
  exact ⟨int_at Tryd.underlying3 g0, int_at Tryd.underlying3 g1, int_at Tryd.underlying3 g2⟩
theorem gSteps : Tryd.prog.globalNamed "voxel/fill.steps" = some 0 := by kernel_rfl
def laidL : List (String × DataW Unit) := [("voxel/fill.steps", Rows.laid_voxel_fill_steps)]
set_option maxRecDepth 100000 in
set_option maxHeartbeats 2000000 in
theorem steps_of {W : World} {cs : Array Value} {f : Nat} {p : List MemPlace} {enc : TypeId × Value → Unit} {spare : Nat → Bool} {held : Bool} (hv : W.var? Tryd.prog "voxel/fill.steps" = some cs) (hd : DataW.trod enc Tryd.prog W 0 spare held f 101 cs.toList = some (Rows.laid_voxel_fill_steps, p)) : StepsIn W := by
  obtain ⟨xs, m, _, hx, hlen, _, hg⟩ := DataW.trod_array Tryd.underlying101 hd
  have c3 : Tryd.prog.cellsOf 23 = 3 := by kernel_rfl
  have c18 : Tryd.prog.cellsOf 101 = 18 := by kernel_rfl
  have hcl : cs.toList.length = 18 := by first | (rw [hlen, c18]) | (rw [hlen, c3]) | (rw [c3] at hlen; simpa using hlen)
  clear hlen
  rw [c3] at hg
  have e : ∀ (o j : Nat) (v : Value), j < 3 → ((cs.toList.drop o).take 3)[j]? = some v → cs.toList[o + j]? = some v := fun o j v hj h => by
    rw [List.getElem?_take, if_pos hj, List.getElem?_drop] at h
    exact h
  obtain ⟨r0, h0⟩ := part_at hx (i := 0) rfl
  have g0 := hg 0 (by decide)
  rw [h0] at g0
  obtain ⟨a0, b0, c0⟩ := pt_at (a := 1) (b := 0) (c := 0) g0
  obtain ⟨r1, h1⟩ := part_at hx (i := 1) rfl
  have g1 := hg 1 (by decide)
  rw [h1] at g1
  obtain ⟨a1, b1, c1⟩ := pt_at (a := -1) (b := 0) (c := 0) g1
  obtain ⟨r2, h2⟩ := part_at hx (i := 2) rfl
  have g2 := hg 2 (by decide)
  rw [h2] at g2
  obtain ⟨a2, b2, c2⟩ := pt_at (a := 0) (b := 1) (c := 0) g2
  obtain ⟨r3, h3⟩ := part_at hx (i := 3) rfl
  have g3 := hg 3 (by decide)
  rw [h3] at g3
  obtain ⟨a3, b3, c3⟩ := pt_at (a := 0) (b := -1) (c := 0) g3
  obtain ⟨r4, h4⟩ := part_at hx (i := 4) rfl
  have g4 := hg 4 (by decide)
  rw [h4] at g4
  obtain ⟨a4, b4, c4⟩ := pt_at (a := 0) (b := 0) (c := 1) g4
  obtain ⟨r5, h5⟩ := part_at hx (i := 5) rfl
  have g5 := hg 5 (by decide)
  rw [h5] at g5
  obtain ⟨a5, b5, c5⟩ := pt_at (a := 0) (b := 0) (c := -1) g5
  have hcs : cs.toList = steps18 := by
    apply List.ext_getElem?
    intro j
    match j with
    | 0 => exact e 0 0 _ (by decide) a0
    | 1 => exact e 0 1 _ (by decide) b0
    | 2 => exact e 0 2 _ (by decide) c0
    | 3 => exact e 3 0 _ (by decide) a1
    | 4 => exact e 3 1 _ (by decide) b1
    | 5 => exact e 3 2 _ (by decide) c1
    | 6 => exact e 6 0 _ (by decide) a2
    | 7 => exact e 6 1 _ (by decide) b2
    | 8 => exact e 6 2 _ (by decide) c2
    | 9 => exact e 9 0 _ (by decide) a3
    | 10 => exact e 9 1 _ (by decide) b3
    | 11 => exact e 9 2 _ (by decide) c3
    | 12 => exact e 12 0 _ (by decide) a4
    | 13 => exact e 12 1 _ (by decide) b4
    | 14 => exact e 12 2 _ (by decide) c4
    | 15 => exact e 15 0 _ (by decide) a5
    | 16 => exact e 15 1 _ (by decide) b5
    | 17 => exact e 15 2 _ (by decide) c5
    | j + 18 => rw [List.getElem?_eq_none (by omega), List.getElem?_eq_none (by simp [steps18])]
  have hh : ∃ t fr, W.heap[0]? = some (.cells cs t fr) := by
    simp only [World.var?, gSteps, Option.bind_some] at hv
    split at hv
    · rename_i c t fr hb
      cases hv
      exact ⟨t, fr, hb⟩
    · cases hv
  obtain ⟨t, fr, hb⟩ := hh
  refine ⟨t, fr, ?_⟩
  rw [hb, ← hcs]
theorem laid_of {W : World} (h : laidMetH Tryd.prog laidL W) : StepsIn W := by
  rw [MakeChecks.laidMetH_plain _ _ _ (by kernel_rfl)] at h
  obtain ⟨ps, ⟨g0, t0, cs0, f0, p0, q0, hg0, ht0, hv0, hd0, _, _⟩, _, _⟩ := h
  obtain rfl := Option.some.inj (gSteps.symm.trans hg0)
  obtain rfl := Option.some.inj ((show (Tryd.prog.globals[0]?).map (·.type) = some 101 by kernel_rfl).symm.trans ht0)
  exact steps_of hv0 hd0
end Go.Proofs.YtelhefjikdoihaaDoor

/- A flood's round: around. -/
namespace Go.Proofs.YtelhefjikdoihaaDoor
open Go Go.RowKit

set_option maxRecDepth 100000 in
theorem ix0 (w : World) : (Instr.index 101 (.agg steps18.toArray) (.int .i64 0)).run Tryd.prog w = .ok (.agg #[.int .i64 (1), .int .i64 (0), .int .i64 (0)]) w := by kernel_rfl
set_option maxRecDepth 100000 in
theorem ix1 (w : World) : (Instr.index 101 (.agg steps18.toArray) (.int .i64 1)).run Tryd.prog w = .ok (.agg #[.int .i64 (-1), .int .i64 (0), .int .i64 (0)]) w := by kernel_rfl
set_option maxRecDepth 100000 in
theorem ix2 (w : World) : (Instr.index 101 (.agg steps18.toArray) (.int .i64 2)).run Tryd.prog w = .ok (.agg #[.int .i64 (0), .int .i64 (1), .int .i64 (0)]) w := by kernel_rfl
set_option maxRecDepth 100000 in
theorem ix3 (w : World) : (Instr.index 101 (.agg steps18.toArray) (.int .i64 3)).run Tryd.prog w = .ok (.agg #[.int .i64 (0), .int .i64 (-1), .int .i64 (0)]) w := by kernel_rfl
set_option maxRecDepth 100000 in
theorem ix4 (w : World) : (Instr.index 101 (.agg steps18.toArray) (.int .i64 4)).run Tryd.prog w = .ok (.agg #[.int .i64 (0), .int .i64 (0), .int .i64 (1)]) w := by kernel_rfl
set_option maxRecDepth 100000 in
theorem ix5 (w : World) : (Instr.index 101 (.agg steps18.toArray) (.int .i64 5)).run Tryd.prog w = .ok (.agg #[.int .i64 (0), .int .i64 (0), .int .i64 (-1)]) w := by kernel_rfl
theorem idx_steps (k : Nat) (d : Pt) (h : steps6[k]? = some d) : ∀ w, (Instr.index 101 (.agg steps18.toArray) (.int .i64 (k : Nat))).run Tryd.prog w = .ok (.agg #[.int .i64 d.x, .int .i64 d.y, .int .i64 d.z]) w := by
  match k, h with
  | 0, h => injection h with h; subst h; exact ix0
  | 1, h => injection h with h; subst h; exact ix1
  | 2, h => injection h with h; subst h; exact ix2
  | 3, h => injection h with h; subst h; exact ix3
  | 4, h => injection h with h; subst h; exact ix4
  | 5, h => injection h with h; subst h; exact ix5
  | k + 6, h => simp [steps6] at h
theorem zeroBool (w : World) : (zeroValue 4).run Tryd.prog w = .ok (.bool false) w := by kernel_rfl
section
variable {D : TypeId} {rv rv' : Value} {G : FuncId} {F : Pt → Option Int} {fbo : Option Nat} {Cnt : Nat → World → Prop} {w0 : World} {K : Bs} {Pr : Prot} {a : Pt} {c : Int} {s : Fs}
set_option maxRecDepth 100000 in
set_option maxHeartbeats 8000000 in
theorem around_any (V : FieldV w0.heap.size D rv rv' G F fbo Cnt) (hst : StepsIn w0) (hgl : fbo ≠ some 0) (p : Pt) (w : World) (h : FW w0.heap.size K Pr (.iface D rv) a c fbo Cnt w0 s s.seen.length w) (hl : s.l.length ≤ 90000) (hbd : s.bd.length ≤ 90000) (hn : s.seen.length ≤ 900000) :
    Calls Tryd.prog 50 #[.pointer (some ⟨K.walk, 0, none⟩), .agg #[.int .i64 p.x, .int .i64 p.y, .int .i64 p.z], .func (.func 51) #[] #[.pointer (some ⟨K.f, 0, none⟩), .pointer (some ⟨K.cell, 0, none⟩), .pointer (some ⟨K.wv, 0, none⟩), .pointer (some ⟨K.bd, 0, none⟩)]] w fun e w' => e = .returned (.tuple #[]) ∧ FW w0.heap.size K Pr (.iface D rv) a c fbo Cnt w0 (foldS F c p s 6) (foldS F c p s 6).seen.length w' := by
  have hm := mixed
  have hG := near_old
  have h1 := h.protect V 23 [.int .i64 p.x, .int .i64 p.y, .int .i64 p.z]
  have HST := Lib.hid (fun (w' : World) (hh : w0.grownBy w' fbo) => hst.kept hh hgl)
  have HST1 := Lib.hid (HST.out _ h1.grown)
  have HV := Lib.hid V; have H1 := Lib.hid h1
  have HL := Lib.hid (foldS_len F c p s)
  clear V h h1 hst hgl
  go_enter Tryd.func50, Tryd.ntmps50
  go_upto_region 1 with fail
  obtain ⟨W1, hW⟩ : ∃ W, W = w.alloc (.cells #[.int .i64 p.x, .int .i64 p.y, .int .i64 p.z] 23) := ⟨_, rfl⟩
  have HST1 := HST1
  rw [← hW] at H1 HST1
  rw [← hW]
  clear hW
  go_wp2_with (first
    | (refine wpList_load_fr 101 (.global 0) rfl rfl HST1.out.choose_spec.choose_spec rfl _ Tryd.underlying101 rfl (by kernel_rfl) ?_))
  go_loopw [10] (fun i wr => ∃ k : Nat, k ≤ 6 ∧ i = .int .i64 k ∧ FW w0.heap.size K ((w.heap.size, 23, [.int .i64 p.x, .int .i64 p.y, .int .i64 p.z]) :: Pr) (.iface D rv) a c fbo Cnt w0 (foldS F c p s k) (foldS F c p s k).seen.length wr) (fun i _ => 6 - (intOf i).toNat)
  case atStart => exact ⟨0, by omega, rfl, H1.out⟩
  case round =>
    obtain ⟨k, hk, rfl, hw⟩ := hrel
    have HW := Lib.hid hw
    clear hw
    by_cases hlt : k < 6
    · obtain ⟨d, hd⟩ : ∃ d, steps6[k]? = some d := ⟨_, List.getElem?_eq_getElem (by simp [steps6]; omega)⟩
      have HS := Lib.hid (foldS_succ (F := F) (c := c) (p := p) (s := s) hd)
      have hix := idx_steps k d hd
      obtain ⟨t1, t2, t3⟩ := HL.out k hk
      generalize foldS F c p s k = s1 at HW HS t1 t2 t3
      obtain ⟨q, hq⟩ : ∃ q, q = addP p d := ⟨_, rfl⟩
      have HA := Lib.hid (fun w' => Add_any p d w')
      rw [← hq] at HA
      have HS2 := Lib.hid (show foldS F c p s (k + 1) = if q ∈ s1.seen then s1 else visitS F c { s1 with seen := s1.seen ++ [q] } q by rw [HS.out]; unfold stepS; rw [hq])
      clear hd hq HS
      go_upto_region 4 with fail
      have hx3 : Ext wr (wr.alloc (.cells #[.int .i64 d.x, .int .i64 d.y, .int .i64 d.z] 23)) := (Ext.refl wr).alloc _
      have B7 := Arr.new wr 23 [.int .i64 d.x, .int .i64 d.y, .int .i64 d.z]
      have HW3 := Lib.hid (HW.out.ext HV.out hx3)
      obtain ⟨W3, hW⟩ : ∃ W, W = wr.alloc (.cells #[.int .i64 d.x, .int .i64 d.y, .int .i64 d.z] 23) := ⟨_, rfl⟩
      rw [← hW] at B7 HW3
      rw [← hW]
      have HB7 := Lib.hid B7
      have HBP := Lib.hid (HW3.out.prot (List.mem_cons_self ..))
      clear hW hx3 B7 hix
      go_upto_region 5 with (first
        | (refine wpList_load_blk 23 (.tmp 4) rfl rfl HBP.out rfl _ Tryd.underlying23 rfl (by kernel_rfl) ?_)
        | (refine wpList_load_blk 23 (.tmp 7) rfl rfl HB7.out rfl _ Tryd.underlying23 rfl (by kernel_rfl) ?_)
        | (go_at_call 43; refine (HA.out _).mono ?_; rintro e W4 ⟨rfl, x4⟩))
      have HW5 := Lib.hid ((HW3.out.ext HV.out x4).protect HV.out 23 [.int .i64 q.x, .int .i64 q.y, .int .i64 q.z])
      obtain ⟨qb, hqb⟩ : ∃ qb, qb = W4.heap.size := ⟨_, rfl⟩
      obtain ⟨W5, hW⟩ : ∃ W, W = W4.alloc (.cells #[.int .i64 q.x, .int .i64 q.y, .int .i64 q.z] 23) := ⟨_, rfl⟩
      rw [← hW, ← hqb] at HW5
      rw [← hW, ← hqb]
      clear hW hqb x4
      have HBQ := Lib.hid (HW5.out.prot (List.mem_cons_self ..))
      obtain ⟨lv, bv, hs5⟩ := HW5.out.st
      have q0 := HBQ.out.cell 0
      have q1 := HBQ.out.cell 1
      have q2 := HBQ.out.cell 2
      have ql := HBQ.out.lt
      have wk := hs5.as_.cell 0
      have wl := hs5.as_.lt
      simp only [List.getElem?_cons_zero, List.getElem?_cons_succ] at q0 q1 q2 wk
      have hlk : ∀ n os, (Instr.lookup 70 (.map (some K.map)) (.agg #[.int .i64 q.x, .int .i64 q.y, .int .i64 q.z]) false).run Tryd.prog (near W5 n os) = .ok (.bool (decide (q ∈ s1.seen))) (near W5 n os) := fun n os => by
        have h := (hs5.am.ext (Ext.of_near ⟨⟨n, os⟩, rfl⟩)).look ktPt Tryd.underlying70 (zeroBool _) q false
        by_cases hq : q ∈ s1.seen <;> simpa [hq, ptV] using h
      clear hs5
      by_cases hq : q ∈ s1.seen
      · have HS3 := Lib.hid (show foldS F c p s (k + 1) = s1 by rw [HS2.out, if_pos hq])
        rw [decide_eq_true hq] at hlk
        clear hq HS2
        refine wp_region_near (by assumption) (by kernel_rfl) ?_
        repeat (go_big_quiet_step (fail))
        refine wpQuiet_nil ?_
        intro w1 hw1
        have hy := Ext.of_near hw1
        clear hw1
        go_wp2
        go_roundw
        case rel => exact ⟨k + 1, by omega, by go_num, by rw [HS3.out]; exact (HW5.out.ext HV.out hy).drop⟩
        case measure => simp [intOf]; omega
      · have HS3 := Lib.hid (show foldS F c p s (k + 1) = visitS F c { s1 with seen := s1.seen ++ [q] } q by rw [HS2.out, if_neg hq])
        rw [decide_eq_false hq] at hlk
        clear hq HS2
        refine wp_region_near (by assumption) (by kernel_rfl) ?_
        repeat (go_big_quiet_step (fail))
        refine wpQuiet_nil ?_
        intro w1 hw1
        have hy := Ext.of_near hw1
        clear hw1
        have HW6 := Lib.hid (HW5.out.ext HV.out hy)
        have HBQ6 := Lib.hid (HW6.out.prot (List.mem_cons_self ..))
        obtain ⟨lv, bv, hs6⟩ := HW6.out.st
        have q0 := HBQ6.out.cell 0
        have q1 := HBQ6.out.cell 1
        have q2 := HBQ6.out.cell 2
        have ql := HBQ6.out.lt
        have wk := hs6.as_.cell 0
        have wl := hs6.as_.lt
        simp only [List.getElem?_cons_zero, List.getElem?_cons_succ] at q0 q1 q2 wk
        clear hs6 hy hlk
        obtain ⟨W6, hW6⟩ : ∃ W, W = w1 := ⟨_, rfl⟩
        rw [← hW6] at HW6 HBQ6 q0 q1 q2 ql wk wl
        rw [← hW6]
        clear hW6
        go_wp2_with fail
        refine wp_region_near_tail 5 (by assumption) (by kernel_rfl) ?_
        simp only [List.take_succ_cons, List.take_zero, List.drop_succ_cons, List.drop_zero]
        repeat (go_big_quiet_step (fail))
        refine wpQuiet_nil ?_
        intro w1 hw1
        have hy := Ext.of_near hw1
        clear hw1
        have HW7 := Lib.hid (HW6.out.ext HV.out hy)
        clear q0 q1 q2 ql wk wl hy
        obtain ⟨lv, bv, hs7⟩ := HW7.out.st
        have HS7 := Lib.hid hs7
        clear hs7
        go_wp2_with (refine wpList_mapUpdate_F rfl (.tmp 26) (.tmp 27) (.const (.bool true)) rfl HS7.out.am ktPt Tryd.underlying70 q (.bool true) rfl rfl rfl ?_)
        intro W8 hm8 hg8
        have hsee := HS7.out.see hm8 hg8
        have HW8 := Lib.hid ((HW7.out.step HV.out hsee.1 hsee.2).cnt)
        have HW8 := Lib.hid (HW7.out.step HV.out hsee.1 hsee.2)
        have HB8 := Lib.hid (HW8.out.prot (List.mem_cons_self ..))
        clear hsee hm8 hg8
        have HVI := Lib.hid (visit_any HV.out q W8 HW8.out (by simp only; omega) (by simp only; omega) (by omega))
        go_wp2_with (first
          | (refine wpList_load_blk 23 (.tmp 8) rfl rfl HB8.out rfl _ Tryd.underlying23 rfl (by kernel_rfl) ?_)
          | (go_at_call 51; refine HVI.out.mono ?_; rintro e W9 ⟨rfl, h9⟩))
        have HW9 := Lib.hid h9
        clear h9
        go_roundw
        case rel => exact ⟨k + 1, by omega, by go_num, by rw [HS3.out, visitS_seen]; simp only [List.length_append, List.length_cons, List.length_nil]; exact HW9.out.drop⟩
        case measure => simp [intOf]; omega
    · obtain rfl : k = 6 := by omega
      go_wp2
      go_end0
      exact ⟨rfl, HW.out.drop⟩
end
end Go.Proofs.YtelhefjikdoihaaDoor

/- Plain laws of a flood. -/
namespace Go.Proofs.YtelhefjikdoihaaDoor
open Go Go.RowKit

structure FInv (F : Pt → Option Int) (c : Int) (a : Pt) (n m : Nat) (s : Fs) : Prop where
  ln : s.l.Nodup
  bn : s.bd.Nodup
  ls : ∀ q, q ∈ s.l → q ∈ s.seen ∧ Reach F c a q
  bs : ∀ q, q ∈ s.bd → q ∈ s.seen ∧ (∃ v, F q = some v ∧ v ≠ c) ∧ ∃ p, Reach F c a p ∧ adj p q
  sl : ∀ q, q ∈ s.seen → F q = some c → q ∈ s.l
  sb : ∀ q, q ∈ s.seen → ∀ v, F q = some v → v ≠ c → q ∈ s.bd
  nb : ∀ i p, i < n → s.l[i]? = some p → ∀ q, adj p q → q ∈ s.seen
  am : a ∈ s.l
  sz : s.seen.length ≤ m
  nl : n ≤ s.l.length
theorem FInv.start {F : Pt → Option Int} {c : Int} {a : Pt} (h : F a = some c) : FInv F c a 0 1 ⟨[a], [a], []⟩ where
  ln := by simp
  bn := by simp
  ls q hq := by simp at hq; subst hq; exact ⟨by simp, .base⟩
  bs q hq := by simp at hq
  sl q hq _ := hq
  sb q hq v hv hne := by simp at hq; subst hq; rw [h] at hv; injection hv with hv; exact absurd hv.symm hne
  nb i p hi := absurd hi (by omega)
  am := by simp
  sz := by simp
  nl := by simp
theorem adj_add {p d : Pt} (hp : Small p) (hd : d ∈ steps6) : adj p (addP p d) := by
  unfold Small at hp
  unfold addP adj
  simp only [steps6, List.mem_cons, List.not_mem_nil, or_false] at hd
  rcases hd with rfl | rfl | rfl | rfl | rfl | rfl <;> simp only <;> (rw [wrap_small (x := p.x + _) (by omega), wrap_small (x := p.y + _) (by omega), wrap_small (x := p.z + _) (by omega)]; omega)
theorem adj_steps {p q : Pt} (hp : Small p) (h : adj p q) : ∃ d, d ∈ steps6 ∧ q = addP p d := by
  unfold Small at hp
  have mk : ∀ d : Pt, (-1 ≤ d.x ∧ d.x ≤ 1) → (-1 ≤ d.y ∧ d.y ≤ 1) → (-1 ≤ d.z ∧ d.z ≤ 1) → q.x = p.x + d.x → q.y = p.y + d.y → q.z = p.z + d.z → q = addP p d := fun d hx hy hz e1 e2 e3 => by
    unfold addP
    rw [wrap_small (x := p.x + d.x) (by omega), wrap_small (x := p.y + d.y) (by omega), wrap_small (x := p.z + d.z) (by omega)]
    cases q
    simp only at e1 e2 e3 ⊢
    rw [e1, e2, e3]
  unfold adj at h
  rcases h with ⟨h1, h2, h3 | h3⟩ | ⟨h1, h2, h3 | h3⟩ | ⟨h1, h2, h3 | h3⟩
  · exact ⟨⟨0, 0, 1⟩, by simp [steps6], mk _ (by simp) (by simp) (by simp) (by simp; omega) (by simp; omega) (by simp; omega)⟩
  · exact ⟨⟨0, 0, -1⟩, by simp [steps6], mk _ (by simp) (by simp) (by simp) (by simp; omega) (by simp; omega) (by simp; omega)⟩
  · exact ⟨⟨0, 1, 0⟩, by simp [steps6], mk _ (by simp) (by simp) (by simp) (by simp; omega) (by simp; omega) (by simp; omega)⟩
  · exact ⟨⟨0, -1, 0⟩, by simp [steps6], mk _ (by simp) (by simp) (by simp) (by simp; omega) (by simp; omega) (by simp; omega)⟩
  · exact ⟨⟨1, 0, 0⟩, by simp [steps6], mk _ (by simp) (by simp) (by simp) (by simp; omega) (by simp; omega) (by simp; omega)⟩
  · exact ⟨⟨-1, 0, 0⟩, by simp [steps6], mk _ (by simp) (by simp) (by simp) (by simp; omega) (by simp; omega) (by simp; omega)⟩
theorem nodup_snoc {l : List Pt} {q : Pt} (h : l.Nodup) (hq : q ∉ l) : (l ++ [q]).Nodup := by
  rw [List.nodup_append]
  refine ⟨h, by simp, fun x hx y hy => ?_⟩
  simp at hy
  subst hy
  rintro rfl
  exact hq hx
structure FMid (F : Pt → Option Int) (c : Int) (a : Pt) (n m k : Nat) (p : Pt) (s : Fs) : Prop where
  inv : FInv F c a n m s
  at_ : s.l[n]? = some p
  dn : ∀ j d, j < k → steps6[j]? = some d → addP p d ∈ s.seen
theorem getElem?_snoc {l : List Pt} {i : Nat} {p q : Pt} (h : l[i]? = some p) : (l ++ [q])[i]? = some p := by
  rw [List.getElem?_append_left (List.getElem?_eq_some_iff.1 h).1]; exact h
theorem FMid.step {F : Pt → Option Int} {c : Int} {a p d : Pt} {n m k : Nat} {s : Fs} (h : FMid F c a n m k p s) (hp : Small p) (hd : steps6[k]? = some d) : FMid F c a n (m + 1) (k + 1) p (stepS F c p s d) := by
  have I := h.inv
  have hpl := List.mem_of_getElem? h.at_
  have hpr := (I.ls p hpl).2
  unfold stepS
  by_cases hq : addP p d ∈ s.seen
  · rw [if_pos hq]
    exact ⟨⟨I.ln, I.bn, I.ls, I.bs, I.sl, I.sb, I.nb, I.am, by have := I.sz; omega, I.nl⟩, h.at_, fun j d' hj hd' => by
      rcases Nat.lt_succ_iff_lt_or_eq.1 hj with h1 | rfl
      · exact h.dn j d' h1 hd'
      · rw [hd] at hd'; injection hd' with hd'; subst hd'; exact hq⟩
  · rw [if_neg hq]
    have ha := adj_add hp (List.mem_of_getElem? hd)
    obtain ⟨q, e⟩ : ∃ q, addP p d = q := ⟨_, rfl⟩
    rw [e] at hq ha ⊢
    have hql : q ∉ s.l := fun hh => hq (I.ls q hh).1
    have hqb : q ∉ s.bd := fun hh => hq (I.bs q hh).1
    have hin : ∀ x, x ∈ s.seen → x ∈ s.seen ++ [q] := fun x hx => List.mem_append.2 (.inl hx)
    have hdn : ∀ j d', j < k + 1 → steps6[j]? = some d' → addP p d' ∈ s.seen ++ [q] := fun j d' hj hd' => by
      rcases Nat.lt_succ_iff_lt_or_eq.1 hj with h1 | rfl
      · exact hin _ (h.dn j d' h1 hd')
      · rw [hd] at hd'; injection hd' with hd'; subst hd'; rw [e]; simp
    have hsz := I.sz
    have hnl := I.nl
    cases hF : F q with
    | none =>
      rw [vis_n hF]
      exact ⟨⟨I.ln, I.bn, fun x hx => ⟨hin x (I.ls x hx).1, (I.ls x hx).2⟩, fun x hx => ⟨hin x (I.bs x hx).1, (I.bs x hx).2⟩, fun x hx hc => by
        rcases (mem_snoc q x _).1 hx with rfl | hx
        · rw [hF] at hc; cases hc
        · exact I.sl x hx hc, fun x hx v hv hne => by
        rcases (mem_snoc q x _).1 hx with rfl | hx
        · rw [hF] at hv; cases hv
        · exact I.sb x hx v hv hne, fun i r hi hr x hx => hin x (I.nb i r hi hr x hx), I.am, by simp; omega, hnl⟩, h.at_, hdn⟩
    | some v =>
      by_cases hv : v = c
      · subst hv
        rw [vis_c hF rfl]
        refine ⟨⟨nodup_snoc I.ln hql, I.bn, fun x hx => ?_, fun x hx => ⟨hin x (I.bs x hx).1, (I.bs x hx).2⟩, fun x hx hc => ?_, fun x hx u hu hne => ?_, fun i r hi hr x hx => ?_, List.mem_append.2 (.inl I.am), by simp; omega, by simp; omega⟩, getElem?_snoc h.at_, hdn⟩
        · rcases (mem_snoc q x _).1 hx with rfl | hx
          · exact ⟨by simp, hpr.step ha hF⟩
          · exact ⟨hin x (I.ls x hx).1, (I.ls x hx).2⟩
        · rcases (mem_snoc q x _).1 hx with rfl | hx
          · simp
          · exact List.mem_append.2 (.inl (I.sl x hx hc))
        · rcases (mem_snoc q x _).1 hx with rfl | hx
          · rw [hF] at hu; injection hu with hu; exact absurd hu.symm hne
          · exact I.sb x hx u hu hne
        · refine hin x (I.nb i r hi ?_ x hx)
          rw [List.getElem?_append_left (by show i < s.l.length; omega)] at hr
          exact hr
      · rw [vis_o hF hv]
        refine ⟨⟨I.ln, nodup_snoc I.bn hqb, fun x hx => ⟨hin x (I.ls x hx).1, (I.ls x hx).2⟩, fun x hx => ?_, fun x hx hc => ?_, fun x hx u hu hne => ?_, fun i r hi hr x hx => hin x (I.nb i r hi hr x hx), I.am, by simp; omega, hnl⟩, h.at_, hdn⟩
        · rcases (mem_snoc q x _).1 hx with rfl | hx
          · exact ⟨by simp, ⟨v, hF, hv⟩, p, hpr, ha⟩
          · exact ⟨hin x (I.bs x hx).1, (I.bs x hx).2⟩
        · rcases (mem_snoc q x _).1 hx with rfl | hx
          · rw [hF] at hc; injection hc with hc; exact absurd hc hv
          · exact I.sl x hx hc
        · rcases (mem_snoc q x _).1 hx with rfl | hx
          · simp
          · exact List.mem_append.2 (.inl (I.sb x hx u hu hne))
theorem FMid.fold {F : Pt → Option Int} {c : Int} {a p : Pt} {n m : Nat} {s : Fs} (h : FMid F c a n m 0 p s) (hp : Small p) : ∀ k, k ≤ 6 → FMid F c a n (m + k) k p (foldS F c p s k)
  | 0, _ => h
  | k + 1, hk => by
    obtain ⟨d, hd⟩ : ∃ d, steps6[k]? = some d := ⟨_, List.getElem?_eq_getElem (by simp [steps6]; omega)⟩
    rw [foldS_succ hd]
    exact (FMid.fold h hp k (by omega)).step hp hd
theorem FInv.next {F : Pt → Option Int} {c : Int} {a p : Pt} {n m : Nat} {s : Fs} (h : FInv F c a n m s) (hp : s.l[n]? = some p) (hsm : Small p) : FInv F c a (n + 1) (m + 6) (foldS F c p s 6) := by
  have h6 := FMid.fold ⟨h, hp, fun j d hj => absurd hj (by omega)⟩ hsm 6 (Nat.le_refl _)
  have I := h6.inv
  refine ⟨I.ln, I.bn, I.ls, I.bs, I.sl, I.sb, fun i r hi hr x hx => ?_, I.am, I.sz, (List.getElem?_eq_some_iff.1 h6.at_).1⟩
  rcases Nat.lt_succ_iff_lt_or_eq.1 hi with h1 | rfl
  · exact I.nb i r h1 hr x hx
  · rw [h6.at_] at hr
    injection hr with hr
    subst hr
    obtain ⟨d, hd, rfl⟩ := adj_steps hsm hx
    obtain ⟨j, hj⟩ := List.getElem?_of_mem hd
    exact h6.dn j d (by have := (List.getElem?_eq_some_iff.1 hj).1; simpa [steps6] using this) hj
theorem FInv.done {F : Pt → Option Int} {c : Int} {a : Pt} {m : Nat} {s : Fs} (h : FInv F c a s.l.length m s) : (∀ q, q ∈ s.l ↔ Reach F c a q) ∧ ∀ q, q ∈ s.bd ↔ (∃ v, F q = some v ∧ v ≠ c) ∧ ∃ p, Reach F c a p ∧ adj p q := by
  have hl : ∀ q, Reach F c a q → q ∈ s.l := fun q hq => by
    induction hq with
    | base => exact h.am
    | step h1 h2 h3 ih =>
      obtain ⟨i, hi⟩ := List.getElem?_of_mem ih
      exact h.sl _ (h.nb i _ (List.getElem?_eq_some_iff.1 hi).1 hi _ h2) h3
  refine ⟨fun q => ⟨fun hq => (h.ls q hq).2, hl q⟩, fun q => ⟨fun hq => (h.bs q hq).2, ?_⟩⟩
  rintro ⟨⟨v, hv, hne⟩, p, hp, ha⟩
  obtain ⟨i, hi⟩ := List.getElem?_of_mem (hl p hp)
  exact h.sb q (h.nb i p (List.getElem?_eq_some_iff.1 hi).1 hi q ha) v hv hne
end Go.Proofs.YtelhefjikdoihaaDoor
