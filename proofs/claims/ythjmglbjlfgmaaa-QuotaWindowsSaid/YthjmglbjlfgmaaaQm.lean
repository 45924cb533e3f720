/- Plain laws of uses: valid lists are sorted; what a take adds. -/
import Derived.Test.YthjmglbjlfgmaaaQl
import Derived.Test.YthjmglbjlfgmaaaQh
namespace Go.Proofs.Ythjmglbjlfgmaaa
open Go Go.RowKit

def ltU (u v : Use) : Prop := u.tick < v.tick ∨ (u.tick = v.tick ∧ u.site < v.site)
theorem ltU_trans {a b c : Use} (h : ltU a b) (k : ltU b c) : ltU a c := by unfold ltU at *; omega
theorem ordU_lt {u v : Use} : ordU u v < 0 ↔ ltU u v := ordU_neg u v
theorem good_iff (l : List Use) (i : Nat) : goodB l i = true ↔ i < 10000 ∧ okU (useAt l i) = true ∧ (0 < i → ltU (useAt l (i - 1)) (useAt l i)) := by
  unfold goodB
  simp only [Bool.and_eq_true, Bool.or_eq_true, decide_eq_true_eq, beq_iff_eq, ordU_lt, and_assoc]
  constructor
  · rintro ⟨h1, h2, h3⟩; exact ⟨h1, h2, fun h => h3.resolve_left (by omega)⟩
  · rintro ⟨h1, h2, h3⟩; exact ⟨h1, h2, by rcases Nat.eq_zero_or_pos i with h | h; exact .inl h; exact .inr (h3 h)⟩
theorem useAt_get {l : List Use} {i : Nat} (h : i < l.length) : useAt l i = l[i] := by simp [useAt, h]
theorem vldB_iff (l : List Use) : vldB l = true ↔ l.length ≤ 10000 ∧ (∀ u, u ∈ l → okU u = true) ∧ l.Pairwise ltU := by
  unfold vldB
  simp only [List.all_eq_true, List.mem_range, good_iff]
  constructor
  · intro h
    refine ⟨?_, fun u hu => ?_, ?_⟩
    · rcases Nat.eq_zero_or_pos l.length with h0 | h0
      · omega
      · have := (h (l.length - 1) (by omega)).1; omega
    · obtain ⟨i, hi, rfl⟩ := List.getElem_of_mem hu
      have := (h i hi).2.1
      rwa [useAt_get hi] at this
    · have step : ∀ (d i j : Nat) (hj : j < l.length), j - i = d → (hij : i < j) → ltU l[i] l[j] := by
        intro d
        induction d with
        | zero => intro i j hj hd hij; omega
        | succ d ih =>
          intro i j hj hd hij
          have h1 := (h j hj).2.2 (by omega)
          rw [useAt_get hj, useAt_get (by omega)] at h1
          rcases Nat.eq_or_lt_of_le (show i + 1 ≤ j by omega) with e | e
          · have : j - 1 = i := by omega
            simp only [this] at h1
            exact h1
          · exact ltU_trans (ih i (j - 1) (by omega) (by omega) (by omega)) h1
      rw [List.pairwise_iff_getElem]
      exact fun i j hi hj hij => step (j - i) i j hj rfl hij
  · rintro ⟨h1, h2, h3⟩ i hi
    refine ⟨by omega, by rw [useAt_get hi]; exact h2 _ (List.getElem_mem _), fun h0 => ?_⟩
    rw [useAt_get hi, useAt_get (by omega)]
    exact (List.pairwise_iff_getElem.1 h3) (i - 1) i (by omega) hi (by omega)
theorem vld_fits {l : List Use} (h : vldB l = true) : Fits l := by
  obtain ⟨h1, h2, _⟩ := (vldB_iff l).1 h
  refine ⟨h1, fun u hu => ?_⟩
  have := (okU_iff u).1 (h2 u hu)
  omega
theorem quo_iff (t c : Int) : checkB t c = 0 ↔ Quo t c := by
  unfold checkB Quo
  split <;> simp_all

/-- Some use is later than the tick k. -/
def late (k : Int) (l : List Use) : Bool := l.any fun u => decide (k < u.tick)
theorem late_last {l : List Use} {k : Int} {x : Use} (h : vldB l = true) (hx : l[l.length - 1]? = some x) : late k l = decide (k < x.tick) := by
  obtain ⟨_, _, h3⟩ := (vldB_iff l).1 h
  obtain ⟨hi, rfl⟩ := List.getElem?_eq_some_iff.1 hx
  unfold late
  rw [Bool.eq_iff_iff]
  simp only [List.any_eq_true, decide_eq_true_eq]
  constructor
  · rintro ⟨u, hu, h4⟩
    obtain ⟨i, hi2, rfl⟩ := List.getElem_of_mem hu
    rcases Nat.eq_or_lt_of_le (show i ≤ l.length - 1 by omega) with e | e
    · simp only [e] at h4; exact h4
    · have := (List.pairwise_iff_getElem.1 h3) i (l.length - 1) hi2 hi e
      unfold ltU at this
      omega
  · exact fun h4 => ⟨_, List.getElem_mem hi, h4⟩

def newU (s k n : Int) : Use := ⟨k, s, n⟩
def addU (s k n : Int) : List Use → List Use
  | [] => [newU s k n]
  | x :: r => if x.tick = k ∧ s ≤ x.site then (if x.site = s then ⟨x.tick, x.site, x.count + n⟩ :: r else newU s k n :: x :: r) else x :: addU s k n r
/-- What is returned: the list and the error. -/
def takeF (t c s k n : Int) (l : List Use) : List Use × Int :=
  if ¬ (checkB t c = 0 ∧ vldB l = true ∧ inB s 1 8 = true ∧ inB k 0 4000 = true ∧ inB n 0 1073741824 = true) then ([], 1)
  else if late k l = true then ([], 22)
  else if leftF t c s k l < n then ([], 12)
  else if t = 0 ∨ n = 0 then (pruned t c k l, 0)
  else (addU s k n (pruned t c k l), 0)

/-- The reference's rounds. -/
def stepU (s k n : Int) (st : Bool × List Use) (x : Use) : Bool × List Use :=
  if st.1 = false ∧ x.tick = k ∧ s ≤ x.site then (true, st.2 ++ (if x.site = s then [⟨x.tick, x.site, x.count + n⟩] else [newU s k n, x])) else (st.1, st.2 ++ [x])
theorem fold_done (s k n : Int) : ∀ (l : List Use) (acc : List Use), l.foldl (stepU s k n) (true, acc) = (true, acc ++ l)
  | [], acc => by simp
  | x :: r, acc => by
    rw [List.foldl_cons, show stepU s k n (true, acc) x = (true, acc ++ [x]) by simp [stepU], fold_done s k n r]
    simp
theorem fold_add (s k n : Int) : ∀ (l : List Use) (acc : List Use), (let st := l.foldl (stepU s k n) (false, acc); if st.1 then st.2 else st.2 ++ [newU s k n]) = acc ++ addU s k n l
  | [], acc => by simp [addU]
  | x :: r, acc => by
    rw [List.foldl_cons]
    by_cases h : x.tick = k ∧ s ≤ x.site
    · have e : stepU s k n (false, acc) x = (true, acc ++ (if x.site = s then [⟨x.tick, x.site, x.count + n⟩] else [newU s k n, x])) := by unfold stepU; rw [if_pos ⟨rfl, h⟩]
      rw [e, fold_done]
      simp only [addU, if_pos h, if_true]
      by_cases hs : x.site = s <;> simp [hs]
    · have e : stepU s k n (false, acc) x = (false, acc ++ [x]) := by unfold stepU; rw [if_neg (fun hh => h hh.2)]
      rw [e]
      have ih := fold_add s k n r (acc ++ [x])
      simp only at ih ⊢
      rw [ih]
      simp only [addU, if_neg h]
      simp

/-- The program's way: where the use is, or belongs; the count there is raised. -/
def spot (s k : Int) (l : List Use) : Nat := l.findIdx fun x => decide (0 ≤ ordU x (newU s k 0))
theorem ord_ge {s k : Int} {x : Use} (h : x.tick ≤ k) : 0 ≤ ordU x (newU s k 0) ↔ x.tick = k ∧ s ≤ x.site := by
  have := ordU_neg x (newU s k 0)
  simp only [newU] at this ⊢
  omega
def raise (n : Int) (u : Use) : Use := ⟨u.tick, u.site, u.count + n⟩
def hitU (s k : Int) (l : List Use) : Bool := match l[spot s k l]? with | some x => ordU x (newU s k 0) == 0 | none => false
theorem prog_add (s k n : Int) : ∀ (l : List Use), (∀ x, x ∈ l → x.tick ≤ k) →
    (if hitU s k l then l.modify (spot s k l) (raise n)
     else (l.take (spot s k l) ++ newU s k 0 :: l.drop (spot s k l)).modify (spot s k l) (raise n)) = addU s k n l
  | [], _ => by simp [hitU, spot, addU, newU, raise, List.modify]
  | x :: r, h => by
    have hx := h x (List.mem_cons_self ..)
    have hr := prog_add s k n r (fun y hy => h y (List.mem_cons_of_mem _ hy))
    by_cases hc : x.tick = k ∧ s ≤ x.site
    · have e : spot s k (x :: r) = 0 := by unfold spot; rw [List.findIdx_cons]; simp [(ord_ge hx).2 hc]
      have e0 : (ordU x (newU s k 0) == 0) = decide (x.site = s) := by
        have h1 := ordU_neg x (newU s k 0)
        have h2 := (ord_ge (s := s) hx)
        rw [Bool.eq_iff_iff]
        simp only [beq_iff_eq, decide_eq_true_eq]
        unfold ordU orI cmpI newU
        simp only
        repeat' split
        all_goals omega
      have e2 : hitU s k (x :: r) = decide (x.site = s) := by unfold hitU; rw [e]; exact e0
      rw [e2, e]
      simp only [ List.take_zero, List.drop_zero, List.nil_append, addU, if_pos hc]
      by_cases hs : x.site = s
      · simp [hs, raise]
      · simp [hs, raise, newU]
    · have hn : ¬ 0 ≤ ordU x (newU s k 0) := fun hh => hc ((ord_ge hx).1 hh)
      have e : spot s k (x :: r) = spot s k r + 1 := by unfold spot; rw [List.findIdx_cons]; simp [hn]
      have e2 : hitU s k (x :: r) = hitU s k r := by unfold hitU; rw [e]; rfl
      rw [e2, e]
      simp only [List.take_succ_cons, List.drop_succ_cons, List.cons_append, addU, if_neg hc]
      rw [← hr]
      cases hitU s k r <;> simp
end Go.Proofs.Ythjmglbjlfgmaaa
