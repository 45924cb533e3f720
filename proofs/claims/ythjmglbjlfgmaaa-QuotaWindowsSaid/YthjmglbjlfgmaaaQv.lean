/- Plain laws of takes and prunings: what they do to the counts, and that lists stay valid. -/
import Derived.Test.YthjmglbjlfgmaaaQu
namespace Go.Proofs.Ythjmglbjlfgmaaa
open Go Go.RowKit

theorem isOld_iff {t c k : Int} {u : Use} (hq : Quo t c) (_ : 0 ≤ u.tick ∧ u.tick ≤ 4000) : isOld t c k u = true ↔ t = 0 ∨ u.tick ≤ k - t := by
  unfold isOld
  simp only [Bool.or_eq_true, Bool.and_eq_true, decide_eq_true_eq]
  rcases hq with h | h <;> omega
theorem pruned_used {t c k : Int} (hq : Quo t c) (s k' : Int) (hk : k ≤ k') : ∀ (l : List Use), (∀ u, u ∈ l → 0 ≤ u.tick ∧ u.tick ≤ 4000) → used t s k' (pruned t c k l) = used t s k' l
  | [], _ => rfl
  | x :: l, h => by
    have ih := pruned_used hq s k' hk l (fun u hu => h u (List.mem_cons_of_mem _ hu))
    have hx := h x (List.mem_cons_self ..)
    have ho := isOld_iff (k := k) hq hx
    unfold pruned at ih ⊢
    rw [List.filter_cons]
    cases hb : isOld t c k x
    · simp only [Bool.not_false, if_true, used, ih]
    · have := ho.1 hb
      simp only [Bool.not_true, Bool.false_eq_true, if_false, used, ih]
      rw [if_neg (by omega)]
      omega
theorem pruned_mem {t c k : Int} {l : List Use} {u : Use} (h : u ∈ pruned t c k l) : u ∈ l := (List.mem_filter.1 h).1
theorem vld_sub {a l : List Use} (h : a.Sublist l) (hv : vldB l = true) : vldB a = true := by
  obtain ⟨h1, h2, h3⟩ := (vldB_iff l).1 hv
  exact (vldB_iff a).2 ⟨Nat.le_trans h.length_le h1, fun u hu => h2 u (h.subset hu), h3.sublist h⟩
theorem pruned_vld {t c k : Int} {l : List Use} (hv : vldB l = true) : vldB (pruned t c k l) = true := vld_sub List.filter_sublist hv
theorem late_iff {k : Int} {l : List Use} : late k l = false ↔ ∀ u, u ∈ l → u.tick ≤ k := by
  unfold late
  simp only [List.any_eq_false, decide_eq_true_eq, Int.not_lt]
theorem pruned_late {t c k k' : Int} (hq : Quo t c) (ht : 1 ≤ t) (hk : k ≤ k') {l : List Use} (hv : vldB l = true) : late k' (pruned t c k l) = late k' l := by
  have hf := vld_fits hv
  rw [Bool.eq_iff_iff]
  unfold late
  simp only [List.any_eq_true, decide_eq_true_eq]
  constructor
  · rintro ⟨u, hu, h⟩; exact ⟨u, pruned_mem hu, h⟩
  · rintro ⟨u, hu, h⟩
    refine ⟨u, List.mem_filter.2 ⟨hu, ?_⟩, h⟩
    have h4 := hf.2 u hu
    have := isOld_iff (k := k) hq ⟨h4.2.2.1, h4.2.2.2⟩
    rw [Bool.not_eq_true', ← Bool.not_eq_true, this]
    omega
theorem pruned_twice {t c k k' : Int} (hq : Quo t c) (hk : k ≤ k') {l : List Use} (hv : vldB l = true) : pruned t c k' (pruned t c k l) = pruned t c k' l := by
  have hf := vld_fits hv
  unfold pruned
  rw [List.filter_filter]
  apply List.filter_congr
  intro u hu
  have h4 := hf.2 u hu
  have h1 := isOld_iff (k := k) hq ⟨h4.2.2.1, h4.2.2.2⟩
  have h2 := isOld_iff (k := k') hq ⟨h4.2.2.1, h4.2.2.2⟩
  rw [Bool.eq_iff_iff]
  simp only [Bool.and_eq_true, Bool.not_eq_true', ← Bool.not_eq_true, h1, h2]
  omega
theorem pruned_left {t c k k' : Int} (hq : Quo t c) (hk : k ≤ k') (s : Int) {l : List Use} (hv : vldB l = true) : leftF t c s k' (pruned t c k l) = leftF t c s k' l := by
  have hf := vld_fits hv
  unfold leftF
  rw [pruned_used hq s k' hk l (fun u hu => ⟨(hf.2 u hu).2.2.1, (hf.2 u hu).2.2.2⟩)]
/-- Pruning changes no later take. -/
theorem pruned_takeF {t c k k' : Int} (hq : Quo t c) (ht : 1 ≤ t) (hk : k ≤ k') (s n : Int) {l : List Use} (hv : vldB l = true) : takeF t c s k' n (pruned t c k l) = takeF t c s k' n l := by
  unfold takeF
  rw [pruned_vld hv, hv, pruned_late hq ht hk hv, pruned_left hq hk s hv, pruned_twice hq hk hv]

theorem mem_addU {s k n : Int} {y : Use} : ∀ {l : List Use}, y ∈ addU s k n l → (y.tick = k ∧ y.site = s ∧ (y.count = n ∨ ∃ x, x ∈ l ∧ x.tick = k ∧ x.site = s ∧ y.count = x.count + n)) ∨ y ∈ l
  | [], h => by
    simp only [addU, List.mem_singleton] at h
    subst h
    exact .inl ⟨rfl, rfl, .inl rfl⟩
  | x :: r, h => by
    unfold addU at h
    split at h
    · rename_i hc
      split at h
      · rename_i hs
        rcases List.mem_cons.1 h with rfl | h
        · exact .inl ⟨hc.1, hs, .inr ⟨x, List.mem_cons_self .., hc.1, hs, rfl⟩⟩
        · exact .inr (List.mem_cons_of_mem _ h)
      · rcases List.mem_cons.1 h with rfl | h
        · exact .inl ⟨rfl, rfl, .inl rfl⟩
        · exact .inr h
    · rcases List.mem_cons.1 h with rfl | h
      · exact .inr (List.mem_cons_self ..)
      · rcases mem_addU h with ⟨h1, h2, h3⟩ | h
        · refine .inl ⟨h1, h2, ?_⟩
          rcases h3 with h3 | ⟨z, hz, h4⟩
          · exact .inl h3
          · exact .inr ⟨z, List.mem_cons_of_mem _ hz, h4⟩
        · exact .inr (List.mem_cons_of_mem _ h)
theorem addU_sorted {s k n : Int} : ∀ {l : List Use}, l.Pairwise ltU → (∀ x, x ∈ l → x.tick ≤ k) → (addU s k n l).Pairwise ltU
  | [], _, _ => by simp [addU]
  | x :: r, hp, hk => by
    obtain ⟨h1, h2⟩ := List.pairwise_cons.1 hp
    have hx := hk x (List.mem_cons_self ..)
    unfold addU
    split
    · rename_i hc
      split
      · rename_i hs
        refine List.pairwise_cons.2 ⟨fun y hy => ?_, h2⟩
        have := h1 y hy
        unfold ltU at *
        exact this
      · rename_i hs
        refine List.pairwise_cons.2 ⟨fun y hy => ?_, hp⟩
        have hn : ltU (newU s k n) x := by unfold ltU newU; simp only; omega
        rcases List.mem_cons.1 hy with rfl | hy
        · exact hn
        · exact ltU_trans hn (h1 y hy)
    · rename_i hc
      refine List.pairwise_cons.2 ⟨fun y hy => ?_, addU_sorted h2 (fun z hz => hk z (List.mem_cons_of_mem _ hz))⟩
      rcases mem_addU hy with ⟨h3, h4, _⟩ | hy
      · unfold ltU; omega
      · exact h1 y hy
theorem addU_used (s k n t s' k' : Int) : ∀ (l : List Use), used t s' k' (addU s k n l) = used t s' k' l + (if s = s' ∧ k' - t + 1 ≤ k ∧ k ≤ k' then n else 0)
  | [] => by simp only [addU, used, newU]; omega
  | x :: r => by
    have ih := addU_used s k n t s' k' r
    unfold addU
    split
    · rename_i hc
      split
      · rename_i hs
        simp only [used]
        rw [hs]; rw [hc.1]
        split <;> omega
      · simp only [used, newU]; omega
    · simp only [used, ih]; omega
theorem addU_len (s k n : Int) : ∀ (l : List Use), (addU s k n l).length ≤ l.length + 1
  | [] => by simp [addU]
  | x :: r => by
    have ih := addU_len s k n r
    unfold addU
    split
    · split <;> simp
    · simp; omega
theorem used_ge {t s k : Int} {x : Use} : ∀ {l : List Use}, (∀ u, u ∈ l → 0 ≤ u.count) → x ∈ l → x.site = s → k - t + 1 ≤ x.tick → x.tick ≤ k → x.count ≤ used t s k l
  | [], _, h, _, _, _ => by simp at h
  | y :: r, hp, h, h1, h2, h3 => by
    have h0 : ∀ (r : List Use), (∀ u, u ∈ r → 0 ≤ u.count) → 0 ≤ used t s k r := by
      intro r
      induction r with
      | nil => intro _; exact Int.le_refl _
      | cons z r ih => intro hz; have := ih (fun u hu => hz u (List.mem_cons_of_mem _ hu)); have := hz z (List.mem_cons_self ..); simp only [used]; split <;> omega
    simp only [used]
    have hr := h0 r (fun u hu => hp u (List.mem_cons_of_mem _ hu))
    have hy := hp y (List.mem_cons_self ..)
    rcases List.mem_cons.1 h with rfl | h
    · rw [if_pos ⟨h1, h2, h3⟩]; omega
    · have := used_ge (fun u hu => hp u (List.mem_cons_of_mem _ hu)) h h1 h2 h3
      split <;> omega

/-- What a take without an error is. -/
structure Took (t c s k n : Int) (l a : List Use) : Prop where
  quo : Quo t c
  vld : vldB l = true
  site : 1 ≤ s ∧ s ≤ 8
  tick : 0 ≤ k ∧ k ≤ 4000
  num : 0 ≤ n ∧ n ≤ 1073741824
  past : ∀ u, u ∈ l → u.tick ≤ k
  fits : n ≤ leftF t c s k l
  now : ∀ u, u ∈ a → u.tick ≤ k
  len : a.length ≤ l.length + 1
  used : ∀ s' k', k ≤ k' → Go.Proofs.Ythjmglbjlfgmaaa.used t s' k' a = Go.Proofs.Ythjmglbjlfgmaaa.used t s' k' l + (if s = s' ∧ k' - t + 1 ≤ k then n else 0)
  next : l.length < 10000 → vldB a = true
  none : t = 0 → a = []
theorem took {t c s k n : Int} {l a : List Use} (h : takeF t c s k n l = (a, 0)) : Took t c s k n l a := by
  unfold takeF at h
  split at h
  · simp at h
  · rename_i ho
    have ho := (Ok.iff ..).1 (Classical.not_not.1 ho)
    have hq := ho.q
    obtain ⟨hs, hk, hn⟩ := ho.bounds
    have hf := vld_fits ho.vld
    split at h
    · simp at h
    · rename_i hl
      have hl := late_iff.1 (by simpa using hl)
      split at h
      · simp at h
      · rename_i hle
        have hle : n ≤ leftF t c s k l := by omega
        have hpu := fun s' k' (hk' : k ≤ k') => pruned_used hq s' k' hk' l (fun u hu => ⟨(hf.2 u hu).2.2.1, (hf.2 u hu).2.2.2⟩)
        have h0 : t = 0 → pruned t c k l = [] := fun h0 => by
          unfold pruned
          rw [List.filter_eq_nil_iff]
          intro u hu
          have := (isOld_iff (k := k) hq ⟨(hf.2 u hu).2.2.1, (hf.2 u hu).2.2.2⟩).2 (.inl h0)
          simp [this]
        split at h
        · rename_i hz
          injection h with h _
          subst h
          exact ⟨hq, ho.vld, hs, hk, hn, hl, hle, fun u hu => hl u (pruned_mem hu), Nat.le_trans (pruned_len' ..) (Nat.le_succ _), fun s' k' hk' => by rw [hpu s' k' hk']; split <;> omega, fun _ => pruned_vld ho.vld, h0⟩
        · rename_i hz
          injection h with h _
          subst h
          have hpl : ∀ u, u ∈ pruned t c k l → u.tick ≤ k := fun u hu => hl u (pruned_mem hu)
          have hpv := pruned_vld (t := t) (c := c) (k := k) ho.vld
          obtain ⟨v1, v2, v3⟩ := (vldB_iff _).1 hpv
          have hln := addU_len s k n (pruned t c k l)
          have hl2 := pruned_len' t c k l
          refine ⟨hq, ho.vld, hs, hk, hn, hl, hle, fun u hu => ?_, by omega, fun s' k' hk' => by rw [addU_used, hpu s' k' hk']; congr 1; split <;> split <;> omega, fun hlt => ?_, fun e => absurd (.inl e) hz⟩
          · rcases mem_addU hu with h1 | h1
            · omega
            · exact hpl u h1
          · refine (vldB_iff _).2 ⟨by omega, fun u hu => ?_, addU_sorted v3 hpl⟩
            rcases mem_addU hu with ⟨h1, h2, h3⟩ | h1
            · rw [okU_iff]
              have ht : ¬ t = 0 := fun e => hz (.inl e)
              rcases h3 with h3 | ⟨x, hx, h4, h5, h6⟩
              · have : ¬ n = 0 := fun e => hz (.inr e)
                omega
              · have hx2 := pruned_mem hx
                have hxo := (okU_iff x).1 (v2 x hx)
                have hxc := used_ge (t := t) (s := s) (k := k) (fun u hu => (hf.2 u hu).1) hx2 h5 (by rcases hq with h | h <;> omega) (by omega)
                unfold leftF at hle
                rw [if_neg ht] at hle
                rcases hq with h | h <;> omega
            · exact v2 u h1
/-- Which error a take that could be tried gives. -/
theorem take_err {t c s k n : Int} {l : List Use} (hq : Quo t c) (hv : vldB l = true) (hs : 1 ≤ s ∧ s ≤ 8) (hk : 0 ≤ k ∧ k ≤ 4000) (hn : 0 ≤ n ∧ n ≤ 1073741824) (hl : ∀ u, u ∈ l → u.tick ≤ k) :
    (leftF t c s k l < n ∧ takeF t c s k n l = ([], 12)) ∨ (n ≤ leftF t c s k l ∧ (takeF t c s k n l).2 = 0) := by
  unfold takeF
  rw [if_neg (Classical.not_not.2 ⟨(quo_iff t c).2 hq, hv, by simp [inB]; omega, by simp [inB]; omega, by simp [inB]; omega⟩), if_neg (by rw [late_iff.2 hl]; simp)]
  split
  · rename_i h; exact .inl ⟨h, rfl⟩
  · rename_i h; exact .inr ⟨by omega, by split <;> rfl⟩
theorem take_none {t c s k n : Int} {l a : List Use} {e : Int} (h : takeF t c s k n l = (a, e)) (he : e ≠ 0) : a = [] := by
  unfold takeF at h
  repeat' split at h
  all_goals (injection h with h1 h2; first | exact h1.symm | exact absurd h2.symm he)
end Go.Proofs.Ythjmglbjlfgmaaa
