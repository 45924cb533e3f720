/- Plain laws of the two laws that play steps: what a run of takes keeps. -/
import Derived.Test.YthjmglbjlfgmaaaQv
namespace Go.Proofs.Ythjmglbjlfgmaaa
open Go Go.RowKit

theorem used_nonneg (t s k : Int) : ∀ (l : List Use), (∀ u, u ∈ l → 0 ≤ u.count) → 0 ≤ used t s k l
  | [], _ => Int.le_refl _
  | x :: r, h => by
    have := used_nonneg t s k r (fun u hu => h u (List.mem_cons_of_mem _ hu))
    have := h x (List.mem_cons_self ..)
    simp only [used]; split <;> omega
theorem used_later (t s : Int) {k k' : Int} (hk : k ≤ k') : ∀ (l : List Use), (∀ u, u ∈ l → 0 ≤ u.count) → (∀ u, u ∈ l → u.tick ≤ k) → used t s k' l ≤ used t s k l
  | [], _, _ => Int.le_refl _
  | x :: r, h, hl => by
    have := used_later t s hk r (fun u hu => h u (List.mem_cons_of_mem _ hu)) (fun u hu => hl u (List.mem_cons_of_mem _ hu))
    have := h x (List.mem_cons_self ..)
    have := hl x (List.mem_cons_self ..)
    simp only [used]
    split <;> split <;> omega

/-- Two lists on which one site has used the same. -/
structure Both (t c site T B : Int) (m : Nat) (a b : List Use) : Prop where
  va : vldB a = true
  vb : vldB b = true
  pa : ∀ u, u ∈ a → u.tick ≤ T
  pb : ∀ u, u ∈ b → u.tick ≤ T
  la : a.length ≤ m
  lb : b.length ≤ m
  low : 0 ≤ T
  top : T ≤ B
  eq : ∀ k, T ≤ k → used t site k a = used t site k b
theorem vld_nil : vldB [] = true := by kernel_rfl
theorem both_nil (t c site : Int) : Both t c site 0 0 0 [] [] := ⟨vld_nil, vld_nil, fun u hu => by simp at hu, fun u hu => by simp at hu, Nat.le_refl _, Nat.le_refl _, Int.le_refl _, Int.le_refl _, fun _ _ => rfl⟩
theorem both_wait {t c site T B : Int} {m : Nat} {a b : List Use} (h : Both t c site T B m a b) {d : Int} (h0 : 0 ≤ d) (h1 : d ≤ 20) : Both t c site (T + d) (B + 20) m a b := by
  have hT := h.low
  have hB := h.top
  exact ⟨h.va, h.vb, fun u hu => by have := h.pa u hu; omega, fun u hu => by have := h.pb u hu; omega, h.la, h.lb, by omega, by omega, fun k hk => h.eq k (by omega)⟩
theorem both_more {t c site T B : Int} {m : Nat} {a b : List Use} (h : Both t c site T B m a b) : Both t c site T B (m + 1) a b := ⟨h.va, h.vb, h.pa, h.pb, by have := h.la; omega, by have := h.lb; omega, h.low, h.top, h.eq⟩
theorem both_left {t c site T B : Int} {m : Nat} {a b : List Use} (h : Both t c site T B m a b) : leftF t c site T a = leftF t c site T b := by
  unfold leftF
  rw [h.eq T (Int.le_refl _)]
theorem both_one {t c site T B s n : Int} {m : Nat} {a b r : List Use} (h : Both t c site T B m a b) (hs : ¬ s = site) (hm : m ≤ 1000) (hr : takeF t c s T n a = (r, 0)) : Both t c site T B (m + 1) r b := by
  have hk := took hr
  have := h.la
  have := hk.len
  exact ⟨hk.next (by omega), h.vb, hk.now, h.pb, by omega, by have := h.lb; omega, h.low, h.top, fun k hk' => by rw [hk.used site k hk', if_neg (by omega), h.eq k hk']; omega⟩
theorem both_two {t c site T B n : Int} {m : Nat} {a b r q : List Use} (h : Both t c site T B m a b) (hm : m ≤ 1000) (hr : takeF t c site T n a = (r, 0)) (hq : takeF t c site T n b = (q, 0)) : Both t c site T B (m + 1) r q := by
  have hk := took hr
  have hj := took hq
  have := h.la
  have := h.lb
  have := hk.len
  have := hj.len
  exact ⟨hk.next (by omega), hj.next (by omega), hk.now, hj.now, by omega, by omega, h.low, h.top, fun k hk' => by rw [hk.used site k hk', hj.used site k hk', h.eq k hk']⟩
theorem both_err {t c site T B n : Int} {m : Nat} {a b : List Use} (h : Both t c site T B m a b) (hq : Quo t c) (hs : 1 ≤ site ∧ site ≤ 8) (hT : B ≤ 4000) (hn : 0 ≤ n ∧ n ≤ 1073741824) : (takeF t c site T n a).2 = (takeF t c site T n b).2 := by
  have hl := both_left h
  have h0 := h.low
  have h1 := h.top
  rcases take_err (n := n) hq h.va hs ⟨h0, by omega⟩ hn h.pa with ⟨e1, e2⟩ | ⟨e1, e2⟩ <;> rcases take_err (n := n) hq h.vb hs ⟨h0, by omega⟩ hn h.pb with ⟨f1, f2⟩ | ⟨f1, f2⟩
  · rw [e2, f2]
  · omega
  · omega
  · rw [e2, f2]

/-- The list that the program keeps, beside the list of all that was taken. -/
structure Win (t c T B : Int) (m : Nat) (l tk : List Use) : Prop where
  vld : vldB l = true
  pl : ∀ u, u ∈ l → u.tick ≤ T
  pt : ∀ u, u ∈ tk → u.tick ≤ T
  ct : ∀ u, u ∈ tk → 0 ≤ u.count ∧ u.count ≤ 1073741824 ∧ 0 ≤ u.tick
  ll : l.length ≤ m
  lt : tk.length ≤ m
  low : 0 ≤ T
  top : T ≤ B
  eq : ∀ s k, T ≤ k → used t s k l = used t s k tk
  cap : ∀ s, used t s T l ≤ c
theorem win_nil {t c : Int} (hc : 0 ≤ c) : Win t c 0 0 0 [] [] := ⟨vld_nil, fun u hu => by simp at hu, fun u hu => by simp at hu, fun u hu => by simp at hu, Nat.le_refl _, Nat.le_refl _, Int.le_refl _, Int.le_refl _, fun _ _ _ => rfl, fun _ => hc⟩
theorem win_wait {t c T B : Int} {m : Nat} {l tk : List Use} (h : Win t c T B m l tk) {d : Int} (h0 : 0 ≤ d) (h1 : d ≤ 20) : Win t c (T + d) (B + 20) m l tk := by
  have hT := h.low
  have hB := h.top
  exact ⟨h.vld, fun u hu => by have := h.pl u hu; omega, fun u hu => by have := h.pt u hu; omega, h.ct, h.ll, h.lt, by omega, by omega, fun s k hk => h.eq s k (by omega), fun s => Int.le_trans (used_later t s (by omega) l (fun u hu => ((vld_fits h.vld).2 u hu).1) h.pl) (h.cap s)⟩
theorem win_more {t c T B : Int} {m : Nat} {l tk : List Use} (h : Win t c T B m l tk) : Win t c T B (m + 1) l tk := ⟨h.vld, h.pl, h.pt, h.ct, by have := h.ll; omega, by have := h.lt; omega, h.low, h.top, h.eq, h.cap⟩
theorem win_fits {t c T B : Int} {m : Nat} {l tk : List Use} (h : Win t c T B m l tk) (hB : B ≤ 4000) (hm : m ≤ 1000) : Fits tk :=
  ⟨by have := h.lt; omega, fun u hu => by have h1 := h.ct u hu; have h2 := h.pt u hu; have h3 := h.top; exact ⟨h1.1, h1.2.1, h1.2.2, by omega⟩⟩
theorem win_ok {t c T B s n : Int} {m : Nat} {l tk r : List Use} (h : Win t c T B m l tk) (ht : 1 ≤ t) (hm : m ≤ 1000) (hr : takeF t c s T n l = (r, 0)) : used t s T tk + n ≤ c ∧ Win t c T B (m + 1) r (tk ++ [⟨T, s, n⟩]) := by
  have hk := took hr
  have h1 := h.ll
  have h2 := hk.len
  have h3 := h.lt
  have h4 := h.cap s
  have h5 := hk.fits
  have h6 := h.eq s T (Int.le_refl _)
  have h7 := hk.num
  unfold leftF at h5
  rw [if_neg (by omega)] at h5
  refine ⟨by omega, hk.next (by omega), hk.now, fun u hu => ?_, fun u hu => ?_, by omega, by simp; omega, h.low, h.top, fun s' k hk' => ?_, fun s' => ?_⟩
  · rcases List.mem_append.1 hu with hu | hu
    · exact h.pt u hu
    · rw [List.mem_singleton] at hu; subst hu; exact Int.le_refl _
  · rcases List.mem_append.1 hu with hu | hu
    · exact h.ct u hu
    · rw [List.mem_singleton] at hu; subst hu; exact ⟨h7.1, h7.2, h.low⟩
  · rw [hk.used s' k hk', used_append, h.eq s' k hk']
    simp only [used]
    split <;> split <;> omega
  · rw [hk.used s' T (Int.le_refl _)]
    split
    · rename_i hh; rw [← hh.1]; omega
    · have := h.cap s'; omega
theorem win_err {t c T B s n e : Int} {m : Nat} {l tk r : List Use} (h : Win t c T B m l tk) (hq : Quo t c) (ht : 1 ≤ t) (hB : B ≤ 4000) (hs : 1 ≤ s ∧ s ≤ 8) (hn : 0 ≤ n ∧ n ≤ 1073741824) (hr : takeF t c s T n l = (r, e)) (he : ¬ e = 0) : e = 12 ∧ r = [] ∧ c < used t s T tk + n := by
  have h0 := h.low
  have h1 := h.top
  have h6 := h.eq s T (Int.le_refl _)
  rcases take_err (n := n) hq h.vld hs ⟨h0, by omega⟩ hn h.pl with ⟨e1, e2⟩ | ⟨e1, e2⟩
  · rw [hr] at e2
    injection e2 with e2 e3
    refine ⟨e3, e2, ?_⟩
    unfold leftF at e1
    rw [if_neg (by omega)] at e1
    omega
  · rw [hr] at e2
    exact absurd e2 he
end Go.Proofs.Ythjmglbjlfgmaaa
