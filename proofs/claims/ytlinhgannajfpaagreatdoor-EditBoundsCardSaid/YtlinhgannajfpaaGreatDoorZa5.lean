/- YtlinhgannajfpaaGreatDoorUg · YtlinhgannajfpaaGreatDoorUh · YtlinhgannajfpaaGreatDoorSl · YtlinhgannajfpaaGreatDoorUi · YtlinhgannajfpaaGreatDoorPu · YtlinhgannajfpaaGreatDoorPv · YtlinhgannajfpaaGreatDoorPw · YtlinhgannajfpaaGreatDoorPy · YtlinhgannajfpaaGreatDoorSt · YtlinhgannajfpaaGreatDoorEd · YtlinhgannajfpaaGreatDoorHa · YtlinhgannajfpaaGreatDoorHb -/
import Derived.Shelf.Abstract
import Derived.Test.YtlinhgannajfpaaGreatDoorZa4
/- The reference's GetInt. -/
namespace Go.Proofs.YtlinhgannajfpaaGreatDoor
open Go Go.RowKit

def dg (b : List UInt8) : Nat → Nat
 | 0 => 0
 | k + 1 => dg b k + ((b.getD k 0).toNat % 128) * 128 ^ k
theorem dg_succ (b : List UInt8) (k : Nat) : dg b (k + 1) = dg b k + ((b.getD k 0).toNat % 128) * 128 ^ k := rfl
theorem dg_lt (b : List UInt8) : ∀ k, dg b k < 128 ^ k
 | 0 => by simp [dg]
 | k + 1 => by
   have h := dg_lt b k
   have h2 : ((b.getD k 0).toNat % 128) * 128 ^ k ≤ 127 * 128 ^ k := Nat.mul_le_mul (by omega) (Nat.le_refl _)
   unfold dg
   rw [Nat.pow_succ]
   omega
theorem drop_getD {b : List UInt8} {k : Nat} (h : k < b.length) : b.drop k = b.getD k 0 :: b.drop (k + 1) := by
 rw [List.drop_eq_getElem_cons h, List.getD_eq_getElem?_getD, List.getElem?_eq_getElem h]
 rfl
theorem getV_long {b : List UInt8} : ∀ k, k ≤ 9 → k ≤ b.length → (∀ j, j < k → 128 ≤ (b.getD j 0).toNat) → getV 0 0 b = getV k (dg b k) (b.drop k)
 | 0, _, _, _ => rfl
 | k + 1, h9, hl, h => by
   rw [getV_long k (by omega) (by omega) (fun j hj => h j (by omega)), drop_getD (by omega), getV_cons]
   have hk := h k (by omega)
   rw [if_neg (by omega), if_neg (by omega)]
   rfl
theorem getV_end {b : List UInt8} {k : Nat} (h9 : k ≤ 9) (hl : k < b.length) (h : ∀ j, j < k → 128 ≤ (b.getD j 0).toNat) (hc : (b.getD k 0).toNat < 128) :
    getV 0 0 b = if (k = 9 ∧ 1 < (b.getD k 0).toNat) ∨ (0 < k ∧ (b.getD k 0).toNat = 0) then .inl 2 else .inr (dg b (k + 1), k + 1) := by
 rw [getV_long k h9 (by omega) h, drop_getD hl, getV_cons, if_pos hc]
 split
 · rfl
 · rw [dg_succ, Nat.mod_eq_of_lt hc]
theorem getV_ten {b : List UInt8} (hl : 9 < b.length) (h : ∀ j, j < 10 → 128 ≤ (b.getD j 0).toNat) : getV 0 0 b = .inl 2 := by
 rw [getV_long 9 (by omega) (by omega) (fun j hj => h j (by omega)), drop_getD hl, getV_cons]
 have := h 9 (by omega)
 rw [if_pos (.inl ⟨rfl, by omega⟩)]
theorem getV_short {b : List UInt8} (h9 : b.length ≤ 9) (h : ∀ j, j < b.length → 128 ≤ (b.getD j 0).toNat) : getV 0 0 b = .inl 1 := by
 rw [getV_long b.length h9 (Nat.le_refl _) h, List.drop_length]
 rfl
theorem dg_end_lt {b : List UInt8} {k : Nat} (h9 : k ≤ 9) (hc : ¬ (k = 9 ∧ 1 < (b.getD k 0).toNat)) : dg b (k + 1) < 18446744073709551616 := by
 rcases Nat.lt_or_ge k 9 with h | h
 · have h1 := dg_lt b (k + 1)
   have h2 : (128 : Nat) ^ (k + 1) ≤ 128 ^ 9 := Nat.pow_le_pow_right (by decide) (by omega)
   have p9 : (128 : Nat) ^ 9 = 9223372036854775808 := by decide
   rw [p9] at h2
   omega
 · obtain rfl : k = 9 := by omega
   have h1 := dg_lt b 9
   have p9 : (128 : Nat) ^ 9 = 9223372036854775808 := by decide
   rw [dg_succ]
   rw [p9] at h1 ⊢
   have : (b.getD 9 0).toNat ≤ 1 := by
    rcases Nat.lt_or_ge 1 (b.getD 9 0).toNat with h | h
    · exact absurd ⟨rfl, h⟩ hc
    · exact h
   omega
set_option maxRecDepth 100000 in
set_option maxHeartbeats 8000000 in
theorem refGetInt_any (b : List UInt8) (hl : b.length ≤ 1000000000) (A : Option Addr) (c : Nat) (w : World) (hs : Sv w w.heap.size 1 A c (rowsB b)) :
    Calls Tryz.prog 117 #[.slice A b.length c] w fun e w' => e = .returned (getRes (getI b)) ∧ Ext w w' := by
 have hm := mixed
 have HS := Lib.hid hs
 clear hs
 rw [getI_eq]
 have HC := Lib.hid (fun j (h : j < b.length) => byte_row (j := j) (v := b.getD j 0) HS.out (by rw [List.getD_eq_getElem?_getD, List.getElem?_eq_getElem h]; rfl))
 go_enter Tryz.func117, Tryz.ntmps117
 go_upto_region 2 with fail
 go_loopw [5] (fun kv wr => ∃ k : Nat, kv = .int .i64 (k : Int) ∧ k ≤ b.length ∧ k ≤ 10 ∧ (∀ j, j < k → 128 ≤ (b.getD j 0).toNat) ∧ wr = w) (fun kv _ => b.length - (intOf kv).toNat)
 case atStart => exact ⟨0, rfl, by omega, by omega, fun j hj => by omega, rfl⟩
 case round =>
  obtain ⟨k, rfl, hk, hk10, hall, rfl⟩ := hrel
  have HA := Lib.hid hall
  clear hall
  by_cases hlt : k < b.length
  · by_cases h10 : k < 10
    · obtain ⟨g, off, rfl, hgl, r0⟩ := HC.out k hlt
      have hxl := (b.getD k 0).toNat_lt
      have hk1 : ¬ ((b.length : Int) ≤ (k : Int)) := by omega
      by_cases hbig : 128 ≤ (b.getD k 0).toNat
      · have HA2 := Lib.hid (show ∀ j, j < k + 1 → 128 ≤ (b.getD j 0).toNat from fun j hj => by
          rcases Nat.lt_or_ge j k with h | h
          · exact HA.out j h
          · obtain rfl : j = k := by omega
            exact hbig)
        generalize b.getD k 0 = x at r0 hxl hbig
        go_wp2_with fail
        exact ⟨⟨k + 1, rfl, by omega, by omega, HA2.out, by trivial⟩, by simp [intOf]; omega⟩
      · have HE := Lib.hid (getV_end (k := k) (by omega) hlt HA.out (by omega))
        have HDL := Lib.hid (fun (h : ¬ (k = 9 ∧ 1 < (b.getD k 0).toNat)) => dg_end_lt (b := b) (k := k) (by omega) h)
        obtain ⟨x, hx⟩ : ∃ x, x = b.getD k 0 := ⟨_, rfl⟩
        rw [← hx] at r0 hxl hbig HE HDL
        have HXX := Lib.hid hx
        clear hx
        have e10 : ((k : Int) == 10) = false := beq_eq_false_iff_ne.2 (by omega)
        have el : ((k : Int) == (b.length : Int)) = false := beq_eq_false_iff_ne.2 (by omega)
        by_cases hA : k = 9 ∧ 1 < x.toNat
        · have HR := Lib.hid (show resV (getV 0 0 b) = .inl 2 by rw [HE.out, if_pos (.inl hA)]; rfl)
          have hk9 : 9 ≤ k := by omega
          have hx1 := hA.2
          clear hA
          have e9 : ((k : Int) == 9) = true := beq_iff_eq.2 (by omega)
          go_wp2
          go_ret3
          exact ⟨by rw [HR.out]; rfl, Ext.refl _⟩
        · by_cases hB : 0 < k ∧ x.toNat = 0
          · have HR := Lib.hid (show resV (getV 0 0 b) = .inl 2 by rw [HE.out, if_pos (.inr hB)]; rfl)
            have hk0 := hB.1
            have ex : ((x.toNat : Int) == 0) = true := beq_iff_eq.2 (by omega)
            have hx0 := hB.2
            clear hB hA
            rcases (show k < 9 ∨ 9 ≤ k by omega) with h9 | h9
            · have e9 : ((k : Int) == 9) = false := beq_eq_false_iff_ne.2 (by omega)
              go_wp2
              go_ret3
              exact ⟨by rw [HR.out]; rfl, Ext.refl _⟩
            · have e9 : ((k : Int) == 9) = true := beq_iff_eq.2 (by omega)
              go_wp2
              go_ret3
              exact ⟨by rw [HR.out]; rfl, Ext.refl _⟩
          · have hno : ¬ ((k = 9 ∧ 1 < x.toNat) ∨ (0 < k ∧ x.toNat = 0)) := fun h => h.elim hA hB
            have HR := Lib.hid (show resV (getV 0 0 b) = .inr (unzz (dg b (k + 1)), k + 1) by rw [HE.out, if_neg hno]; rfl)
            have hdl := HDL.out hA
            have h9x : k = 9 → x.toNat ≤ 1 := fun h => by omega
            have h0x : 0 < k → 0 < x.toNat := fun h => by omega
            clear hno hA hB
            obtain ⟨D, hD⟩ : ∃ D, D = dg b (k + 1) := ⟨_, rfl⟩
            rw [← hD] at HR hdl
            have HD := Lib.hid hD
            clear hD HE HDL
            rcases (show k < 1 ∨ (0 < k ∧ k < 9) ∨ 9 ≤ k by omega) with hk0 | ⟨hk0, hk9'⟩ | hk9'
            · have e9 : ((k : Int) == 9) = false := beq_eq_false_iff_ne.2 (by omega)
              clear h9x h0x
              go_upto_region 12 with fail
              clear e9 e10 el
              rename World => wo
              go_loopw [6, 7] (fun zv iv wr => ∃ (n z : Nat), n ≤ k + 1 ∧ iv = .int .i64 ((n : Int) - 1) ∧ zv = .int .u64 (z : Int) ∧ z * 128 ^ n + dg b n = D ∧ wr = wo) (fun _ iv _ => (intOf iv + 1).toNat)
              case atStart => exact ⟨k + 1, 0, Nat.le_refl _, by congr 1; omega, rfl, by rw [HD.out]; simp, rfl⟩
              case round =>
               obtain ⟨n, z, hn, rfl, rfl, hz, rfl⟩ := hrel
               have HZ := Lib.hid hz
               by_cases hn0 : 0 < n
               · obtain ⟨m, rfl⟩ : ∃ m, n = m + 1 := ⟨n - 1, by omega⟩
                 obtain ⟨g', off', hA', hgl', r0'⟩ := HC.out m (by omega)
                 injection hA' with hA'
                 injection hA' with hA1 hA2
                 subst hA1 hA2
                 obtain ⟨y, hy⟩ : ∃ y, y = b.getD m 0 := ⟨_, rfl⟩
                 rw [← hy] at r0'
                 have hstep : (z * 128 + y.toNat % 128) * 128 ^ m + dg b m = D := by
                  rw [dg_succ, ← hy] at hz
                  rw [Nat.add_mul, Nat.mul_assoc, show 128 * 128 ^ m = 128 ^ (m + 1) by rw [Nat.pow_succ, Nat.mul_comm]]
                  omega
                 have hle : z * 128 + y.toNat % 128 < 18446744073709551616 := by
                  have h1 : z * 128 + y.toNat % 128 ≤ (z * 128 + y.toNat % 128) * 128 ^ m := Nat.le_mul_of_pos_right _ (Nat.pow_pos (by decide))
                  omega
                 have hyl := y.toNat_lt
                 have hyt : ((y.toNat : Int)).tmod 128 = (y.toNat : Int) % (128 : Int) := Int.tmod_eq_emod_of_nonneg (by omega)
                 have HST := Lib.hid hstep
                 clear hz hy hstep
                 go_wp2_with fail
                 exact ⟨⟨m, z * 128 + y.toNat % 128, by omega, rfl, by first | rfl | (congr 1; omega), HST.out, by trivial⟩, by simp [intOf] <;> omega⟩
               · obtain rfl : n = 0 := by omega
                 have hzD : z = D := by rw [show 128 ^ 0 = 1 from rfl] at hz; unfold dg at hz; omega
                 clear hz
                 subst hzD
                 by_cases hodd : z % 2 = 1
                 · have hun : unzz z = -1 - ((z : Int) / 2) := by unfold unzz; rw [if_neg (by omega)]; omega
                   have htm : ((z : Int)).tmod 2 = (z : Int) % (2 : Int) := Int.tmod_eq_emod_of_nonneg (by omega)
                   have htd : ((z : Int)).tdiv 2 = (z : Int) / (2 : Int) := Int.tdiv_eq_ediv_of_nonneg (by omega)
                   have hodd2 : ((z : Int) % (2 : Int) == 1) = true := beq_iff_eq.2 (by omega)
                   have HUN := Lib.hid hun
                   clear hun
                   go_wp2
                   go_ret3
                   exact ⟨by rw [HR.out]; unfold getRes; simp only []; rw [HUN.out]; rfl, Ext.refl _⟩
                 · have hun : unzz z = ((z : Int) / 2) := by unfold unzz; rw [if_pos (by omega)]; omega
                   have htm : ((z : Int)).tmod 2 = (z : Int) % (2 : Int) := Int.tmod_eq_emod_of_nonneg (by omega)
                   have htd : ((z : Int)).tdiv 2 = (z : Int) / (2 : Int) := Int.tdiv_eq_ediv_of_nonneg (by omega)
                   have hodd2 : ((z : Int) % (2 : Int) == 1) = false := beq_eq_false_iff_ne.2 (by omega)
                   have HUN := Lib.hid hun
                   clear hun
                   go_wp2
                   go_ret3
                   exact ⟨by rw [HR.out]; unfold getRes; simp only []; rw [HUN.out]; rfl, Ext.refl _⟩
            · have e9 : ((k : Int) == 9) = false := beq_eq_false_iff_ne.2 (by omega)
              have hx0 := h0x (by omega)
              have ex : ((x.toNat : Int) == 0) = false := beq_eq_false_iff_ne.2 (by omega)
              clear h9x h0x
              go_upto_region 12 with fail
              clear e9 e10 el
              rename World => wo
              go_loopw [6, 7] (fun zv iv wr => ∃ (n z : Nat), n ≤ k + 1 ∧ iv = .int .i64 ((n : Int) - 1) ∧ zv = .int .u64 (z : Int) ∧ z * 128 ^ n + dg b n = D ∧ wr = wo) (fun _ iv _ => (intOf iv + 1).toNat)
              case atStart => exact ⟨k + 1, 0, Nat.le_refl _, by congr 1; omega, rfl, by rw [HD.out]; simp, rfl⟩
              case round =>
               obtain ⟨n, z, hn, rfl, rfl, hz, rfl⟩ := hrel
               have HZ := Lib.hid hz
               by_cases hn0 : 0 < n
               · obtain ⟨m, rfl⟩ : ∃ m, n = m + 1 := ⟨n - 1, by omega⟩
                 obtain ⟨g', off', hA', hgl', r0'⟩ := HC.out m (by omega)
                 injection hA' with hA'
                 injection hA' with hA1 hA2
                 subst hA1 hA2
                 obtain ⟨y, hy⟩ : ∃ y, y = b.getD m 0 := ⟨_, rfl⟩
                 rw [← hy] at r0'
                 have hstep : (z * 128 + y.toNat % 128) * 128 ^ m + dg b m = D := by
                  rw [dg_succ, ← hy] at hz
                  rw [Nat.add_mul, Nat.mul_assoc, show 128 * 128 ^ m = 128 ^ (m + 1) by rw [Nat.pow_succ, Nat.mul_comm]]
                  omega
                 have hle : z * 128 + y.toNat % 128 < 18446744073709551616 := by
                  have h1 : z * 128 + y.toNat % 128 ≤ (z * 128 + y.toNat % 128) * 128 ^ m := Nat.le_mul_of_pos_right _ (Nat.pow_pos (by decide))
                  omega
                 have hyl := y.toNat_lt
                 have hyt : ((y.toNat : Int)).tmod 128 = (y.toNat : Int) % (128 : Int) := Int.tmod_eq_emod_of_nonneg (by omega)
                 have HST := Lib.hid hstep
                 clear hz hy hstep
                 go_wp2_with fail
                 exact ⟨⟨m, z * 128 + y.toNat % 128, by omega, rfl, by first | rfl | (congr 1; omega), HST.out, by trivial⟩, by simp [intOf] <;> omega⟩
               · obtain rfl : n = 0 := by omega
                 have hzD : z = D := by rw [show 128 ^ 0 = 1 from rfl] at hz; unfold dg at hz; omega
                 clear hz
                 subst hzD
                 by_cases hodd : z % 2 = 1
                 · have hun : unzz z = -1 - ((z : Int) / 2) := by unfold unzz; rw [if_neg (by omega)]; omega
                   have htm : ((z : Int)).tmod 2 = (z : Int) % (2 : Int) := Int.tmod_eq_emod_of_nonneg (by omega)
                   have htd : ((z : Int)).tdiv 2 = (z : Int) / (2 : Int) := Int.tdiv_eq_ediv_of_nonneg (by omega)
                   have hodd2 : ((z : Int) % (2 : Int) == 1) = true := beq_iff_eq.2 (by omega)
                   have HUN := Lib.hid hun
                   clear hun
                   go_wp2
                   go_ret3
                   exact ⟨by rw [HR.out]; unfold getRes; simp only []; rw [HUN.out]; rfl, Ext.refl _⟩
                 · have hun : unzz z = ((z : Int) / 2) := by unfold unzz; rw [if_pos (by omega)]; omega
                   have htm : ((z : Int)).tmod 2 = (z : Int) % (2 : Int) := Int.tmod_eq_emod_of_nonneg (by omega)
                   have htd : ((z : Int)).tdiv 2 = (z : Int) / (2 : Int) := Int.tdiv_eq_ediv_of_nonneg (by omega)
                   have hodd2 : ((z : Int) % (2 : Int) == 1) = false := beq_eq_false_iff_ne.2 (by omega)
                   have HUN := Lib.hid hun
                   clear hun
                   go_wp2
                   go_ret3
                   exact ⟨by rw [HR.out]; unfold getRes; simp only []; rw [HUN.out]; rfl, Ext.refl _⟩
            · have e9 : ((k : Int) == 9) = true := beq_iff_eq.2 (by omega)
              have hx1 := h9x (by omega)
              have hx0 := h0x (by omega)
              have ex : ((x.toNat : Int) == 0) = false := beq_eq_false_iff_ne.2 (by omega)
              clear h9x h0x
              go_upto_region 12 with fail
              clear e9 e10 el
              rename World => wo
              go_loopw [6, 7] (fun zv iv wr => ∃ (n z : Nat), n ≤ k + 1 ∧ iv = .int .i64 ((n : Int) - 1) ∧ zv = .int .u64 (z : Int) ∧ z * 128 ^ n + dg b n = D ∧ wr = wo) (fun _ iv _ => (intOf iv + 1).toNat)
              case atStart => exact ⟨k + 1, 0, Nat.le_refl _, by congr 1; omega, rfl, by rw [HD.out]; simp, rfl⟩
              case round =>
               obtain ⟨n, z, hn, rfl, rfl, hz, rfl⟩ := hrel
               have HZ := Lib.hid hz
               by_cases hn0 : 0 < n
               · obtain ⟨m, rfl⟩ : ∃ m, n = m + 1 := ⟨n - 1, by omega⟩
                 obtain ⟨g', off', hA', hgl', r0'⟩ := HC.out m (by omega)
                 injection hA' with hA'
                 injection hA' with hA1 hA2
                 subst hA1 hA2
                 obtain ⟨y, hy⟩ : ∃ y, y = b.getD m 0 := ⟨_, rfl⟩
                 rw [← hy] at r0'
                 have hstep : (z * 128 + y.toNat % 128) * 128 ^ m + dg b m = D := by
                  rw [dg_succ, ← hy] at hz
                  rw [Nat.add_mul, Nat.mul_assoc, show 128 * 128 ^ m = 128 ^ (m + 1) by rw [Nat.pow_succ, Nat.mul_comm]]
                  omega
                 have hle : z * 128 + y.toNat % 128 < 18446744073709551616 := by
                  have h1 : z * 128 + y.toNat % 128 ≤ (z * 128 + y.toNat % 128) * 128 ^ m := Nat.le_mul_of_pos_right _ (Nat.pow_pos (by decide))
                  omega
                 have hyl := y.toNat_lt
                 have hyt : ((y.toNat : Int)).tmod 128 = (y.toNat : Int) % (128 : Int) := Int.tmod_eq_emod_of_nonneg (by omega)
                 have HST := Lib.hid hstep
                 clear hz hy hstep
                 go_wp2_with fail
                 exact ⟨⟨m, z * 128 + y.toNat % 128, by omega, rfl, by first | rfl | (congr 1; omega), HST.out, by trivial⟩, by simp [intOf] <;> omega⟩
               · obtain rfl : n = 0 := by omega
                 have hzD : z = D := by rw [show 128 ^ 0 = 1 from rfl] at hz; unfold dg at hz; omega
                 clear hz
                 subst hzD
                 by_cases hodd : z % 2 = 1
                 · have hun : unzz z = -1 - ((z : Int) / 2) := by unfold unzz; rw [if_neg (by omega)]; omega
                   have htm : ((z : Int)).tmod 2 = (z : Int) % (2 : Int) := Int.tmod_eq_emod_of_nonneg (by omega)
                   have htd : ((z : Int)).tdiv 2 = (z : Int) / (2 : Int) := Int.tdiv_eq_ediv_of_nonneg (by omega)
                   have hodd2 : ((z : Int) % (2 : Int) == 1) = true := beq_iff_eq.2 (by omega)
                   have HUN := Lib.hid hun
                   clear hun
                   go_wp2
                   go_ret3
                   exact ⟨by rw [HR.out]; unfold getRes; simp only []; rw [HUN.out]; rfl, Ext.refl _⟩
                 · have hun : unzz z = ((z : Int) / 2) := by unfold unzz; rw [if_pos (by omega)]; omega
                   have htm : ((z : Int)).tmod 2 = (z : Int) % (2 : Int) := Int.tmod_eq_emod_of_nonneg (by omega)
                   have htd : ((z : Int)).tdiv 2 = (z : Int) / (2 : Int) := Int.tdiv_eq_ediv_of_nonneg (by omega)
                   have hodd2 : ((z : Int) % (2 : Int) == 1) = false := beq_eq_false_iff_ne.2 (by omega)
                   have HUN := Lib.hid hun
                   clear hun
                   go_wp2
                   go_ret3
                   exact ⟨by rw [HR.out]; unfold getRes; simp only []; rw [HUN.out]; rfl, Ext.refl _⟩
    · obtain rfl : k = 10 := by omega
      have HR := Lib.hid (show resV (getV 0 0 b) = .inl 2 by rw [getV_ten (by omega) HA.out]; rfl)
      go_wp2
      go_ret3
      exact ⟨by rw [HR.out]; rfl, Ext.refl _⟩
  · obtain rfl : k = b.length := by omega
    by_cases h10 : b.length = 10
    · have HR := Lib.hid (show resV (getV 0 0 b) = .inl 2 by rw [getV_ten (by omega) (by rw [← h10]; exact HA.out)]; rfl)
      have e10 : ((b.length : Int) == 10) = true := beq_iff_eq.2 (by omega)
      go_wp2
      go_ret3
      exact ⟨by rw [HR.out]; rfl, Ext.refl _⟩
    · have HR := Lib.hid (show resV (getV 0 0 b) = .inl 1 by rw [getV_short (by omega) HA.out]; rfl)
      have e10 : ((b.length : Int) == 10) = false := beq_eq_false_iff_ne.2 (by omega)
      go_wp2
      go_ret3
      exact ⟨by rw [HR.out]; rfl, Ext.refl _⟩
end Go.Proofs.YtlinhgannajfpaaGreatDoor

/- The lengths of lists (wire and the reference). -/
namespace Go.Proofs.YtlinhgannajfpaaGreatDoor
open Go Go.RowKit

def lenW (b : List UInt8) : Nat ⊕ (Int × Nat) := match getI b with
 | .inl e => .inl e
 | .inr (n, u) => if n < 0 then .inl 2 else if ((b.length - u : Nat) : Int) < n then .inl 1 else .inr (n, u)
theorem eno_two (e : Nat) : eno e = 5 ∨ eno e = 6 := by
 unfold eno
 split
 · exact .inl rfl
 · exact .inr rfl
set_option maxRecDepth 100000 in
set_option maxHeartbeats 4000000 in
theorem wireLen_any (b : List UInt8) (hl : b.length ≤ 1000000000) (A : Option Addr) (c : Nat) (w : World) (hs : Sv w w.heap.size 1 A c (rowsB b)) :
    Calls Tryz.prog 144 #[.slice A b.length c, .int .i64 1] w fun e w' => e = .returned (getRes (lenW b)) ∧ Ext w w' := by
 have HG := Lib.hid (wireGetInt_any b hl A c w hs)
 clear hs
 unfold lenW
 cases hr : getI b with
 | inl e =>
   rw [hr] at HG
   have hq := eno_two e
   have HG2 := Lib.hid (show Calls Tryz.prog 115 #[.slice A b.length c] w fun e' w' => e' = .returned (.tuple #[.int .i64 0, .int .i64 0, .int .i64 (eno e)]) ∧ Ext w w' from HG.out)
   show Calls Tryz.prog 144 #[.slice A b.length c, .int .i64 1] w fun e' w' => e' = .returned (.tuple #[.int .i64 0, .int .i64 0, .int .i64 (eno e)]) ∧ Ext w w'
   clear hr HG
   generalize eno e = q at hq HG2 ⊢
   rcases hq with rfl | rfl
   · go_enter Tryz.func144, Tryz.ntmps144
     go_wp2_with (go_at_call 115; refine HG2.out.mono ?_; rintro e1 w1 ⟨rfl, hx1⟩)
     go_ret3
     exact ⟨rfl, hx1⟩
   · go_enter Tryz.func144, Tryz.ntmps144
     go_wp2_with (go_at_call 115; refine HG2.out.mono ?_; rintro e1 w1 ⟨rfl, hx1⟩)
     go_ret3
     exact ⟨rfl, hx1⟩
 | inr nu =>
   obtain ⟨n, u⟩ := nu
   obtain ⟨_, hu0, hul, hfit⟩ := getI_back hr
   unfold fit64 at *
   rw [hr] at HG
   have HG2 := Lib.hid (show Calls Tryz.prog 115 #[.slice A b.length c] w fun e' w' => e' = .returned (.tuple #[.int .i64 n, .int .i64 (u : Int), .int .i64 0]) ∧ Ext w w' from HG.out)
   clear hr HG
   have hdv : ((b.length : Int) - (u : Int)).tdiv 1 = (b.length : Int) - (u : Int) := Int.tdiv_one _
   by_cases hn : n < 0
   · simp only [if_pos hn]
     go_enter Tryz.func144, Tryz.ntmps144
     go_wp2_with (go_at_call 115; refine HG2.out.mono ?_; rintro e1 w1 ⟨rfl, hx1⟩)
     go_ret3
     exact ⟨rfl, hx1⟩
   · simp only [if_neg hn]
     by_cases hg : ((b.length - u : Nat) : Int) < n
     · simp only [if_pos hg]
       have hg' : (b.length : Int) - (u : Int) < n := by omega
       go_enter Tryz.func144, Tryz.ntmps144
       go_wp2_with (go_at_call 115; refine HG2.out.mono ?_; rintro e1 w1 ⟨rfl, hx1⟩)
       go_ret3
       exact ⟨rfl, hx1⟩
     · simp only [if_neg hg]
       have hg' : ¬ ((b.length : Int) - (u : Int) < n) := by omega
       go_enter Tryz.func144, Tryz.ntmps144
       go_wp2_with (go_at_call 115; refine HG2.out.mono ?_; rintro e1 w1 ⟨rfl, hx1⟩)
       go_ret3
       exact ⟨rfl, hx1⟩
set_option maxRecDepth 100000 in
set_option maxHeartbeats 4000000 in
theorem refLen_any (b : List UInt8) (hl : b.length ≤ 1000000000) (A : Option Addr) (c : Nat) (w : World) (hs : Sv w w.heap.size 1 A c (rowsB b)) :
    Calls Tryz.prog 116 #[.slice A b.length c, .int .i64 1] w fun e w' => e = .returned (getRes (lenW b)) ∧ Ext w w' := by
 have HG := Lib.hid (refGetInt_any b hl A c w hs)
 clear hs
 unfold lenW
 cases hr : getI b with
 | inl e =>
   rw [hr] at HG
   have hq := eno_two e
   have HG2 := Lib.hid (show Calls Tryz.prog 117 #[.slice A b.length c] w fun e' w' => e' = .returned (.tuple #[.int .i64 0, .int .i64 0, .int .i64 (eno e)]) ∧ Ext w w' from HG.out)
   show Calls Tryz.prog 116 #[.slice A b.length c, .int .i64 1] w fun e' w' => e' = .returned (.tuple #[.int .i64 0, .int .i64 0, .int .i64 (eno e)]) ∧ Ext w w'
   clear hr HG
   generalize eno e = q at hq HG2 ⊢
   rcases hq with rfl | rfl
   · go_enter Tryz.func116, Tryz.ntmps116
     go_wp2_with (go_at_call 117; refine HG2.out.mono ?_; rintro e1 w1 ⟨rfl, hx1⟩)
     go_ret3
     exact ⟨rfl, hx1⟩
   · go_enter Tryz.func116, Tryz.ntmps116
     go_wp2_with (go_at_call 117; refine HG2.out.mono ?_; rintro e1 w1 ⟨rfl, hx1⟩)
     go_ret3
     exact ⟨rfl, hx1⟩
 | inr nu =>
   obtain ⟨n, u⟩ := nu
   obtain ⟨_, hu0, hul, hfit⟩ := getI_back hr
   unfold fit64 at *
   rw [hr] at HG
   have HG2 := Lib.hid (show Calls Tryz.prog 117 #[.slice A b.length c] w fun e' w' => e' = .returned (.tuple #[.int .i64 n, .int .i64 (u : Int), .int .i64 0]) ∧ Ext w w' from HG.out)
   clear hr HG
   have hdv : ((b.length : Int) - (u : Int)).tdiv 1 = (b.length : Int) - (u : Int) := Int.tdiv_one _
   by_cases hn : n < 0
   · simp only [if_pos hn]
     go_enter Tryz.func116, Tryz.ntmps116
     go_wp2_with (go_at_call 117; refine HG2.out.mono ?_; rintro e1 w1 ⟨rfl, hx1⟩)
     go_ret3
     exact ⟨rfl, hx1⟩
   · simp only [if_neg hn]
     by_cases hg : ((b.length - u : Nat) : Int) < n
     · simp only [if_pos hg]
       have hg' : (b.length : Int) - (u : Int) < n := by omega
       go_enter Tryz.func116, Tryz.ntmps116
       go_wp2_with (go_at_call 117; refine HG2.out.mono ?_; rintro e1 w1 ⟨rfl, hx1⟩)
       go_ret3
       exact ⟨rfl, hx1⟩
     · simp only [if_neg hg]
       have hg' : ¬ ((b.length : Int) - (u : Int) < n) := by omega
       go_enter Tryz.func116, Tryz.ntmps116
       go_wp2_with (go_at_call 117; refine HG2.out.mono ?_; rintro e1 w1 ⟨rfl, hx1⟩)
       go_ret3
       exact ⟨rfl, hx1⟩
end Go.Proofs.YtlinhgannajfpaaGreatDoor

/- Cuts of a slice whatever its address: s[:j], s[j:]; a guarded load out of a block's middle. -/
namespace Go.Proofs.YtlinhgannajfpaaGreatDoor
open Go Go.RowKit

section
variable {P : Program} {w : World}
theorem run_sliceAt {t e : TypeId} {i : TypeInfo} (ht : P.underlying t = some (.slice e)) (_hi : P.info? e = some i) (x : Value) (lo hi' : Option Value) : (Instr.sliceAt t x lo hi' none).run P w = (Instr.slice t x lo hi' none).run P w := by
 simp [Instr.sliceAt, run_underlying ht]
theorem run_slice_to {t e : TypeId} {i : TypeInfo} (ht : P.underlying t = some (.slice e)) (hi : P.info? e = some i) (A : Option Addr) (n c j : Nat) (hj : j ≤ c) :
    (Instr.sliceAt t (.slice A n c) none (some (.int .i64 j)) none).run P w = .ok (.slice A j c) w := by
 have hA : (if c = 0 then A else A.map (·.add (0 * i.size))) = A := by
  split
  · rfl
  · cases A with
    | none => rfl
    | some a => simp [Addr.add]
 simp [Instr.sliceAt, Instr.slice, run_underlying ht, sizeOf, typeInfo, hi, Instr.sliceBounds, Instr.sliceBound, asIntOf, hj]
 simpa using hA
theorem run_slice_from {t e : TypeId} {i : TypeInfo} {k : Nat} (ht : P.underlying t = some (.slice e)) (hi : P.info? e = some i) (hk : i.size = k) (A : Option Addr) (n c j : Nat) (hj : j ≤ n) :
    (Instr.sliceAt t (.slice A n c) (some (.int .i64 j)) none none).run P w = .ok (.slice (if c = j then A else A.map (·.add (j * k))) (n - j) (c - j)) w := by
 simp [Instr.sliceAt, Instr.slice, run_underlying ht, sizeOf, typeInfo, hi, Instr.sliceBounds, Instr.sliceBound, asIntOf, hk]
 intro h; omega
theorem wpList_slice_to {ops : Array Oper} {rest : List Oper} {o : Oper} {a : Act} {Q : Exit → Act → World → Prop} (hgd : o.guard = none) (t e : TypeId) (x y : Operand) (ho : o.op = .slice t x none (some y) none)
    (i : TypeInfo) (ht : P.underlying t = some (.slice e)) (hi : P.info? e = some i) (A : Option Addr) (n c j : Nat) (hx : a.eval x = .slice A n c) (hy : a.eval y = .int .i64 j) (hj : j ≤ c)
    (h : wpList P ops Q rest (a.put o.dst (.slice A j c)) w) : wpList P ops Q (o :: rest) a w := by
 refine wpList_plain hgd fun K hK' => ?_
 unfold Oper.wp
 simp [execOp, ho, hx, hy, run_slice_to ht hi A n c j hj, Result.andThen]
 exact hK' _ _ h
theorem wpList_slice_from {ops : Array Oper} {rest : List Oper} {o : Oper} {a : Act} {Q : Exit → Act → World → Prop} (hgd : o.guard = none) (t e : TypeId) (x y : Operand) (ho : o.op = .slice t x (some y) none none)
    (i : TypeInfo) (k : Nat) (ht : P.underlying t = some (.slice e)) (hi : P.info? e = some i) (hk : i.size = k) (A : Option Addr) (n c j : Nat) (hx : a.eval x = .slice A n c) (hy : a.eval y = .int .i64 j) (hj : j ≤ n)
    (h : wpList P ops Q rest (a.put o.dst (.slice (if c = j then A else A.map (·.add (j * k))) (n - j) (c - j))) w) : wpList P ops Q (o :: rest) a w := by
 refine wpList_plain hgd fun K hK' => ?_
 unfold Oper.wp
 simp [execOp, ho, hx, hy, run_slice_from ht hi hk A n c j hj, Result.andThen]
 exact hK' _ _ h
theorem wpList_load_midg {ops : Array Oper} {rest : List Oper} {op : Oper} {a : Act} {Q : Exit → Act → World → Prop} {j d : Nat} {c : Bool} (hgd : op.guard = some (j, c)) (hd : dstOf ops j = some d) (ht : a.tmps[d]? = some (.bool c)) (ty : TypeId) (x : Operand) (ho : op.op = .load ty x)
    (b o : Nat) (hx : a.eval x = .pointer (some ⟨b, o, none⟩)) (cs : List Value) (dd : TypeDesc) (hc : w.rangeAt b o cs)
    (hu : P.underlying ty = some dd) (hdd : dd.isRow = true) (hi : (P.info? ty).map (·.size) = some cs.length)
    (h : wpList P ops Q rest (a.put op.dst (.agg cs.toArray)) w) : wpList P ops Q (op :: rest) a w :=
 wpList_step fun _ hK => want_yes hgd hd ht (wp_load_mid ty x ho b o hx cs dd hc hu hdd hi (hK _ _ h))
end
end Go.Proofs.YtlinhgannajfpaaGreatDoor

/- Lists of numbers decoded (wire and the reference). -/
namespace Go.Proofs.YtlinhgannajfpaaGreatDoor
open Go Go.RowKit

set_option maxRecDepth 100000 in
theorem wpList_append_I {ops : Array Oper} {rest : List Oper} {o : Oper} {a : Act} {w : World} {Q : Exit → Act → World → Prop} (hgd : o.guard = none) (s x : Operand)
    (ho : o.op = .call { callee := .builtin .append, args := #[s, x], argTypes := #[83, 83] })
    (base : Nat) (v : Value) (xs : List Int) (hs : a.eval s = v) (hown : w.ownsRow base 3 1 v xs.length (rowsI xs).flatten)
    (A : Option Addr) (c m : Nat) (ys : List Int) (hx : a.eval x = .slice A m c) (hm : ys.length = m) (hr : Sv w w.heap.size 1 A c (rowsI ys)) (hlen : xs.length + m ≤ 17592186044416) (hbase : base ≤ w.heap.size)
    (zs : List Int) (hz : zs = xs ++ ys)
    (h : ∀ A' c' w', w'.ownsRow base 3 1 (.slice A' zs.length c') zs.length (rowsI zs).flatten → w.grownBy w' v.ownBlock → wpList Tryz.prog ops Q rest (a.put o.dst (.slice A' zs.length c')) w') : wpList Tryz.prog ops Q (o :: rest) a w := by
 subst hm hz
 obtain ⟨i0, hi, hz0, hz1, hz2⟩ := info_parts infoInt
 refine wpList_append_sv _ hgd s x 83 ho base 3 i0 _ 1 8 Tryz.underlying83 hi hz0 hz1 hz2 rfl (by decide) v xs.length _ hs hown _ A ys.length c (rowsI ys) hx hr (rowsI_length _) (by unfold maxLen; omega) (by omega) hbase ?_
 intro v' w' h1 h2 _
 have h3 : w'.ownsRow base 3 1 v' (xs ++ ys).length (rowsI (xs ++ ys)).flatten := by rw [rowsI_append, List.flatten_append, List.length_append]; exact h1
 obtain ⟨A', c', rfl, _⟩ := own_form h3
 exact h A' c' w' h3 h2
theorem svI_one (w : World) (x : Int) : Sv (w.alloc (.cells #[.int .i64 x] 3)) (w.alloc (.cells #[.int .i64 x] 3)).heap.size 1 (some ⟨w.heap.size, 0, none⟩) 1 (rowsI [x]) := by
 have h1 := Sv.lit w 3 1 (rowsI [x]) (rowsI_rwk _) (by rw [rowsI_length]; unfold maxLen; simp)
 rwa [rowsI_length] at h1
def appR (l1 : List Int) (k1 : Nat) : Nat ⊕ (List Int × Nat) → Nat ⊕ (List Int × Nat)
 | .inl e => .inl e
 | .inr (l, k) => .inr (l1 ++ l, k1 + k)
theorem getSeq_zero (b : List UInt8) : getSeq 0 b = .inr ([], 0) := rfl
theorem getSeq_succ (n : Nat) (b : List UInt8) : getSeq (n + 1) b = match getI b with | .inl e => .inl e | .inr (x, u) => appR [x] u (getSeq n (b.drop u)) := by
 conv => lhs; unfold getSeq
 cases getI b with
 | inl e => rfl
 | inr p =>
   obtain ⟨x, u⟩ := p
   show (match getSeq n (b.drop u) with | .inl e => .inl e | .inr (l, k) => .inr (x :: l, u + k)) = appR [x] u (getSeq n (b.drop u))
   cases getSeq n (b.drop u) <;> rfl
theorem appR_appR (l1 l2 : List Int) (k1 k2 : Nat) (r : Nat ⊕ (List Int × Nat)) : appR l1 k1 (appR l2 k2 r) = appR (l1 ++ l2) (k1 + k2) r := by
 cases r with
 | inl e => rfl
 | inr p => simp [appR, Nat.add_assoc]
theorem appR_nil (r : Nat ⊕ (List Int × Nat)) : appR [] 0 r = r := by
 cases r with
 | inl e => rfl
 | inr p => simp [appR]
theorem getL_eq (b : List UInt8) : getL b = match lenW b with | .inl e => .inl e | .inr (n, u) => appR [] u (getSeq n.toNat (b.drop u)) := by
 unfold getL lenW
 cases getI b with
 | inl e => rfl
 | inr p =>
   obtain ⟨n, u⟩ := p
   simp only
   by_cases h1 : n < 0
   · rw [if_pos h1, if_pos h1]
   · rw [if_neg h1, if_neg h1]
     by_cases h2 : ((b.length - u : Nat) : Int) < n
     · rw [if_pos h2, if_pos h2]
     · rw [if_neg h2, if_neg h2]
       simp only
       cases getSeq n.toNat (b.drop u) <;> rfl
def RetL (b : List UInt8) (w : World) (e : Ending) (w' : World) : Prop := match getL b with
 | .inl er => e = .returned (.tuple #[.slice none 0 0, .int .i64 0, .int .i64 (eno er)]) ∧ Ext w w'
 | .inr (l, k) => ∃ A c, e = .returned (.tuple #[.slice A l.length c, .int .i64 (k : Int), .int .i64 0]) ∧ w'.ownsRow w.heap.size 3 1 (.slice A l.length c) l.length (rowsI l).flatten ∧ Ext w w'
theorem RetL.err {b : List UInt8} {w w' : World} {e : Ending} {er : Nat} (h : getL b = .inl er) (h1 : e = .returned (.tuple #[.slice none 0 0, .int .i64 0, .int .i64 (eno er)])) (h2 : Ext w w') : RetL b w e w' := by
 unfold RetL
 rw [h]
 exact ⟨h1, h2⟩
theorem RetL.ok {b : List UInt8} {w w' : World} {e : Ending} {l : List Int} {k : Nat} (h : getL b = .inr (l, k)) (h1 : ∃ A c, e = .returned (.tuple #[.slice A l.length c, .int .i64 (k : Int), .int .i64 0]) ∧ w'.ownsRow w.heap.size 3 1 (.slice A l.length c) l.length (rowsI l).flatten ∧ Ext w w') : RetL b w e w' := by
 unfold RetL
 rw [h]
 exact h1
theorem lenW_ok {b : List UInt8} {n : Int} {u : Nat} (h : lenW b = .inr (n, u)) : 0 ≤ n ∧ 0 < u ∧ u ≤ b.length ∧ n ≤ ((b.length - u : Nat) : Int) := by
 unfold lenW at h
 cases hg : getI b with
 | inl e => rw [hg] at h; cases h
 | inr p =>
   obtain ⟨n', u'⟩ := p
   rw [hg] at h
   simp only at h
   split at h
   · cases h
   · split at h
     · cases h
     · injection h with h
       injection h with h1 h2
       subst h1 h2
       obtain ⟨_, h3, h4, _⟩ := getI_back hg
       exact ⟨by omega, h3, h4, by omega⟩
theorem infoB1x : ∃ i, Tryz.prog.info? 5 = some i ∧ i.size = 1 := by
 have h : (Tryz.prog.info? 5).map (·.size) = some 1 := by kernel_rfl
 obtain ⟨i, h1, h2⟩ := Option.map_eq_some_iff.1 h
 exact ⟨i, h1, h2⟩
set_option maxRecDepth 100000 in
set_option maxHeartbeats 8000000 in
theorem wireGet_any (b : List UInt8) (hl : b.length ≤ 1000000000) (A : Option Addr) (c : Nat) (w : World) (hs : Sv w w.heap.size 1 A c (rowsB b)) :
    Calls Tryz.prog 114 #[.slice A b.length c, .int .i64 1, .func (.func 115) #[] #[]] w (RetL b w) := by
 have eg : ∀ args w, (callFunc 115 args).run Tryz.prog w = .ok (.enter 115 args) w := fun _ _ => by kernel_rfl
 obtain ⟨iB, hiB, hiB1⟩ := infoB1x
 have HiB := Lib.hid hiB; have HiB1 := Lib.hid hiB1
 have HS := Lib.hid hs
 have HLN := Lib.hid (wireLen_any b hl A c w hs)
 clear hs hiB hiB1
 cases hr : lenW b with
 | inl er =>
   have HRE := Lib.hid (show getL b = .inl er by rw [getL_eq, hr])
   rw [hr] at HLN
   have hq := eno_two er
   have HL2 := Lib.hid (show Calls Tryz.prog 144 #[.slice A b.length c, .int .i64 1] w fun e' w' => e' = .returned (.tuple #[.int .i64 0, .int .i64 0, .int .i64 (eno er)]) ∧ Ext w w' from HLN.out)
   obtain ⟨q, hqe⟩ : ∃ q, q = eno er := ⟨_, rfl⟩
   rw [← hqe] at hq HL2
   have HQ := Lib.hid hqe
   clear hr HLN hqe
   rcases hq with rfl | rfl
   · go_enter Tryz.func114, Tryz.ntmps114
     go_wp2_with (go_at_call 144; refine HL2.out.mono ?_; rintro e1 w1 ⟨rfl, hx1⟩)
     go_ret3
     exact RetL.err HRE.out (by rw [← HQ.out]; rfl) hx1
   · go_enter Tryz.func114, Tryz.ntmps114
     go_wp2_with (go_at_call 144; refine HL2.out.mono ?_; rintro e1 w1 ⟨rfl, hx1⟩)
     go_ret3
     exact RetL.err HRE.out (by rw [← HQ.out]; rfl) hx1
 | inr nu =>
   obtain ⟨n, u⟩ := nu
   obtain ⟨hn0, hu0, hul, hnl⟩ := lenW_ok hr
   obtain ⟨N, rfl⟩ : ∃ N : Nat, n = (N : Int) := ⟨n.toNat, by omega⟩
   have HGL := Lib.hid (show getL b = appR [] u (getSeq N (b.drop u)) by rw [getL_eq, hr]; simp)
   rw [hr] at HLN
   have HL2 := Lib.hid (show Calls Tryz.prog 144 #[.slice A b.length c, .int .i64 1] w fun e' w' => e' = .returned (.tuple #[.int .i64 (N : Int), .int .i64 (u : Int), .int .i64 0]) ∧ Ext w w' from HLN.out)
   clear hr HLN
   go_enter Tryz.func114, Tryz.ntmps114
   go_upto_region 6 with (go_at_call 144; refine HL2.out.mono ?_; rintro e1 w1 ⟨rfl, hx1⟩; have HX1 := Lib.hid hx1; clear hx1)
   go_loopw [10, 12, 27] (fun av ov iv wr => ∃ (i : Nat) (l1 : List Int) (k1 : Nat), i ≤ N ∧ iv = .int .i64 (i : Int) ∧ av = .int .i64 ((u + k1 : Nat) : Int) ∧ u + k1 ≤ b.length ∧ l1.length = i ∧ wr.ownsRow w.heap.size 3 1 ov l1.length (rowsI l1).flatten ∧ getSeq N (b.drop u) = appR l1 k1 (getSeq (N - i) (b.drop (u + k1))) ∧ Ext w wr) (fun _ _ iv _ => N - (intOf iv).toNat)
   case atStart => exact ⟨0, [], 0, Nat.zero_le _, rfl, rfl, by omega, rfl, World.ownsRow_nil _ _ _ _, by simp [appR_nil], HX1.out⟩
   case round =>
    obtain ⟨i, l1, k1, hi, rfl, rfl, hkl, hll, ho, hg, hx⟩ := hrel
    have HO := Lib.hid ho; have HG := Lib.hid hg; have HX := Lib.hid hx
    obtain ⟨A1, c1, rfl, _⟩ := own_form ho
    have HLL := Lib.hid hll
    clear ho hg hx HX1 HL2 hll
    by_cases hlt : i < N
    · obtain ⟨m, hm⟩ : ∃ m, N - i = m + 1 := ⟨N - i - 1, by omega⟩
      have hgs := HG.out
      rw [hm, getSeq_succ] at hgs
      obtain ⟨at0, hat⟩ : ∃ a, a = u + k1 := ⟨_, rfl⟩
      have HAT := Lib.hid hat
      obtain ⟨A2, hA2⟩ : ∃ A2, A2 = (if c = at0 then A else A.map (·.add (at0 * 1))) := ⟨_, rfl⟩
      have hsd := (HS.out.ext HX.out).drop (i := at0) (by rw [rowsB_length, hat]; exact hkl)
      rw [← hA2, show (rowsB b).drop at0 = rowsB (b.drop at0) by unfold rowsB; rw [List.map_drop]] at hsd
      have hgi := wireGetInt_any (b.drop at0) (by rw [List.length_drop]; omega) A2 (c - at0) wr hsd
      rw [List.length_drop] at hgi
      have HA2 := Lib.hid hA2
      obtain ⟨bs, hbs⟩ : ∃ bs, bs = b.drop at0 := ⟨_, rfl⟩
      have hbl : bs.length = b.length - at0 := by rw [hbs, List.length_drop]
      rw [← hat, ← hbs] at hgs
      rw [← hbs] at hgi
      rw [← hat] at hkl ⊢
      have HBS := Lib.hid hbs; have HBL := Lib.hid hbl
      clear hsd hA2 hbs hat hbl
      cases hgr : getI bs with
      | inl er =>
        rw [hgr] at hgi hgs
        have HRE := Lib.hid (show getL b = .inl er by rw [HGL.out, hgs]; rfl)
        have hq := eno_two er
        have HG2 := Lib.hid (show Calls Tryz.prog 115 #[.slice A2 (b.length - at0) (c - at0)] wr fun e' w' => e' = .returned (.tuple #[.int .i64 0, .int .i64 0, .int .i64 (eno er)]) ∧ Ext wr w' from hgi)
        obtain ⟨q, hqe⟩ : ∃ q, q = eno er := ⟨_, rfl⟩
        rw [← hqe] at hq HG2
        have HQ := Lib.hid hqe
        clear hgi hgs hgr hqe hm
        rcases hq with rfl | rfl
        · go_wp2_with (first | (refine wpList_slice_from rfl 42 5 (.tmp 31) (.tmp 32) rfl iB 1 Tryz.underlying42 HiB.out HiB1.out A b.length c at0 rfl rfl hkl ?_; rw [← HA2.out]) | (go_at_fn 115; refine HG2.out.mono ?_; rintro e1 w2 ⟨rfl, hx2⟩))
          go_ret3
          exact RetL.err HRE.out (by rw [← HQ.out]; rfl) (HX.out.trans hx2)
        · go_wp2_with (first | (refine wpList_slice_from rfl 42 5 (.tmp 31) (.tmp 32) rfl iB 1 Tryz.underlying42 HiB.out HiB1.out A b.length c at0 rfl rfl hkl ?_; rw [← HA2.out]) | (go_at_fn 115; refine HG2.out.mono ?_; rintro e1 w2 ⟨rfl, hx2⟩))
          go_ret3
          exact RetL.err HRE.out (by rw [← HQ.out]; rfl) (HX.out.trans hx2)
      | inr xu =>
        obtain ⟨x, u2⟩ := xu
        obtain ⟨_, hu20, hu2l, hfx⟩ := getI_back hgr
        rw [HBL.out] at hu2l
        rw [hgr] at hgi hgs
        have HG2 := Lib.hid (show Calls Tryz.prog 115 #[.slice A2 (b.length - at0) (c - at0)] wr fun e' w' => e' = .returned (.tuple #[.int .i64 x, .int .i64 (u2 : Int), .int .i64 0]) ∧ Ext wr w' from hgi)
        have HNX := Lib.hid (show getSeq N (b.drop u) = appR (l1 ++ [x]) (k1 + u2) (getSeq (N - (i + 1)) (b.drop (u + (k1 + u2)))) by
         rw [hgs]
         simp only
         rw [appR_appR, HBS.out, List.drop_drop, HAT.out, show N - (i + 1) = m by omega, show u + k1 + u2 = u + (k1 + u2) by omega])
        clear hgi hgs hgr hfx hm
        go_wp2_with (first
         | (refine wpList_slice_from rfl 42 5 (.tmp 31) (.tmp 32) rfl iB 1 Tryz.underlying42 HiB.out HiB1.out A b.length c at0 rfl rfl hkl ?_; rw [← HA2.out])
         | (go_at_fn 115; refine HG2.out.mono ?_; rintro e1 w2 ⟨rfl, hx2⟩; have HO2 := Lib.hid (own_ext HO.out (hx2.alloc (.cells #[.int .i64 x] 3))); have HX2 := Lib.hid ((HX.out.trans hx2).alloc (.cells #[.int .i64 x] 3)); have HSN := Lib.hid (svI_one w2 x); clear hx2)
         | (at_builtin; refine wpList_append_I rfl (.tmp 41) (.tmp 43) rfl w.heap.size _ l1 rfl HO2.out _ 1 1 [x] rfl rfl HSN.out (by have := HLL.out; omega) HX2.out.size (l1 ++ [x]) rfl ?_; intro A4 c4 W4 ho4 hg4; have HO4 := Lib.hid ho4; have HX4 := Lib.hid (HX2.out.own HO2.out hg4 (Nat.le_refl _)); clear ho4 hg4))
        exact ⟨⟨i + 1, l1 ++ [x], k1 + u2, by omega, rfl, by (have := HAT.out; congr 1; omega), by (have := HAT.out; omega), by (rw [List.length_append]; simp [HLL.out]), (by have h := HO4.out; simpa only [List.length_append, List.length_singleton] using h), HNX.out, HX4.out⟩, by simp [intOf]; omega⟩
    · obtain rfl : i = N := by omega
      have HRO := Lib.hid (show getL b = .inr (l1, u + k1) by rw [HGL.out, HG.out, Nat.sub_self, getSeq_zero]; simp [appR])
      go_wp2_with fail
      go_ret3
      exact RetL.ok HRO.out ⟨A1, c1, rfl, HO.out, HX.out⟩
set_option maxRecDepth 100000 in
theorem wireGetInts_any (b : List UInt8) (hl : b.length ≤ 1000000000) (A : Option Addr) (c : Nat) (w : World) (hs : Sv w w.heap.size 1 A c (rowsB b)) :
    Calls Tryz.prog 75 #[.slice A b.length c] w (RetL b w) := by
 have HL := Lib.hid (wireGet_any b hl A c w hs)
 clear hs
 cases hr : getL b with
 | inl er =>
   have HR := Lib.hid hr
   have hq := eno_two er
   have HL2 := Lib.hid (show Calls Tryz.prog 114 #[.slice A b.length c, .int .i64 1, .func (.func 115) #[] #[]] w fun e w' => e = .returned (.tuple #[.slice none 0 0, .int .i64 0, .int .i64 (eno er)]) ∧ Ext w w' from HL.out.mono fun e w' h => by unfold RetL at h; rw [hr] at h; exact h)
   clear hr HL
   go_enter Tryz.func75, Tryz.ntmps75
   go_wp2_with (go_at_call 114; refine HL2.out.mono ?_; rintro e1 w1 ⟨rfl, hx1⟩)
   go_ret3
   exact RetL.err HR.out rfl hx1
 | inr lk =>
   obtain ⟨l, k⟩ := lk
   have HR := Lib.hid hr
   have HL2 := Lib.hid (show Calls Tryz.prog 114 #[.slice A b.length c, .int .i64 1, .func (.func 115) #[] #[]] w fun e w' => ∃ A c, e = .returned (.tuple #[.slice A l.length c, .int .i64 (k : Int), .int .i64 0]) ∧ w'.ownsRow w.heap.size 3 1 (.slice A l.length c) l.length (rowsI l).flatten ∧ Ext w w' from HL.out.mono fun e w' h => by unfold RetL at h; rw [hr] at h; exact h)
   clear hr HL
   go_enter Tryz.func75, Tryz.ntmps75
   go_wp2_with (go_at_call 114; refine HL2.out.mono ?_; rintro e1 w1 ⟨A1, c1, rfl, ho1, hx1⟩)
   go_ret3
   exact RetL.ok HR.out ⟨A1, c1, rfl, ho1, hx1⟩
set_option maxRecDepth 100000 in
set_option maxHeartbeats 8000000 in
theorem refGetInts_any (b : List UInt8) (hl : b.length ≤ 1000000000) (A : Option Addr) (c : Nat) (w : World) (hs : Sv w w.heap.size 1 A c (rowsB b)) :
    Calls Tryz.prog 77 #[.slice A b.length c] w (RetL b w) := by
 have hm := mixed
 obtain ⟨iB, hiB, hiB1⟩ := infoB1x
 have HiB := Lib.hid hiB; have HiB1 := Lib.hid hiB1
 have HS := Lib.hid hs
 have HLN := Lib.hid (refLen_any b hl A c w hs)
 clear hs hiB hiB1
 cases hr : lenW b with
 | inl er =>
   have HRE := Lib.hid (show getL b = .inl er by rw [getL_eq, hr])
   rw [hr] at HLN
   have hq := eno_two er
   have HL2 := Lib.hid (show Calls Tryz.prog 116 #[.slice A b.length c, .int .i64 1] w fun e' w' => e' = .returned (.tuple #[.int .i64 0, .int .i64 0, .int .i64 (eno er)]) ∧ Ext w w' from HLN.out)
   obtain ⟨q, hqe⟩ : ∃ q, q = eno er := ⟨_, rfl⟩
   rw [← hqe] at hq HL2
   have HQ := Lib.hid hqe
   clear hr HLN hqe
   rcases hq with rfl | rfl
   · go_enter Tryz.func77, Tryz.ntmps77
     go_wp2_with (go_at_call 116; refine HL2.out.mono ?_; rintro e1 w1 ⟨rfl, hx1⟩)
     go_ret3
     exact RetL.err HRE.out (by rw [← HQ.out]; rfl) hx1
   · go_enter Tryz.func77, Tryz.ntmps77
     go_wp2_with (go_at_call 116; refine HL2.out.mono ?_; rintro e1 w1 ⟨rfl, hx1⟩)
     go_ret3
     exact RetL.err HRE.out (by rw [← HQ.out]; rfl) hx1
 | inr nu =>
   obtain ⟨n, u⟩ := nu
   obtain ⟨hn0, hu0, hul, hnl⟩ := lenW_ok hr
   obtain ⟨N, rfl⟩ : ∃ N : Nat, n = (N : Int) := ⟨n.toNat, by omega⟩
   have HGL := Lib.hid (show getL b = appR [] u (getSeq N (b.drop u)) by rw [getL_eq, hr]; simp)
   rw [hr] at HLN
   have HL2 := Lib.hid (show Calls Tryz.prog 116 #[.slice A b.length c, .int .i64 1] w fun e' w' => e' = .returned (.tuple #[.int .i64 (N : Int), .int .i64 (u : Int), .int .i64 0]) ∧ Ext w w' from HLN.out)
   clear hr HLN
   go_enter Tryz.func77, Tryz.ntmps77
   go_upto_region 6 with (go_at_call 116; refine HL2.out.mono ?_; rintro e1 w1 ⟨rfl, hx1⟩; have HX1 := Lib.hid hx1; clear hx1)
   go_loopw [6, 8, 9] (fun av ov iv wr => ∃ (i : Nat) (l1 : List Int) (k1 : Nat), i ≤ N ∧ iv = .int .i64 (i : Int) ∧ av = .int .i64 ((u + k1 : Nat) : Int) ∧ u + k1 ≤ b.length ∧ l1.length = i ∧ wr.ownsRow w.heap.size 3 1 ov l1.length (rowsI l1).flatten ∧ getSeq N (b.drop u) = appR l1 k1 (getSeq (N - i) (b.drop (u + k1))) ∧ Ext w wr) (fun _ _ iv _ => N - (intOf iv).toNat)
   case atStart => exact ⟨0, [], 0, Nat.zero_le _, rfl, rfl, by omega, rfl, World.ownsRow_nil _ _ _ _, by simp [appR_nil], HX1.out⟩
   case round =>
    obtain ⟨i, l1, k1, hi, rfl, rfl, hkl, hll, ho, hg, hx⟩ := hrel
    have HO := Lib.hid ho; have HG := Lib.hid hg; have HX := Lib.hid hx
    obtain ⟨A1, c1, rfl, _⟩ := own_form ho
    have HLL := Lib.hid hll
    clear ho hg hx HX1 HL2 hll
    by_cases hlt : i < N
    · obtain ⟨m, hm⟩ : ∃ m, N - i = m + 1 := ⟨N - i - 1, by omega⟩
      have hgs := HG.out
      rw [hm, getSeq_succ] at hgs
      obtain ⟨at0, hat⟩ : ∃ a, a = u + k1 := ⟨_, rfl⟩
      have HAT := Lib.hid hat
      obtain ⟨A2, hA2⟩ : ∃ A2, A2 = (if c = at0 then A else A.map (·.add (at0 * 1))) := ⟨_, rfl⟩
      have hsd := (HS.out.ext HX.out).drop (i := at0) (by rw [rowsB_length, hat]; exact hkl)
      rw [← hA2, show (rowsB b).drop at0 = rowsB (b.drop at0) by unfold rowsB; rw [List.map_drop]] at hsd
      have hgi := refGetInt_any (b.drop at0) (by rw [List.length_drop]; omega) A2 (c - at0) wr hsd
      rw [List.length_drop] at hgi
      have HA2 := Lib.hid hA2
      obtain ⟨bs, hbs⟩ : ∃ bs, bs = b.drop at0 := ⟨_, rfl⟩
      have hbl : bs.length = b.length - at0 := by rw [hbs, List.length_drop]
      rw [← hat, ← hbs] at hgs
      rw [← hbs] at hgi
      rw [← hat] at hkl ⊢
      have HBS := Lib.hid hbs; have HBL := Lib.hid hbl
      clear hsd hA2 hbs hat hbl
      cases hgr : getI bs with
      | inl er =>
        rw [hgr] at hgi hgs
        have HRE := Lib.hid (show getL b = .inl er by rw [HGL.out, hgs]; rfl)
        have hq := eno_two er
        have HG2 := Lib.hid (show Calls Tryz.prog 117 #[.slice A2 (b.length - at0) (c - at0)] wr fun e' w' => e' = .returned (.tuple #[.int .i64 0, .int .i64 0, .int .i64 (eno er)]) ∧ Ext wr w' from hgi)
        obtain ⟨q, hqe⟩ : ∃ q, q = eno er := ⟨_, rfl⟩
        rw [← hqe] at hq HG2
        have HQ := Lib.hid hqe
        clear hgi hgs hgr hqe hm
        rcases hq with rfl | rfl
        · go_wp2_with (first | (refine wpList_slice_from rfl 42 5 (.tmp 28) (.tmp 29) rfl iB 1 Tryz.underlying42 HiB.out HiB1.out A b.length c at0 rfl rfl hkl ?_; rw [← HA2.out]) | (go_at_call 117; refine HG2.out.mono ?_; rintro e1 w2 ⟨rfl, hx2⟩))
          go_ret3
          exact RetL.err HRE.out (by rw [← HQ.out]; rfl) (HX.out.trans hx2)
        · go_wp2_with (first | (refine wpList_slice_from rfl 42 5 (.tmp 28) (.tmp 29) rfl iB 1 Tryz.underlying42 HiB.out HiB1.out A b.length c at0 rfl rfl hkl ?_; rw [← HA2.out]) | (go_at_call 117; refine HG2.out.mono ?_; rintro e1 w2 ⟨rfl, hx2⟩))
          go_ret3
          exact RetL.err HRE.out (by rw [← HQ.out]; rfl) (HX.out.trans hx2)
      | inr xu =>
        obtain ⟨x, u2⟩ := xu
        obtain ⟨_, hu20, hu2l, hfx⟩ := getI_back hgr
        rw [HBL.out] at hu2l
        rw [hgr] at hgi hgs
        have HG2 := Lib.hid (show Calls Tryz.prog 117 #[.slice A2 (b.length - at0) (c - at0)] wr fun e' w' => e' = .returned (.tuple #[.int .i64 x, .int .i64 (u2 : Int), .int .i64 0]) ∧ Ext wr w' from hgi)
        have HNX := Lib.hid (show getSeq N (b.drop u) = appR (l1 ++ [x]) (k1 + u2) (getSeq (N - (i + 1)) (b.drop (u + (k1 + u2)))) by
         rw [hgs]
         simp only
         rw [appR_appR, HBS.out, List.drop_drop, HAT.out, show N - (i + 1) = m by omega, show u + k1 + u2 = u + (k1 + u2) by omega])
        clear hgi hgs hgr hfx hm
        go_wp2_with (first
         | (refine wpList_slice_from rfl 42 5 (.tmp 28) (.tmp 29) rfl iB 1 Tryz.underlying42 HiB.out HiB1.out A b.length c at0 rfl rfl hkl ?_; rw [← HA2.out])
         | (go_at_call 117; refine HG2.out.mono ?_; rintro e1 w2 ⟨rfl, hx2⟩; have HO2 := Lib.hid (own_ext HO.out (hx2.alloc (.cells #[.int .i64 x] 3))); have HX2 := Lib.hid ((HX.out.trans hx2).alloc (.cells #[.int .i64 x] 3)); have HSN := Lib.hid (svI_one w2 x); clear hx2)
         | (at_builtin; refine wpList_append_I rfl (.tmp 38) (.tmp 40) rfl w.heap.size _ l1 rfl HO2.out _ 1 1 [x] rfl rfl HSN.out (by have := HLL.out; omega) HX2.out.size (l1 ++ [x]) rfl ?_; intro A4 c4 W4 ho4 hg4; have HO4 := Lib.hid ho4; have HX4 := Lib.hid (HX2.out.own HO2.out hg4 (Nat.le_refl _)); clear ho4 hg4))
        exact ⟨⟨i + 1, l1 ++ [x], k1 + u2, by omega, rfl, by (have := HAT.out; congr 1; omega), by (have := HAT.out; omega), by (rw [List.length_append]; simp [HLL.out]), (by have h := HO4.out; simpa only [List.length_append, List.length_singleton] using h), HNX.out, HX4.out⟩, by simp [intOf]; omega⟩
    · obtain rfl : i = N := by omega
      have HRO := Lib.hid (show getL b = .inr (l1, u + k1) by rw [HGL.out, HG.out, Nat.sub_self, getSeq_zero]; simp [appR])
      go_wp2_with fail
      go_ret3
      exact RetL.ok HRO.out ⟨A1, c1, rfl, HO.out, HX.out⟩
end Go.Proofs.YtlinhgannajfpaaGreatDoor

/- Contracts of the layer of points, on: each, the closures of join, join, Intersect. -/
namespace Go.Proofs.YtlinhgannajfpaaGreatDoor
open Go Go.RowKit

def valsAt (r0 r1 r2 : Int) : Nat → List Value
 | 0 => [.int .i64 0, .int .i64 0, .int .i64 0]
 | 1 => [.int .i64 r0, .int .i64 0, .int .i64 0]
 | 2 => [.int .i64 r0, .int .i64 r1, .int .i64 0]
 | _ => [.int .i64 r0, .int .i64 r1, .int .i64 r2]

set_option maxHeartbeats 2000000 in
theorem each_any (g : FuncId) (lb : Array Value) (r0 r1 r2 : Int) (w : World) (eg : ∀ args w, (callFunc g args).run Tryz.prog w = .ok (.enter g args) w)
    (h0 : ∀ w', Ext w w' → Calls Tryz.prog g (#[.int .i64 0] ++ lb) w' fun e w'' => e = .returned (.int .i64 r0) ∧ Ext w' w'')
    (h1 : ∀ w', Ext w w' → Calls Tryz.prog g (#[.int .i64 1] ++ lb) w' fun e w'' => e = .returned (.int .i64 r1) ∧ Ext w' w'')
    (h2 : ∀ w', Ext w w' → Calls Tryz.prog g (#[.int .i64 2] ++ lb) w' fun e w'' => e = .returned (.int .i64 r2) ∧ Ext w' w'') :
    Calls Tryz.prog 124 #[.func (.func g) #[] lb] w fun e w' => e = .returned (.agg #[.int .i64 r0, .int .i64 r1, .int .i64 r2]) ∧ Ext w w' := by
 have H0 := Lib.hid h0; have H1 := Lib.hid h1; have H2 := Lib.hid h2
 clear h0 h1 h2
 go_enter Tryz.func124, Tryz.ntmps124
 go_wp2
 go_loopw [5] (fun i wr => ∃ k : Nat, k ≤ 3 ∧ i = .int .i64 k ∧ Arr wr w.heap.size 25 (valsAt 0 0 0 0) ∧ Arr wr (w.heap.size + 1) 102 (valsAt r0 r1 r2 k) ∧ Ext w wr) (fun i _ => 3 - (intOf i).toNat)
 case atStart => exact ⟨0, by omega, rfl, (Arr.new w _ (valsAt 0 0 0 0)).alloc _, Arr.new1 w _ _ (valsAt 0 0 0 0), ((Ext.refl w).alloc _).alloc _⟩
 case round =>
  obtain ⟨k, hk, rfl, hA, hB, hx⟩ := hrel
  have hz := hB.lt
  have hz0 := hA.lt
  obtain rfl | rfl | rfl | rfl : k = 0 ∨ k = 1 ∨ k = 2 ∨ k = 3 := by omega
  · go_wp2_with (go_at_fn g; refine (H0.out _ hx).mono ?_; rintro e w1 ⟨rfl, x1⟩; have B1 := hB.ext x1; have A1 := hA.ext x1; have d0 := B1.cell 0; have df := B1.frozen 0; simp only [valsAt, List.getElem?_cons_zero] at d0)
    go_roundw
    case rel => exact ⟨1, by omega, rfl, A1.other (by simp) _, B1.set 0 (.int .i64 r0), (hx.trans x1).setCell (by simp) _⟩
    case measure => simp [intOf]
  · go_wp2_with (go_at_fn g; refine (H1.out _ hx).mono ?_; rintro e w1 ⟨rfl, x1⟩; have B1 := hB.ext x1; have A1 := hA.ext x1; have d0 := B1.cell 1; have df := B1.frozen 1; simp only [valsAt, List.getElem?_cons_zero, List.getElem?_cons_succ] at d0)
    go_roundw
    case rel => exact ⟨2, by omega, rfl, A1.other (by simp) _, B1.set 1 (.int .i64 r1), (hx.trans x1).setCell (by simp) _⟩
    case measure => simp [intOf]
  · go_wp2_with (go_at_fn g; refine (H2.out _ hx).mono ?_; rintro e w1 ⟨rfl, x1⟩; have B1 := hB.ext x1; have A1 := hA.ext x1; have d0 := B1.cell 2; have df := B1.frozen 2; simp only [valsAt, List.getElem?_cons_zero, List.getElem?_cons_succ] at d0)
    go_roundw
    case rel => exact ⟨3, by omega, rfl, A1.other (by simp) _, B1.set 2 (.int .i64 r2), (hx.trans x1).setCell (by simp) _⟩
    case measure => simp [intOf]
  · have d0 := hB.cell 0
    have d1 := hB.cell 1
    have d2 := hB.cell 2
    have a0 := hA.cell 0
    have a1 := hA.cell 1
    have a2 := hA.cell 2
    have f0 := hA.frozen 0
    have f1 := hA.frozen 1
    have f2 := hA.frozen 2
    simp only [valsAt, List.getElem?_cons_zero, List.getElem?_cons_succ] at d0 d1 d2 a0 a1 a2
    go_wp2_with fail
    exact bodyPost_ret (v := .agg #[.int .i64 r0, .int .i64 r1, .int .i64 r2]) (by simp [results, Tryz.results124, go_sem, *]) rfl ⟨rfl, ((hx.setCell (by simp) _).setCell (by simp) _).setCell (by simp) _⟩
end Go.Proofs.YtlinhgannajfpaaGreatDoor

/- Contracts of the layer of points, on: the closures of join, join, Intersect. -/
namespace Go.Proofs.YtlinhgannajfpaaGreatDoor
open Go Go.RowKit

structure Two (P : Program) (g : FuncId) (F : Int → Int → Int) : Prop where
 enters : ∀ args w, (callFunc g args).run P w = .ok (.enter g args) w
 call : ∀ x y w, Calls P g #[.int .i64 x, .int .i64 y] w fun e w' => e = .returned (.int .i64 (F x y)) ∧ Ext w w'
theorem two_greater : Two Tryz.prog 95 max := ⟨fun _ _ => by kernel_rfl, greater_any⟩
theorem two_lesser : Two Tryz.prog 94 min := ⟨fun _ _ => by kernel_rfl, lesser_any⟩

set_option maxHeartbeats 2000000 in
theorem join1_any (i : Nat) (hi : i < 3) (g : FuncId) (F : Int → Int → Int) (hF : Two Tryz.prog g F) (b0 b1 b2 : Nat) (x y : Int) (w : World) (e0 : w.cell? ⟨b0, 0, none⟩ = some (.func (.func g) #[] #[])) (e1 : w.cell? ⟨b1, i, none⟩ = some (.int .i64 x)) (e2 : w.cell? ⟨b2, i, none⟩ = some (.int .i64 y)) :
    Calls Tryz.prog 127 #[.int .i64 i, .pointer (some ⟨b0, 0, none⟩), .pointer (some ⟨b1, 0, none⟩), .pointer (some ⟨b2, 0, none⟩)] w fun e w' => e = .returned (.int .i64 (F x y)) ∧ Ext w w' := by
 have hm := mixed
 have hG := near_old
 have eg := hF.enters
 have HF := Lib.hid hF.call
 have q0 := World.block_lt_of_cell? w _ e0
 have q1 := World.block_lt_of_cell? w _ e1
 have q2 := World.block_lt_of_cell? w _ e2
 simp only at q0 q1 q2
 clear hF
 go_enter Tryz.func127, Tryz.ntmps127
 go_wp2
 refine wp_region_near (by assumption) (by kernel_rfl) ?_
 repeat (go_big_quiet_step ((go_at_fn g; exact near_call (HF.out _ _ _))))
 refine wpQuiet_nil ?_
 intro w1 hw1
 have hy := Ext.of_near hw1
 clear hw1
 go_wp2
 go_ret
 exact ⟨rfl, hy⟩
set_option maxHeartbeats 2000000 in
theorem join2_any (i : Nat) (hi : i < 3) (g : FuncId) (F : Int → Int → Int) (hF : Two Tryz.prog g F) (b0 b1 b2 : Nat) (x y : Int) (w : World) (e0 : w.cell? ⟨b0, 0, none⟩ = some (.func (.func g) #[] #[])) (e1 : w.cell? ⟨b1, i, none⟩ = some (.int .i64 x)) (e2 : w.cell? ⟨b2, i, none⟩ = some (.int .i64 y)) :
    Calls Tryz.prog 128 #[.int .i64 i, .pointer (some ⟨b0, 0, none⟩), .pointer (some ⟨b1, 0, none⟩), .pointer (some ⟨b2, 0, none⟩)] w fun e w' => e = .returned (.int .i64 (F x y)) ∧ Ext w w' := by
 have hm := mixed
 have hG := near_old
 have eg := hF.enters
 have HF := Lib.hid hF.call
 have q0 := World.block_lt_of_cell? w _ e0
 have q1 := World.block_lt_of_cell? w _ e1
 have q2 := World.block_lt_of_cell? w _ e2
 simp only at q0 q1 q2
 clear hF
 go_enter Tryz.func128, Tryz.ntmps128
 go_wp2
 refine wp_region_near (by assumption) (by kernel_rfl) ?_
 repeat (go_big_quiet_step ((go_at_fn g; exact near_call (HF.out _ _ _))))
 refine wpQuiet_nil ?_
 intro w1 hw1
 have hy := Ext.of_near hw1
 clear hw1
 go_wp2
 go_ret
 exact ⟨rfl, hy⟩

end Go.Proofs.YtlinhgannajfpaaGreatDoor

/- Contracts of the layer of points, on: join. -/
namespace Go.Proofs.YtlinhgannajfpaaGreatDoor
open Go Go.RowKit

def pv (x y z : Int) : Value := .agg #[.int .i64 x, .int .i64 y, .int .i64 z]
def joinV (a b : Bx) (n : Nat) (g : Nat → Nat) : Nat → Value
 | 0 => .pointer (some ⟨n, 0, none⟩)
 | 1 => pv a.lo.x a.lo.y a.lo.z
 | 2 => pv a.lo.x a.lo.y a.lo.z
 | 3 => .pointer (some ⟨n + 1, 0, none⟩)
 | 4 => pv b.lo.x b.lo.y b.lo.z
 | 5 => pv b.lo.x b.lo.y b.lo.z
 | 6 => .pointer (some ⟨n, 3, none⟩)
 | 7 => pv a.hi.x a.hi.y a.hi.z
 | 8 => pv a.hi.x a.hi.y a.hi.z
 | 9 => .pointer (some ⟨n + 1, 3, none⟩)
 | 10 => pv b.hi.x b.hi.y b.hi.z
 | 11 => pv b.hi.x b.hi.y b.hi.z
 | 12 => .pointer (some ⟨g 12, 0, none⟩)
 | 13 => .pointer (some ⟨g 13, 0, none⟩)
 | 14 => .pointer (some ⟨g 14, 0, none⟩)
 | 15 => .pointer (some ⟨g 15, 0, none⟩)
 | _ => undef
def joinC (a b : Bx) : Nat → List Value
 | 12 => [.int .i64 a.lo.x, .int .i64 a.lo.y, .int .i64 a.lo.z]
 | 13 => [.int .i64 b.lo.x, .int .i64 b.lo.y, .int .i64 b.lo.z]
 | 14 => [.int .i64 a.hi.x, .int .i64 a.hi.y, .int .i64 a.hi.z]
 | _ => [.int .i64 b.hi.x, .int .i64 b.hi.y, .int .i64 b.hi.z]
structure JoinR (a b : Bx) (W : World) (listed : Array Bool) (g : Nat → Nat) (w : World) : Prop where
 ext : Ext W w
 laid : ∀ k, 12 ≤ k → k < 16 → listed.getD k true = true → W.heap.size ≤ g k ∧ Arr w (g k) 102 (if listed.getD (k + 4) true = true then joinC a b k else [.int .i64 0, .int .i64 0, .int .i64 0])
 apart : ∀ k k', 12 ≤ k → k < 16 → 12 ≤ k' → k' < 16 → listed.getD k true = true → listed.getD k' true = true → k ≠ k' → g k ≠ g k'
 st : ∀ k, 12 ≤ k → k < 16 → listed.getD (k + 4) true = true → listed.getD k true = true

theorem JoinR.keep {a b : Bx} {W w w' : World} {listed : Array Bool} {g : Nat → Nat} (h : JoinR a b W listed g w) {i : Nat} (hi : i < 12) (hx : Ext w w') : JoinR a b W (listed.setIfInBounds i true) g w' := by
 have hset : ∀ k, 12 ≤ k → (listed.setIfInBounds i true).getD k true = listed.getD k true := fun k hk => getD_set_ne true (by omega)
 refine ⟨h.ext.trans hx, fun k h1 h2 h3 => ?_, fun k k' h1 h2 h3 h4 h5 h6 => ?_, fun k h1 h2 h3 => by rw [hset k h1]; rw [hset _ (by omega)] at h3; exact h.st k h1 h2 h3⟩
 · rw [hset k h1] at h3
   rw [hset _ (by omega)]
   obtain ⟨h4, h5⟩ := h.laid k h1 h2 h3
   exact ⟨h4, h5.ext hx⟩
 · rw [hset k h1] at h5
   rw [hset k' h3] at h6
   exact h.apart k k' h1 h2 h3 h4 h5 h6

theorem JoinR.lay {a b : Bx} {W w : World} {listed : Array Bool} {g : Nat → Nat} (h : JoinR a b W listed g w) {i : Nat} (hi : 12 ≤ i) (hi2 : i < 16) (hun : listed.getD i true = false) :
    JoinR a b W (listed.setIfInBounds i true) (fun k => if k = i then w.heap.size else g k) (w.alloc (.cells #[.int .i64 0, .int .i64 0, .int .i64 0] 102)) := by
 have hset : ∀ k, k ≠ i → (listed.setIfInBounds i true).getD k true = listed.getD k true := fun k hk => getD_set_ne true (by omega)
 have hno : ¬ listed.getD (i + 4) true = true := fun hh => by rw [h.st i hi hi2 hh] at hun; cases hun
 refine ⟨h.ext.alloc _, fun k h1 h2 h3 => ?_, fun k k' h1 h2 h3 h4 h5 h6 h7 => ?_, fun k h1 h2 h3 => ?_⟩
 · by_cases hk : k = i
   · subst hk
     rw [hset (k + 4) (by omega), if_neg hno]
     simp only [if_true]
     exact ⟨h.ext.size, Arr.new w _ _⟩
   · rw [hset k hk] at h3
     rw [hset (k + 4) (by omega)]
     simp only [if_neg hk]
     obtain ⟨q1, q2⟩ := h.laid k h1 h2 h3
     exact ⟨q1, q2.alloc _⟩
 · by_cases hk : k = i
   · rw [if_pos hk, if_neg (by omega)]
     rw [hset k' (by omega)] at h6
     have := (h.laid k' h3 h4 h6).2.lt
     omega
   · rw [if_neg hk]
     rw [hset k hk] at h5
     by_cases hk' : k' = i
     · rw [if_pos hk']
       have := (h.laid k h1 h2 h5).2.lt
       omega
     · rw [if_neg hk']
       rw [hset k' hk'] at h6
       exact h.apart k k' h1 h2 h3 h4 h5 h6 h7
 · rw [hset (k + 4) (by omega)] at h3
   have h4 := h.st k h1 h2 h3
   by_cases hk : k = i
   · subst hk; rw [h4] at hun; cases hun
   · rw [hset k hk]; exact h4

theorem JoinR.stored {a b : Bx} {W w : World} {listed : Array Bool} {g : Nat → Nat} (h : JoinR a b W listed g w) (k : Nat) (hk : 12 ≤ k) (hk2 : k < 16) (hl : listed.getD k true = true) {v0 v1 v2 : Value} (hc : joinC a b k = [v0, v1, v2])
    (hun : listed.getD (k + 4) true = false) : JoinR a b W (listed.setIfInBounds (k + 4) true) g (((w.setCell ⟨g k, 0, none⟩ v0).setCell ⟨g k, 1, none⟩ v1).setCell ⟨g k, 2, none⟩ v2) := by
 have hset : ∀ j, j ≠ k + 4 → (listed.setIfInBounds (k + 4) true).getD j true = listed.getD j true := fun j hj => getD_set_ne true (by omega)
 obtain ⟨q1, q2⟩ := h.laid k hk hk2 hl
 rw [if_neg (by rw [hun]; simp)] at q2
 refine ⟨((h.ext.setCell q1 _).setCell q1 _).setCell q1 _, fun j h1 h2 h3 => ?_, fun j j' h1 h2 h3 h4 h5 h6 h7 => ?_, fun j h1 h2 h3 => ?_⟩
 · rw [hset j (by omega)] at h3
   by_cases hj : j = k
   · subst hj
     refine ⟨q1, ?_⟩
     have hil : (j + 4) < listed.size := by
      by_cases h9 : j + 4 < listed.size
      · exact h9
      · simp [Array.getD, h9] at hun
     rw [if_pos (by simp [Array.getD, hil]), hc]
     exact ((q2.set 0 v0).set 1 v1).set 2 v2
   · rw [hset (j + 4) (by omega)]
     obtain ⟨p1, p2⟩ := h.laid j h1 h2 h3
     have hne := h.apart j k h1 h2 hk hk2 h3 hl hj
     exact ⟨p1, ((p2.other hne v0).other hne v1).other hne v2⟩
 · rw [hset j (by omega)] at h5
   rw [hset j' (by omega)] at h6
   exact h.apart j j' h1 h2 h3 h4 h5 h6 h7
 · rw [hset j (by omega)]
   by_cases hj : j = k
   · subst hj; exact hl
   · rw [hset (j + 4) (by omega)] at h3
     exact h.st j h1 h2 h3

set_option maxHeartbeats 2000000 in
theorem join_any (a b : Bx) (g1 g2 : FuncId) (F1 F2 : Int → Int → Int) (hF1 : Two Tryz.prog g1 F1) (hF2 : Two Tryz.prog g2 F2) (w : World) :
    Calls Tryz.prog 93 #[.agg #[.int .i64 a.lo.x, .int .i64 a.lo.y, .int .i64 a.lo.z, .int .i64 a.hi.x, .int .i64 a.hi.y, .int .i64 a.hi.z], .agg #[.int .i64 b.lo.x, .int .i64 b.lo.y, .int .i64 b.lo.z, .int .i64 b.hi.x, .int .i64 b.hi.y, .int .i64 b.hi.z], .func (.func g1) #[] #[], .func (.func g2) #[] #[]] w fun e w' =>
     e = .returned (.agg #[.int .i64 (F1 a.lo.x b.lo.x), .int .i64 (F1 a.lo.y b.lo.y), .int .i64 (F1 a.lo.z b.lo.z), .int .i64 (F2 a.hi.x b.hi.x), .int .i64 (F2 a.hi.y b.hi.y), .int .i64 (F2 a.hi.z b.hi.z)]) ∧ Ext w w' := by
 have hm := mixed
 have hG := near_old
 have HF1 := Lib.hid hF1
 have HF2 := Lib.hid hF2
 clear hF1 hF2
 go_enter Tryz.func93, Tryz.ntmps93
 go_wp2
 refine wp_region_slots (joinV a b w.heap.size) (JoinR a b) (fun _ => 0) (by assumption) (by kernel_rfl) (by kernel_rfl) ?_ ?_ ?_ ?_
 · intro i o ho
   have h := List.mem_of_getElem? ho
   clear ho
   simp only [List.mem_cons, List.not_mem_nil, or_false] at h
   rcases h with h | h | h | h | h | h | h | h | h | h | h | h | h | h | h | h | h | h | h | h <;> rw [h]
 · refine ⟨(Ext.refl _).drew, fun k _ _ hl => ?_, fun k k' _ _ _ _ hl => ?_, fun k _ _ hl => ?_⟩
   · simp [Array.getD] at hl; omega
   · simp [Array.getD] at hl; omega
   · simp [Array.getD] at hl; omega
 · intro listed g w' i o ho hun hdep hR b' K E0 E1 hK
   have hA := (((((Ext.refl (w.alloc _)).alloc _).alloc _).alloc _).alloc _).trans hR.ext
   have hB := ((((Ext.refl ((w.alloc _).alloc _)).alloc _).alloc _).alloc _).trans hR.ext
   have a0 := hA.box 0
   have a1 := hA.box 1
   have a2 := hA.box 2
   have a3 := hA.box 3
   have a4 := hA.box 4
   have a5 := hA.box 5
   have c0 := hB.box 0
   have c1 := hB.box 1
   have c2 := hB.box 2
   have c3 := hB.box 3
   have c4 := hB.box 4
   have c5 := hB.box 5
   have esz : ∀ o : Obj, (w.alloc o).heap.size = w.heap.size + 1 := fun o => by simp
   simp only [List.getElem?_toArray, List.getElem?_cons_zero, List.getElem?_cons_succ, esz] at a0 a1 a2 a3 a4 a5 c0 c1 c2 c3 c4 c5
   clear hA hB esz
   match i, ho with
   | 0, ho =>
     injection ho with ho
     subst ho
     have e4 := E0 4 (by kernel_rfl)
     simp only [List.getElem?_toArray, List.getElem?_cons_zero, List.getElem?_cons_succ] at e4
     have hK2 := hK g w' (hR.keep (i := 0) (by omega) (Ext.refl _)) (fun _ _ _ => rfl)
     clear hK hR hun ho HF1 HF2 hG hm E0 E1 hdep
     unfold Oper.wp
     simp [execOp, e4, go_sem]
     exact hK2
   | 1, ho =>
     injection ho with ho
     subst ho
     have d1 := hdep ⟨0, .data⟩ (by simp) rfl
     have e4 := E1 0 13 (by decide) (getD_up d1) rfl (by simp)
     simp only [joinV] at e4
     have hK2 := hK g w' (hR.keep (i := 1) (by omega) (Ext.refl _)) (fun _ _ _ => rfl)
     clear hK hR hun ho HF1 HF2 hG hm E0 E1 hdep
     unfold Oper.wp
     simp [execOp, go_sem, *]
     exact hK2
   | 2, ho =>
     injection ho with ho
     subst ho
     have d1 := hdep ⟨1, .data⟩ (by simp) rfl
     have e4 := E1 1 14 (by decide) (getD_up d1) rfl (by simp)
     simp only [joinV, pv] at e4
     have hK2 := fun w2 hx => hK g w2 (hR.keep (i := 2) (by omega) hx) (fun _ _ _ => rfl)
     clear hK hR hun ho HF1 HF2 hG hm E0 E1 hdep
     unfold Oper.wp
     simp [e4, go_sem]
     refine (list_any _ _ _ _).mono ?_
     rintro e w2 ⟨rfl, hx⟩
     exact hK2 w2 hx
   | 3, ho =>
     injection ho with ho
     subst ho
     have e4 := E0 5 (by kernel_rfl)
     simp only [List.getElem?_toArray, List.getElem?_cons_zero, List.getElem?_cons_succ] at e4
     have hK2 := hK g w' (hR.keep (i := 3) (by omega) (Ext.refl _)) (fun _ _ _ => rfl)
     clear hK hR hun ho HF1 HF2 hG hm E0 E1 hdep
     unfold Oper.wp
     simp [execOp, e4, go_sem]
     exact hK2
   | 4, ho =>
     injection ho with ho
     subst ho
     have d1 := hdep ⟨3, .data⟩ (by simp) rfl
     have e4 := E1 3 16 (by decide) (getD_up d1) rfl (by simp)
     simp only [joinV] at e4
     have hK2 := hK g w' (hR.keep (i := 4) (by omega) (Ext.refl _)) (fun _ _ _ => rfl)
     clear hK hR hun ho HF1 HF2 hG hm E0 E1 hdep
     unfold Oper.wp
     simp [execOp, go_sem, *]
     exact hK2
   | 5, ho =>
     injection ho with ho
     subst ho
     have d1 := hdep ⟨4, .data⟩ (by simp) rfl
     have e4 := E1 4 17 (by decide) (getD_up d1) rfl (by simp)
     simp only [joinV, pv] at e4
     have hK2 := fun w2 hx => hK g w2 (hR.keep (i := 5) (by omega) hx) (fun _ _ _ => rfl)
     clear hK hR hun ho HF1 HF2 hG hm E0 E1 hdep
     unfold Oper.wp
     simp [e4, go_sem]
     refine (list_any _ _ _ _).mono ?_
     rintro e w2 ⟨rfl, hx⟩
     exact hK2 w2 hx
   | 6, ho =>
     injection ho with ho
     subst ho
     have e4 := E0 4 (by kernel_rfl)
     simp only [List.getElem?_toArray, List.getElem?_cons_zero, List.getElem?_cons_succ] at e4
     have hK2 := hK g w' (hR.keep (i := 6) (by omega) (Ext.refl _)) (fun _ _ _ => rfl)
     clear hK hR hun ho HF1 HF2 hG hm E0 E1 hdep
     unfold Oper.wp
     simp [execOp, e4, go_sem]
     exact hK2
   | 7, ho =>
     injection ho with ho
     subst ho
     have d1 := hdep ⟨6, .data⟩ (by simp) rfl
     have e4 := E1 6 19 (by decide) (getD_up d1) rfl (by simp)
     simp only [joinV] at e4
     have hK2 := hK g w' (hR.keep (i := 7) (by omega) (Ext.refl _)) (fun _ _ _ => rfl)
     clear hK hR hun ho HF1 HF2 hG hm E0 E1 hdep
     unfold Oper.wp
     simp [execOp, go_sem, *]
     exact hK2
   | 8, ho =>
     injection ho with ho
     subst ho
     have d1 := hdep ⟨7, .data⟩ (by simp) rfl
     have e4 := E1 7 20 (by decide) (getD_up d1) rfl (by simp)
     simp only [joinV, pv] at e4
     have hK2 := fun w2 hx => hK g w2 (hR.keep (i := 8) (by omega) hx) (fun _ _ _ => rfl)
     clear hK hR hun ho HF1 HF2 hG hm E0 E1 hdep
     unfold Oper.wp
     simp [e4, go_sem]
     refine (list_any _ _ _ _).mono ?_
     rintro e w2 ⟨rfl, hx⟩
     exact hK2 w2 hx
   | 9, ho =>
     injection ho with ho
     subst ho
     have e4 := E0 5 (by kernel_rfl)
     simp only [List.getElem?_toArray, List.getElem?_cons_zero, List.getElem?_cons_succ] at e4
     have hK2 := hK g w' (hR.keep (i := 9) (by omega) (Ext.refl _)) (fun _ _ _ => rfl)
     clear hK hR hun ho HF1 HF2 hG hm E0 E1 hdep
     unfold Oper.wp
     simp [execOp, e4, go_sem]
     exact hK2
   | 10, ho =>
     injection ho with ho
     subst ho
     have d1 := hdep ⟨9, .data⟩ (by simp) rfl
     have e4 := E1 9 22 (by decide) (getD_up d1) rfl (by simp)
     simp only [joinV] at e4
     have hK2 := hK g w' (hR.keep (i := 10) (by omega) (Ext.refl _)) (fun _ _ _ => rfl)
     clear hK hR hun ho HF1 HF2 hG hm E0 E1 hdep
     unfold Oper.wp
     simp [execOp, go_sem, *]
     exact hK2
   | 11, ho =>
     injection ho with ho
     subst ho
     have d1 := hdep ⟨10, .data⟩ (by simp) rfl
     have e4 := E1 10 23 (by decide) (getD_up d1) rfl (by simp)
     simp only [joinV, pv] at e4
     have hK2 := fun w2 hx => hK g w2 (hR.keep (i := 11) (by omega) hx) (fun _ _ _ => rfl)
     clear hK hR hun ho HF1 HF2 hG hm E0 E1 hdep
     unfold Oper.wp
     simp [e4, go_sem]
     refine (list_any _ _ _ _).mono ?_
     rintro e w2 ⟨rfl, hx⟩
     exact hK2 w2 hx
   | 12, ho =>
     injection ho with ho
     subst ho
     have hK2 := hK _ _ (hR.lay (i := 12) (by omega) (by omega) hun) (fun j hj hl => by
      have hne : j ≠ 12 := fun e => by subst e; rw [hl] at hun; cases hun
      clear hK ho hdep E0 E1
      unfold joinV
      split <;> first | rfl | simp at hne ⊢)
     clear hK hR hun ho HF1 HF2 hG hm E0 E1 hdep
     unfold Oper.wp
     simp [execOp, go_sem]
     exact hK2
   | 13, ho =>
     injection ho with ho
     subst ho
     have hK2 := hK _ _ (hR.lay (i := 13) (by omega) (by omega) hun) (fun j hj hl => by
      have hne : j ≠ 13 := fun e => by subst e; rw [hl] at hun; cases hun
      clear hK ho hdep E0 E1
      unfold joinV
      split <;> first | rfl | simp at hne ⊢)
     clear hK hR hun ho HF1 HF2 hG hm E0 E1 hdep
     unfold Oper.wp
     simp [execOp, go_sem]
     exact hK2
   | 14, ho =>
     injection ho with ho
     subst ho
     have hK2 := hK _ _ (hR.lay (i := 14) (by omega) (by omega) hun) (fun j hj hl => by
      have hne : j ≠ 14 := fun e => by subst e; rw [hl] at hun; cases hun
      clear hK ho hdep E0 E1
      unfold joinV
      split <;> first | rfl | simp at hne ⊢)
     clear hK hR hun ho HF1 HF2 hG hm E0 E1 hdep
     unfold Oper.wp
     simp [execOp, go_sem]
     exact hK2
   | 15, ho =>
     injection ho with ho
     subst ho
     have hK2 := hK _ _ (hR.lay (i := 15) (by omega) (by omega) hun) (fun j hj hl => by
      have hne : j ≠ 15 := fun e => by subst e; rw [hl] at hun; cases hun
      clear hK ho hdep E0 E1
      unfold joinV
      split <;> first | rfl | simp at hne ⊢)
     clear hK hR hun ho HF1 HF2 hG hm E0 E1 hdep
     unfold Oper.wp
     simp [execOp, go_sem]
     exact hK2
   | 16, ho =>
     injection ho with ho
     subst ho
     have d1 := getD_up (hdep ⟨12, .data⟩ (by simp) rfl)
     have d2 := getD_up (hdep ⟨2, .data⟩ (by simp) rfl)
     have e4 := E1 12 9 (by decide) d1 rfl (by simp)
     have e5 := E1 2 15 (by decide) d2 rfl (by simp)
     simp only [joinV, pv] at e4 e5
     obtain ⟨_, hz⟩ := hR.laid 12 (by omega) (by omega) d1
     rw [if_neg (by rw [hun]; simp)] at hz
     have z0 := hz.cell 0
     have z1 := hz.cell 1
     have z2 := hz.cell 2
     have f0 := hz.frozen 0
     have f1 := hz.frozen 1
     have f2 := hz.frozen 2
     have zl := hz.lt
     simp only [List.getElem?_cons_zero, List.getElem?_cons_succ] at z0 z1 z2
     have hK2 := hK g _ (hR.stored 12 (by omega) (by omega) d1 rfl hun) (fun _ _ _ => rfl)
     clear hK hR ho HF1 HF2 hG hm E0 E1 hdep hz a0 a1 a2 a3 a4 a5 c0 c1 c2 c3 c4 c5
     unfold Oper.wp
     simp [execOp, go_sem, *]
     exact hK2
   | 17, ho =>
     injection ho with ho
     subst ho
     have d1 := getD_up (hdep ⟨13, .data⟩ (by simp) rfl)
     have d2 := getD_up (hdep ⟨5, .data⟩ (by simp) rfl)
     have e4 := E1 13 10 (by decide) d1 rfl (by simp)
     have e5 := E1 5 18 (by decide) d2 rfl (by simp)
     simp only [joinV, pv] at e4 e5
     obtain ⟨_, hz⟩ := hR.laid 13 (by omega) (by omega) d1
     rw [if_neg (by rw [hun]; simp)] at hz
     have z0 := hz.cell 0
     have z1 := hz.cell 1
     have z2 := hz.cell 2
     have f0 := hz.frozen 0
     have f1 := hz.frozen 1
     have f2 := hz.frozen 2
     have zl := hz.lt
     simp only [List.getElem?_cons_zero, List.getElem?_cons_succ] at z0 z1 z2
     have hK2 := hK g _ (hR.stored 13 (by omega) (by omega) d1 rfl hun) (fun _ _ _ => rfl)
     clear hK hR ho HF1 HF2 hG hm E0 E1 hdep hz a0 a1 a2 a3 a4 a5 c0 c1 c2 c3 c4 c5
     unfold Oper.wp
     simp [execOp, go_sem, *]
     exact hK2
   | 18, ho =>
     injection ho with ho
     subst ho
     have d1 := getD_up (hdep ⟨14, .data⟩ (by simp) rfl)
     have d2 := getD_up (hdep ⟨8, .data⟩ (by simp) rfl)
     have e4 := E1 14 11 (by decide) d1 rfl (by simp)
     have e5 := E1 8 21 (by decide) d2 rfl (by simp)
     simp only [joinV, pv] at e4 e5
     obtain ⟨_, hz⟩ := hR.laid 14 (by omega) (by omega) d1
     rw [if_neg (by rw [hun]; simp)] at hz
     have z0 := hz.cell 0
     have z1 := hz.cell 1
     have z2 := hz.cell 2
     have f0 := hz.frozen 0
     have f1 := hz.frozen 1
     have f2 := hz.frozen 2
     have zl := hz.lt
     simp only [List.getElem?_cons_zero, List.getElem?_cons_succ] at z0 z1 z2
     have hK2 := hK g _ (hR.stored 14 (by omega) (by omega) d1 rfl hun) (fun _ _ _ => rfl)
     clear hK hR ho HF1 HF2 hG hm E0 E1 hdep hz a0 a1 a2 a3 a4 a5 c0 c1 c2 c3 c4 c5
     unfold Oper.wp
     simp [execOp, go_sem, *]
     exact hK2
   | 19, ho =>
     injection ho with ho
     subst ho
     have d1 := getD_up (hdep ⟨15, .data⟩ (by simp) rfl)
     have d2 := getD_up (hdep ⟨11, .data⟩ (by simp) rfl)
     have e4 := E1 15 12 (by decide) d1 rfl (by simp)
     have e5 := E1 11 24 (by decide) d2 rfl (by simp)
     simp only [joinV, pv] at e4 e5
     obtain ⟨_, hz⟩ := hR.laid 15 (by omega) (by omega) d1
     rw [if_neg (by rw [hun]; simp)] at hz
     have z0 := hz.cell 0
     have z1 := hz.cell 1
     have z2 := hz.cell 2
     have f0 := hz.frozen 0
     have f1 := hz.frozen 1
     have f2 := hz.frozen 2
     have zl := hz.lt
     simp only [List.getElem?_cons_zero, List.getElem?_cons_succ] at z0 z1 z2
     have hK2 := hK g _ (hR.stored 15 (by omega) (by omega) d1 rfl hun) (fun _ _ _ => rfl)
     clear hK hR ho HF1 HF2 hG hm E0 E1 hdep hz a0 a1 a2 a3 a4 a5 c0 c1 c2 c3 c4 c5
     unfold Oper.wp
     simp [execOp, go_sem, *]
     exact hK2
   | n + 20, ho => simp at ho
 · intro listed g w' hall hR
   have hl : ∀ k, k < 20 → listed.getD k true = true := fun k hk => hall k hk
   rw [fill_done hall]
   clear hall
   obtain ⟨p12, q12⟩ := hR.laid 12 (by omega) (by omega) (hl 12 (by omega))
   obtain ⟨p13, q13⟩ := hR.laid 13 (by omega) (by omega) (hl 13 (by omega))
   obtain ⟨p14, q14⟩ := hR.laid 14 (by omega) (by omega) (hl 14 (by omega))
   obtain ⟨p15, q15⟩ := hR.laid 15 (by omega) (by omega) (hl 15 (by omega))
   rw [if_pos (hl 16 (by omega))] at q12
   rw [if_pos (hl 17 (by omega))] at q13
   rw [if_pos (hl 18 (by omega))] at q14
   rw [if_pos (hl 19 (by omega))] at q15
   have hx := hR.ext
   clear hR hl
   simp only [List.length_cons, List.length_nil, fillAllN, dstOf, joinV, pv, Act.put, List.getElem?_toArray, List.getElem?_cons_zero, List.getElem?_cons_succ, Option.bind_some, joinC] at q12 q13 q14 q15 p12 p13 p14 p15 ⊢
   have hC := ((Ext.refl (((w.alloc _).alloc _).alloc _)).alloc _).alloc _ |>.trans hx
   have hD := ((Ext.refl ((((w.alloc _).alloc _).alloc _).alloc _)).alloc _).trans hx
   have hE := (Ext.refl (((((w.alloc _).alloc _).alloc _).alloc _).alloc _)).trans hx
   have hx0 := (((((Ext.refl w).alloc _).alloc _).alloc _).alloc _).alloc _ |>.trans hx
   have e1 := hC.box 0
   have e2 := hD.box 0
   have r0 := hE.box 0
   have r1 := hE.box 1
   have r2 := hE.box 2
   have r3 := hE.box 3
   have r4 := hE.box 4
   have r5 := hE.box 5
   have z1 := hx.size
   have esz : ∀ (w : World) (o : Obj), (w.alloc o).heap.size = w.heap.size + 1 := fun w o => by simp
   simp only [esz, List.getElem?_toArray, List.getElem?_cons_zero, List.getElem?_cons_succ] at e1 e2 r0 r1 r2 r3 r4 r5 p12 p13 p14 p15 z1
   have hA : Arr w' (w.heap.size + 1 + 1 + 1 + 1) 27 [.int .i64 0, .int .i64 0, .int .i64 0, .int .i64 0, .int .i64 0, .int .i64 0] := by
    have h := (Arr.new ((((w.alloc _).alloc _).alloc _).alloc _) 27 [.int .i64 0, .int .i64 0, .int .i64 0, .int .i64 0, .int .i64 0, .int .i64 0]).ext hx
    simpa only [esz] using h
   generalize g 12 = n12 at *
   generalize g 13 = n13 at *
   generalize g 14 = n14 at *
   generalize g 15 = n15 at *
   clear hC hD hE hx
   have c1 := Lib.hid (fun (k : Nat) (w2 : World) (x : Ext w' w2) => (And.intro ((x.cell (World.block_lt_of_cell? w' _ e1)).trans e1) (And.intro ((q12.ext x).cell k) ((q13.ext x).cell k))))
   have c2 := Lib.hid (fun (k : Nat) (w2 : World) (x : Ext w' w2) => (And.intro ((x.cell (World.block_lt_of_cell? w' _ e2)).trans e2) (And.intro ((q14.ext x).cell k) ((q15.ext x).cell k))))
   have HA := Lib.hid hA
   have HX := Lib.hid hx0
   have h1 := each_any 127 #[.pointer (some ⟨w.heap.size + 1 + 1, 0, none⟩), .pointer (some ⟨n12, 0, none⟩), .pointer (some ⟨n13, 0, none⟩)] (F1 a.lo.x b.lo.x) (F1 a.lo.y b.lo.y) (F1 a.lo.z b.lo.z) w' (fun _ _ => by kernel_rfl)
    (fun w2 x => join1_any 0 (by omega) g1 F1 HF1.out _ _ _ _ _ w2 (c1.out 0 w2 x).1 (c1.out 0 w2 x).2.1 (c1.out 0 w2 x).2.2)
    (fun w2 x => join1_any 1 (by omega) g1 F1 HF1.out _ _ _ _ _ w2 (c1.out 1 w2 x).1 (c1.out 1 w2 x).2.1 (c1.out 1 w2 x).2.2)
    (fun w2 x => join1_any 2 (by omega) g1 F1 HF1.out _ _ _ _ _ w2 (c1.out 2 w2 x).1 (c1.out 2 w2 x).2.1 (c1.out 2 w2 x).2.2)
   have h2 := fun (w1 : World) (x1 : Ext w' w1) => each_any 128 #[.pointer (some ⟨w.heap.size + 1 + 1 + 1, 0, none⟩), .pointer (some ⟨n14, 0, none⟩), .pointer (some ⟨n15, 0, none⟩)] (F2 a.hi.x b.hi.x) (F2 a.hi.y b.hi.y) (F2 a.hi.z b.hi.z) w1 (fun _ _ => by kernel_rfl)
    (fun w2 x => join2_any 0 (by omega) g2 F2 HF2.out _ _ _ _ _ w2 (c2.out 0 w2 (x1.trans x)).1 (c2.out 0 w2 (x1.trans x)).2.1 (c2.out 0 w2 (x1.trans x)).2.2)
    (fun w2 x => join2_any 1 (by omega) g2 F2 HF2.out _ _ _ _ _ w2 (c2.out 1 w2 (x1.trans x)).1 (c2.out 1 w2 (x1.trans x)).2.1 (c2.out 1 w2 (x1.trans x)).2.2)
    (fun w2 x => join2_any 2 (by omega) g2 F2 HF2.out _ _ _ _ _ w2 (c2.out 2 w2 (x1.trans x)).1 (c2.out 2 w2 (x1.trans x)).2.1 (c2.out 2 w2 (x1.trans x)).2.2)
   have H1 := Lib.hid h1
   have H2 := Lib.hid h2
   clear h1 h2 c1 c2 e1 e2 r0 r1 r2 r3 r4 r5 q12 q13 q14 q15 hA hx0 HF1 HF2 hG hm esz
   simp
   go_wp2_with fail
   refine H1.out.mono ?_
   rintro e w1 ⟨rfl, x1⟩
   go_wp2_with fail
   refine (H2.out _ x1).mono ?_
   rintro e w2 ⟨rfl, x2⟩
   have hA := HA.out.ext (x1.trans x2)
   have d0 := hA.cell 0
   have d1 := hA.cell 1
   have d2 := hA.cell 2
   have d3 := hA.cell 3
   have d4 := hA.cell 4
   have d5 := hA.cell 5
   have f0 := hA.frozen 0
   have f1 := hA.frozen 1
   have f2 := hA.frozen 2
   have f3 := hA.frozen 3
   have f4 := hA.frozen 4
   have f5 := hA.frozen 5
   have zl := hA.lt
   simp only [List.getElem?_cons_zero, List.getElem?_cons_succ] at d0 d1 d2 d3 d4 d5
   clear hA
   go_wp2_with fail
   exact bodyPost_ret (v := .agg #[.int .i64 (F1 a.lo.x b.lo.x), .int .i64 (F1 a.lo.y b.lo.y), .int .i64 (F1 a.lo.z b.lo.z), .int .i64 (F2 a.hi.x b.hi.x), .int .i64 (F2 a.hi.y b.hi.y), .int .i64 (F2 a.hi.z b.hi.z)]) (by simp [results, Tryz.results93, go_sem, *]) rfl ⟨rfl, ((((((HX.out.trans (x1.trans x2)).setCell (by simp; omega) _).setCell (by simp; omega) _).setCell (by simp; omega) _).setCell (by simp; omega) _).setCell (by simp; omega) _).setCell (by simp; omega) _⟩
end Go.Proofs.YtlinhgannajfpaaGreatDoor

/- Contracts of the layer of points, on: Intersect, Add, Scale, Sub; and the reference's. -/
namespace Go.Proofs.YtlinhgannajfpaaGreatDoor
open Go Go.RowKit

def zeroPt : Pt := ⟨0, 0, 0⟩
def zeroBx : Bx := ⟨⟨0, 0, 0⟩, ⟨0, 0, 0⟩⟩
def meetB (a b : Bx) : Bx := ⟨⟨max a.lo.x b.lo.x, max a.lo.y b.lo.y, max a.lo.z b.lo.z⟩, ⟨min a.hi.x b.hi.x, min a.hi.y b.hi.y, min a.hi.z b.hi.z⟩⟩
def interB (a b : Bx) : Bx := if emptyB (meetB a b) then zeroBx else meetB a b

set_option maxHeartbeats 1000000 in
theorem Intersect_any (a b : Bx) (w : World) :
    Calls Tryz.prog 59 #[.agg #[.int .i64 a.lo.x, .int .i64 a.lo.y, .int .i64 a.lo.z, .int .i64 a.hi.x, .int .i64 a.hi.y, .int .i64 a.hi.z], .agg #[.int .i64 b.lo.x, .int .i64 b.lo.y, .int .i64 b.lo.z, .int .i64 b.hi.x, .int .i64 b.hi.y, .int .i64 b.hi.z]] w fun e w' => e = .returned (.agg #[.int .i64 (interB a b).lo.x, .int .i64 (interB a b).lo.y, .int .i64 (interB a b).lo.z, .int .i64 (interB a b).hi.x, .int .i64 (interB a b).hi.y, .int .i64 (interB a b).hi.z]) ∧ Ext w w' := by
 have hc := fun w' : World => Empty_any (meetB a b) w'
 unfold interB
 cases hq : emptyB (meetB a b)
 · rw [hq] at hc
   have HC := Lib.hid hc
   clear hc hq
   simp only [Bool.false_eq_true, if_false]
   go_enter Tryz.func59, Tryz.ntmps59
   go_wp2_with (first | (go_at_call 93; refine (join_any a b _ _ max min two_greater two_lesser _).mono ?_; rintro e wx ⟨rfl, xx⟩; obtain ⟨xc, xf, xl, xe, xn, xm⟩ := xx.look; have xz := xx.size; (try simp only [World.size_alloc_] at xz); (try (have qh := xx.one (b := w.heap.size) (by (try simp only [World.size_alloc_]); omega); obtain ⟨qc, qf, ql, qe, qn, qm⟩ := qh)); (try (have qh := xx.one (b := w.heap.size + 1) (by (try simp only [World.size_alloc_]); omega); obtain ⟨qc, qf, ql, qe, qn, qm⟩ := qh)); (try (have qh := xx.one (b := w.heap.size + 1 + 1) (by (try simp only [World.size_alloc_]); omega); obtain ⟨qc, qf, ql, qe, qn, qm⟩ := qh)); (try (have qh := xx.one (b := w.heap.size + 1 + 1 + 1) (by (try simp only [World.size_alloc_]); omega); obtain ⟨qc, qf, ql, qe, qn, qm⟩ := qh))) | (go_at_call 49; refine (HC.out _).mono ?_; rintro e wx ⟨rfl, xx⟩; obtain ⟨xc, xf, xl, xe, xn, xm⟩ := xx.look; have xz := xx.size; (try simp only [World.size_alloc_] at xz); (try (have qh := xx.one (b := w.heap.size) (by (try simp only [World.size_alloc_]); omega); obtain ⟨qc, qf, ql, qe, qn, qm⟩ := qh)); (try (have qh := xx.one (b := w.heap.size + 1) (by (try simp only [World.size_alloc_]); omega); obtain ⟨qc, qf, ql, qe, qn, qm⟩ := qh)); (try (have qh := xx.one (b := w.heap.size + 1 + 1) (by (try simp only [World.size_alloc_]); omega); obtain ⟨qc, qf, ql, qe, qn, qm⟩ := qh)); (try (have qh := xx.one (b := w.heap.size + 1 + 1 + 1) (by (try simp only [World.size_alloc_]); omega); obtain ⟨qc, qf, ql, qe, qn, qm⟩ := qh))))
   refine bodyPost_ret (v := .agg #[.int .i64 (meetB a b).lo.x, .int .i64 (meetB a b).lo.y, .int .i64 (meetB a b).lo.z, .int .i64 (meetB a b).hi.x, .int .i64 (meetB a b).hi.y, .int .i64 (meetB a b).hi.z]) ?_ rfl ?_
   · simp (maxDischargeDepth := 9) only [results, Tryz.results59]
     first
      | (go_simp; done)
      | (go_simp; simp [meetB]; done)
      | (simp (maxDischargeDepth := 9) [go_sem, *]; done)
      | (simp (maxDischargeDepth := 9) [go_sem, *]; simp [meetB])
   · exact ⟨rfl, byX⟩
 · rw [hq] at hc
   have HC := Lib.hid hc
   clear hc hq
   simp only [if_true]
   go_enter Tryz.func59, Tryz.ntmps59
   go_wp2_with (first | (go_at_call 93; refine (join_any a b _ _ max min two_greater two_lesser _).mono ?_; rintro e wx ⟨rfl, xx⟩; obtain ⟨xc, xf, xl, xe, xn, xm⟩ := xx.look; have xz := xx.size; (try simp only [World.size_alloc_] at xz); (try (have qh := xx.one (b := w.heap.size) (by (try simp only [World.size_alloc_]); omega); obtain ⟨qc, qf, ql, qe, qn, qm⟩ := qh)); (try (have qh := xx.one (b := w.heap.size + 1) (by (try simp only [World.size_alloc_]); omega); obtain ⟨qc, qf, ql, qe, qn, qm⟩ := qh)); (try (have qh := xx.one (b := w.heap.size + 1 + 1) (by (try simp only [World.size_alloc_]); omega); obtain ⟨qc, qf, ql, qe, qn, qm⟩ := qh)); (try (have qh := xx.one (b := w.heap.size + 1 + 1 + 1) (by (try simp only [World.size_alloc_]); omega); obtain ⟨qc, qf, ql, qe, qn, qm⟩ := qh))) | (go_at_call 49; refine (HC.out _).mono ?_; rintro e wx ⟨rfl, xx⟩; obtain ⟨xc, xf, xl, xe, xn, xm⟩ := xx.look; have xz := xx.size; (try simp only [World.size_alloc_] at xz); (try (have qh := xx.one (b := w.heap.size) (by (try simp only [World.size_alloc_]); omega); obtain ⟨qc, qf, ql, qe, qn, qm⟩ := qh)); (try (have qh := xx.one (b := w.heap.size + 1) (by (try simp only [World.size_alloc_]); omega); obtain ⟨qc, qf, ql, qe, qn, qm⟩ := qh)); (try (have qh := xx.one (b := w.heap.size + 1 + 1) (by (try simp only [World.size_alloc_]); omega); obtain ⟨qc, qf, ql, qe, qn, qm⟩ := qh)); (try (have qh := xx.one (b := w.heap.size + 1 + 1 + 1) (by (try simp only [World.size_alloc_]); omega); obtain ⟨qc, qf, ql, qe, qn, qm⟩ := qh))))
   refine bodyPost_ret (v := .agg #[.int .i64 zeroBx.lo.x, .int .i64 zeroBx.lo.y, .int .i64 zeroBx.lo.z, .int .i64 zeroBx.hi.x, .int .i64 zeroBx.hi.y, .int .i64 zeroBx.hi.z]) ?_ rfl ?_
   · simp (maxDischargeDepth := 9) only [results, Tryz.results59]
     first
      | (go_simp; done)
      | (go_simp; simp [zeroBx]; done)
      | (simp (maxDischargeDepth := 9) [go_sem, *]; done)
      | (simp (maxDischargeDepth := 9) [go_sem, *]; simp [zeroBx])
   · exact ⟨rfl, byX⟩

def addP (p q : Pt) : Pt := ⟨wrap64 (p.x + q.x), wrap64 (p.y + q.y), wrap64 (p.z + q.z)⟩
def subP (p q : Pt) : Pt := ⟨wrap64 (p.x - q.x), wrap64 (p.y - q.y), wrap64 (p.z - q.z)⟩
def scaleP (p : Pt) (n : Int) : Pt := ⟨wrap64 (n * p.x), wrap64 (n * p.y), wrap64 (n * p.z)⟩
set_option maxHeartbeats 1000000 in
theorem Add_any (p q : Pt) (w : World) :
    Calls Tryz.prog 56 #[.agg #[.int .i64 p.x, .int .i64 p.y, .int .i64 p.z], .agg #[.int .i64 q.x, .int .i64 q.y, .int .i64 q.z]] w fun e w' => e = .returned (.agg #[.int .i64 (addP p q).x, .int .i64 (addP p q).y, .int .i64 (addP p q).z]) ∧ Ext w w' := by
 go_enter Tryz.func56, Tryz.ntmps56
 go_wp2
 refine bodyPost_ret (v := .agg #[.int .i64 (addP p q).x, .int .i64 (addP p q).y, .int .i64 (addP p q).z]) ?_ rfl ?_
 · simp (maxDischargeDepth := 9) only [results, Tryz.results56]
   first
    | (go_simp; done)
    | (go_simp; simp [addP]; done)
    | (simp (maxDischargeDepth := 9) [go_sem, *]; done)
    | (simp (maxDischargeDepth := 9) [go_sem, *]; simp [addP])
 · exact ⟨rfl, byX⟩
set_option maxHeartbeats 1000000 in
theorem Scale_any (p : Pt) (n : Int) (w : World) :
    Calls Tryz.prog 86 #[.agg #[.int .i64 p.x, .int .i64 p.y, .int .i64 p.z], .int .i64 n] w fun e w' => e = .returned (.agg #[.int .i64 (scaleP p n).x, .int .i64 (scaleP p n).y, .int .i64 (scaleP p n).z]) ∧ Ext w w' := by
 go_enter Tryz.func86, Tryz.ntmps86
 go_wp2
 refine bodyPost_ret (v := .agg #[.int .i64 (scaleP p n).x, .int .i64 (scaleP p n).y, .int .i64 (scaleP p n).z]) ?_ rfl ?_
 · simp (maxDischargeDepth := 9) only [results, Tryz.results86]
   first
    | (go_simp; done)
    | (go_simp; simp [scaleP]; done)
    | (simp (maxDischargeDepth := 9) [go_sem, *]; done)
    | (simp (maxDischargeDepth := 9) [go_sem, *]; simp [scaleP])
 · exact ⟨rfl, byX⟩
set_option maxHeartbeats 1000000 in
theorem Sub_any (p q : Pt) (w : World) :
    Calls Tryz.prog 46 #[.agg #[.int .i64 p.x, .int .i64 p.y, .int .i64 p.z], .agg #[.int .i64 q.x, .int .i64 q.y, .int .i64 q.z]] w fun e w' => e = .returned (.agg #[.int .i64 (addP p (scaleP q (-1))).x, .int .i64 (addP p (scaleP q (-1))).y, .int .i64 (addP p (scaleP q (-1))).z]) ∧ Ext w w' := by
 have hm := mixed
 have hG := near_old
 go_enter Tryz.func46, Tryz.ntmps46
 go_wp2
 refine wp_region_near_tail 4 (by assumption) (by kernel_rfl) ?_
 simp only [List.take_succ_cons, List.take_zero, List.drop_succ_cons, List.drop_zero]
 repeat (go_big_quiet_step ((first | (go_at_call 86; exact near_call (Scale_any q (-1) _)) | (go_at_call 56; exact near_call (Add_any p (scaleP q (-1)) _)))))
 refine wpQuiet_nil ?_
 intro w1 hw1
 have hy := Ext.of_near hw1
 clear hw1
 obtain ⟨xc, xf, xl, xe, xn, xm⟩ := hy.look
 go_wp2
 refine bodyPost_ret (v := .agg #[.int .i64 (addP p (scaleP q (-1))).x, .int .i64 (addP p (scaleP q (-1))).y, .int .i64 (addP p (scaleP q (-1))).z]) ?_ rfl ?_
 · simp (maxDischargeDepth := 9) only [results, Tryz.results46]
   first
    | (go_simp; done)
    | (go_simp; simp; done)
    | (simp (maxDischargeDepth := 9) [go_sem, *]; done)
    | (simp (maxDischargeDepth := 9) [go_sem, *]; simp)
 · exact ⟨rfl, byX⟩
set_option maxHeartbeats 1000000 in
theorem refSub_any (p q : Pt) (w : World) :
    Calls Tryz.prog 37 #[.agg #[.int .i64 p.x, .int .i64 p.y, .int .i64 p.z], .agg #[.int .i64 q.x, .int .i64 q.y, .int .i64 q.z]] w fun e w' => e = .returned (.agg #[.int .i64 (subP p q).x, .int .i64 (subP p q).y, .int .i64 (subP p q).z]) ∧ Ext w w' := by
 go_enter Tryz.func37, Tryz.ntmps37
 go_wp2
 refine bodyPost_ret (v := .agg #[.int .i64 (subP p q).x, .int .i64 (subP p q).y, .int .i64 (subP p q).z]) ?_ rfl ?_
 · simp (maxDischargeDepth := 9) only [results, Tryz.results37]
   first
    | (go_simp; done)
    | (go_simp; simp [subP]; done)
    | (simp (maxDischargeDepth := 9) [go_sem, *]; done)
    | (simp (maxDischargeDepth := 9) [go_sem, *]; simp [subP])
 · exact ⟨rfl, byX⟩
set_option maxHeartbeats 1000000 in
theorem refCube_any (n : Int) (w : World) :
    Calls Tryz.prog 33 #[.int .i64 n] w fun e w' => e = .returned (.agg #[.int .i64 0, .int .i64 0, .int .i64 0, .int .i64 n, .int .i64 n, .int .i64 n]) ∧ Ext w w' := by
 go_enter Tryz.func33, Tryz.ntmps33
 go_wp2
 refine bodyPost_ret (v := .agg #[.int .i64 0, .int .i64 0, .int .i64 0, .int .i64 n, .int .i64 n, .int .i64 n]) ?_ rfl ?_
 · simp (maxDischargeDepth := 9) only [results, Tryz.results33]
   first
    | (go_simp; done)
    | (go_simp; simp; done)
    | (simp (maxDischargeDepth := 9) [go_sem, *]; done)
    | (simp (maxDischargeDepth := 9) [go_sem, *]; simp)
 · exact ⟨rfl, byX⟩
set_option maxHeartbeats 1000000 in
theorem reflist_any (p : Pt) (w : World) :
    Calls Tryz.prog 97 #[.agg #[.int .i64 p.x, .int .i64 p.y, .int .i64 p.z]] w fun e w' => e = .returned (.agg #[.int .i64 p.x, .int .i64 p.y, .int .i64 p.z]) ∧ Ext w w' := by
 go_enter Tryz.func97, Tryz.ntmps97
 go_wp2
 refine bodyPost_ret (v := .agg #[.int .i64 p.x, .int .i64 p.y, .int .i64 p.z]) ?_ rfl ?_
 · simp (maxDischargeDepth := 9) only [results, Tryz.results97]
   first
    | (go_simp; done)
    | (go_simp; simp; done)
    | (simp (maxDischargeDepth := 9) [go_sem, *]; done)
    | (simp (maxDischargeDepth := 9) [go_sem, *]; simp)
 · exact ⟨rfl, byX⟩
set_option maxHeartbeats 1000000 in
theorem refof_any (p : Pt) (w : World) :
    Calls Tryz.prog 98 #[.agg #[.int .i64 p.x, .int .i64 p.y, .int .i64 p.z]] w fun e w' => e = .returned (.agg #[.int .i64 p.x, .int .i64 p.y, .int .i64 p.z]) ∧ Ext w w' := by
 go_enter Tryz.func98, Tryz.ntmps98
 go_wp2
 refine bodyPost_ret (v := .agg #[.int .i64 p.x, .int .i64 p.y, .int .i64 p.z]) ?_ rfl ?_
 · simp (maxDischargeDepth := 9) only [results, Tryz.results98]
   first
    | (go_simp; done)
    | (go_simp; simp; done)
    | (simp (maxDischargeDepth := 9) [go_sem, *]; done)
    | (simp (maxDischargeDepth := 9) [go_sem, *]; simp)
 · exact ⟨rfl, byX⟩
def emptyR (b : Bx) : Bool := decide (b.lo.x ≥ b.hi.x) || (decide (b.lo.y ≥ b.hi.y) || decide (b.lo.z ≥ b.hi.z))
theorem emptyR_eq (b : Bx) : emptyR b = emptyB b := by
 rw [Bool.eq_iff_iff]; simp [emptyR, emptyB, inP]
set_option maxHeartbeats 1000000 in
theorem refEmpty_any (b : Bx) (w : World) :
    Calls Tryz.prog 52 #[.agg #[.int .i64 b.lo.x, .int .i64 b.lo.y, .int .i64 b.lo.z, .int .i64 b.hi.x, .int .i64 b.hi.y, .int .i64 b.hi.z]] w fun e w' => e = .returned (.bool (emptyB b)) ∧ Ext w w' := by
 rw [← emptyR_eq]
 go_enter Tryz.func52, Tryz.ntmps52
 go_wp2
 all_goals
  go_ret
  refine ⟨ret_bool ?_, byX⟩
  rw [Bool.eq_iff_iff]
  simp [emptyR]
  try omega
set_option maxHeartbeats 1000000 in
theorem refIn_any (p : Pt) (b : Bx) (w : World) :
    Calls Tryz.prog 32 #[.agg #[.int .i64 p.x, .int .i64 p.y, .int .i64 p.z], .agg #[.int .i64 b.lo.x, .int .i64 b.lo.y, .int .i64 b.lo.z, .int .i64 b.hi.x, .int .i64 b.hi.y, .int .i64 b.hi.z]] w fun e w' => e = .returned (.bool (inP p b)) ∧ Ext w w' := by
 go_enter Tryz.func32, Tryz.ntmps32
 go_wp2
 all_goals
  go_ret
  refine ⟨ret_bool ?_, byX⟩
  rw [Bool.eq_iff_iff]
  simp [inP]
  try omega
def sizeP (b : Bx) : Pt := if emptyB b then zeroPt else subP b.hi b.lo
def volP (b : Bx) : Int := wrap64 (wrap64 ((sizeP b).x * (sizeP b).y) * (sizeP b).z)
set_option maxHeartbeats 1000000 in
theorem refSize_any (b : Bx) (w : World) :
    Calls Tryz.prog 80 #[.agg #[.int .i64 b.lo.x, .int .i64 b.lo.y, .int .i64 b.lo.z, .int .i64 b.hi.x, .int .i64 b.hi.y, .int .i64 b.hi.z]] w fun e w' => e = .returned (.agg #[.int .i64 (sizeP b).x, .int .i64 (sizeP b).y, .int .i64 (sizeP b).z]) ∧ Ext w w' := by
 have hc := fun w' : World => refEmpty_any b w'
 unfold sizeP
 cases hq : emptyB b
 · rw [hq] at hc
   have HC := Lib.hid hc
   clear hc hq
   simp only [Bool.false_eq_true, if_false]
   go_enter Tryz.func80, Tryz.ntmps80
   go_wp2_with (first | (go_at_call 52; refine (HC.out _).mono ?_; rintro e wx ⟨rfl, xx⟩; obtain ⟨xc, xf, xl, xe, xn, xm⟩ := xx.look; have xz := xx.size; (try simp only [World.size_alloc_] at xz); (try (have qh := xx.one (b := w.heap.size) (by (try simp only [World.size_alloc_]); omega); obtain ⟨qc, qf, ql, qe, qn, qm⟩ := qh)); (try (have qh := xx.one (b := w.heap.size + 1) (by (try simp only [World.size_alloc_]); omega); obtain ⟨qc, qf, ql, qe, qn, qm⟩ := qh)); (try (have qh := xx.one (b := w.heap.size + 1 + 1) (by (try simp only [World.size_alloc_]); omega); obtain ⟨qc, qf, ql, qe, qn, qm⟩ := qh)); (try (have qh := xx.one (b := w.heap.size + 1 + 1 + 1) (by (try simp only [World.size_alloc_]); omega); obtain ⟨qc, qf, ql, qe, qn, qm⟩ := qh))) | (go_at_call 37; refine (refSub_any b.hi b.lo _).mono ?_; rintro e wx ⟨rfl, xx⟩; obtain ⟨xc, xf, xl, xe, xn, xm⟩ := xx.look; have xz := xx.size; (try simp only [World.size_alloc_, World.size_setCell_] at xz); (try (have qh := xx.one (b := w.heap.size) (by (try simp only [World.size_alloc_, World.size_setCell_]); omega); obtain ⟨qc, qf, ql, qe, qn, qm⟩ := qh)); (try (have qh := xx.one (b := w.heap.size + 1) (by (try simp only [World.size_alloc_, World.size_setCell_]); omega); obtain ⟨qc, qf, ql, qe, qn, qm⟩ := qh)); (try (have qh := xx.one (b := w.heap.size + 1 + 1) (by (try simp only [World.size_alloc_, World.size_setCell_]); omega); obtain ⟨qc, qf, ql, qe, qn, qm⟩ := qh)); (try (have qh := xx.one (b := w.heap.size + 1 + 1 + 1) (by (try simp only [World.size_alloc_, World.size_setCell_]); omega); obtain ⟨qc, qf, ql, qe, qn, qm⟩ := qh))))
   refine bodyPost_ret (v := .agg #[.int .i64 (subP b.hi b.lo).x, .int .i64 (subP b.hi b.lo).y, .int .i64 (subP b.hi b.lo).z]) ?_ rfl ?_
   · simp (maxDischargeDepth := 9) only [results, Tryz.results80]
     first
      | (go_simp; done)
      | (go_simp; simp; done)
      | (simp (maxDischargeDepth := 9) [go_sem, *]; done)
      | (simp (maxDischargeDepth := 9) [go_sem, *]; simp)
   · exact ⟨rfl, byX⟩
 · rw [hq] at hc
   have HC := Lib.hid hc
   clear hc hq
   simp only [if_true]
   go_enter Tryz.func80, Tryz.ntmps80
   go_wp2_with (first | (go_at_call 52; refine (HC.out _).mono ?_; rintro e wx ⟨rfl, xx⟩; obtain ⟨xc, xf, xl, xe, xn, xm⟩ := xx.look; have xz := xx.size; (try simp only [World.size_alloc_] at xz); (try (have qh := xx.one (b := w.heap.size) (by (try simp only [World.size_alloc_]); omega); obtain ⟨qc, qf, ql, qe, qn, qm⟩ := qh)); (try (have qh := xx.one (b := w.heap.size + 1) (by (try simp only [World.size_alloc_]); omega); obtain ⟨qc, qf, ql, qe, qn, qm⟩ := qh)); (try (have qh := xx.one (b := w.heap.size + 1 + 1) (by (try simp only [World.size_alloc_]); omega); obtain ⟨qc, qf, ql, qe, qn, qm⟩ := qh)); (try (have qh := xx.one (b := w.heap.size + 1 + 1 + 1) (by (try simp only [World.size_alloc_]); omega); obtain ⟨qc, qf, ql, qe, qn, qm⟩ := qh))))
   refine bodyPost_ret (v := .agg #[.int .i64 zeroPt.x, .int .i64 zeroPt.y, .int .i64 zeroPt.z]) ?_ rfl ?_
   · simp (maxDischargeDepth := 9) only [results, Tryz.results80]
     first
      | (go_simp; done)
      | (go_simp; simp [zeroPt]; done)
      | (simp (maxDischargeDepth := 9) [go_sem, *]; done)
      | (simp (maxDischargeDepth := 9) [go_sem, *]; simp [zeroPt])
   · exact ⟨rfl, byX⟩
set_option maxHeartbeats 1000000 in
theorem refVolume_any (b : Bx) (w : World) :
    Calls Tryz.prog 85 #[.agg #[.int .i64 b.lo.x, .int .i64 b.lo.y, .int .i64 b.lo.z, .int .i64 b.hi.x, .int .i64 b.hi.y, .int .i64 b.hi.z]] w fun e w' => e = .returned (.int .i64 (volP b)) ∧ Ext w w' := by
 go_enter Tryz.func85, Tryz.ntmps85
 go_wp2_with (first | (go_at_call 80; refine (refSize_any b _).mono ?_; rintro e wx ⟨rfl, xx⟩; obtain ⟨xc, xf, xl, xe, xn, xm⟩ := xx.look; have xz := xx.size; (try simp only [World.size_alloc_] at xz); (try (have qh := xx.one (b := w.heap.size) (by (try simp only [World.size_alloc_]); omega); obtain ⟨qc, qf, ql, qe, qn, qm⟩ := qh)); (try (have qh := xx.one (b := w.heap.size + 1) (by (try simp only [World.size_alloc_]); omega); obtain ⟨qc, qf, ql, qe, qn, qm⟩ := qh)); (try (have qh := xx.one (b := w.heap.size + 1 + 1) (by (try simp only [World.size_alloc_]); omega); obtain ⟨qc, qf, ql, qe, qn, qm⟩ := qh)); (try (have qh := xx.one (b := w.heap.size + 1 + 1 + 1) (by (try simp only [World.size_alloc_]); omega); obtain ⟨qc, qf, ql, qe, qn, qm⟩ := qh))))
 go_ret
 exact ⟨rfl, byX⟩
end Go.Proofs.YtlinhgannajfpaaGreatDoor

/- Contracts of the layer of stamps: parts, Valid; the reference's Valid. -/
namespace Go.Proofs.YtlinhgannajfpaaGreatDoor
open Go Go.RowKit

structure Sp where
 tick : Int
 clock : Int
 site : Int
 seq : Int
 deriving DecidableEq
def validS (s : Sp) : Bool := decide ((0 ≤ s.tick ∧ s.tick ≤ 4000) ∧ (1 ≤ s.clock ∧ s.clock ≤ 1000000) ∧ (1 ≤ s.site ∧ s.site ≤ 8) ∧ (1 ≤ s.seq ∧ s.seq ≤ 1000))
theorem validS_iff (s : Sp) : validS s = true ↔ ((0 ≤ s.tick ∧ s.tick ≤ 4000) ∧ (1 ≤ s.clock ∧ s.clock ≤ 1000000) ∧ (1 ≤ s.site ∧ s.site ≤ 8) ∧ (1 ≤ s.seq ∧ s.seq ≤ 1000)) := by simp [validS]
theorem validS_no (s : Sp) (h : ¬ ((0 ≤ s.tick ∧ s.tick ≤ 4000) ∧ (1 ≤ s.clock ∧ s.clock ≤ 1000000) ∧ (1 ≤ s.site ∧ s.site ≤ 8) ∧ (1 ≤ s.seq ∧ s.seq ≤ 1000))) : validS s = false := by
 unfold validS; exact decide_eq_false h

set_option maxHeartbeats 1000000 in
theorem parts_any (s : Sp) (w : World) :
    Calls Tryz.prog 87 #[.agg #[.int .i64 s.tick, .int .i64 s.clock, .int .i64 s.site, .int .i64 s.seq]] w fun e w' => e = .returned (.agg #[.int .i64 s.tick, .int .i64 s.clock, .int .i64 s.site, .int .i64 s.seq]) ∧ Ext w w' := by
 go_enter Tryz.func87, Tryz.ntmps87
 go_wp2
 refine bodyPost_ret (v := .agg #[.int .i64 s.tick, .int .i64 s.clock, .int .i64 s.site, .int .i64 s.seq]) ?_ rfl ?_
 · simp (maxDischargeDepth := 9) only [results, Tryz.results87]
   first
    | (go_simp; done)
    | (go_simp; simp; done)
    | (simp (maxDischargeDepth := 9) [go_sem, *]; done)
    | (simp (maxDischargeDepth := 9) [go_sem, *]; simp)
 · exact ⟨rfl, byX⟩

def okTo (s : Sp) : Nat → Prop
 | 0 => True
 | 1 => (0 ≤ s.tick ∧ s.tick ≤ 4000)
 | 2 => (0 ≤ s.tick ∧ s.tick ≤ 4000) ∧ (1 ≤ s.clock ∧ s.clock ≤ 1000000)
 | 3 => (0 ≤ s.tick ∧ s.tick ≤ 4000) ∧ (1 ≤ s.clock ∧ s.clock ≤ 1000000) ∧ (1 ≤ s.site ∧ s.site ≤ 8)
 | _ => (0 ≤ s.tick ∧ s.tick ≤ 4000) ∧ (1 ≤ s.clock ∧ s.clock ≤ 1000000) ∧ (1 ≤ s.site ∧ s.site ≤ 8) ∧ (1 ≤ s.seq ∧ s.seq ≤ 1000)
theorem ret_inv {a b : Bool} (h : a = b) : Ending.returned (.bool a) = .returned (.bool b) := by rw [h]

set_option maxHeartbeats 2000000 in
theorem Valid_any (s : Sp) (w : World) :
    Calls Tryz.prog 53 #[.agg #[.int .i64 s.tick, .int .i64 s.clock, .int .i64 s.site, .int .i64 s.seq]] w fun e w' => e = .returned (.bool (validS s)) ∧ Ext w w' := by
 have i0 : ∀ w, (Instr.index 98 (.agg #[.int .i64 s.tick, .int .i64 s.clock, .int .i64 s.site, .int .i64 s.seq]) (.int .i64 0)).run Tryz.prog w = .ok (.int .i64 s.tick) w := fun _ => by kernel_rfl
 have i1 : ∀ w, (Instr.index 98 (.agg #[.int .i64 s.tick, .int .i64 s.clock, .int .i64 s.site, .int .i64 s.seq]) (.int .i64 1)).run Tryz.prog w = .ok (.int .i64 s.clock) w := fun _ => by kernel_rfl
 have i2 : ∀ w, (Instr.index 98 (.agg #[.int .i64 s.tick, .int .i64 s.clock, .int .i64 s.site, .int .i64 s.seq]) (.int .i64 2)).run Tryz.prog w = .ok (.int .i64 s.site) w := fun _ => by kernel_rfl
 have i3 : ∀ w, (Instr.index 98 (.agg #[.int .i64 s.tick, .int .i64 s.clock, .int .i64 s.site, .int .i64 s.seq]) (.int .i64 3)).run Tryz.prog w = .ok (.int .i64 s.seq) w := fun _ => by kernel_rfl
 go_enter Tryz.func53, Tryz.ntmps53
 go_wp2_with (first | (go_at_call 87; refine (parts_any s _).mono ?_; rintro e wx ⟨rfl, xx⟩; obtain ⟨xc, xf, xl, xe, xn, xm⟩ := xx.look; have xz := xx.size; (try simp only [World.size_alloc_] at xz); (try (have qh := xx.one (b := w.heap.size) (by (try simp only [World.size_alloc_]); omega); obtain ⟨qc, qf, ql, qe, qn, qm⟩ := qh)); (try (have qh := xx.one (b := w.heap.size + 1) (by (try simp only [World.size_alloc_]); omega); obtain ⟨qc, qf, ql, qe, qn, qm⟩ := qh)); (try (have qh := xx.one (b := w.heap.size + 1 + 1) (by (try simp only [World.size_alloc_]); omega); obtain ⟨qc, qf, ql, qe, qn, qm⟩ := qh)); (try (have qh := xx.one (b := w.heap.size + 1 + 1 + 1) (by (try simp only [World.size_alloc_]); omega); obtain ⟨qc, qf, ql, qe, qn, qm⟩ := qh))))
 go_loop [11] (fun i => ∃ k : Nat, k ≤ 4 ∧ i = .int .i64 k ∧ okTo s k) (fun i => 4 - (intOf i).toNat)
 case atStart => exact ⟨0, by omega, rfl, trivial⟩
 case round =>
  obtain ⟨k, hk, rfl, ho⟩ := hrel
  obtain rfl | rfl | rfl | rfl | rfl : k = 0 ∨ k = 1 ∨ k = 2 ∨ k = 3 ∨ k = 4 := by omega
  all_goals have HO := Lib.hid ho; clear ho
  · go_wp2
    all_goals first
     | (go_round
        case rel => exact ⟨1, by omega, rfl, by have h := HO.out; simp only [okTo] at h ⊢; omega⟩
        case measure => simp [intOf])
     | (go_ret
        exact ⟨ret_bool (validS_no _ (by omega)).symm, byX⟩)
  · go_wp2
    all_goals first
     | (go_round
        case rel => exact ⟨2, by omega, rfl, by have h := HO.out; simp only [okTo] at h ⊢; omega⟩
        case measure => simp [intOf])
     | (go_ret
        exact ⟨ret_bool (validS_no _ (by omega)).symm, byX⟩)
  · go_wp2
    all_goals first
     | (go_round
        case rel => exact ⟨3, by omega, rfl, by have h := HO.out; simp only [okTo] at h ⊢; omega⟩
        case measure => simp [intOf])
     | (go_ret
        exact ⟨ret_bool (validS_no _ (by omega)).symm, byX⟩)
  · go_wp2
    all_goals first
     | (go_round
        case rel => exact ⟨4, by omega, rfl, by have h := HO.out; simp only [okTo] at h ⊢; omega⟩
        case measure => simp [intOf])
     | (go_ret
        exact ⟨ret_bool (validS_no _ (by omega)).symm, byX⟩)
  · have hv := (validS_iff s).2 HO.out
    have HV := Lib.hid hv; clear hv
    go_wp2
    go_ret
    exact ⟨ret_bool HV.out.symm, byX⟩

set_option maxHeartbeats 1000000 in
theorem within24_any (n lo hi : Int) (w : World) :
    Calls Tryz.prog 88 #[.int .i64 n, .int .i64 lo, .int .i64 hi] w fun e w' => e = .returned (.bool (decide (lo ≤ n ∧ n ≤ hi))) ∧ Ext w w' := by
 go_enter Tryz.func88, Tryz.ntmps88
 go_wp2
 all_goals
  go_ret
  refine ⟨ret_bool ?_, byX⟩
  rw [Bool.eq_iff_iff]
  simp
  try omega
theorem validS_and (s : Sp) : (decide (0 ≤ s.tick ∧ s.tick ≤ 4000) && (decide (1 ≤ s.clock ∧ s.clock ≤ 1000000) && (decide (1 ≤ s.site ∧ s.site ≤ 8) && decide (1 ≤ s.seq ∧ s.seq ≤ 1000)))) = validS s := by
 rw [Bool.eq_iff_iff]; simp [validS]
set_option maxHeartbeats 1000000 in
theorem refValid24_any (s : Sp) (w : World) :
    Calls Tryz.prog 54 #[.agg #[.int .i64 s.tick, .int .i64 s.clock, .int .i64 s.site, .int .i64 s.seq]] w fun e w' => e = .returned (.bool (validS s)) ∧ Ext w w' := by
 rw [← validS_and]
 generalize h0 : decide (0 ≤ s.tick ∧ s.tick ≤ 4000) = b0
 generalize h1 : decide (1 ≤ s.clock ∧ s.clock ≤ 1000000) = b1
 generalize h2 : decide (1 ≤ s.site ∧ s.site ≤ 8) = b2
 generalize h3 : decide (1 ≤ s.seq ∧ s.seq ≤ 1000) = b3
 have c0 := fun w => within24_any s.tick 0 4000 w
 have c1 := fun w => within24_any s.clock 1 1000000 w
 have c2 := fun w => within24_any s.site 1 8 w
 have c3 := fun w => within24_any s.seq 1 1000 w
 rw [h0] at c0; rw [h1] at c1; rw [h2] at c2; rw [h3] at c3
 have C0 := Lib.hid c0; have C1 := Lib.hid c1; have C2 := Lib.hid c2; have C3 := Lib.hid c3
 clear c0 c1 c2 c3 h0 h1 h2 h3
 go_enter Tryz.func54, Tryz.ntmps54
 go_wp2_with fail
 refine (C0.out _).mono ?_; rintro e wx ⟨rfl, xx⟩; obtain ⟨xc, xf, xl, xe, xn, xm⟩ := xx.look; have xz := xx.size; (try simp only [World.size_alloc_] at xz); (try (have qh := xx.one (b := w.heap.size) (by (try simp only [World.size_alloc_]); omega); obtain ⟨qc, qf, ql, qe, qn, qm⟩ := qh)); (try (have qh := xx.one (b := w.heap.size + 1) (by (try simp only [World.size_alloc_]); omega); obtain ⟨qc, qf, ql, qe, qn, qm⟩ := qh)); (try (have qh := xx.one (b := w.heap.size + 1 + 1) (by (try simp only [World.size_alloc_]); omega); obtain ⟨qc, qf, ql, qe, qn, qm⟩ := qh)); (try (have qh := xx.one (b := w.heap.size + 1 + 1 + 1) (by (try simp only [World.size_alloc_]); omega); obtain ⟨qc, qf, ql, qe, qn, qm⟩ := qh))
 cases b0
 · go_wp2
   go_ret
   exact ⟨rfl, byX⟩
 go_wp2_with fail
 refine (C1.out _).mono ?_; rintro e wx ⟨rfl, xx⟩; obtain ⟨xc, xf, xl, xe, xn, xm⟩ := xx.look; have xz := xx.size; (try simp only [World.size_alloc_, World.size_setCell_] at xz); (try (have qh := xx.one (b := w.heap.size) (by (try simp only [World.size_alloc_, World.size_setCell_]); omega); obtain ⟨qc, qf, ql, qe, qn, qm⟩ := qh)); (try (have qh := xx.one (b := w.heap.size + 1) (by (try simp only [World.size_alloc_, World.size_setCell_]); omega); obtain ⟨qc, qf, ql, qe, qn, qm⟩ := qh)); (try (have qh := xx.one (b := w.heap.size + 1 + 1) (by (try simp only [World.size_alloc_, World.size_setCell_]); omega); obtain ⟨qc, qf, ql, qe, qn, qm⟩ := qh)); (try (have qh := xx.one (b := w.heap.size + 1 + 1 + 1) (by (try simp only [World.size_alloc_, World.size_setCell_]); omega); obtain ⟨qc, qf, ql, qe, qn, qm⟩ := qh))
 cases b1
 · go_wp2
   go_ret
   exact ⟨rfl, byX⟩
 go_wp2_with fail
 refine (C2.out _).mono ?_; rintro e wx ⟨rfl, xx⟩; obtain ⟨xc, xf, xl, xe, xn, xm⟩ := xx.look; have xz := xx.size; (try simp only [World.size_alloc_, World.size_setCell_] at xz); (try (have qh := xx.one (b := w.heap.size) (by (try simp only [World.size_alloc_, World.size_setCell_]); omega); obtain ⟨qc, qf, ql, qe, qn, qm⟩ := qh)); (try (have qh := xx.one (b := w.heap.size + 1) (by (try simp only [World.size_alloc_, World.size_setCell_]); omega); obtain ⟨qc, qf, ql, qe, qn, qm⟩ := qh)); (try (have qh := xx.one (b := w.heap.size + 1 + 1) (by (try simp only [World.size_alloc_, World.size_setCell_]); omega); obtain ⟨qc, qf, ql, qe, qn, qm⟩ := qh)); (try (have qh := xx.one (b := w.heap.size + 1 + 1 + 1) (by (try simp only [World.size_alloc_, World.size_setCell_]); omega); obtain ⟨qc, qf, ql, qe, qn, qm⟩ := qh))
 cases b2
 · go_wp2
   go_ret
   exact ⟨rfl, byX⟩
 go_wp2_with fail
 refine (C3.out _).mono ?_; rintro e wx ⟨rfl, xx⟩; obtain ⟨xc, xf, xl, xe, xn, xm⟩ := xx.look; have xz := xx.size; (try simp only [World.size_alloc_, World.size_setCell_] at xz); (try (have qh := xx.one (b := w.heap.size) (by (try simp only [World.size_alloc_, World.size_setCell_]); omega); obtain ⟨qc, qf, ql, qe, qn, qm⟩ := qh)); (try (have qh := xx.one (b := w.heap.size + 1) (by (try simp only [World.size_alloc_, World.size_setCell_]); omega); obtain ⟨qc, qf, ql, qe, qn, qm⟩ := qh)); (try (have qh := xx.one (b := w.heap.size + 1 + 1) (by (try simp only [World.size_alloc_, World.size_setCell_]); omega); obtain ⟨qc, qf, ql, qe, qn, qm⟩ := qh)); (try (have qh := xx.one (b := w.heap.size + 1 + 1 + 1) (by (try simp only [World.size_alloc_, World.size_setCell_]); omega); obtain ⟨qc, qf, ql, qe, qn, qm⟩ := qh))
 go_wp2
 go_ret
 exact ⟨by simp, byX⟩
end Go.Proofs.YtlinhgannajfpaaGreatDoor

/- Contracts of the layer of edits, without encodings: within, uses, Formed, sizes, Check. -/
namespace Go.Proofs.YtlinhgannajfpaaGreatDoor
open Go Go.RowKit

structure Ed where
 st : Sp
 kind : Int
 box : Bx
 at_ : Pt
 turn : Int
 cell : Int
 size : Int
 deriving DecidableEq
def rowF : Nat → Int
 | 0 => 0
 | 1 => 9
 | 2 => 26
 | 3 => 13
 | 4 => 7
 | 5 => 26
 | 6 => 16
 | 7 => 17
 | _ => 16
structure RowsIn (w : World) : Prop where
 at_ : ∀ i, i < 9 → w.cell? ⟨0, 2 * i + 1, none⟩ = some (.int .i64 (rowF i))
 lt : 0 < w.heap.size
theorem RowsIn.ext {w w' : World} (h : RowsIn w) (hx : Ext w w') : RowsIn w' := ⟨fun i hi => (hx.cell (p := ⟨0, 2 * i + 1, none⟩) h.lt).trans (h.at_ i hi), Nat.lt_of_lt_of_le h.lt hx.size⟩
def usesF (k f : Int) : Bool :=
 if f = 1 then k == 1 || k == 3 || k == 4 || k == 7 else if f = 2 then k == 2 || k == 4 || k == 5 else if f = 4 then k == 3 || k == 4 else if f = 8 then k == 1 || k == 2 || k == 3 || k == 5 else k == 2 || k == 5 || k == 6 || k == 7 || k == 8

set_option maxHeartbeats 1000000 in
theorem withinE_any (n lo hi : Int) (w : World) :
    Calls Tryz.prog 44 #[.int .i64 n, .int .i64 lo, .int .i64 hi] w fun e w' => e = .returned (.bool (decide (lo ≤ n ∧ n ≤ hi))) ∧ Ext w w' := by
 go_enter Tryz.func44, Tryz.ntmps44
 go_wp2
 all_goals
  go_ret
  refine ⟨ret_bool ?_, byX⟩
  rw [Bool.eq_iff_iff]
  simp
  try omega
theorem withinE_is (n lo hi : Int) (b : Bool) (hb : decide (lo ≤ n ∧ n ≤ hi) = b) (w : World) :
    Calls Tryz.prog 44 #[.int .i64 n, .int .i64 lo, .int .i64 hi] w fun e w' => e = .returned (.bool b) ∧ Ext w w' := hb ▸ withinE_any n lo hi w
set_option maxHeartbeats 2000000 in
theorem uses_any (k f : Int) (hk : 0 ≤ k ∧ k ≤ 8) (hf : f = 1 ∨ f = 2 ∨ f = 4 ∨ f = 8 ∨ f = 16) (w : World) (hR : RowsIn w) :
    Calls Tryz.prog 48 #[.int .i64 k, .int .i64 f] w fun e w' => e = .returned (.bool (usesF k f)) ∧ Ext w w' := by
 obtain ⟨i, rfl⟩ : ∃ i : Nat, k = i := ⟨k.toNat, by omega⟩
 obtain rfl | rfl | rfl | rfl | rfl | rfl | rfl | rfl | rfl : i = 0 ∨ i = 1 ∨ i = 2 ∨ i = 3 ∨ i = 4 ∨ i = 5 ∨ i = 6 ∨ i = 7 ∨ i = 8 := by omega
 · have hc := hR.at_ 0 (by omega)
   simp only [rowF, Nat.reduceMul, Nat.reduceAdd] at hc
   clear hR hk
   rcases hf with rfl | rfl | rfl | rfl | rfl
   all_goals
    go_enter Tryz.func48, Tryz.ntmps48
    go_wp2
    go_ret
    exact ⟨ret_bool (by decide), byX⟩
 · have hc := hR.at_ 1 (by omega)
   simp only [rowF, Nat.reduceMul, Nat.reduceAdd] at hc
   clear hR hk
   rcases hf with rfl | rfl | rfl | rfl | rfl
   all_goals
    go_enter Tryz.func48, Tryz.ntmps48
    go_wp2
    go_ret
    exact ⟨ret_bool (by decide), byX⟩
 · have hc := hR.at_ 2 (by omega)
   simp only [rowF, Nat.reduceMul, Nat.reduceAdd] at hc
   clear hR hk
   rcases hf with rfl | rfl | rfl | rfl | rfl
   all_goals
    go_enter Tryz.func48, Tryz.ntmps48
    go_wp2
    go_ret
    exact ⟨ret_bool (by decide), byX⟩
 · have hc := hR.at_ 3 (by omega)
   simp only [rowF, Nat.reduceMul, Nat.reduceAdd] at hc
   clear hR hk
   rcases hf with rfl | rfl | rfl | rfl | rfl
   all_goals
    go_enter Tryz.func48, Tryz.ntmps48
    go_wp2
    go_ret
    exact ⟨ret_bool (by decide), byX⟩
 · have hc := hR.at_ 4 (by omega)
   simp only [rowF, Nat.reduceMul, Nat.reduceAdd] at hc
   clear hR hk
   rcases hf with rfl | rfl | rfl | rfl | rfl
   all_goals
    go_enter Tryz.func48, Tryz.ntmps48
    go_wp2
    go_ret
    exact ⟨ret_bool (by decide), byX⟩
 · have hc := hR.at_ 5 (by omega)
   simp only [rowF, Nat.reduceMul, Nat.reduceAdd] at hc
   clear hR hk
   rcases hf with rfl | rfl | rfl | rfl | rfl
   all_goals
    go_enter Tryz.func48, Tryz.ntmps48
    go_wp2
    go_ret
    exact ⟨ret_bool (by decide), byX⟩
 · have hc := hR.at_ 6 (by omega)
   simp only [rowF, Nat.reduceMul, Nat.reduceAdd] at hc
   clear hR hk
   rcases hf with rfl | rfl | rfl | rfl | rfl
   all_goals
    go_enter Tryz.func48, Tryz.ntmps48
    go_wp2
    go_ret
    exact ⟨ret_bool (by decide), byX⟩
 · have hc := hR.at_ 7 (by omega)
   simp only [rowF, Nat.reduceMul, Nat.reduceAdd] at hc
   clear hR hk
   rcases hf with rfl | rfl | rfl | rfl | rfl
   all_goals
    go_enter Tryz.func48, Tryz.ntmps48
    go_wp2
    go_ret
    exact ⟨ret_bool (by decide), byX⟩
 · have hc := hR.at_ 8 (by omega)
   simp only [rowF, Nat.reduceMul, Nat.reduceAdd] at hc
   clear hR hk
   rcases hf with rfl | rfl | rfl | rfl | rfl
   all_goals
    go_enter Tryz.func48, Tryz.ntmps48
    go_wp2
    go_ret
    exact ⟨ret_bool (by decide), byX⟩
theorem uses_is (k f : Int) (b : Bool) (hk : 0 ≤ k ∧ k ≤ 8) (hf : f = 1 ∨ f = 2 ∨ f = 4 ∨ f = 8 ∨ f = 16) (hb : usesF k f = b) (w : World) (hR : RowsIn w) :
    Calls Tryz.prog 48 #[.int .i64 k, .int .i64 f] w fun e w' => e = .returned (.bool b) ∧ Ext w w' := hb ▸ uses_any k f hk hf w hR
def formedE (x : Ed) : Bool := validS x.st && (decide (1 ≤ x.kind ∧ x.kind ≤ 8) && ((usesF x.kind 1 || decide (x.box = zeroBx)) && ((usesF x.kind 2 || decide (x.at_ = zeroPt)) && ((usesF x.kind 4 || decide (x.turn = 0)) && ((usesF x.kind 8 || decide (x.cell = 0)) && (usesF x.kind 16 || decide (x.size = 0)))))))
theorem eqBx_run (a b : Bx) (w : World) : (binOp .eql 27 (.agg #[.int .i64 a.lo.x, .int .i64 a.lo.y, .int .i64 a.lo.z, .int .i64 a.hi.x, .int .i64 a.hi.y, .int .i64 a.hi.z]) (.agg #[.int .i64 b.lo.x, .int .i64 b.lo.y, .int .i64 b.lo.z, .int .i64 b.hi.x, .int .i64 b.hi.y, .int .i64 b.hi.z])).run Tryz.prog w = .ok (.bool (decide (a = b))) w := by
 obtain ⟨⟨a1, a2, a3⟩, ⟨a4, a5, a6⟩⟩ := a
 obtain ⟨⟨b1, b2, b3⟩, ⟨b4, b5, b6⟩⟩ := b
 simp [go_sem]
 by_cases h1 : a1 = b1 <;> by_cases h2 : a2 = b2 <;> by_cases h3 : a3 = b3 <;> by_cases h4 : a4 = b4 <;> by_cases h5 : a5 = b5 <;> by_cases h6 : a6 = b6 <;> simp [h1, h2, h3, h4, h5, h6]
theorem eqPt_run (a b : Pt) (w : World) : (binOp .eql 25 (.agg #[.int .i64 a.x, .int .i64 a.y, .int .i64 a.z]) (.agg #[.int .i64 b.x, .int .i64 b.y, .int .i64 b.z])).run Tryz.prog w = .ok (.bool (decide (a = b))) w := by
 obtain ⟨a1, a2, a3⟩ := a
 obtain ⟨b1, b2, b3⟩ := b
 simp [go_sem]
 by_cases h1 : a1 = b1 <;> by_cases h2 : a2 = b2 <;> by_cases h3 : a3 = b3 <;> simp [h1, h2, h3]
theorem formedE_def (x : Ed) : formedE x = (validS x.st && (decide (1 ≤ x.kind ∧ x.kind ≤ 8) && ((usesF x.kind 1 || decide (x.box = zeroBx)) && ((usesF x.kind 2 || decide (x.at_ = zeroPt)) && ((usesF x.kind 4 || decide (x.turn = 0)) && ((usesF x.kind 8 || decide (x.cell = 0)) && (usesF x.kind 16 || decide (x.size = 0)))))))) := rfl
set_option maxHeartbeats 4000000 in
theorem Formed_bad (x : Ed) (w : World) (h : validS x.st = false ∨ ¬ (1 ≤ x.kind ∧ x.kind ≤ 8)) :
    Calls Tryz.prog 13 #[.agg #[.int .i64 x.st.tick, .int .i64 x.st.clock, .int .i64 x.st.site, .int .i64 x.st.seq, .int .i64 x.kind, .int .i64 x.box.lo.x, .int .i64 x.box.lo.y, .int .i64 x.box.lo.z, .int .i64 x.box.hi.x, .int .i64 x.box.hi.y, .int .i64 x.box.hi.z, .int .i64 x.at_.x, .int .i64 x.at_.y, .int .i64 x.at_.z, .int .i64 x.turn, .int .i64 x.cell, .int .i64 x.size]] w fun e w' => e = .returned (.bool false) ∧ Ext w w' := by
 have hv := fun w => Valid_any x.st w
 cases hq : validS x.st
 all_goals
  rw [hq] at hv h
  have HV := Lib.hid hv
  clear hv hq
 · clear h
   go_enter Tryz.func13, Tryz.ntmps13
   go_wp2_with (first | (go_at_call 53; refine (HV.out _).mono ?_; rintro e wx ⟨rfl, xx⟩; obtain ⟨xc, xf, xl, xe, xn, xm⟩ := xx.look; have xz := xx.size; (try simp only [World.size_alloc_] at xz); (try (have qh := xx.one (b := w.heap.size) (by (try simp only [World.size_alloc_]); omega); obtain ⟨qc, qf, ql, qe, qn, qm⟩ := qh)); (try (have qh := xx.one (b := w.heap.size + 1) (by (try simp only [World.size_alloc_]); omega); obtain ⟨qc, qf, ql, qe, qn, qm⟩ := qh)); (try (have qh := xx.one (b := w.heap.size + 1 + 1) (by (try simp only [World.size_alloc_]); omega); obtain ⟨qc, qf, ql, qe, qn, qm⟩ := qh)); (try (have qh := xx.one (b := w.heap.size + 1 + 1 + 1) (by (try simp only [World.size_alloc_]); omega); obtain ⟨qc, qf, ql, qe, qn, qm⟩ := qh))))
   go_ret
   exact ⟨rfl, byX⟩
 · have hk : decide (1 ≤ x.kind ∧ x.kind ≤ 8) = false := by simpa using h
   have HK := Lib.hid (withinE_is x.kind 1 8 false hk)
   clear hk h
   go_enter Tryz.func13, Tryz.ntmps13
   go_wp2_with (first | (go_at_call 53; refine (HV.out _).mono ?_; rintro e wx ⟨rfl, xx⟩; obtain ⟨xc, xf, xl, xe, xn, xm⟩ := xx.look; have xz := xx.size; (try simp only [World.size_alloc_] at xz); (try (have qh := xx.one (b := w.heap.size) (by (try simp only [World.size_alloc_]); omega); obtain ⟨qc, qf, ql, qe, qn, qm⟩ := qh)); (try (have qh := xx.one (b := w.heap.size + 1) (by (try simp only [World.size_alloc_]); omega); obtain ⟨qc, qf, ql, qe, qn, qm⟩ := qh)); (try (have qh := xx.one (b := w.heap.size + 1 + 1) (by (try simp only [World.size_alloc_]); omega); obtain ⟨qc, qf, ql, qe, qn, qm⟩ := qh)); (try (have qh := xx.one (b := w.heap.size + 1 + 1 + 1) (by (try simp only [World.size_alloc_]); omega); obtain ⟨qc, qf, ql, qe, qn, qm⟩ := qh))) | (go_at_call 44; refine (HK.out _).mono ?_; rintro e wx ⟨rfl, xx⟩; obtain ⟨xc, xf, xl, xe, xn, xm⟩ := xx.look; have xz := xx.size; (try simp only [World.size_alloc_, World.size_setCell_] at xz); (try (have qh := xx.one (b := w.heap.size) (by (try simp only [World.size_alloc_, World.size_setCell_]); omega); obtain ⟨qc, qf, ql, qe, qn, qm⟩ := qh)); (try (have qh := xx.one (b := w.heap.size + 1) (by (try simp only [World.size_alloc_, World.size_setCell_]); omega); obtain ⟨qc, qf, ql, qe, qn, qm⟩ := qh)); (try (have qh := xx.one (b := w.heap.size + 1 + 1) (by (try simp only [World.size_alloc_, World.size_setCell_]); omega); obtain ⟨qc, qf, ql, qe, qn, qm⟩ := qh)); (try (have qh := xx.one (b := w.heap.size + 1 + 1 + 1) (by (try simp only [World.size_alloc_, World.size_setCell_]); omega); obtain ⟨qc, qf, ql, qe, qn, qm⟩ := qh))))
   go_ret
   exact ⟨rfl, byX⟩

end Go.Proofs.YtlinhgannajfpaaGreatDoor

/- History, plainly: names, forks, the set, what is undone. No program in sight. -/
namespace Go.Proofs.YtlinhgannajfpaaGreatDoor
open Go Go.RowKit

structure Nm where
 site : Int
 seq : Int
 deriving DecidableEq
def nmE (x : Ed) : Nm := ⟨x.st.site, x.st.seq⟩
theorem nmE_iff (x y : Ed) : nmE x = nmE y ↔ x.st.site = y.st.site ∧ x.st.seq = y.st.seq := by unfold nmE; rw [Nm.mk.injEq]
def Forked (l : List Ed) (n : Nm) : Prop := ∃ x y, (x ∈ l ∧ formedE x = true ∧ nmE x = n) ∧ (y ∈ l ∧ formedE y = true ∧ nmE y = n) ∧ x ≠ y
def SetP (l : List Ed) (x : Ed) : Prop := x ∈ l ∧ formedE x = true ∧ ¬ Forked l (nmE x)
theorem Forked.cong {l m : List Ed} (h : ∀ x, x ∈ l ↔ x ∈ m) (n : Nm) : Forked l n ↔ Forked m n := by unfold Forked; simp only [h]
theorem Forked.mono {l m : List Ed} (h : ∀ x, x ∈ l → x ∈ m) {n : Nm} : Forked l n → Forked m n := fun ⟨x, y, a, b, c⟩ => ⟨x, y, ⟨h x a.1, a.2⟩, ⟨h y b.1, b.2⟩, c⟩
theorem SetP.cong {l m : List Ed} (h : ∀ x, x ∈ l ↔ x ∈ m) : SetP l = SetP m := by
 funext x
 unfold SetP
 rw [h, propext (Forked.cong h _)]
theorem SetP.name {l : List Ed} {x y : Ed} (hx : SetP l x) (hy : SetP l y) (h : nmE x = nmE y) : x = y := by
 by_cases hq : x = y
 · exact hq
 · exact absurd ⟨x, y, ⟨hx.1, hx.2.1, rfl⟩, ⟨hy.1, hy.2.1, h.symm⟩, hq⟩ hx.2.2
theorem formed_st {x : Ed} (h : formedE x = true) : (0 ≤ x.st.tick ∧ x.st.tick ≤ 4000) ∧ (1 ≤ x.st.clock ∧ x.st.clock ≤ 1000000) ∧ (1 ≤ x.st.site ∧ x.st.site ≤ 8) ∧ (1 ≤ x.st.seq ∧ x.st.seq ≤ 1000) := by
 unfold formedE at h
 rw [Bool.and_eq_true] at h
 exact (validS_iff _).1 h.1
theorem formed_kind {x : Ed} (h : formedE x = true) : 1 ≤ x.kind ∧ x.kind ≤ 8 := by
 unfold formedE at h
 simp only [Bool.and_eq_true, decide_eq_true_eq] at h
 exact h.2.1
def Aims (u x : Ed) : Prop := u.kind = 6 ∧ u.st.site = x.st.site ∧ x.st.seq < u.st.seq ∧ u.size = x.st.seq
instance (u x : Ed) : Decidable (Aims u x) := by unfold Aims; infer_instance
def Und (M : Ed → Prop) (x : Ed) : Prop := ∃ u, ∃ _h : M u ∧ Aims u x ∧ u.st.seq ≤ 1000, ¬ Und M u
termination_by (1000 - x.st.seq).toNat
decreasing_by
 have h1 := _h.2.1.2.2.1
 have _h2 := _h.2.2
 omega
theorem Und_iff (M : Ed → Prop) (x : Ed) : Und M x ↔ ∃ u, (M u ∧ Aims u x ∧ u.st.seq ≤ 1000) ∧ ¬ Und M u := by
 rw [Und]
 constructor
 · rintro ⟨u, h1, h2⟩; exact ⟨u, h1, h2⟩
 · rintro ⟨u, h1, h2⟩; exact ⟨u, h1, h2⟩
def Eff (M : Ed → Prop) (x u : Ed) : Prop := (M u ∧ Aims u x ∧ u.st.seq ≤ 1000) ∧ ¬ Und M u
theorem Und_eff {M : Ed → Prop} {x : Ed} : Und M x ↔ ∃ u, Eff M x u := Und_iff M x
def ByIs (M : Ed → Prop) (x : Ed) (v : Int) : Prop := (v = 0 ∧ ¬ Und M x) ∨ (∃ u, Eff M x u ∧ u.st.seq = v ∧ ∀ u', Eff M x u' → u'.st.seq ≤ v)
theorem ByIs.uniq {M : Ed → Prop} {x : Ed} {v v' : Int} (h : ByIs M x v) (k : ByIs M x v') : v = v' := by
 rcases h with ⟨rfl, h⟩ | ⟨u, h1, h2, h3⟩ <;> rcases k with ⟨rfl, k⟩ | ⟨u', k1, k2, k3⟩
 · rfl
 · exact absurd (Und_eff.2 ⟨u', k1⟩) h
 · exact absurd (Und_eff.2 ⟨u, h1⟩) k
 · have := h3 u' k1; have := k3 u h1; omega
theorem ByIs.zero {M : Ed → Prop} {x : Ed} {v : Int} (hM : ∀ u, M u → 1 ≤ u.st.seq) (h : ByIs M x v) : v = 0 ↔ ¬ Und M x := by
 rcases h with ⟨rfl, h⟩ | ⟨u, h1, h2, h3⟩
 · exact ⟨fun _ => h, fun _ => rfl⟩
 · have := hM u h1.1.1
   exact ⟨fun h0 => by omega, fun h0 => absurd (Und_eff.2 ⟨u, h1⟩) h0⟩
theorem ByIs.pos {M : Ed → Prop} {x : Ed} {v : Int} (hM : ∀ u, M u → 1 ≤ u.st.seq) (h : ByIs M x v) : 0 ≤ v := by
 rcases h with ⟨rfl, h⟩ | ⟨u, h1, h2, h3⟩
 · exact Int.le_refl _
 · have := hM u h1.1.1; omega
theorem ByIs.le {M : Ed → Prop} {x : Ed} {v : Int} (h : ByIs M x v) : v ≤ 1000 := by
 rcases h with ⟨rfl, h⟩ | ⟨u, h1, h2, h3⟩
 · omega
 · have := h1.1.2.2; omega
theorem Und_site {M M' : Ed → Prop} {s : Int} (h : ∀ u, u.st.site = s → (M u ↔ M' u)) : ∀ (n : Nat) (x : Ed), (1000 - x.st.seq).toNat ≤ n → x.st.site = s → (Und M x ↔ Und M' x) := by
 intro n
 induction n with
 | zero =>
   intro x hn hs
   rw [Und_iff, Und_iff]
   constructor <;> (rintro ⟨u, ⟨_, ha, hb⟩, _⟩; have := ha.2.2.1; omega)
 | succ n ih =>
   intro x hn hs
   rw [Und_iff, Und_iff]
   constructor
   · rintro ⟨u, ⟨h1, ha, hb⟩, h2⟩
     have hus : u.st.site = s := ha.2.1.trans hs
     have hlt := ha.2.2.1
     exact ⟨u, ⟨(h u hus).1 h1, ha, hb⟩, fun k => h2 ((ih u (by omega) hus).2 k)⟩
   · rintro ⟨u, ⟨h1, ha, hb⟩, h2⟩
     have hus : u.st.site = s := ha.2.1.trans hs
     have hlt := ha.2.2.1
     exact ⟨u, ⟨(h u hus).2 h1, ha, hb⟩, fun k => h2 ((ih u (by omega) hus).1 k)⟩
def ActP (l : List Ed) (x : Ed) : Prop := SetP l x ∧ ¬ Und (SetP l) x
theorem ActP.cong {l m : List Ed} (h : ∀ x, x ∈ l ↔ x ∈ m) : ActP l = ActP m := by unfold ActP; rw [SetP.cong h]

/-! One more edit: other sites. -/
theorem Forked.own {l : List Ed} {x : Ed} {n : Nm} (hn : n.site ≠ x.st.site) : Forked (l ++ [x]) n ↔ Forked l n := by
 constructor
 · rintro ⟨a, b, ⟨a1, a2, a3⟩, ⟨b1, b2, b3⟩, hab⟩
   have key : ∀ y, y ∈ l ++ [x] → nmE y = n → y ∈ l := fun y hy he => by
    rcases List.mem_append.1 hy with h | h
    · exact h
    · rw [List.mem_singleton] at h
      subst h
      exact absurd (by rw [← he]; rfl) hn
   exact ⟨a, b, ⟨key a a1 a3, a2, a3⟩, ⟨key b b1 b3, b2, b3⟩, hab⟩
 · exact Forked.mono fun y hy => List.mem_append_left _ hy
theorem SetP.own {l : List Ed} {x y : Ed} (hn : y.st.site ≠ x.st.site) : SetP (l ++ [x]) y ↔ SetP l y := by
 unfold SetP
 rw [Forked.own (n := nmE y) hn, List.mem_append, List.mem_singleton]
 constructor
 · rintro ⟨h1 | rfl, h2⟩
   · exact ⟨h1, h2⟩
   · exact absurd rfl hn
 · rintro ⟨h1, h2⟩; exact ⟨.inl h1, h2⟩
theorem ActP.own {l : List Ed} {x y : Ed} (hn : y.st.site ≠ x.st.site) : ActP (l ++ [x]) y ↔ ActP l y := by
 unfold ActP
 rw [SetP.own hn, Und_site (M := SetP (l ++ [x])) (M' := SetP l) (s := y.st.site) (fun u hu => SetP.own (by rw [hu]; exact hn)) _ y (Nat.le_refl _) rfl]

/-! An undo with a new number; and the undo of the undo. -/
theorem SetP.fresh {l : List Ed} {u : Ed} (hf : formedE u = true) (hnew : ∀ y, y ∈ l → nmE y ≠ nmE u) (y : Ed) : SetP (l ++ [u]) y ↔ SetP l y ∨ y = u := by
 have hl : ∀ n, n ≠ nmE u → (Forked (l ++ [u]) n ↔ Forked l n) := fun n hn => by
  constructor
  · rintro ⟨a, b, ⟨a1, a2, a3⟩, ⟨b1, b2, b3⟩, hab⟩
    have key : ∀ y, y ∈ l ++ [u] → nmE y = n → y ∈ l := fun y hy he => by
     rcases List.mem_append.1 hy with h | h
     · exact h
     · rw [List.mem_singleton] at h
       subst h
       exact absurd he.symm hn
    exact ⟨a, b, ⟨key a a1 a3, a2, a3⟩, ⟨key b b1 b3, b2, b3⟩, hab⟩
  · exact Forked.mono fun y hy => List.mem_append_left _ hy
 have hu : ¬ Forked (l ++ [u]) (nmE u) := by
  rintro ⟨a, b, ⟨a1, a2, a3⟩, ⟨b1, b2, b3⟩, hab⟩
  have key : ∀ y, y ∈ l ++ [u] → nmE y = nmE u → y = u := fun y hy he => by
   rcases List.mem_append.1 hy with h | h
   · exact absurd he (hnew y h)
   · exact List.mem_singleton.1 h
  exact hab ((key a a1 a3).trans (key b b1 b3).symm)
 unfold SetP
 constructor
 · rintro ⟨h1, h2, h3⟩
   rcases List.mem_append.1 h1 with h | h
   · exact .inl ⟨h, h2, fun k => h3 ((hl _ (hnew y h)).2 k)⟩
   · exact .inr (List.mem_singleton.1 h)
 · rintro (⟨h1, h2, h3⟩ | rfl)
   · exact ⟨List.mem_append_left _ h1, h2, fun k => h3 ((hl _ (hnew y h1)).1 k)⟩
   · exact ⟨by simp, hf, hu⟩
structure NewUndo (l : List Ed) (x u : Ed) : Prop where
 frm : formedE u = true
 kind : u.kind = 6
 site : u.st.site = x.st.site
 size : u.size = x.st.seq
 top : ∀ y, y ∈ l → y.st.site = x.st.site → y.st.seq < u.st.seq
 act : ActP l x
section
variable {l : List Ed} {x u : Ed}
theorem NewUndo.new (h : NewUndo l x u) : ∀ y, y ∈ l → nmE y ≠ nmE u := fun y hy he => by
 rw [nmE_iff] at he
 have := h.top y hy (he.1.trans h.site)
 omega
theorem NewUndo.set (h : NewUndo l x u) (y : Ed) : SetP (l ++ [u]) y ↔ SetP l y ∨ y = u := SetP.fresh h.frm h.new y
theorem NewUndo.aims (h : NewUndo l x u) : Aims u x := ⟨h.kind, h.site, h.top x h.act.1.1 rfl, h.size⟩
theorem NewUndo.free (h : NewUndo l x u) : ¬ Und (SetP (l ++ [u])) u := by
 rw [Und_iff]
 rintro ⟨w, ⟨h1, h2, h3⟩, _⟩
 rcases (h.set w).1 h1 with h4 | rfl
 · have := h.top w h4.1 (h2.2.1.trans h.site)
   have := h2.2.2.1
   omega
 · have := h2.2.2.1; omega
theorem NewUndo.eff (h : NewUndo l x u) : Eff (SetP (l ++ [u])) x u := ⟨⟨(h.set u).2 (.inr rfl), h.aims, (formed_st h.frm).2.2.2.2⟩, h.free⟩
theorem NewUndo.undone (h : NewUndo l x u) : Und (SetP (l ++ [u])) x := Und_eff.2 ⟨u, h.eff⟩
theorem NewUndo.by_ (h : NewUndo l x u) : ByIs (SetP (l ++ [u])) x u.st.seq := .inr ⟨u, h.eff, rfl, fun w hw => by
 rcases (h.set w).1 hw.1.1 with h4 | rfl
 · exact Int.le_of_lt (h.top w h4.1 hw.1.2.1.2.1)
 · exact Int.le_refl _⟩
theorem NewUndo.others (h : NewUndo l x u) (hk : x.kind ≠ 6) : ∀ (n : Nat) (y : Ed), (1000 - y.st.seq).toNat ≤ n → SetP l y → y ≠ x → (Und (SetP (l ++ [u])) y ↔ Und (SetP l) y) := by
 have hne : ∀ y, SetP l y → y ≠ x → ¬ Aims u y := fun y hy hne ha => by
  refine hne (hy.name h.act.1 ?_)
  rw [nmE_iff]
  exact ⟨ha.2.1.symm.trans h.site, ha.2.2.2.symm.trans h.size⟩
 intro n
 induction n with
 | zero =>
   intro y hn hy hyx
   rw [Und_iff, Und_iff]
   constructor <;> (rintro ⟨w, ⟨_, ha, hb⟩, _⟩; have := ha.2.2.1; omega)
 | succ n ih =>
   intro y hn hy hyx
   rw [Und_iff, Und_iff]
   constructor
   · rintro ⟨w, ⟨h1, ha, hb⟩, h2⟩
     have hlt := ha.2.2.1
     rcases (h.set w).1 h1 with h4 | rfl
     · exact ⟨w, ⟨h4, ha, hb⟩, fun k => h2 ((ih w (by omega) h4 (fun e => hk (e ▸ ha.1))).2 k)⟩
     · exact absurd ha (hne y hy hyx)
   · rintro ⟨w, ⟨h1, ha, hb⟩, h2⟩
     have hlt := ha.2.2.1
     exact ⟨w, ⟨(h.set w).2 (.inl h1), ha, hb⟩, fun k => h2 ((ih w (by omega) h1 (fun e => hk (e ▸ ha.1))).1 k)⟩
theorem NewUndo.actOther (h : NewUndo l x u) (hk : x.kind ≠ 6) {y : Ed} (hy : ActP l y) (hyx : y ≠ x) : ActP (l ++ [u]) y :=
 ⟨(h.set y).2 (.inl hy.1), fun k => hy.2 ((h.others hk _ y (Nat.le_refl _) hy.1 hyx).1 k)⟩
theorem NewUndo.back (h : NewUndo l x u) {v : Ed} (hf : formedE v = true) (hk : v.kind = 6) (hs : v.st.site = x.st.site) (hz : v.size = u.st.seq) (hq : v.st.seq = u.st.seq + 1) (y : Ed) : ActP ((l ++ [u]) ++ [v]) y ↔ ActP l y ∨ y = v := by
 have hnew : ∀ y, y ∈ l ++ [u] → nmE y ≠ nmE v := fun y hy he => by
  rw [nmE_iff] at he
  rcases List.mem_append.1 hy with h1 | h1
  · have := h.top y h1 (he.1.trans hs); omega
  · rw [List.mem_singleton] at h1; subst h1; omega
 have hset : ∀ y, SetP ((l ++ [u]) ++ [v]) y ↔ (SetP l y ∨ y = u) ∨ y = v := fun y => (SetP.fresh hf hnew y).trans (or_congr (h.set y) Iff.rfl)
 have hv : ¬ Und (SetP ((l ++ [u]) ++ [v])) v := by
  rw [Und_iff]
  rintro ⟨w, ⟨h1, h2, h3⟩, _⟩
  have hlt := h2.2.2.1
  rcases (hset w).1 h1 with (h4 | rfl) | rfl
  · have := h.top w h4.1 (h2.2.1.trans hs); omega
  · omega
  · omega
 have hu : Und (SetP ((l ++ [u]) ++ [v])) u := Und_eff.2 ⟨v, ⟨⟨(hset v).2 (.inr rfl), ⟨hk, hs.trans h.site.symm, by omega, hz⟩, (formed_st hf).2.2.2.2⟩, hv⟩⟩
 have key : ∀ (n : Nat) (y : Ed), (1000 - y.st.seq).toNat ≤ n → SetP l y → (Und (SetP ((l ++ [u]) ++ [v])) y ↔ Und (SetP l) y) := by
  intro n
  induction n with
  | zero =>
    intro y hn hy
    rw [Und_iff, Und_iff]
    constructor <;> (rintro ⟨w, ⟨_, ha, hb⟩, _⟩; have := ha.2.2.1; omega)
  | succ n ih =>
    intro y hn hy
    rw [Und_iff, Und_iff]
    constructor
    · rintro ⟨w, ⟨h1, ha, hb⟩, h2⟩
      have hlt := ha.2.2.1
      rcases (hset w).1 h1 with (h4 | rfl) | rfl
      · exact ⟨w, ⟨h4, ha, hb⟩, fun k => h2 ((ih w (by omega) h4).2 k)⟩
      · exact absurd hu h2
      · have := h.top y hy.1 (ha.2.1.symm.trans hs)
        have := ha.2.2.2
        omega
    · rintro ⟨w, ⟨h1, ha, hb⟩, h2⟩
      have hlt := ha.2.2.1
      exact ⟨w, ⟨(hset w).2 (.inl (.inl h1)), ha, hb⟩, fun k => h2 ((ih w (by omega) h1).1 k)⟩
 constructor
 · rintro ⟨h1, h2⟩
   rcases (hset y).1 h1 with (h4 | rfl) | rfl
   · exact .inl ⟨h4, fun k => h2 ((key _ y (Nat.le_refl _) h4).2 k)⟩
   · exact absurd hu h2
   · exact .inr rfl
 · rintro (h1 | rfl)
   · exact ⟨(hset y).2 (.inl (.inl h1.1)), fun k => h1.2 ((key _ y (Nat.le_refl _) h1.1).1 k)⟩
   · exact ⟨(hset y).2 (.inr rfl), hv⟩
end
end Go.Proofs.YtlinhgannajfpaaGreatDoor

/- History, plainly: the order of edits and of names; lists in order. -/
namespace Go.Proofs.YtlinhgannajfpaaGreatDoor
open Go Go.RowKit

def ltL : List Int → List Int → Bool
 | a :: r1, b :: r2 => decide (a < b) || (decide (a = b) && ltL r1 r2)
 | _, _ => false
theorem ltL_irr : ∀ a : List Int, ltL a a = false
 | [] => rfl
 | a :: r1 => by simp [ltL, ltL_irr r1]
theorem ltL_trans : ∀ {a b c : List Int}, ltL a b = true → ltL b c = true → ltL a c = true
 | a :: r1, b :: r2, c :: r3, h, k => by
   simp only [ltL, Bool.or_eq_true, decide_eq_true_eq, Bool.and_eq_true] at h k ⊢
   rcases h with h | ⟨h, h2⟩ <;> rcases k with k | ⟨k, k2⟩
   · exact .inl (by omega)
   · exact .inl (by omega)
   · exact .inl (by omega)
   · exact .inr ⟨by omega, ltL_trans h2 k2⟩
 | [], _, _, h, _ => by simp [ltL] at h
 | _ :: _, [], _, h, _ => by simp [ltL] at h
 | _ :: _, _ :: _, [], _, k => by simp [ltL] at k
theorem ltL_total : ∀ {a b : List Int}, a.length = b.length → ltL a b = false → ltL b a = false → a = b
 | [], [], _, _, _ => rfl
 | a :: r1, b :: r2, hl, h, k => by
   simp only [ltL, Bool.or_eq_false_iff, decide_eq_false_iff_not, Bool.and_eq_false_iff] at h k
   have hab : a = b := by omega
   subst hab
   rw [ltL_total (by simpa using hl) (h.2.resolve_left (by simp)) (k.2.resolve_left (by simp))]
 | [], _ :: _, hl, _, _ => by simp at hl
 | _ :: _, [], hl, _, _ => by simp at hl
structure Ord {α : Type} (r : α → α → Bool) : Prop where
 irr : ∀ a, r a a = false
 tr : ∀ {a b c}, r a b = true → r b c = true → r a c = true
 tot : ∀ {a b}, r a b = false → r b a = false → a = b
def Srt {α : Type} (r : α → α → Bool) (l : List α) : Prop := l.Pairwise fun a b => r a b = true
section
variable {α : Type} {r : α → α → Bool}
theorem Ord.asym (o : Ord r) {a b : α} (h : r a b = true) : r b a = false := by
 cases k : r b a
 · rfl
 · have := o.tr h k; rw [o.irr] at this; cases this
theorem Srt.nodup (o : Ord r) {l : List α} (h : Srt r l) : l.Nodup := h.imp fun {a b} h e => by subst e; rw [o.irr] at h; cases h
theorem Srt.eq (o : Ord r) {a b : List α} (ha : Srt r a) (hb : Srt r b) (h : ∀ q, q ∈ a ↔ q ∈ b) : a = b := by
 induction a generalizing b with
 | nil =>
   cases b with
   | nil => rfl
   | cons y ys => exact absurd ((h y).2 (List.mem_cons_self ..)) (by simp)
 | cons x xs ih =>
   cases b with
   | nil => exact absurd ((h x).1 (List.mem_cons_self ..)) (by simp)
   | cons y ys =>
     unfold Srt at ha hb
     rw [List.pairwise_cons] at ha hb
     have hxy : x = y := by
      have h1 := (h x).1 (List.mem_cons_self ..)
      have h2 := (h y).2 (List.mem_cons_self ..)
      rcases List.mem_cons.1 h1 with e | h1
      · exact e
      · rcases List.mem_cons.1 h2 with e | h2
        · exact e.symm
        · have a1 := ha.1 y h2
          have a2 := hb.1 x h1
          rw [o.asym a1] at a2; cases a2
     subst hxy
     have hx1 : x ∉ xs := fun hm => by have := ha.1 x hm; rw [o.irr] at this; cases this
     have hx2 : x ∉ ys := fun hm => by have := hb.1 x hm; rw [o.irr] at this; cases this
     rw [ih ha.2 hb.2 fun q => ?_]
     have hq := h q
     simp only [List.mem_cons] at hq
     constructor
     · intro hm
       rcases hq.1 (.inr hm) with rfl | h3
       · exact absurd hm hx1
       · exact h3
     · intro hm
       rcases hq.2 (.inr hm) with rfl | h3
       · exact absurd hm hx2
       · exact h3
theorem Srt.snoc {l : List α} {p : α} (h : Srt r l) (hp : ∀ q, q ∈ l → r q p = true) : Srt r (l ++ [p]) := by
 unfold Srt
 rw [List.pairwise_append]
 exact ⟨h, List.pairwise_singleton .., fun a ha b hb => by simp at hb; subst hb; exact hp a ha⟩
theorem Srt.filter {l : List α} (h : Srt r l) (p : α → Bool) : Srt r (l.filter p) := List.Pairwise.filter p h
end
def numsE (x : Ed) : List Int := [x.st.tick, x.st.clock, x.st.site, x.st.seq, x.kind, x.box.lo.x, x.box.lo.y, x.box.lo.z, x.box.hi.x, x.box.hi.y, x.box.hi.z, x.at_.x, x.at_.y, x.at_.z, x.turn, x.cell, x.size]
theorem numsE_inj {x y : Ed} (h : numsE x = numsE y) : x = y := by
 obtain ⟨⟨a1, a2, a3, a4⟩, a5, ⟨⟨a6, a7, a8⟩, ⟨a9, a10, a11⟩⟩, ⟨a12, a13, a14⟩, a15, a16, a17⟩ := x
 obtain ⟨⟨b1, b2, b3, b4⟩, b5, ⟨⟨b6, b7, b8⟩, ⟨b9, b10, b11⟩⟩, ⟨b12, b13, b14⟩, b15, b16, b17⟩ := y
 simp only [numsE, List.cons.injEq, and_true] at h
 obtain ⟨rfl, rfl, rfl, rfl, rfl, rfl, rfl, rfl, rfl, rfl, rfl, rfl, rfl, rfl, rfl, rfl, rfl⟩ := h
 rfl
def befE (x y : Ed) : Bool := ltL (numsE x) (numsE y)
theorem ordE : Ord befE := ⟨fun _ => ltL_irr _, fun h k => ltL_trans h k, fun h k => numsE_inj (ltL_total rfl h k)⟩
def befN (a b : Nm) : Bool := ltL [a.site, a.seq] [b.site, b.seq]
theorem ordN : Ord befN := ⟨fun _ => ltL_irr _, fun h k => ltL_trans h k, fun {a b} h k => by
 have := ltL_total (a := [a.site, a.seq]) (b := [b.site, b.seq]) rfl h k
 obtain ⟨a1, a2⟩ := a
 obtain ⟨b1, b2⟩ := b
 simp only [List.cons.injEq, and_true] at this
 obtain ⟨rfl, rfl⟩ := this
 rfl⟩
theorem befN_iff (a b : Nm) : befN a b = true ↔ a.site < b.site ∨ (a.site = b.site ∧ a.seq < b.seq) := by
 simp [befN, ltL]
structure IsSet (l s : List Ed) : Prop where
 srt : Srt befE s
 mem : ∀ x, x ∈ s ↔ SetP l x
structure IsForks (l : List Ed) (f : List Nm) : Prop where
 srt : Srt befN f
 mem : ∀ n, n ∈ f ↔ Forked l n
structure IsAct (l a : List Ed) : Prop where
 srt : Srt befE a
 mem : ∀ x, x ∈ a ↔ ActP l x
theorem IsSet.uniq {l s s' : List Ed} (h : IsSet l s) (k : IsSet l s') : s = s' := h.srt.eq ordE k.srt fun x => (h.mem x).trans (k.mem x).symm
theorem IsForks.uniq {l : List Ed} {s s' : List Nm} (h : IsForks l s) (k : IsForks l s') : s = s' := h.srt.eq ordN k.srt fun x => (h.mem x).trans (k.mem x).symm
theorem IsAct.uniq {l s s' : List Ed} (h : IsAct l s) (k : IsAct l s') : s = s' := h.srt.eq ordE k.srt fun x => (h.mem x).trans (k.mem x).symm
theorem IsSet.same {l m s s' : List Ed} (hlm : ∀ x, x ∈ l ↔ x ∈ m) (h : IsSet l s) (k : IsSet m s') : s = s' := h.uniq ⟨k.srt, fun x => by rw [k.mem, SetP.cong hlm]⟩
theorem IsForks.same {l m : List Ed} {s s' : List Nm} (hlm : ∀ x, x ∈ l ↔ x ∈ m) (h : IsForks l s) (k : IsForks m s') : s = s' := h.uniq ⟨k.srt, fun x => by rw [k.mem]; exact (Forked.cong hlm x).symm⟩
theorem IsAct.same {l m s s' : List Ed} (hlm : ∀ x, x ∈ l ↔ x ∈ m) (h : IsAct l s) (k : IsAct m s') : s = s' := h.uniq ⟨k.srt, fun x => by rw [k.mem, ActP.cong hlm]⟩
end Go.Proofs.YtlinhgannajfpaaGreatDoor
