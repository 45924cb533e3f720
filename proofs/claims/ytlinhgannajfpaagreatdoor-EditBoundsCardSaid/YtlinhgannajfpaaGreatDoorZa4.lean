/- YtlinhgannajfpaaGreatDoorVl · YtlinhgannajfpaaGreatDoorVm · YtlinhgannajfpaaGreatDoorVn · YtlinhgannajfpaaGreatDoorLst · YtlinhgannajfpaaGreatDoorVo · YtlinhgannajfpaaGreatDoorUa · YtlinhgannajfpaaGreatDoorUb · YtlinhgannajfpaaGreatDoorUc · YtlinhgannajfpaaGreatDoorUd · YtlinhgannajfpaaGreatDoorUe · YtlinhgannajfpaaGreatDoorUf -/
import Derived.Laws.BitsAllLaws
import Derived.WalkMore
import Derived.OwnWalk
import Derived.Test.YtlinhgannajfpaaGreatDoorZa3
/- hash.Stream: Begin, Add. -/
namespace Go.Proofs.YtlinhgannajfpaaGreatDoor
open Go Go.RowKit

def stC (s : S8) (bk : List UInt8) (n : Nat) : List Value := [.int .u32 (wn s.a : Int), .int .u32 (wn s.b : Int), .int .u32 (wn s.c : Int), .int .u32 (wn s.d : Int), .int .u32 (wn s.e : Int), .int .u32 (wn s.f : Int), .int .u32 (wn s.g : Int), .int .u32 (wn s.h : Int)] ++ (bvs bk ++ [.int .u64 (n : Int)])
structure StreamC (m : List UInt8) (bk : List UInt8) : Prop where
 len : bk.length = 64
 rest : bk.take (m.length % 64) = restB m
def stM (m bk : List UInt8) : List Value := stC (hashB iS m) bk m.length
theorem stC_len (s : S8) {bk : List UInt8} (n : Nat) (h : bk.length = 64) : (stC s bk n).length = 73 := by
 unfold stC
 rw [List.length_append, List.length_append, bvs_len, h]
 rfl
theorem stC_n (s : S8) {bk : List UInt8} (n : Nat) (h : bk.length = 64) : (stC s bk n)[72]? = some (.int .u64 (n : Int)) := by
 unfold stC
 rw [List.getElem?_append_right (by simp), List.getElem?_append_right (by rw [bvs_len, h]; simp), bvs_len, h]
 rfl
theorem stC_set (s : S8) {bk : List UInt8} (n n' : Nat) (h : bk.length = 64) : (stC s bk n).set 72 (.int .u64 (n' : Int)) = stC s bk n' := by
 unfold stC
 rw [List.set_append_right _ _ (by simp), List.set_append_right _ _ (by rw [bvs_len, h]; simp), bvs_len, h]
 rfl
theorem stC_splice (s : S8) {bk p : List UInt8} (n a : Nat) (h : bk.length = 64) (hp : a + p.length ≤ 64) : splice (stC s bk n) (8 + a) (bvs p) = stC s (splice bk a p) n := by
 unfold stC splice
 have e8 : ([.int .u32 (wn s.a : Int), .int .u32 (wn s.b : Int), .int .u32 (wn s.c : Int), .int .u32 (wn s.d : Int), .int .u32 (wn s.e : Int), .int .u32 (wn s.f : Int), .int .u32 (wn s.g : Int), .int .u32 (wn s.h : Int)] : List Value).length = 8 := rfl
 rw [List.take_append, List.drop_append, e8, List.take_of_length_le (by rw [e8]; omega), List.drop_of_length_le (by rw [e8]; omega)]
 rw [show 8 + a - 8 = a by omega, bvs_len, show 8 + a + p.length - 8 = a + p.length by omega]
 rw [List.take_append_of_le_length (by rw [bvs_len]; omega), List.drop_append_of_le_length (by rw [bvs_len]; omega)]
 simp only [bvs, List.map_append, List.map_take, List.map_drop, List.append_assoc, List.nil_append]
theorem stC_state (s z : S8) (bk : List UInt8) (n : Nat) : splice (stC s bk n) 0 [.int .u32 (wn z.a : Int), .int .u32 (wn z.b : Int), .int .u32 (wn z.c : Int), .int .u32 (wn z.d : Int), .int .u32 (wn z.e : Int), .int .u32 (wn z.f : Int), .int .u32 (wn z.g : Int), .int .u32 (wn z.h : Int)] = stC z bk n := by
 unfold stC splice
 rfl
theorem blk_len {bk p : List UInt8} {a : Nat} (h : bk.length = 64) (hp : a + p.length ≤ 64) : (splice bk a p).length = 64 := by
 rw [length_splice _ _ _ (by omega), h]
theorem blk_take {bk p : List UInt8} {a : Nat} (h : bk.length = 64) (hp : a + p.length ≤ 64) : (splice bk a p).take (a + p.length) = bk.take a ++ p := by
 unfold splice
 rw [← List.append_assoc, List.take_append_of_le_length (by rw [List.length_append, List.length_take]; omega), List.take_of_length_le (by rw [List.length_append, List.length_take]; omega)]
theorem StreamC.more {m bk p : List UInt8} (h : StreamC m bk) (hp : m.length % 64 + p.length < 64) : StreamC (m ++ p) (splice bk (m.length % 64) p) ∧ stC (hashB iS m) (splice bk (m.length % 64) p) (m.length + p.length) = stM (m ++ p) (splice bk (m.length % 64) p) := by
 obtain ⟨h1, h2⟩ := hashB_more (s := iS) hp
 refine ⟨⟨blk_len h.len (by omega), ?_⟩, ?_⟩
 · rw [h2, ← h.rest, List.length_append, show (m.length + p.length) % 64 = m.length % 64 + p.length by omega]
   exact blk_take h.len (by omega)
 · unfold stM
   rw [h1, List.length_append]
theorem StreamC.full {m bk p : List UInt8} (h : StreamC m bk) (hp : m.length % 64 + p.length = 64) : StreamC (m ++ p) (splice bk (m.length % 64) p) ∧ stC (comp (hashB iS m) (splice bk (m.length % 64) p)) (splice bk (m.length % 64) p) (m.length + p.length) = stM (m ++ p) (splice bk (m.length % 64) p) := by
 obtain ⟨h1, h2⟩ := hashB_full (s := iS) hp
 have e : splice bk (m.length % 64) p = restB m ++ p := by
  have h3 := blk_take (a := m.length % 64) h.len (p := p) (by omega)
  rw [hp, List.take_of_length_le (by rw [blk_len h.len (by omega)]; omega), h.rest] at h3
  exact h3
 refine ⟨⟨blk_len h.len (by omega), ?_⟩, ?_⟩
 · rw [h2, List.length_append, show (m.length + p.length) % 64 = 0 by omega]
   rfl
 · unfold stM
   rw [h1, e, List.length_append]
theorem Arr.setCells {b : Nat} {t : TypeId} : ∀ (l : List Value) {w : World} {vs : List Value} (o : Nat), Arr w b t vs → o + l.length ≤ vs.length → Arr (w.setCells b o l) b t (splice vs o l)
 | [], w, vs, o, h, _ => by rw [splice_nil]; exact h
 | v :: l, w, vs, o, h, hl => by
   rw [List.length_cons] at hl
   have h1 := Arr.setCells l (o + 1) (h.set o v) (by rw [List.length_set]; omega)
   rw [splice_step _ _ _ _ (by omega)] at h1
   exact h1
theorem Arr.setCells_other {b g : Nat} {t : TypeId} {vs : List Value} (hne : b ≠ g) : ∀ (l : List Value) {w : World} (o : Nat), Arr w b t vs → Arr (w.setCells g o l) b t vs
 | [], _, _, h => h
 | v :: l, _w, o, h => Arr.setCells_other hne l (o + 1) (h.other (p := ⟨g, o, none⟩) hne v)
theorem Ext.setCells {a : World} {g : Nat} (hg : a.heap.size ≤ g) : ∀ (l : List Value) {w : World} (o : Nat), Ext a w → Ext a (w.setCells g o l)
 | [], _, _, h => h
 | v :: l, _w, o, h => Ext.setCells hg l (o + 1) (h.setCell (p := ⟨g, o, none⟩) hg v)
theorem Arr.there {w : World} {b : Nat} {t : TypeId} {vs : List Value} (h : Arr w b t vs) {o n : Nat} (hn : o + n ≤ vs.length) : w.there b o n := by
 intro j hj
 rw [h.cell]
 have : (o + j) < vs.length := by omega
 simp [List.getElem?_eq_getElem this, h.frozen]
theorem wpList_store_part {P : Program} {ops : Array Oper} {rest : List Oper} {o : Oper} {a : Act} {w : World} {Q : Exit → Act → World → Prop} (ty : TypeId) (x y : Operand) (hgd : o.guard = none) (ho : o.op = .store ty x y) (hdst : o.dst = none)
    {b : Nat} {t : TypeId} {vs : List Value} (hB : Arr w b t vs) (off : Nat) (cs : List Value) (hx : a.eval x = .pointer (some ⟨b, off, none⟩)) (hy : a.eval y = .agg cs.toArray) (hl : off + cs.length ≤ vs.length) (hi : (P.info? ty).map (·.size) = some cs.length)
    (h1 : cs.all (·.oneCell') = true) (h : ∀ W, W = w.setCells b off cs → wpList P ops Q rest a W) : wpList P ops Q (o :: rest) a w :=
 wpList_store_mid hgd ty x y ho b off cs.toArray hx hy (hB.there (by simpa using hl)) (by simpa using hi) (by simpa using h1) (by rw [hdst]; exact h _ rfl)
def zC : List Value := List.replicate 8 (.int .u32 0) ++ (List.replicate 64 (.int .u8 0) ++ [.int .u64 0])
theorem zC_len : zC.length = 73 := rfl
def strLen : Value → Nat
 | .string s => s.size
 | _ => 0
theorem infoS : (Tryz.prog.info? 117).map (·.size) = some 73 := by kernel_rfl
theorem stM_len {m bk : List UInt8} (h : bk.length = 64) : (stM m bk).length = 73 := stC_len _ _ h
theorem stC_one (s : S8) (bk : List UInt8) (n : Nat) : (stC s bk n).all (·.oneCell') = true := by
 unfold stC
 rw [List.all_append, List.all_append]
 have h1 : (bvs bk).all (·.oneCell') = true := by rw [List.all_eq_true]; exact bvs_one bk
 rw [h1]
 rfl
theorem str_drop (l : List UInt8) (k : Nat) : (⟨l.toArray⟩ : ByteArray).extract k l.length = ⟨(l.drop k).toArray⟩ := by
 rw [ByteArray.extract_mk, List.take_of_length_le (by rw [List.length_drop]; exact Nat.le_refl _)]
theorem slice_blk (g o a : Nat) (ha : a < 64) (w : World) : (Instr.sliceAt 114 (.pointer (some ⟨g, o, none⟩)) (some (.int .i64 (a : Int))) none none).run Tryz.prog w = .ok (.slice (some ⟨g, o + a, none⟩) (64 - a) (64 - a)) w := by
 have hA : Tryz.prog.arrayLen 114 = 64 := by kernel_rfl
 have hu : Tryz.prog.underlying 114 = some (.array (Tryz.prog.arrayLen 114) (Tryz.prog.elem 114)) := by kernel_rfl
 have hs : (sizeOf (Tryz.prog.elem 114)).run Tryz.prog w = .ok 1 w := by
  have h : (Tryz.prog.info? (Tryz.prog.elem 114)).map (·.size) = some 1 := by kernel_rfl
  obtain ⟨i, h1, h2⟩ := Option.map_eq_some_iff.1 h
  simp [sizeOf, typeInfo, h1, h2]
 rw [run_sliceAt_array_l w _ _ hu .i64 (a : Int) (by omega) (by rw [hA]; omega), hs, hA]
 simp only [Result.andThen, slicedAt, Int.toNat_natCast, Nat.mul_one]
 rw [if_neg (by omega)]
 simp [Addr.add]
set_option maxHeartbeats 8000000 in
set_option maxRecDepth 100000 in
theorem StrAdd_any (m bk : List UInt8) (hS : StreamC m bk) (l : List UInt8) (hl : m.length + l.length < 1000000000) (w : World) (hK : KIn w 2) :
    Calls Tryz.prog 109 #[.agg (stM m bk).toArray, strV l] w fun e w' => ∃ bk', StreamC (m ++ l) bk' ∧ e = .returned (.agg (stM (m ++ l) bk').toArray) ∧ Ext w w' := by
 have hm := mixed
 have HK := Lib.hid hK
 obtain ⟨cs, hcs⟩ : ∃ cs, cs = stM m bk := ⟨_, rfl⟩
 rw [← hcs]
 have hlen : cs.length = 73 := by rw [hcs]; exact stM_len hS.len
 have HCS := Lib.hid hcs; have HS := Lib.hid hS; have HLN := Lib.hid hlen
 clear hcs hS hK hlen
 go_enter Tryz.func109, Tryz.ntmps109
 go_upto_region 1 with fail
 go_loopw [1] (fun tv wr => ∃ (l1 l2 bk1 : List UInt8), l1 ++ l2 = l ∧ tv = strV l2 ∧ StreamC (m ++ l1) bk1 ∧ Arr wr w.heap.size 117 (stM (m ++ l1) bk1) ∧ Arr wr (w.heap.size + 1) 117 zC ∧ Ext w wr) (fun tv _ => strLen tv)
 case atStart => exact ⟨[], l, bk, rfl, rfl, by rw [List.append_nil]; exact HS.out, by rw [List.append_nil, ← HCS.out]; exact (Arr.new w _ cs).alloc _, Arr.new1 w _ _ zC, ((Ext.refl w).alloc _).alloc _⟩
 case round =>
  obtain ⟨l1, l2, bk1, hll, rfl, hs1, hA, hZ, hx⟩ := hrel
  have HL := Lib.hid hll; have HS1 := Lib.hid hs1; have HA := Lib.hid hA; have HZ := Lib.hid hZ; have HX := Lib.hid hx
  have hml : (m ++ l1).length + l2.length < 1000000000 := by have h2 := congrArg List.length hll; rw [List.length_append] at h2 ⊢; omega
  clear hll hs1 hA hZ hx HS HCS HLN
  obtain ⟨M, hM⟩ : ∃ M, M = m ++ l1 := ⟨_, rfl⟩
  rw [← hM] at HS1 HA hml
  have HM := Lib.hid hM
  clear hM
  obtain ⟨S0, hS0⟩ : ∃ S0, S0 = hashB iS M := ⟨_, rfl⟩
  have HS0 := Lib.hid hS0
  clear hS0
  obtain ⟨a, ha⟩ : ∃ a, a = M.length % 64 := ⟨_, rfl⟩
  have hlt : a < 64 := by omega
  have HAL := Lib.hid ha
  have er : ((M.length : Nat) : Int).tmod 64 = (a : Int) := by rw [Int.tmod_eq_emod_of_nonneg (by omega)]; omega
  have c72 := HA.out.cell 72
  unfold stM at c72
  rw [stC_n _ _ HS1.out.len] at c72
  have lA := HA.out.lt
  have hMl : M.length < 1000000000 := by omega
  clear ha
  by_cases hnil : l2 = []
  · subst hnil
    obtain ⟨vs, hvs⟩ : ∃ vs, vs = stM M bk1 := ⟨_, rfl⟩
    have hvl : vs.length = 73 := by rw [hvs]; exact stM_len HS1.out.len
    have HiV := Lib.hid (show (Tryz.prog.info? 117).map (·.size) = some vs.length by rw [hvl]; exact infoS)
    have HoV := Lib.hid (show vs.all (·.oneCell') = true by rw [hvs]; exact stC_one _ _ _)
    have HVL := Lib.hid hvl; have HVS := Lib.hid hvs
    rw [← hvs] at HA
    clear hvs hvl c72
    go_wp2_with (first
     | (refine wpList_load_blk 117 (.tmp 2) rfl rfl HA.out rfl _ Tryz.underlying117 rfl HiV.out ?_)
     | (refine wpList_store_blk 117 (.tmp 4) (.tmp 37) rfl rfl HZ.out vs rfl rfl HiV.out (by rw [HVL.out]; rfl) HoV.out ?_))
    refine bodyPost_ret (v := .agg vs.toArray) ?_ rfl ⟨bk1, ?_, ?_, HX.out.setRow (by omega) _⟩
    · exact results_cell_row Tryz.results109 _ _ _ _ _ _ _ rfl (HZ.out.setRow vs) Tryz.underlying117 rfl HiV.out
    · have h := HL.out
      rw [List.append_nil] at h
      rw [← h, ← HM.out]
      exact HS1.out
    · have h := HL.out
      rw [List.append_nil] at h
      rw [← h, ← HM.out, HVS.out]
  · have hpos : 0 < l2.length := List.length_pos_iff.2 hnil
    have hie : l2.isEmpty = false := by cases l2 with | nil => exact absurd rfl hnil | cons _ _ => rfl
    have HPOS := Lib.hid hpos
    clear hpos hnil
    obtain ⟨k, hk⟩ : ∃ k, k = Nat.min l2.length (64 - a) := ⟨_, rfl⟩
    have hk1 : k ≤ l2.length := by rw [hk]; exact Nat.min_le_left _ _
    have hk2 : k ≤ 64 - a := by rw [hk]; exact Nat.min_le_right _ _
    have hk3 : 0 < k := by rw [hk]; exact Nat.lt_min.2 ⟨HPOS.out, by omega⟩
    obtain ⟨p, hp⟩ : ∃ p, p = l2.take k := ⟨_, rfl⟩
    have hpl : p.length = k := by rw [hp, List.length_take]; omega
    have HP := Lib.hid hp; have HPL := Lib.hid hpl; have HKK := Lib.hid hk
    clear hp hpl hk
    go_upto_region 3 with fail
    clear c72
    have hsl := slice_blk w.heap.size 8 a hlt
    go_upto_region 4 with
     (refine wpList_copy_str rfl (.tmp 15) (.tmp 16) 42 9 rfl 5 Tryz.underlying42 (by kernel_rfl) w.heap.size (8 + a) (64 - a) (64 - a) l2 rfl rfl k HKK.out HA.out (by rw [stM_len HS1.out.len]; omega) ?_;
      intro W1 hW;
      have HA1 := Lib.hid (show Arr W1 w.heap.size 117 (stC S0 (splice bk1 a p) M.length) by rw [hW, ← stC_splice S0 M.length a HS1.out.len (by rw [HPL.out]; omega), HP.out, HS0.out]; exact HA.out.setRow _);
      have HZ1 := Lib.hid (show Arr W1 (w.heap.size + 1) 117 zC by rw [hW]; exact HZ.out.setRow_other (by omega) _);
      have HX1 := Lib.hid (show Ext w W1 by rw [hW]; exact HX.out.setRow (Nat.le_refl _) _);
      clear hW)
    clear hsl
    have HB2 := Lib.hid (blk_len (a := a) HS1.out.len (p := p) (by rw [HPL.out]; omega))
    have c72 := HA1.out.cell 72
    rw [stC_n _ _ HB2.out] at c72
    have f72 := HA1.out.frozen 72
    have lA1 := HA1.out.lt
    have hZl := HZ1.out.lt
    have hdl : (l2.drop k).length = l2.length - k := by rw [List.length_drop]
    have HDL := Lib.hid hdl
    clear hdl
    have hcat : ∀ x, m ++ (l1 ++ x) = M ++ x := fun x => by rw [HM.out, List.append_assoc]
    have HCT := Lib.hid hcat
    clear hcat
    have HLL := Lib.hid (show (l1 ++ p) ++ l2.drop k = l by rw [HP.out, List.append_assoc, List.take_append_drop]; exact HL.out)
    by_cases hful : a + k = 64
    · obtain ⟨h1, h2⟩ := HS1.out.full (p := p) (by rw [HPL.out, ← HAL.out]; exact hful)
      rw [← HAL.out, ← HS0.out, HPL.out] at h2
      rw [← HAL.out] at h1
      have HF1 := Lib.hid h1; have HF2 := Lib.hid h2
      clear h1 h2
      go_upto_region 7 with fail
      have HA2 := Lib.hid (HA1.out.set 72 (.int .u64 ((M.length + k : Nat) : Int)))
      rw [stC_set _ _ _ HB2.out] at HA2
      have HZ2 := Lib.hid (HZ1.out.other (p := ⟨w.heap.size, 72, none⟩) (by simp only; omega) (.int .u64 ((M.length + k : Nat) : Int)))
      have HX2 := Lib.hid (HX1.out.setCell (p := ⟨w.heap.size, 72, none⟩) (Nat.le_refl _) (.int .u64 ((M.length + k : Nat) : Int)))
      rw [show (M.length : Int) + (k : Int) = ((M.length + k : Nat) : Int) by omega]
      generalize W1.setCell ⟨w.heap.size, 72, none⟩ (.int .u64 ((M.length + k : Nat) : Int)) = W2 at HA2 HZ2 HX2 ⊢
      clear c72 f72 lA1 HA1 HZ1 HX1
      generalize splice bk1 a p = bk2 at HA2 HB2 HF1 HF2
      have hblk : BlkB W2 W2.heap.size w.heap.size 8 bk2 := ⟨HA2.out.lt, fun j v hv => by
       rw [HA2.out.cell]
       unfold stC
       rw [List.getElem?_append_right (by simp), List.getElem?_append_left (by rw [bvs_len]; have := (List.getElem?_eq_some_iff.1 hv).1; simp; omega)]
       simp [bvs, bv, hv]⟩
      have HC := Lib.hid (fun (W' : World) (hx : Ext W2 W') => compress_any S0 bk2 HB2.out w.heap.size 8 64 W' (Nat.le_refl _) ((hblk.ext (Nat.le_refl _) hx).more hx.size) ((HK.out.ext HX2.out).ext hx))
      clear hblk
      have cS : ∀ j, j < 8 → W2.cell? ⟨w.heap.size, j, none⟩ = [.int .u32 (wn S0.a : Int), .int .u32 (wn S0.b : Int), .int .u32 (wn S0.c : Int), .int .u32 (wn S0.d : Int), .int .u32 (wn S0.e : Int), .int .u32 (wn S0.f : Int), .int .u32 (wn S0.g : Int), .int .u32 (wn S0.h : Int)][j]? := fun j hj => by
       rw [HA2.out.cell]
       unfold stC
       rw [List.getElem?_append_left (by simpa using hj)]
      have c0 := cS 0 (by decide); have c1 := cS 1 (by decide); have c2 := cS 2 (by decide); have c3 := cS 3 (by decide); have c4 := cS 4 (by decide); have c5 := cS 5 (by decide); have c6 := cS 6 (by decide); have c7 := cS 7 (by decide)
      simp only [List.getElem?_cons_zero, List.getElem?_cons_succ] at c0 c1 c2 c3 c4 c5 c6 c7
      clear cS
      have lA2 := HA2.out.lt
      have hG := near_old
      have HZZ := Lib.hid (show comp S0 bk2 = comp S0 bk2 from rfl)
      generalize hz : comp S0 bk2 = z at HC HF2
      clear hz HZZ
      refine wp_region_near_tail 6 (by assumption) (by kernel_rfl) ?_
      simp only [List.take_succ_cons, List.take_zero, List.drop_succ_cons, List.drop_zero]
      repeat (go_big_quiet_step ((go_at_call 141; exact near_call (HC.out _ (Ext.of_near ⟨⟨_, _⟩, rfl⟩)))))
      refine wpQuiet_nil ?_
      intro w1 hw1
      have hy := Ext.of_near hw1
      clear hw1
      have HA3 := Lib.hid (HA2.out.ext hy); have HZ3 := Lib.hid (HZ2.out.ext hy); have HX3 := Lib.hid (HX2.out.trans hy)
      clear hy c0 c1 c2 c3 c4 c5 c6 c7 lA2
      obtain ⟨zl, hzl⟩ : ∃ zl : List Value, zl = [.int .u32 (wn z.a : Int), .int .u32 (wn z.b : Int), .int .u32 (wn z.c : Int), .int .u32 (wn z.d : Int), .int .u32 (wn z.e : Int), .int .u32 (wn z.f : Int), .int .u32 (wn z.g : Int), .int .u32 (wn z.h : Int)] := ⟨_, rfl⟩
      have hz8 : zl.length = 8 := by rw [hzl]; rfl
      have HiZ := Lib.hid (show (Tryz.prog.info? 113).map (·.size) = some zl.length by rw [hz8]; kernel_rfl)
      have HoZ := Lib.hid (show zl.all (·.oneCell') = true by rw [hzl]; rfl)
      have H8 := Lib.hid hz8; have HZL := Lib.hid hzl
      rw [show (#[.int .u32 (wn z.a : Int), .int .u32 (wn z.b : Int), .int .u32 (wn z.c : Int), .int .u32 (wn z.d : Int), .int .u32 (wn z.e : Int), .int .u32 (wn z.f : Int), .int .u32 (wn z.g : Int), .int .u32 (wn z.h : Int)] : Array Value) = zl.toArray by rw [hzl]]
      clear hz8 hzl
      go_wp2_with
       (refine wpList_store_part 113 (.tmp 36) (.tmp 35) rfl rfl rfl HA3.out 0 zl rfl rfl (by rw [H8.out, stC_len _ _ HB2.out]; omega) HiZ.out HoZ.out ?_;
        intro W5 hW;
        have HA5 := Lib.hid (show Arr W5 w.heap.size 117 (stC z bk2 (M.length + k)) by rw [hW, ← stC_state S0 z bk2 (M.length + k), ← HZL.out]; exact HA3.out.setCells zl 0 (by rw [H8.out, stC_len _ _ HB2.out]; omega));
        have HZ5 := Lib.hid (show Arr W5 (w.heap.size + 1) 117 zC by rw [hW]; exact Arr.setCells_other (by omega) zl 0 HZ3.out);
        have HX5 := Lib.hid (show Ext w W5 by rw [hW]; exact Ext.setCells (Nat.le_refl _) zl 0 HX3.out);
        clear hW)
      rw [str_drop]
      have h := HA5.out
      rw [HF2.out] at h
      refine ⟨⟨l1 ++ p, l2.drop k, bk2, HLL.out, rfl, ?_, ?_, HZ5.out, HX5.out⟩, ?_⟩
      · rw [HCT.out]; exact HF1.out
      · rw [HCT.out]; exact h
      · show (⟨(l2.drop k).toArray⟩ : ByteArray).size < (⟨l2.toArray⟩ : ByteArray).size
        rw [str_size, str_size, HDL.out]
        omega
    · obtain ⟨h1, h2⟩ := HS1.out.more (p := p) (by rw [HPL.out, ← HAL.out]; omega)
      rw [← HAL.out, ← HS0.out, HPL.out] at h2
      rw [← HAL.out] at h1
      have HF1 := Lib.hid h1; have HF2 := Lib.hid h2
      clear h1 h2
      go_wp2_with fail
      rw [str_drop]
      have h := HA1.out.set 72 (.int .u64 ((M.length + k : Nat) : Int))
      rw [stC_set _ _ _ HB2.out, HF2.out] at h
      rw [show (M.length : Int) + (k : Int) = ((M.length + k : Nat) : Int) by omega]
      refine ⟨⟨l1 ++ p, l2.drop k, splice bk1 a p, HLL.out, rfl, ?_, ?_, HZ1.out.other (by simp only; omega) _, HX1.out.setCell (Nat.le_refl _) _⟩, ?_⟩
      · rw [HCT.out]; exact HF1.out
      · rw [HCT.out]; exact h
      · show (⟨(l2.drop k).toArray⟩ : ByteArray).size < (⟨l2.toArray⟩ : ByteArray).size
        rw [str_size, str_size, HDL.out]
        omega
end Go.Proofs.YtlinhgannajfpaaGreatDoor

/- hash.Begin. -/
namespace Go.Proofs.YtlinhgannajfpaaGreatDoor
open Go Go.RowKit

def bk0 : List UInt8 := List.replicate 64 0
theorem stream0 : StreamC [] bk0 := ⟨by simp [bk0], by simp [restB]⟩
theorem stM0 : stM [] bk0 = stC iS bk0 0 := by unfold stM; rw [hashB_short (by simp)]; rfl
set_option maxHeartbeats 8000000 in
set_option maxRecDepth 100000 in
theorem Begin_any (w : World) :
    Calls Tryz.prog 108 #[] w fun e w' => e = .returned (.agg (stM [] bk0).toArray) ∧ Ext w w' := by
 rw [stM0]
 go_enter Tryz.func108, Tryz.ntmps108
 go_upto_region 1 with fail
 have hl : (stC iS bk0 0).length = 73 := stC_len _ _ (by simp [bk0])
 have HiS := Lib.hid (show (Tryz.prog.info? 117).map (·.size) = some (stC iS bk0 0).length by rw [hl]; exact infoS)
 have HoS := Lib.hid (stC_one iS bk0 0)
 have HLS := Lib.hid hl
 clear hl
 go_wp2_with (refine wpList_store_blk 117 (.tmp 0) (.tmp 2) rfl rfl (Arr.new w _ zC) (stC iS bk0 0) rfl (by kernel_rfl) HiS.out (by rw [HLS.out]; rfl) HoS.out ?_)
 refine bodyPost_ret (v := .agg (stC iS bk0 0).toArray) ?_ rfl ⟨rfl, ((Ext.refl w).alloc _).setRow (Nat.le_refl _) _⟩
 exact results_cell_row Tryz.results108 _ _ _ _ _ _ _ rfl ((Arr.new w _ zC).setRow (stC iS bk0 0)) Tryz.underlying117 rfl HiS.out
end Go.Proofs.YtlinhgannajfpaaGreatDoor

/- hash.Stream.Sum. -/
namespace Go.Proofs.YtlinhgannajfpaaGreatDoor
open Go Go.RowKit

section
variable {P : Program}
theorem run_convert_str (w : World) (src dst e : TypeId) (hs : P.underlying src = some (.slice e)) (he : P.underlying e = some (.int .u8)) (hd : P.underlying dst = some .string) {B c n : Nat} {A : Option Addr} {l : List UInt8} (h : Sv w B 1 A c (rowsB l)) (hn : n = l.length) :
    (convert src dst (.slice A n c)).run P w = .ok (strV l) w := by
 subst hn
 rcases A with _ | ⟨b, off, sp⟩
 · have h0 := h.mem
   have hl : l = [] := by
    cases l with
    | nil => rfl
    | cons x xs =>
      obtain ⟨b, off, e1, _⟩ := byte_row h (j := 0) (v := x) rfl
      cases e1
   subst hl
   exact run_convert_bytes_nil w src e hs he _ _ dst hd
 · by_cases hl : l = []
   · subst hl
     rw [run_convert_bytes_string w src dst e _ _ c hs he hd]
     simp [Conv.bytesToString, loadCells, loadCellsFrom]
     rfl
   · have hsp : sp = none := by
       cases l with
       | nil => exact absurd rfl hl
       | cons x xs =>
         obtain ⟨b', off', e1, _⟩ := byte_row h (j := 0) (v := x) rfl
         injection e1 with e1
         injection e1
     subst hsp
     have hc := run_convert_bytes_arg (P := P) w src e hs he b off l.length c (l.map fun x => (x.toNat : Int)) (by simp) (fun i hi => by
      obtain ⟨b', off', e1, _, h1⟩ := byte_row h (j := i) (v := l[i]) (List.getElem?_eq_getElem hi)
      injection e1 with e1
      injection e1 with e2 e3
      subst e2 e3
      rw [h1]
      simp [List.getD, hi]) dst hd
     rw [hc]
     congr 2
     unfold strOfNums
     congr 1
     simp only [List.map_map]
     congr 1
     refine (List.map_congr_left (g := id) fun x _ => ?_).trans (List.map_id l)
     simp
theorem wpList_convert_str {w : World} {ops : Array Oper} {rest : List Oper} {o : Oper} {a : Act} {Q : Exit → Act → World → Prop} (src dst : TypeId) (x : Operand) (ho : o.op = .convert src dst x) (hw : Region.wanted o (yielded ops a.tmps) = true) (e : TypeId)
    (hs : P.underlying src = some (.slice e)) (he : P.underlying e = some (.int .u8)) (hd : P.underlying dst = some .string) (n c : Nat) (A : Option Addr) (l : List UInt8) (hx : a.eval x = .slice A n c) {B : Nat} (h : Sv w B 1 A c (rowsB l)) (hn : n = l.length)
    (hk : wpList P ops Q rest (a.put o.dst (strV l)) w) : wpList P ops Q (o :: rest) a w := by
 refine wpList_step fun K hK => ?_
 rw [if_pos hw]
 have hr := run_convert_str w src dst e hs he hd h hn
 exact op_run (by unfold execOp; simp only [ho, hx]; simp [hr, Result.andThen]) (hK _ _ hk)
end
theorem b32_len (s : S8) : (b32 s).length = 32 := rfl
theorem b32_get (s : S8) : ∀ (i : Nat), i < 32 → (b32 s)[i]? = some (UInt8.ofNat (wn ((s8w s).getD (i / 4) 0) / 2 ^ (24 - 8 * (i % 4))))
 | 0, _ => rfl
 | 1, _ => rfl
 | 2, _ => rfl
 | 3, _ => by rw [show 2 ^ (24 - 8 * (3 % 4)) = 1 from rfl, Nat.div_one]; rfl
 | 4, _ => rfl
 | 5, _ => rfl
 | 6, _ => rfl
 | 7, _ => by rw [show 2 ^ (24 - 8 * (7 % 4)) = 1 from rfl, Nat.div_one]; rfl
 | 8, _ => rfl
 | 9, _ => rfl
 | 10, _ => rfl
 | 11, _ => by rw [show 2 ^ (24 - 8 * (11 % 4)) = 1 from rfl, Nat.div_one]; rfl
 | 12, _ => rfl
 | 13, _ => rfl
 | 14, _ => rfl
 | 15, _ => by rw [show 2 ^ (24 - 8 * (15 % 4)) = 1 from rfl, Nat.div_one]; rfl
 | 16, _ => rfl
 | 17, _ => rfl
 | 18, _ => rfl
 | 19, _ => by rw [show 2 ^ (24 - 8 * (19 % 4)) = 1 from rfl, Nat.div_one]; rfl
 | 20, _ => rfl
 | 21, _ => rfl
 | 22, _ => rfl
 | 23, _ => by rw [show 2 ^ (24 - 8 * (23 % 4)) = 1 from rfl, Nat.div_one]; rfl
 | 24, _ => rfl
 | 25, _ => rfl
 | 26, _ => rfl
 | 27, _ => by rw [show 2 ^ (24 - 8 * (27 % 4)) = 1 from rfl, Nat.div_one]; rfl
 | 28, _ => rfl
 | 29, _ => rfl
 | 30, _ => rfl
 | 31, _ => by rw [show 2 ^ (24 - 8 * (31 % 4)) = 1 from rfl, Nat.div_one]; rfl
 | i + 32, h => by omega
theorem Arr.by_ {w w' : World} {b : Nat} {t : TypeId} {vs : List Value} {row : Option Nat} (h : Arr w b t vs) (hg : w.grownBy w' row) (hne : some b ≠ row) : Arr w' b t vs := by
 have h1 := hg.block b h.lt hne
 unfold Arr at *
 rw [h1]
 exact h
def shaC (m : List UInt8) (i : Nat) : List Value := bvs ((sha m).take i) ++ List.replicate (32 - i) (.int .u8 0)
theorem shaC_len (m : List UInt8) {i : Nat} (h : i ≤ 32) : (shaC m i).length = 32 := by
 unfold shaC
 rw [List.length_append, bvs_len, List.length_take, sha_len, List.length_replicate]
 omega
theorem shaC_all (m : List UInt8) : shaC m 32 = bvs (sha m) := by
 unfold shaC
 rw [List.take_of_length_le (by rw [sha_len]; exact Nat.le_refl _)]
 simp
theorem shaC_set (m : List UInt8) {i : Nat} {v : UInt8} (h : i < 32) (hv : (sha m)[i]? = some v) : (shaC m i).set i (.int .u8 (v.toNat : Int)) = shaC m (i + 1) := by
 unfold shaC
 have hl : (bvs ((sha m).take i)).length = i := by rw [bvs_len, List.length_take, sha_len]; omega
 have e : 32 - i = (32 - (i + 1)) + 1 := by omega
 rw [List.set_append_right _ _ (by omega), hl, Nat.sub_self, e, List.replicate_succ, List.set_cons_zero, List.take_add_one, hv]
 simp [bvs, bv]
def padZ (j : Nat) : List UInt8 := 128 :: List.replicate j 0
theorem padZ_succ (j : Nat) : padZ j ++ [0] = padZ (j + 1) := by unfold padZ; rw [List.replicate_succ']; rfl
theorem padL_eq (n : Nat) : padL n = padZ (padN n) ++ len8 n := rfl
def padI (n i : Nat) : List UInt8 := padZ (padN n) ++ (len8 n).take i
theorem padI_all (n : Nat) : padI n 8 = padL n := by unfold padI; rw [List.take_of_length_le (by rw [len8_len]; exact Nat.le_refl _), padL_eq]
theorem padI_zero (n : Nat) : padI n 0 = padZ (padN n) := by unfold padI; simp
theorem padI_succ {n i : Nat} (h : i < 8) (hn : 8 * n < 18446744073709551616) : padI n i ++ [UInt8.ofNat (8 * n / 2 ^ (56 - 8 * i) % 256)] = padI n (i + 1) := by
 unfold padI
 have hg : (len8 n)[i]? = some (UInt8.ofNat (8 * n / 2 ^ (56 - 8 * i) % 256)) := by
  unfold len8
  rw [List.getElem?_map, List.getElem?_range h]
  simp only [Option.map_some]
  rw [Nat.mod_eq_of_lt hn, show (256 : Nat) = 2 ^ 8 from rfl, ← Nat.pow_mul, show 8 * (7 - i) = 56 - 8 * i by omega]
 rw [List.take_add_one, hg, List.append_assoc]
 rfl
theorem padI_len (n : Nat) {i : Nat} (h : i ≤ 8) : (padI n i).length ≤ 80 := by
 unfold padI padZ
 have : padN n < 64 := by unfold padN; omega
 rw [List.length_append, List.length_cons, List.length_replicate, List.length_take, len8_len]
 omega
theorem padZ_len (j : Nat) : (padZ j).length = j + 1 := by simp [padZ]
set_option maxHeartbeats 8000000 in
set_option maxRecDepth 100000 in
theorem SumS_any (m bk : List UInt8) (hS : StreamC m bk) (hl : m.length < 100000000) (w : World) (hK : KIn w 2) :
    Calls Tryz.prog 111 #[.agg (stM m bk).toArray] w fun e w' => e = .returned (.agg (bvs (sha m)).toArray) ∧ Ext w w' := by
 have HK := Lib.hid hK
 obtain ⟨cs, hcs⟩ : ∃ cs, cs = stM m bk := ⟨_, rfl⟩
 have HCS := Lib.hid hcs; have HS := Lib.hid hS
 have c72 : cs[72]? = some (.int .u64 (m.length : Int)) := by rw [hcs]; exact stC_n _ _ hS.len
 have HL := Lib.hid (show cs.length = 73 by rw [hcs]; exact stM_len hS.len)
 rw [← hcs]
 clear hcs hS hK
 obtain ⟨z32, hz32⟩ : ∃ z, z = List.replicate 32 (Value.int .u8 0) := ⟨_, rfl⟩
 obtain ⟨W0, hW⟩ : ∃ W, W = (w.alloc (.cells cs.toArray 117)).alloc (.cells #[.int .u8 0, .int .u8 0, .int .u8 0, .int .u8 0, .int .u8 0, .int .u8 0, .int .u8 0, .int .u8 0, .int .u8 0, .int .u8 0, .int .u8 0, .int .u8 0, .int .u8 0, .int .u8 0, .int .u8 0, .int .u8 0, .int .u8 0, .int .u8 0, .int .u8 0, .int .u8 0, .int .u8 0, .int .u8 0, .int .u8 0, .int .u8 0, .int .u8 0, .int .u8 0, .int .u8 0, .int .u8 0, .int .u8 0, .int .u8 0, .int .u8 0, .int .u8 0] 121) := ⟨_, rfl⟩
 have HX0 := Lib.hid (show Ext w W0 by rw [hW]; exact ((Ext.refl w).alloc _).alloc _)
 have HA0 := Lib.hid (show Arr W0 w.heap.size 117 cs by rw [hW]; exact (Arr.new w _ cs).alloc _)
 have HR0 := Lib.hid (show Arr W0 (w.heap.size + 1) 121 z32 by rw [hW, hz32]; exact Arr.new1 w _ _ (List.replicate 32 (.int .u8 0)))
 have cW := HA0.out.cell 72
 rw [c72] at cW
 have lA := HA0.out.lt
 go_enter Tryz.func111, Tryz.ntmps111
 go_upto_region 1 with fail
 rw [← hW]
 have HZ := Lib.hid hz32
 clear hW hz32 c72
 go_upto_region 2 with fail
 have HSN := Lib.hid (svB_one W0 128)
 have HO := Lib.hid (show (W0.alloc (.cells #[.int .u8 128] 5)).ownsRow (w.heap.size + 2) 5 1 (.slice (some ⟨W0.heap.size, 0, none⟩) 1 1) (padZ 0).length (rowsB (padZ 0)).flatten from ⟨rfl, .inr ⟨W0.heap.size, 1, _, rfl, HR0.out.lt, heap_alloc_new _ _, Nat.le_refl _, by unfold maxLen; omega, rfl, rfl⟩⟩)
 have HA1 := Lib.hid (HA0.out.alloc (.cells #[.int .u8 128] 5)); have HR1 := Lib.hid (HR0.out.alloc (.cells #[.int .u8 128] 5)); have HX1 := Lib.hid (HX0.out.alloc (.cells #[.int .u8 128] 5))
 clear cW lA
 go_upto_region 3 with fail
 go_loopw [4] (fun pv wr => ∃ j : Nat, j ≤ padN m.length ∧ wr.ownsRow (w.heap.size + 2) 5 1 pv (j + 1) (rowsB (padZ j)).flatten ∧ Arr wr w.heap.size 117 cs ∧ Arr wr (w.heap.size + 1) 121 z32 ∧ Ext w wr) (fun pv _ => padN m.length + 1 - (match pv with | .slice _ n _ => n | _ => 0))
 case atStart => exact ⟨0, Nat.zero_le _, HO.out, HA1.out, HR1.out, HX1.out⟩
 case round =>
  obtain ⟨j, hj, hw, hA, hR, hx⟩ := hrel
  have HA := Lib.hid hA; have HR := Lib.hid hR; have HX := Lib.hid hx
  have HW := Lib.hid hw
  obtain ⟨A1, c1, rfl, _⟩ := own_form hw
  have c72 := hA.cell 72
  rw [show cs[72]? = some (.int .u64 (m.length : Int)) by rw [HCS.out]; exact stC_n _ _ HS.out.len] at c72
  clear hA hR hx hw HA0 HR0 HX0 HA1 HR1 HX1 HO
  have hr : ((m.length : Int) + ((j : Int) + 1)).tmod 64 = (((m.length + j + 1) % 64 : Nat) : Int) := by rw [Int.tmod_eq_emod_of_nonneg (by omega)]; omega
  have hpn : padN m.length < 64 := by unfold padN; omega
  by_cases hlt : j < padN m.length
  · have h56 : (m.length + j + 1) % 64 ≠ 56 := by unfold padN at hlt; omega
    have HSN := Lib.hid (svB_one wr 0)
    have HO3 := Lib.hid (show (wr.alloc (.cells #[.int .u8 ((0 : UInt8).toNat : Int)] 5)).ownsRow (w.heap.size + 2) 5 1 (.slice A1 (j + 1) c1) (padZ j).length (rowsB (padZ j)).flatten by rw [padZ_len]; exact own_ext HW.out ((Ext.refl wr).alloc _))
    have HA3 := Lib.hid (HA.out.alloc (.cells #[.int .u8 ((0 : UInt8).toNat : Int)] 5)); have HR3 := Lib.hid (HR.out.alloc (.cells #[.int .u8 ((0 : UInt8).toNat : Int)] 5)); have HX3 := Lib.hid (HX.out.alloc (.cells #[.int .u8 ((0 : UInt8).toNat : Int)] 5))
    have HPS := Lib.hid (padZ_succ j).symm
    have HPL := Lib.hid (padZ_len j); have HPL1 := Lib.hid (padZ_len (j + 1))
    have HBS := Lib.hid (show w.heap.size + 2 ≤ (wr.alloc (.cells #[.int .u8 ((0 : UInt8).toNat : Int)] 5)).heap.size by have := HR3.out.lt; omega)
    go_wp2_with
     (at_builtin; refine wpList_append_B rfl (.tmp 20) (.tmp 21) rfl (w.heap.size + 2) _ (padZ j) rfl HO3.out _ 1 1 [0] rfl rfl HSN.out (by rw [HPL.out]; omega) HBS.out (padZ (j + 1)) HPS.out ?_;
      intro A2 c2 W2 ho2 hg2;
      have HO4 := Lib.hid ho2; have HA4 := Lib.hid (HA3.out.by_ hg2 (fun e => by have := own_low HO3.out _ e.symm; omega)); have HR4 := Lib.hid (HR3.out.by_ hg2 (fun e => by have := own_low HO3.out _ e.symm; omega)); have HX4 := Lib.hid (HX3.out.own HO3.out hg2 (by omega));
      rw [padZ_len];
      clear ho2 hg2)
    refine ⟨⟨j + 1, by omega, (by have h := HO4.out; rw [padZ_len] at h; exact h), HA4.out, HR4.out, HX4.out⟩, ?_⟩
    show padN m.length + 1 - (j + 1 + 1) < padN m.length + 1 - (j + 1)
    omega
  · obtain rfl : j = padN m.length := by omega
    have h56 : (m.length + padN m.length + 1) % 64 = 56 := by unfold padN; omega
    have HP0 := Lib.hid (padI_zero m.length)
    have HW0 := Lib.hid (show wr.ownsRow (w.heap.size + 2) 5 1 (.slice A1 (padN m.length + 1) c1) (padI m.length 0).length (rowsB (padI m.length 0)).flatten by rw [HP0.out, padZ_len]; exact HW.out)
    have HPZ := Lib.hid (show (padI m.length 0).length = padN m.length + 1 by rw [HP0.out, padZ_len])
    have HPN := Lib.hid hpn
    clear hlt hj
    go_upto_region 6 with fail
    clear c72 hr h56
    rename World => wo
    go_loopw [4, 23] (fun pv iv wr => ∃ i : Nat, i ≤ 8 ∧ iv = .int .i64 (i : Int) ∧ wr.ownsRow (w.heap.size + 2) 5 1 pv (padI m.length i).length (rowsB (padI m.length i)).flatten ∧ Arr wr w.heap.size 117 cs ∧ Arr wr (w.heap.size + 1) 121 z32 ∧ Ext w wr) (fun _ iv _ => 8 - (intOf iv).toNat)
    case atStart => exact ⟨0, by omega, rfl, HW0.out, HA.out, HR.out, HX.out⟩
    case round =>
     obtain ⟨i, hi, rfl, hw, hA, hR, hx⟩ := hrel
     have HA := Lib.hid hA; have HR := Lib.hid hR; have HX := Lib.hid hx
     have HW := Lib.hid hw
     obtain ⟨A2, c2, rfl, _⟩ := own_form hw
     have HLI := Lib.hid (padI_len m.length hi)
     clear hA hR hx hw
     by_cases h8 : i < 8
     · have HB := Lib.hid (u8_nat (n := 8 * m.length / 2 ^ (56 - 8 * i) % 256) (Nat.mod_lt _ (by decide)))
       have HPS := Lib.hid (padI_succ h8 (n := m.length) (by omega)).symm
       generalize UInt8.ofNat (8 * m.length / 2 ^ (56 - 8 * i) % 256) = b at HB HPS
       have hbv : 8 * (m.length : Int) / 2 ^ (56 - 8 * i) % 256 = ((b.toNat : Nat) : Int) := by
        rw [HB.out]
        simp [Int.natCast_ediv, Int.natCast_emod, Int.natCast_pow]
       have HSN := Lib.hid (svB_one wr b)
       have HO3 := Lib.hid (own_ext HW.out ((Ext.refl wr).alloc (.cells #[.int .u8 (b.toNat : Int)] 5)))
       have HA3 := Lib.hid (HA.out.alloc (.cells #[.int .u8 (b.toNat : Int)] 5)); have HR3 := Lib.hid (HR.out.alloc (.cells #[.int .u8 (b.toNat : Int)] 5)); have HX3 := Lib.hid (HX.out.alloc (.cells #[.int .u8 (b.toNat : Int)] 5))
       have HBS := Lib.hid (show w.heap.size + 2 ≤ (wr.alloc (.cells #[.int .u8 (b.toNat : Int)] 5)).heap.size by have := HR3.out.lt; omega)
       go_wp2_with
        (at_builtin; refine wpList_append_B rfl (.tmp 26) (.tmp 33) rfl (w.heap.size + 2) _ (padI m.length i) rfl HO3.out _ 1 1 [b] rfl rfl HSN.out (by have := HLI.out; omega) HBS.out (padI m.length (i + 1)) HPS.out ?_;
         intro A3 c3 W2 ho2 hg2;
         have HO4 := Lib.hid ho2; have HA4 := Lib.hid (HA3.out.by_ hg2 (fun e => by have := own_low HO3.out _ e.symm; omega)); have HR4 := Lib.hid (HR3.out.by_ hg2 (fun e => by have := own_low HO3.out _ e.symm; omega)); have HX4 := Lib.hid (HX3.out.own HO3.out hg2 (by omega));
         clear ho2 hg2)
       exact ⟨⟨i + 1, by omega, rfl, HO4.out, HA4.out, HR4.out, HX4.out⟩, by simp [intOf]; omega⟩
     · obtain rfl : i = 8 := by omega
       have HPA := Lib.hid (padI_all m.length)
       rw [HPA.out] at HW HLI ⊢
       have HiC := Lib.hid (show (Tryz.prog.info? 117).map (·.size) = some cs.length by rw [HL.out]; exact infoS)
       have hadd := StrAdd_any m bk HS.out (padL m.length) (by have := HLI.out; omega) wr (HK.out.ext HX.out)
       rw [← HCS.out] at hadd
       have HADD := Lib.hid hadd
       have HSV := Lib.hid (own_sv_B HW.out rfl)
       clear hadd
       go_upto_region 11 with (first
        | (refine wpList_load_blk 117 (.tmp 1) rfl rfl HA.out rfl _ Tryz.underlying117 rfl HiC.out ?_)
        | (refine wpList_convert_str 42 9 (.tmp 37) rfl rfl 5 Tryz.underlying42 Tryz.underlying5 Tryz.underlying9 _ c2 A2 (padL m.length) rfl HSV.out rfl ?_)
        | (go_at_call 109; refine HADD.out.mono ?_; rintro e W5 ⟨bk2, hS2, rfl, hx5⟩;
           obtain ⟨cs2, hcs2⟩ : ∃ c, c = stM (m ++ padL m.length) bk2 := ⟨_, rfl⟩;
           rw [← hcs2];
           have HCS2 := Lib.hid hcs2;
           have HL2 := Lib.hid (show cs2.length = 73 by rw [hcs2]; exact stM_len hS2.len);
           have HiC2 := Lib.hid (show (Tryz.prog.info? 117).map (·.size) = some cs2.length by rw [HL2.out]; exact infoS);
           have HoC2 := Lib.hid (show cs2.all (·.oneCell') = true by rw [hcs2]; exact stC_one _ _ _);
           have HA5 := Lib.hid (HA.out.ext hx5); have HR5 := Lib.hid (HR.out.ext hx5); have HX5 := Lib.hid (HX.out.trans hx5);
           clear hx5 hcs2 hS2)
        | (refine wpList_store_blk2 117 (.tmp 1) (.tmp 39) rfl rfl HA5.out cs2 rfl rfl HiC2.out (by rw [HL2.out, HL.out]) HoC2.out rfl ?_; intro W6 hW;
           have HA6 := Lib.hid (show Arr W6 w.heap.size 117 cs2 by rw [hW]; exact HA5.out.setRow _);
           have HR6 := Lib.hid (show Arr W6 (w.heap.size + 1) 121 z32 by rw [hW]; exact HR5.out.setRow_other (by omega) _);
           have HX6 := Lib.hid (show Ext w W6 by rw [hW]; exact HX5.out.setRow (Nat.le_refl _) _);
           clear hW))
       clear HADD HA5 HR5 HX5 HW HSV
       have hR6 := HR6.out.lt
       obtain ⟨S, hS⟩ : ∃ S, S = hashB iS (m ++ padL m.length) := ⟨_, rfl⟩
       have HSS := Lib.hid (show sha m = b32 S by rw [hS]; rfl)
       have HC8 := Lib.hid (fun j (x : W32) (hj : (s8w S)[j]? = some x) => (show cs2[j]? = some (Value.int IntKind.u32 (wn x : Int)) by
        have hj8 := (List.getElem?_eq_some_iff.1 hj).1
        rw [HCS2.out]
        unfold stM stC
        rw [← hS, List.getElem?_append_left (by simpa [s8w] using hj8), show ([.int .u32 (wn S.a : Int), .int .u32 (wn S.b : Int), .int .u32 (wn S.c : Int), .int .u32 (wn S.d : Int), .int .u32 (wn S.e : Int), .int .u32 (wn S.f : Int), .int .u32 (wn S.g : Int), .int .u32 (wn S.h : Int)] : List Value) = wvs (s8w S) from rfl]
        exact wvs_get hj))
       clear hS
       have HS0 := Lib.hid (show shaC m 0 = List.replicate 32 (.int .u8 0) by unfold shaC; simp [bvs])
       clear HCS HS
       go_upto_region 13 with fail
       go_loopw [40] (fun iv wr => ∃ i : Nat, i ≤ 32 ∧ iv = .int .i64 (i : Int) ∧ Arr wr w.heap.size 117 cs2 ∧ Arr wr (w.heap.size + 1) 121 z32 ∧ Arr wr W6.heap.size 121 (shaC m i) ∧ Ext w wr) (fun iv _ => 32 - (intOf iv).toNat)
       case atStart => exact ⟨0, by omega, rfl, HA6.out.alloc _, HR6.out.alloc _, by rw [HS0.out]; exact Arr.new W6 _ (List.replicate 32 (.int .u8 0)), HX6.out.alloc _⟩
       case round =>
        obtain ⟨i, hi, rfl, hA, hR, hO, hx⟩ := hrel
        have HA7 := Lib.hid hA; have HR7 := Lib.hid hR; have HO7 := Lib.hid hO; have HX7 := Lib.hid hx
        clear hA hR hO hx HA6 HR6 HX6 HA HR HX
        by_cases h32 : i < 32
        · have hq : ((i : Nat) : Int).tdiv 4 = ((i / 4 : Nat) : Int) := by rw [Int.tdiv_eq_ediv_of_nonneg (by omega)]; omega
          have hr : ((i : Nat) : Int).tmod 4 = ((i % 4 : Nat) : Int) := by rw [Int.tmod_eq_emod_of_nonneg (by omega)]; omega
          have hq8 : i / 4 < 8 := by omega
          have hr4 : i % 4 < 4 := by omega
          have cX := HA7.out.cell (i / 4)
          rw [HC8.out (i / 4) ((s8w S).getD (i / 4) 0) (by rw [List.getD_eq_getElem?_getD, List.getElem?_eq_getElem (by show i / 4 < 8; exact hq8)]; rfl)] at cX
          have HG := Lib.hid (b32_get S i h32)
          rw [← HSS.out] at HG
          have lX := HA7.out.lt
          have fO := HO7.out.frozen i; have lO := HO7.out.lt; have cO := HO7.out.cell i
          obtain ⟨ov, hov⟩ : ∃ v, (shaC m i)[i]? = some v := ⟨_, List.getElem?_eq_getElem (by rw [shaC_len m hi]; exact h32)⟩
          rw [hov] at cO
          generalize (s8w S).getD (i / 4) 0 = x at cX HG
          have hbv : (wn x : Int) / 2 ^ (24 - 8 * (i % 4)) % 256 = (((UInt8.ofNat (wn x / 2 ^ (24 - 8 * (i % 4)))).toNat : Nat) : Int) := by
           rw [UInt8.toNat_ofNat']
           simp [Int.natCast_ediv, Int.natCast_emod, Int.natCast_pow]
          generalize UInt8.ofNat (wn x / 2 ^ (24 - 8 * (i % 4))) = b at hbv HG
          have hwl := wn_lt x
          clear hov
          go_wp2_with fail
          have h := HO7.out.set i (.int .u8 (b.toNat : Int))
          rw [shaC_set m h32 HG.out] at h
          exact ⟨⟨i + 1, by omega, rfl, HA7.out.other (by simp only; omega) _, HR7.out.other (by simp only; omega) _, h, HX7.out.setCell (by simp only; omega) _⟩, by simp [intOf]; omega⟩
        · obtain rfl : i = 32 := by omega
          rw [shaC_all] at HO7
          obtain ⟨vs, hvs⟩ : ∃ vs, vs = bvs (sha m) := ⟨_, rfl⟩
          have hvl : vs.length = 32 := by rw [hvs, bvs_len, sha_len]
          have HiV := Lib.hid (show (Tryz.prog.info? 121).map (·.size) = some vs.length by rw [hvl]; kernel_rfl)
          have HoV := Lib.hid (show vs.all (·.oneCell') = true by rw [hvs, List.all_eq_true]; exact bvs_one _)
          have HVL := Lib.hid (show z32.length = vs.length by rw [hvl, HZ.out]; rfl)
          have HVS := Lib.hid hvs
          rw [← hvs] at HO7
          clear hvs hvl
          go_wp2_with (first
           | (refine wpList_load_blk 121 (.tmp 6) rfl rfl HO7.out rfl _ Tryz.underlying121 rfl HiV.out ?_)
           | (refine wpList_store_blk 121 (.tmp 2) (.tmp 57) rfl rfl HR7.out vs rfl rfl HiV.out HVL.out HoV.out ?_))
          refine bodyPost_ret (v := .agg vs.toArray) ?_ rfl ⟨by rw [HVS.out], HX7.out.setRow (by omega) _⟩
          exact results_cell_row Tryz.results111 _ _ _ _ _ _ _ rfl (HR7.out.setRow vs) Tryz.underlying121 rfl HiV.out
end Go.Proofs.YtlinhgannajfpaaGreatDoor

/- Generic: a region that draws its order and whose last operation, for which all others are waited, changes what was there. -/
namespace Go.Proofs.YtlinhgannajfpaaGreatDoor
open Go Go.RowKit

section
variable {P : Program}
theorem closed_set {l : List Oper} {listed : Array Bool} (hc : ClosedL l.toArray listed) {i : Nat} {o : Oper} (ho : l[i]? = some o) (hun : listed.getD i true = false) (hdep : ∀ e, e ∈ o.after → Region.binds .any e = true → listed.getD e.on true = true) : ClosedL l.toArray (listed.setIfInBounds i true) := by
 intro j o' ho' hl e he hbd
 have hs1 : ∀ k, listed.getD k true = true → (listed.setIfInBounds i true).getD k true = true := fun k hk => by
  by_cases hki : i = k
  · subst hki; rw [hun] at hk; cases hk
  · rw [getD_set_ne true hki]; exact hk
 by_cases hji : i = j
 · subst hji
   obtain rfl : o' = o := by rw [show l.toArray[i]? = l[i]? by simp, ho] at ho'; injection ho' with h; exact h.symm
   exact hs1 _ (hdep e he hbd)
 · rw [getD_set_ne true hji] at hl
   exact hs1 _ (hc j o' ho' hl e he hbd)
theorem wp_region_last {Q : Exit → Act → World → Prop} {id : Nat} {a : Act} {w : World} {l : List Oper} (J : Nat) (Good : Nat → Value → World → Prop) (GV : Nat → Value → Prop) (Post : World → Prop) (hm : P.follows .mixedOrders = true) (hs : slotsB l.toArray = true) (hb : backB2 l.toArray = true)
    (hfit : ((List.range l.length).all fun j => match dstOf l.toArray j with | some d => decide (d < a.tmps.size) | none => true) = true) (hJl : l.length = J + 1) (hneed : ((List.range J).all fun i => needB l.toArray l.length J i) = true)
    (hst : ∀ i v w1 w2, Ext w1 w2 → Good i v w1 → Good i v w2) (hGV : ∀ i v w1, Good i v w1 → GV i v)
    (hstep : ∀ (i : Nat) (o : Oper), l[i]? = some o → i < J → ∀ (b : Act) (w1 : World), Ext w w1 → (∀ d : Nat, missB l.toArray d = true → b.tmps[d]? = a.tmps[d]?) →
      (∀ j, waits o j = true → ∃ v, Good j v w1 ∧ ∀ d, dstOf l.toArray j = some d → b.tmps[d]? = some v) →
      ∀ K : Act → World → Prop, (∀ v w', Ext w1 w' → Good i v w' → K (b.put o.dst v) w') → if Region.wanted o (yielded l.toArray b.tmps) = true then o.wp P b w1 K Q else K (b.put o.dst undef) w1)
    (hlast : ∀ (o : Oper), l[J]? = some o → ∀ (b : Act) (w1 : World), Ext w w1 → (∀ d : Nat, missB l.toArray d = true → b.tmps[d]? = a.tmps[d]?) →
      (∀ j, j < J → ∃ v, Good j v w1 ∧ ∀ d, dstOf l.toArray j = some d → b.tmps[d]? = some v) →
      ∀ K : Act → World → Prop, (∀ v w', Post w' → K (b.put o.dst v) w') → if Region.wanted o (yielded l.toArray b.tmps) = true then o.wp P b w1 K Q else K (b.put o.dst undef) w1)
    (hend : ∀ (V : Nat → Value) (w1 : World), (∀ i, i < J → GV i (V i)) → Post w1 → Q .normal (fillAllN l.toArray V a l.length) w1) : (Code.region id l.toArray true).wp P Q a w := by
 have hS := slotsB_spec hs
 have hB := backB2_spec hb
 rw [List.all_eq_true] at hneed hfit
 have hslot : ∀ (listed : Array Bool) (g : Nat → Value) (j : Nat), j < l.length → listed.getD j true = true → ∀ d, dstOf l.toArray j = some d → (fill l.toArray g listed a).tmps[d]? = some (g j) := fun listed g j hj hl d hd => by
  refine fill_hit hS (by simpa using hj) hl hd ?_
  have h3 := hfit j (List.mem_range.2 hj)
  rw [hd] at h3
  simpa using h3
 refine wp_region_tabg2 (G := Nat → Value) (fun g => g) (fun w listed g w1 => ClosedL l.toArray listed ∧ (∀ i, i < J → listed.getD i true = true → GV i (g i)) ∧ (listed.getD J true = false → Ext w w1 ∧ ∀ i, i < J → listed.getD i true = true → Good i (g i) w1) ∧ (listed.getD J true = true → Post w1)) (fun _ => undef) hm hS hB ?_ ?_ ?_
 · have h0 : ∀ k, k < l.length → (Array.replicate l.length false).getD k true = false := fun k hk => by simp [Array.getD, hk]
   refine ⟨fun j o ho h => ?_, fun i hi h => ?_, fun _ => ⟨(Ext.refl _).drew, fun i hi h => ?_⟩, fun h => ?_⟩
   · have hj := (Array.getElem?_eq_some_iff.1 ho).1
     rw [h0 j (by simpa using hj)] at h
     cases h
   · rw [h0 i (by omega)] at h; cases h
   · rw [h0 i (by omega)] at h; cases h
   · rw [h0 J (by omega)] at h; cases h
 · intro listed g w1 i o ho hun hdep hR K hK
   have hil : i < l.length := (List.getElem?_eq_some_iff.1 ho).1
   have hc := closed_set hR.1 ho hun (fun e he hbd => getD_up (hdep e he hbd))
   have hmiss : ∀ d : Nat, missB l.toArray d = true → (fill l.toArray g listed a).tmps[d]? = a.tmps[d]? := fun d hd => fill_miss (fun i hi _ => missB_spec hd i hi)
   have hself : (listed.setIfInBounds i true).getD i true = true := by
    simp only [Array.getD]
    split <;> simp
   by_cases hiJ : i = J
   · subst hiJ
     obtain ⟨hx, hg⟩ := hR.2.2.1 hun
     have hall : ∀ j, j < i → listed.getD j true = true := fun j hj => by
      have h1 := need_done hc _ _ _ (hneed j (List.mem_range.2 hj)) hself
      rwa [getD_set_ne true (by omega)] at h1
     refine hlast o ho (fill l.toArray g listed a) w1 hx hmiss (fun j hj => ⟨g j, hg j hj (hall j hj), hslot listed g j (by omega) (hall j hj)⟩) K (fun v w' hp => ?_)
     have h := hK (fun k => if k = i then v else g k) w' ⟨hc, fun j hj hl => ?_, fun hf => ?_, fun _ => hp⟩ (fun j hj hl => ?_)
     · simpa using h
     · simp only [if_neg (show j ≠ i by omega)]
       exact hR.2.1 j hj (hall j hj)
     · rw [hself] at hf; cases hf
     · have hne : j ≠ i := fun e => by subst e; rw [hl] at hun; cases hun
       simp only [if_neg hne]
   · have hiJ2 : i < J := by omega
     have hJf : listed.getD J true = false := by
      cases hq : listed.getD J true
      · rfl
      · have h1 := need_done hR.1 _ _ _ (hneed i (List.mem_range.2 hiJ2)) hq
        rw [hun] at h1
        cases h1
     obtain ⟨hx, hg⟩ := hR.2.2.1 hJf
     refine hstep i o ho hiJ2 (fill l.toArray g listed a) w1 hx hmiss (fun j hj => ?_) K (fun v w' hx1 hgd => ?_)
     · obtain ⟨e, he, rfl, hbd⟩ := waits_spec hj
       have h1 := getD_up (hdep e he hbd)
       have h2 : e.on < i := hB i o (by simpa using ho) e he hbd
       exact ⟨g e.on, hg _ (by omega) h1, hslot listed g _ (by omega) h1⟩
     · have h := hK (fun k => if k = i then v else g k) w' ⟨hc, fun j hj hl => ?_, fun hf => ⟨hx.trans hx1, fun j hj hl => ?_⟩, fun hl => ?_⟩ (fun j hj hl => ?_)
       · simpa using h
       · by_cases hji : j = i
         · subst hji; simpa using hGV _ _ _ hgd
         · simp only [if_neg hji]
           rw [getD_set_ne true (Ne.symm hji)] at hl
           exact hR.2.1 j hj hl
       · by_cases hji : j = i
         · subst hji; simpa using hgd
         · simp only [if_neg hji]
           rw [getD_set_ne true (Ne.symm hji)] at hl
           exact hst _ _ _ _ hx1 (hg j hj hl)
       · rw [getD_set_ne true hiJ, hJf] at hl
         cases hl
       · have hne : j ≠ i := fun e => by subst e; rw [hl] at hun; cases hun
         simp only [if_neg hne]
 · intro listed g w1 hall hR
   rw [fill_done hall]
   exact hend g w1 (fun i hi => hR.2.1 i hi (hall i (by omega))) (hR.2.2.2 (hall J (by omega)))
end
end Go.Proofs.YtlinhgannajfpaaGreatDoor

/- hash.Of. -/
namespace Go.Proofs.YtlinhgannajfpaaGreatDoor
open Go Go.RowKit

def ofMsg (tag : Nat) (ps : List (List UInt8)) : List UInt8 := UInt8.ofNat tag :: ps.flatMap bytesL
def digL (tag : Nat) (ps : List (List UInt8)) : List UInt8 := (sha (ofMsg tag ps)).take 16
def rowsS (ps : List (List UInt8)) : List (List Value) := ps.map fun p => [strV p]
theorem rowsS_len (ps : List (List UInt8)) : (rowsS ps).length = ps.length := by simp [rowsS]
theorem str_row {w : World} {B c j : Nat} {A : Option Addr} {ps : List (List UInt8)} {p : List UInt8} (h : Sv w B 1 A c (rowsS ps)) (hp : ps[j]? = some p) :
    ∃ b off, A = some ⟨b, off, none⟩ ∧ b < B ∧ w.cell? ⟨b, off + j, none⟩ = some (strV p) := by
 obtain ⟨b, off, e, hb, hr⟩ := h.row (i := j) (x := [strV p]) (by simp [rowsS, hp])
 have h0 := hr 0 _ rfl
 rw [Nat.mul_one, Nat.add_zero] at h0
 exact ⟨b, off, e, hb, h0⟩
theorem ofMsg_succ {tag : Nat} {ps : List (List UInt8)} {i : Nat} {p : List UInt8} (h : ps[i]? = some p) : ofMsg tag (ps.take i) ++ bytesL p = ofMsg tag (ps.take (i + 1)) := by
 unfold ofMsg
 rw [List.take_add_one, h, List.flatMap_append]
 simp
theorem ofMsg_le (tag : Nat) (ps : List (List UInt8)) (i : Nat) : (ofMsg tag (ps.take i)).length ≤ (ofMsg tag ps).length := by
 have h := List.take_append_drop i ps
 unfold ofMsg
 rw [List.length_cons, List.length_cons]
 conv => rhs; rw [← h, List.flatMap_append, List.length_append]
 omega
theorem infoS1 : ∃ i z, Tryz.prog.info? 117 = some i ∧ i.zero = some z ∧ z.cells.toList = zC := by
 have h : ((Tryz.prog.info? 117).map fun i => i.zero.map fun z => z.cells.toList) = some (some zC) := by kernel_rfl
 cases hq : Tryz.prog.info? 117 with
 | none => rw [hq] at h; cases h
 | some i =>
   rw [hq] at h
   simp only [Option.map_some, Option.some.injEq] at h
   obtain ⟨z, h1, h2⟩ := Option.map_eq_some_iff.1 h
   exact ⟨i, z, rfl, h1, h2⟩
section
variable {P : Program} {o : Oper} {b : Act} {w1 : World} {K : Act → World → Prop} {Q : Exit → Act → World → Prop}
theorem op_alloc_new {T : TypeId} {zs : List Value} (ho : o.op = .alloc T) (hz : ∃ i z, P.info? T = some i ∧ i.zero = some z ∧ z.cells.toList = zs) (h : K (b.put o.dst (.pointer (some ⟨w1.heap.size, 0, none⟩))) (w1.alloc (.cells zs.toArray T))) : o.wp P b w1 K Q := by
 obtain ⟨ie, z, hie, hzz, hzl⟩ := hz
 have hzc : z.cells = zs.toArray := by rw [← hzl]
 have hrun : (execOp b.eval o).run P w1 = .ok (.value (.pointer (some ⟨w1.heap.size, 0, none⟩))) (w1.alloc (.cells zs.toArray T)) := by
  unfold execOp
  simp only [ho]
  simp [Instr.alloc, zeroValue, typeInfo, hie, hzz, newVar, newRow, hzc]
 unfold Oper.wp
 rw [hrun]
 exact h
theorem op_store_new {T : TypeId} {x y : Operand} {g : Nat} {t : TypeId} {vs cs : List Value} (ho : o.op = .store T x y) (hx : b.eval x = .pointer (some ⟨g, 0, none⟩)) (hy : b.eval y = .agg cs.toArray) (hB : Arr w1 g t vs) (hi : (P.info? T).map (·.size) = some cs.length) (hl : vs.length = cs.length)
    (h1 : cs.all (·.oneCell') = true) (h : K (b.put o.dst undef) (w1.setRow g cs.toArray)) : o.wp P b w1 K Q :=
 wp_store_row T x y ho g cs.toArray hx hy t vs.toArray hB (by simpa using hi) (by simpa using hl) (by simpa using h1) h
theorem op_convert_str {src dst e : TypeId} {x : Operand} (ho : o.op = .convert src dst x) (hs : P.underlying src = some (.slice e)) (he : P.underlying e = some (.int .u8)) (hd : P.underlying dst = some .string) {n c : Nat} {A : Option Addr} {l : List UInt8} (hx : b.eval x = .slice A n c) {B : Nat} (h : Sv w1 B 1 A c (rowsB l)) (hn : n = l.length)
    (hk : K (b.put o.dst (strV l)) w1) : o.wp P b w1 K Q :=
 op_run (by unfold execOp; simp only [ho, hx]; simp [run_convert_str w1 src dst e hs he hd h hn, Result.andThen]) hk
end
set_option maxHeartbeats 8000000 in
set_option maxRecDepth 100000 in
theorem Of_any (tag : Nat) (htag : tag < 256) (ps : List (List UInt8)) (A : Option Addr) (c : Nat) (hlen : (ofMsg tag ps).length < 100000000) (w : World) (hs : Sv w w.heap.size 1 A c (rowsS ps)) (hK : KIn w 2) :
    Calls Tryz.prog 73 #[.int .i64 (tag : Int), .slice A ps.length c] w fun e w' => e = .returned (.agg (bvs (digL tag ps)).toArray) ∧ Ext w w' := by
 have hm := mixed
 have HK := Lib.hid hK; have HS := Lib.hid hs
 clear hK hs
 obtain ⟨W0, hW⟩ : ∃ W, W = w.alloc (.cells (List.replicate 16 (.int .u8 0)).toArray 45) := ⟨_, rfl⟩
 have HX0 := Lib.hid (show Ext w W0 by rw [hW]; exact (Ext.refl w).alloc _)
 have HR0 := Lib.hid (show Arr W0 w.heap.size 45 (List.replicate 16 (.int .u8 0)) by rw [hW]; exact Arr.new w _ _)
 go_enter Tryz.func73, Tryz.ntmps73
 go_upto_region 1 with fail
 rw [show w.alloc (.cells #[.int .u8 0, .int .u8 0, .int .u8 0, .int .u8 0, .int .u8 0, .int .u8 0, .int .u8 0, .int .u8 0, .int .u8 0, .int .u8 0, .int .u8 0, .int .u8 0, .int .u8 0, .int .u8 0, .int .u8 0, .int .u8 0] 45) = W0 from hW.symm]
 clear hW
 obtain ⟨tb, htb⟩ : ∃ tb, tb = UInt8.ofNat tag := ⟨_, rfl⟩
 have htn : (tb.toNat : Int) = (tag : Int) := by rw [htb, u8_nat htag]
 have HTB := Lib.hid htb
 clear htb
 have HI := Lib.hid infoS1
 refine wp_region_fin (w := W0) 7 (fun d i v w' => match i with
     | 0 => v = .agg (stM [] bk0).toArray
     | 1 => v = .int .i64 (tag : Int)
     | 2 => v = .int .u8 (tb.toNat : Int)
     | 3 => ∃ b, v = .slice (some ⟨b, 0, none⟩) 1 1 ∧ (d = false → Sv w' w'.heap.size 1 (some ⟨b, 0, none⟩) 1 (rowsB [tb]))
     | 4 => v = strV [tb]
     | 5 => ∃ bk, StreamC [tb] bk ∧ v = .agg (stM [tb] bk).toArray
     | 6 => ∃ g, v = .pointer (some ⟨g, 0, none⟩) ∧ W0.heap.size ≤ g ∧ (d = false → Arr w' g 117 zC)
     | _ => True) 6 5 (fun v w' => ∃ g bk, v = .pointer (some ⟨g, 0, none⟩) ∧ W0.heap.size ≤ g ∧ StreamC [tb] bk ∧ Arr w' g 117 (stM [tb] bk)) hm (by kernel_rfl) (by kernel_rfl) rfl (by decide) rfl ⟨_, rfl, by kernel_rfl⟩ ?_ ?_ ?_ ?_ ?_
 · intro d i v w1 w2 hx h
   match i, h with
   | 0, h => exact h
   | 1, h => exact h
   | 2, h => exact h
   | 3, h => exact (by obtain ⟨b, k1, k2⟩ := h; exact ⟨b, k1, fun e => (k2 e).ext hx⟩)
   | 4, h => exact h
   | 5, h => exact h
   | 6, h => exact (by obtain ⟨g, k1, k2, k3⟩ := h; exact ⟨g, k1, k2, fun e => (k3 e).ext hx⟩)
   | i + 7, h => exact trivial
 · intro i v w1 w2 h
   match i, h with
   | 0, h => exact h
   | 1, h => exact h
   | 2, h => exact h
   | 3, h => exact (by obtain ⟨b, k1, k2⟩ := h; exact ⟨b, k1, fun e => by cases e⟩)
   | 4, h => exact h
   | 5, h => exact h
   | 6, h => exact (by obtain ⟨g, k1, k2, k3⟩ := h; exact ⟨g, k1, k2, fun e => by cases e⟩)
   | i + 7, h => exact trivial
 · intro v w1 w2 hx h
   obtain ⟨g, bk, k1, k2, k3, k4⟩ := h
   exact ⟨g, bk, k1, k2, k3, k4.ext hx⟩
 · intro i o ho d b w1 hJd hN hx hmiss hdep K hK
   match i, ho with
   | 0, ho =>
     obtain rfl := Option.some.inj ho
     refine want_none rfl ?_
     refine op_callG (G := fun v w' => v = .agg (stM [] bk0).toArray ∧ Ext w1 w') rfl (by simp) (fun _ _ => by kernel_rfl) ((Begin_any w1).mono fun e w' h => ⟨_, h.1, rfl, h.2⟩) (fun v w' h => ?_)
     exact hK _ w' (hx.trans h.2) (fun _ => h.2) (fun e => absurd e (by decide)) h.1
   | 1, ho =>
     obtain rfl := Option.some.inj ho
     refine want_none rfl ?_
     have e0 : b.tmps[0]? = some (.int .i64 (tag : Int)) := hmiss 0 rfl
     exact op_move rfl (eval_of e0) (hK _ w1 hx (fun _ => Ext.refl _) (fun e => absurd e (by decide)) rfl)
   | 2, ho =>
     obtain rfl := Option.some.inj ho
     refine want_none rfl ?_
     obtain ⟨v1, g1, e1⟩ := hdep 1 rfl
     have g1 : v1 = .int .i64 (tag : Int) := g1
     subst g1
     have e1 := e1 10 rfl
     exact op_run (v := .int .u8 (tb.toNat : Int)) (w2 := w1) (by unfold execOp; simp [e1, Act.eval, go_sem]; rw [IntKind.wrap_u8', htn]; omega) (hK _ w1 hx (fun _ => Ext.refl _) (fun e => absurd e (by decide)) rfl)
   | 3, ho =>
     obtain rfl := Option.some.inj ho
     refine want_none rfl ?_
     obtain ⟨v1, g1, e1⟩ := hdep 2 rfl
     have g1 : v1 = .int .u8 (tb.toNat : Int) := g1
     subst g1
     have e1 := e1 11 rfl
     exact op_run (v := .slice (some ⟨w1.heap.size, 0, none⟩) 1 1) (w2 := w1.alloc (.cells #[.int .u8 (tb.toNat : Int)] 5)) (by unfold execOp; simp [e1, Act.eval, go_sem]) (hK _ _ (hx.alloc _) (fun _ => (Ext.refl _).alloc _) (fun e => absurd e (by decide)) ⟨_, rfl, fun _ => svB_one w1 tb⟩)
   | 4, ho =>
     obtain rfl := Option.some.inj ho
     refine want_none rfl ?_
     obtain rfl : d = false := hN (by kernel_rfl)
     obtain ⟨v1, ⟨b1, k1, k2⟩, e1⟩ := hdep 3 rfl
     subst k1
     have e1 := e1 12 rfl
     exact op_convert_str rfl Tryz.underlying42 Tryz.underlying5 Tryz.underlying9 (eval_of e1) (k2 rfl) rfl (hK _ w1 hx (fun _ => Ext.refl _) (fun e => absurd e (by decide)) rfl)
   | 5, ho =>
     obtain rfl := Option.some.inj ho
     refine want_none rfl ?_
     obtain ⟨v1, g1, e1⟩ := hdep 0 rfl
     have g1 : v1 = .agg (stM [] bk0).toArray := g1
     subst g1
     have e1 := e1 9 rfl
     obtain ⟨v2, g2, e2⟩ := hdep 4 rfl
     have g2 : v2 = strV [tb] := g2
     subst g2
     have e2 := e2 13 rfl
     refine op_callG (G := fun v w' => (∃ bk, StreamC [tb] bk ∧ v = .agg (stM [tb] bk).toArray) ∧ Ext w1 w') rfl (by simp [eval_of e1, eval_of e2]) (fun _ _ => by kernel_rfl) ((StrAdd_any [] bk0 stream0 [tb] (by simp) w1 ((HK.out.ext HX0.out).ext hx)).mono fun e w' h => by
      obtain ⟨bk, h1, h2, h3⟩ := h
      exact ⟨_, h2, ⟨bk, h1, rfl⟩, h3⟩) (fun v w' h => ?_)
     exact hK _ w' (hx.trans h.2) (fun _ => h.2) (fun e => absurd e (by decide)) h.1
   | 6, ho =>
     obtain rfl := Option.some.inj ho
     refine want_none rfl ?_
     exact op_alloc_new rfl HI.out (hK _ _ (hx.alloc _) (fun _ => (Ext.refl _).alloc _) (fun e => absurd e (by decide)) ⟨_, rfl, hx.size, fun _ => Arr.new w1 _ zC⟩)
   | 7, ho =>
     obtain rfl := Option.some.inj ho
     refine want_none rfl ?_
     obtain rfl : d = false := hJd rfl
     obtain ⟨v1, ⟨bk, h1, k1⟩, e1⟩ := hdep 5 rfl
     subst k1
     have e1 := e1 14 rfl
     obtain ⟨v2, ⟨g, k2, k3, k4⟩, e2⟩ := hdep 6 rfl
     subst k2
     have e2 := e2 5 rfl
     have hl := stM_len (m := [tb]) h1.len
     refine op_store_new rfl (eval_of e2) (eval_of e1) (k4 rfl) (by rw [hl]; exact infoS) (by rw [hl]; rfl) (stC_one _ _ _) (hK _ _ (hx.setRow k3 _) (fun e => absurd rfl e) (fun _ v0 hv0 => ?_) trivial)
     rw [e2] at hv0
     obtain rfl := Option.some.inj hv0
     exact ⟨g, bk, rfl, k3, h1, (k4 rfl).setRow _⟩
   | i + 8, ho => exact absurd ho (by simp)
 · intro V W1 hx hV hF
   obtain ⟨g, bk, k1, k2, k3, k4⟩ := hF
   have V0 : V 0 = .agg (stM [] bk0).toArray := hV 0 (by decide)
   have V1 : V 1 = .int .i64 (tag : Int) := hV 1 (by decide)
   have V2 : V 2 = .int .u8 (tb.toNat : Int) := hV 2 (by decide)
   have V4 : V 4 = strV [tb] := hV 4 (by decide)
   generalize h3 : V 3 = u3
   generalize h5 : V 5 = u5
   simp only [List.length_cons, List.length_nil, fillAllN, dstOf, Act.put, List.getElem?_toArray, List.getElem?_cons_zero, List.getElem?_cons_succ, Option.bind_some, List.setIfInBounds_toArray, List.set_cons_zero, List.set_cons_succ, V0, V1, V2, h3, V4, h5, k1]
   clear V0 V1 V2 V4 h3 h5 k1 hV
   have hR1 := HR0.out.ext hx
   have HR1 := Lib.hid hR1; have HX1 := Lib.hid (HX0.out.trans hx)
   have hgn : w.heap.size < g := Nat.lt_of_lt_of_le HR0.out.lt k2
   have HM0 := Lib.hid (show ofMsg tag (ps.take 0) = [tb] by rw [HTB.out]; rfl)
   have HST := Lib.hid (show StreamC (ofMsg tag (ps.take 0)) bk by rw [HM0.out]; exact k3)
   have HG1 := Lib.hid (show Arr W1 g 117 (stM (ofMsg tag (ps.take 0)) bk) by rw [HM0.out]; exact k4)
   have hlz : (List.replicate 16 (Value.int .u8 0)).length = 16 := by simp
   clear hR1 hx k2 k3 k4 HI HR0 HX0
   go_upto_region 3 with fail
   have hpl : ps.length ≤ 9223372036854775807 := by have := HS.out.len; rw [rowsS_len] at this; exact this
   go_loopw [17] (fun iv wr => ∃ (i : Nat) (bk1 : List UInt8), i ≤ ps.length ∧ iv = .int .i64 (i : Int) ∧ StreamC (ofMsg tag (ps.take i)) bk1 ∧ Arr wr g 117 (stM (ofMsg tag (ps.take i)) bk1) ∧ Arr wr w.heap.size 45 (List.replicate 16 (.int .u8 0)) ∧ Ext w wr) (fun iv _ => ps.length - (intOf iv).toNat)
   case atStart => exact ⟨0, bk, Nat.zero_le _, rfl, HST.out, HG1.out, HR1.out, HX1.out⟩
   case round =>
    obtain ⟨i, bk1, hi, rfl, hst, hA, hR, hx⟩ := hrel
    have HST1 := Lib.hid hst; have HA := Lib.hid hA; have HR := Lib.hid hR; have HX := Lib.hid hx
    clear hst hA hR hx HST HG1 HR1 HX1
    by_cases hlt : i < ps.length
    · obtain ⟨p, hp⟩ : ∃ p, ps[i]? = some p := ⟨_, List.getElem?_eq_getElem hlt⟩
      obtain ⟨b0, off0, rfl, hb0, r0⟩ := str_row (HS.out.ext HX.out) hp
      have HMS := Lib.hid (ofMsg_succ (tag := tag) hp)
      have HML := Lib.hid (ofMsg_le tag ps (i + 1))
      have hpL : p.length ≤ 100000000 := by
       have h1 := congrArg List.length (ofMsg_succ (tag := tag) hp)
       have h2 := ofMsg_le tag ps (i + 1)
       unfold bytesL at h1
       rw [List.length_append, List.length_append] at h1
       omega
      have hi1 : ¬ ((ps.length : Int) ≤ (i : Int)) := by omega
      clear hp
      go_upto_region 5 with fail
      have HBY := Lib.hid (wireBytes_any p hpL)
      have hl73 := stM_len (m := ofMsg tag (ps.take i)) HST1.out.len
      have HL73 := Lib.hid hl73
      have HX2 := Lib.hid HX.out
      have hgl := HA.out.lt
      clear hl73
      refine wp_region_last (w := wr) 5 (fun i2 v w' => match i2 with
          | 0 => v = .agg (stM (ofMsg tag (ps.take i)) bk1).toArray
          | 1 => v = strV p
          | 2 => ∃ A' c', v = .slice A' (bytesL p).length c' ∧ Sv w' w'.heap.size 1 A' c' (rowsB (bytesL p))
          | 3 => v = strV (bytesL p)
          | 4 => ∃ bk2, StreamC (ofMsg tag (ps.take (i + 1))) bk2 ∧ v = .agg (stM (ofMsg tag (ps.take (i + 1))) bk2).toArray
          | _ => True) (fun _ _ => True) (fun w' => ∃ bk2, StreamC (ofMsg tag (ps.take (i + 1))) bk2 ∧ Arr w' g 117 (stM (ofMsg tag (ps.take (i + 1))) bk2) ∧ Arr w' w.heap.size 45 (List.replicate 16 (.int .u8 0)) ∧ Ext w w') hm (by kernel_rfl) (by kernel_rfl) rfl rfl (by kernel_rfl) ?_ (fun _ _ _ _ => trivial) ?_ ?_ ?_
      · intro i2 v w1 w2 hx h
        match i2, h with
        | 0, h => exact h
        | 1, h => exact h
        | 2, h => exact (by obtain ⟨A', c', k1, k2⟩ := h; exact ⟨A', c', k1, k2.ext hx⟩)
        | 3, h => exact h
        | 4, h => exact h
        | i2 + 5, h => exact trivial
      · intro i2 o ho hi2 b w1 hx hmiss hdep K hK
        match i2, ho with
        | 0, ho =>
          obtain rfl := Option.some.inj ho
          refine want_none rfl ?_
          have e5 : b.tmps[5]? = some (.pointer (some ⟨g, 0, none⟩)) := hmiss 5 rfl
          exact op_loadrow rfl (eval_of e5) (HA.out.ext hx) _ Tryz.underlying117 rfl (by rw [HL73.out]; exact infoS) (hK _ w1 (Ext.refl _) rfl)
        | 1, ho =>
          obtain rfl := Option.some.inj ho
          refine want_none rfl ?_
          have e7 : b.tmps[7]? = some (strV p) := hmiss 7 rfl
          exact op_move rfl (eval_of e7) (hK _ w1 (Ext.refl _) rfl)
        | 2, ho =>
          obtain rfl := Option.some.inj ho
          refine want_none rfl ?_
          obtain ⟨v1, g1, e1⟩ := hdep 1 rfl
          have g1 : v1 = strV p := g1
          subst g1
          have e1 := e1 22 rfl
          refine op_callG (G := fun v w' => (∃ A' c', v = .slice A' (bytesL p).length c' ∧ Sv w' w'.heap.size 1 A' c' (rowsB (bytesL p))) ∧ Ext w1 w') rfl (by simp [eval_of e1]) (fun _ _ => by kernel_rfl) ((HBY.out w1).mono fun e w' h => by
           obtain ⟨A', c', h1, h2, h3⟩ := h
           exact ⟨_, h1, ⟨A', c', rfl, own_sv_B h2 rfl⟩, h3⟩) (fun v w' h => ?_)
          exact hK _ w' h.2 h.1
        | 3, ho =>
          obtain rfl := Option.some.inj ho
          refine want_none rfl ?_
          obtain ⟨v1, ⟨A1, c1, k1, k2⟩, e1⟩ := hdep 2 rfl
          subst k1
          have e1 := e1 23 rfl
          exact op_convert_str rfl Tryz.underlying42 Tryz.underlying5 Tryz.underlying9 (eval_of e1) k2 rfl (hK _ w1 (Ext.refl _) rfl)
        | 4, ho =>
          obtain rfl := Option.some.inj ho
          refine want_none rfl ?_
          obtain ⟨v1, g1, e1⟩ := hdep 0 rfl
          have g1 : v1 = .agg (stM (ofMsg tag (ps.take i)) bk1).toArray := g1
          subst g1
          have e1 := e1 21 rfl
          obtain ⟨v2, g2, e2⟩ := hdep 3 rfl
          have g2 : v2 = strV (bytesL p) := g2
          subst g2
          have e2 := e2 24 rfl
          have hms := congrArg List.length HMS.out
          rw [List.length_append] at hms
          refine op_callG (G := fun v w' => (∃ bk2, StreamC (ofMsg tag (ps.take (i + 1))) bk2 ∧ v = .agg (stM (ofMsg tag (ps.take (i + 1))) bk2).toArray) ∧ Ext w1 w') rfl (by simp [eval_of e1, eval_of e2]) (fun _ _ => by kernel_rfl) ((StrAdd_any (ofMsg tag (ps.take i)) bk1 HST1.out (bytesL p) (by have := HML.out; omega) w1 ((HK.out.ext HX2.out).ext hx)).mono fun e w' h => by
           obtain ⟨bk, h1, h2, h3⟩ := h
           rw [HMS.out] at h1 h2
           exact ⟨_, h2, ⟨bk, h1, rfl⟩, h3⟩) (fun v w' h => ?_)
          exact hK _ w' h.2 h.1
        | i2 + 5, ho => omega
      · intro o ho b w1 hx hmiss hg K hK
        obtain rfl := Option.some.inj ho
        refine want_none rfl ?_
        obtain ⟨v1, ⟨bk2, h1, k1⟩, e1⟩ := hg 4 (by decide)
        subst k1
        have e1 := e1 25 rfl
        have e5 : b.tmps[5]? = some (.pointer (some ⟨g, 0, none⟩)) := hmiss 5 rfl
        have hl := stM_len (m := ofMsg tag (ps.take (i + 1))) h1.len
        refine op_store_new rfl (eval_of e5) (eval_of e1) (HA.out.ext hx) (by rw [hl]; exact infoS) (by rw [hl, HL73.out]) (stC_one _ _ _) (hK _ _ ⟨bk2, h1, (HA.out.ext hx).setRow _, (HR.out.ext hx).setRow_other (by omega) _, (HX2.out.trans hx).setRow (by omega) _⟩)
      · intro V w1 _ hP
        obtain ⟨bk2, h1, h2, h3, h4⟩ := hP
        generalize V 0 = u0
        generalize V 1 = u1
        generalize V 2 = u2
        generalize V 3 = u3
        generalize V 4 = u4
        simp only [List.length_cons, List.length_nil, fillAllN, dstOf, Act.put, List.getElem?_toArray, List.getElem?_cons_zero, List.getElem?_cons_succ, Option.bind_some, List.setIfInBounds_toArray, List.set_cons_zero, List.set_cons_succ]
        have h1 := Lib.hid h1; have h2 := Lib.hid h2; have h3 := Lib.hid h3; have h4 := Lib.hid h4
        clear HST1 HA HR HX HX2
        go_wp2_with fail
        exact ⟨⟨i + 1, bk2, by omega, rfl, h1.out, h2.out, h3.out, h4.out⟩, by simp [intOf]; omega⟩
    · obtain rfl : i = ps.length := by omega
      rw [List.take_length] at HST1 HA
      obtain ⟨cs, hcs⟩ : ∃ cs, cs = stM (ofMsg tag ps) bk1 := ⟨_, rfl⟩
      have hcl : cs.length = 73 := by rw [hcs]; exact stM_len HST1.out.len
      have HiC := Lib.hid (show (Tryz.prog.info? 117).map (·.size) = some cs.length by rw [hcl]; exact infoS)
      have HSM := Lib.hid (SumS_any (ofMsg tag ps) bk1 HST1.out hlen wr (HK.out.ext HX.out))
      rw [← hcs] at HA HSM
      obtain ⟨sv, hsv⟩ : ∃ sv, sv = bvs (sha (ofMsg tag ps)) := ⟨_, rfl⟩
      have hsl : sv.length = 32 := by rw [hsv, bvs_len, sha_len]
      have HSL := Lib.hid hsl
      have HiS := Lib.hid (show (Tryz.prog.info? 121).map (·.size) = some sv.length by rw [hsl]; kernel_rfl)
      have HoS := Lib.hid (show sv.all (·.oneCell') = true by rw [hsv, List.all_eq_true]; exact bvs_one _)
      rw [← hsv] at HSM
      obtain ⟨dv, hdv⟩ : ∃ dv, dv = bvs (digL tag ps) := ⟨_, rfl⟩
      have hdt : dv = sv.take 16 := by rw [hdv, hsv]; unfold digL bvs; rw [List.map_take]
      have hdl : dv.length = 16 := by rw [hdt, List.length_take, hsl]; rfl
      have HiD := Lib.hid (show (Tryz.prog.info? 45).map (·.size) = some dv.length by rw [hdl]; kernel_rfl)
      have HoD := Lib.hid (show dv.all (·.oneCell') = true by rw [hdv, List.all_eq_true]; exact bvs_one _)
      have HDT := Lib.hid hdt; have HDL := Lib.hid hdl; have HDV := Lib.hid hdv
      clear hcs hcl hsv hsl hdv hdt hdl HST1
      go_upto_region 8 with (first
       | (refine wpList_load_blk 117 (.tmp 5) rfl rfl HA.out rfl _ Tryz.underlying117 rfl HiC.out ?_)
       | (go_at_call 111; refine HSM.out.mono ?_; rintro e W5 ⟨rfl, hx5⟩;
          have HR5 := Lib.hid (HR.out.ext hx5); have HX5 := Lib.hid (HX.out.trans hx5);
          clear hx5)
       | (refine wpList_store_blk2 121 (.tmp 8) (.tmp 28) rfl rfl (Arr.new W5 _ (List.replicate 32 (.int .u8 0))) sv rfl rfl HiS.out (by rw [HSL.out]; rfl) HoS.out rfl ?_; intro W6 hW;
          have HO6 := Lib.hid (show Arr W6 W5.heap.size 121 sv by rw [hW]; exact (Arr.new W5 _ (List.replicate 32 (.int .u8 0))).setRow _);
          have HR6 := Lib.hid (show Arr W6 w.heap.size 45 (List.replicate 16 (.int .u8 0)) by rw [hW]; exact (HR5.out.alloc _).setRow_other (by have := HR5.out.lt; omega) _);
          have HX6 := Lib.hid (show Ext w W6 by rw [hW]; exact (HX5.out.alloc _).setRow HX5.out.size _);
          clear hW))
      clear HR5 HX5 HSM
      have HDC := Lib.hid (fun j v (hv : dv[j]? = some v) => (show W6.cell? ⟨W5.heap.size, 0 + j, none⟩ = some v by
       rw [HO6.out.cell, Nat.zero_add]
       rw [HDT.out, List.getElem?_take] at hv
       split at hv
       · exact hv
       · cases hv))
      go_wp2_with (first
       | (refine wpList_load_cells 45 (.tmp 30) rfl rfl W5.heap.size 0 dv HDC.out rfl _ Tryz.underlying45 rfl HiD.out ?_)
       | (refine wpList_store_blk 45 (.tmp 4) (.tmp 31) rfl rfl HR6.out dv rfl rfl HiD.out (by rw [HDL.out]; rfl) HoD.out ?_))
      refine bodyPost_ret (v := .agg dv.toArray) ?_ rfl ⟨by rw [HDV.out], HX6.out.setRow (Nat.le_refl _) _⟩
      exact results_cell_row Tryz.results73 _ _ _ _ _ _ _ rfl (HR6.out.setRow dv) Tryz.underlying45 rfl HiD.out
end Go.Proofs.YtlinhgannajfpaaGreatDoor

/- The reference's padded message. -/
namespace Go.Proofs.YtlinhgannajfpaaGreatDoor
open Go Go.RowKit

def rlenV : Value → Nat
 | .slice _ n _ => n
 | _ => 0
set_option maxHeartbeats 8000000 in
set_option maxRecDepth 100000 in
theorem padded_any (m : List UInt8) (hl : m.length < 100000000) (A : Option Addr) (c : Nat) (w : World) (hs : Sv w w.heap.size 1 A c (rowsB m)) :
    Calls Tryz.prog 152 #[.slice A m.length c] w (RetB (m ++ padL m.length) w) := by
 have HS := Lib.hid hs
 clear hs
 have HO0 := Lib.hid (show (w.alloc (.cells #[] 5)).ownsRow w.heap.size 5 1 (.slice (some ⟨w.heap.size, 0, none⟩) 0 0) ([] : List UInt8).length (rowsB []).flatten from own_zero w _ 1)
 have HX0 := Lib.hid ((Ext.refl w).alloc (.cells #[] 5))
 have HS0 := Lib.hid (HS.out.ext HX0.out)
 go_enter Tryz.func152, Tryz.ntmps152
 go_upto_region 2 with
  (at_builtin; refine wpList_append_B rfl (.tmp 6) (.tmp 7) rfl w.heap.size _ [] rfl HO0.out A c m.length m rfl rfl HS0.out (by simp; omega) HX0.out.size m rfl ?_;
   intro A1 c1 W1 ho1 hg1;
   have HO1 := Lib.hid ho1; have HX1 := Lib.hid (HX0.out.own HO0.out hg1 (Nat.le_refl _));
   clear ho1 hg1)
 have HSN := Lib.hid (svB_one W1 128)
 have HO2 := Lib.hid (own_ext HO1.out ((Ext.refl W1).alloc (.cells #[.int .u8 ((128 : UInt8).toNat : Int)] 5)))
 have HX2 := Lib.hid (HX1.out.alloc (.cells #[.int .u8 ((128 : UInt8).toNat : Int)] 5))
 clear HO0 HX0 HS0
 have HL0 := Lib.hid (fun j => show (m ++ padZ j).length = m.length + (j + 1) by rw [List.length_append, padZ_len])
 go_upto_region 3 with
  (at_builtin; refine wpList_append_B rfl (.tmp 9) (.tmp 10) rfl w.heap.size _ m rfl HO2.out _ 1 1 [128] rfl rfl HSN.out (by omega) HX2.out.size (m ++ padZ 0) rfl ?_;
   intro A2 c2 W2 ho2 hg2;
   have HX3 := Lib.hid (HX2.out.own HO2.out hg2 (Nat.le_refl _));
   rw [HL0.out] at ho2 ⊢;
   have HO3 := Lib.hid ho2;
   clear ho2 hg2)
 clear HSN HO2 HX2 HO1 HX1
 have hpn : padN m.length < 64 := by unfold padN; omega
 go_loopw [3] (fun pv wr => ∃ j : Nat, j ≤ padN m.length ∧ wr.ownsRow w.heap.size 5 1 pv (m.length + (j + 1)) (rowsB (m ++ padZ j)).flatten ∧ Ext w wr) (fun pv _ => m.length + padN m.length + 1 - rlenV pv)
 case atStart => exact ⟨0, Nat.zero_le _, HO3.out, HX3.out⟩
 case round =>
  obtain ⟨j, hj, hw, hx⟩ := hrel
  have HW := Lib.hid hw; have HX := Lib.hid hx
  obtain ⟨A3, c3, rfl, _⟩ := own_form hw
  clear hw hx HO3 HX3
  have hr : ((m.length : Int) + ((j : Int) + 1)).tmod 64 = (((m.length + j + 1) % 64 : Nat) : Int) := by rw [Int.tmod_eq_emod_of_nonneg (by omega)]; omega
  by_cases hlt : j < padN m.length
  · have h56 : (m.length + j + 1) % 64 ≠ 56 := by unfold padN at hlt; omega
    have HSN := Lib.hid (svB_one wr 0)
    have HO4 := Lib.hid (show (wr.alloc (.cells #[.int .u8 ((0 : UInt8).toNat : Int)] 5)).ownsRow w.heap.size 5 1 (.slice A3 (m.length + (j + 1)) c3) (m ++ padZ j).length (rowsB (m ++ padZ j)).flatten by rw [HL0.out]; exact own_ext HW.out ((Ext.refl wr).alloc _))
    have HX4 := Lib.hid (HX.out.alloc (.cells #[.int .u8 ((0 : UInt8).toNat : Int)] 5))
    have HPS := Lib.hid (show m ++ padZ (j + 1) = (m ++ padZ j) ++ [0] by rw [List.append_assoc, padZ_succ])
    go_wp2_with
     (at_builtin; refine wpList_append_B rfl (.tmp 16) (.tmp 17) rfl w.heap.size _ (m ++ padZ j) rfl HO4.out _ 1 1 [0] rfl rfl HSN.out (by rw [HL0.out]; omega) HX4.out.size (m ++ padZ (j + 1)) HPS.out ?_;
      intro A5 c5 W5 ho5 hg5;
      have HO5 := Lib.hid ho5; have HX5 := Lib.hid (HX4.out.own HO4.out hg5 (Nat.le_refl _));
      rw [HL0.out];
      clear ho5 hg5)
    refine ⟨⟨j + 1, by omega, (by have h := HO5.out; rw [HL0.out] at h; exact h), HX5.out⟩, ?_⟩
    simp only [rlenV]
    omega
  · obtain rfl : j = padN m.length := by omega
    have h56 : (m.length + padN m.length + 1) % 64 = 56 := by unfold padN; omega
    have HLI := Lib.hid (fun i (h : i ≤ 8) => show (m ++ padI m.length i).length ≤ m.length + 80 by rw [List.length_append]; have := padI_len m.length h; omega)
    have HW0 := Lib.hid (show wr.ownsRow w.heap.size 5 1 (.slice A3 (m.length + (padN m.length + 1)) c3) (m ++ padI m.length 0).length (rowsB (m ++ padI m.length 0)).flatten by rw [padI_zero, HL0.out]; exact HW.out)
    have HPN := Lib.hid hpn
    clear hlt hj
    go_upto_region 7 with fail
    clear hr h56
    rename World => wo
    go_loopw [3, 5] (fun pv iv wr => ∃ i : Nat, i ≤ 8 ∧ iv = .int .i64 (i : Int) ∧ wr.ownsRow w.heap.size 5 1 pv (m ++ padI m.length i).length (rowsB (m ++ padI m.length i)).flatten ∧ Ext w wr) (fun _ iv _ => 8 - (intOf iv).toNat)
    case atStart => exact ⟨0, by omega, rfl, HW0.out, HX.out⟩
    case round =>
     obtain ⟨i, hi, rfl, hw, hx⟩ := hrel
     have HX := Lib.hid hx
     obtain ⟨q, hq⟩ : ∃ q, q = m ++ padI m.length i := ⟨_, rfl⟩
     have HLL := Lib.hid (HLI.out i hi)
     rw [← hq] at hw HLL
     have HW := Lib.hid hw
     have HQ := Lib.hid hq
     obtain ⟨A4, c4, rfl, _⟩ := own_form hw
     clear hx hw hq
     by_cases h8 : i < 8
     · have HB := Lib.hid (u8_nat (n := 8 * m.length / 2 ^ (56 - 8 * i) % 256) (Nat.mod_lt _ (by decide)))
       have HPS := Lib.hid (show m ++ padI m.length (i + 1) = q ++ [UInt8.ofNat (8 * m.length / 2 ^ (56 - 8 * i) % 256)] by rw [HQ.out, List.append_assoc, padI_succ h8 (by omega)])
       generalize UInt8.ofNat (8 * m.length / 2 ^ (56 - 8 * i) % 256) = b at HB HPS
       have hbv : 8 * (m.length : Int) / 2 ^ (56 - 8 * i) % 256 = ((b.toNat : Nat) : Int) := by
        rw [HB.out]
        simp [Int.natCast_ediv, Int.natCast_emod, Int.natCast_pow]
       have HSN := Lib.hid (svB_one wr b)
       have HO3 := Lib.hid (own_ext HW.out ((Ext.refl wr).alloc (.cells #[.int .u8 (b.toNat : Int)] 5)))
       have HX3 := Lib.hid (HX.out.alloc (.cells #[.int .u8 (b.toNat : Int)] 5))
       go_wp2_with
        (at_builtin; refine wpList_append_B rfl (.tmp 27) (.tmp 34) rfl w.heap.size _ q rfl HO3.out _ 1 1 [b] rfl rfl HSN.out (by have := HLL.out; omega) HX3.out.size (q ++ [b]) rfl ?_;
         intro A5 c5 W2 ho2 hg2;
         have HO4 := Lib.hid ho2; have HX4 := Lib.hid (HX3.out.own HO3.out hg2 (Nat.le_refl _));
         clear ho2 hg2)
       exact ⟨⟨i + 1, by omega, rfl, by (rw [HPS.out]; simpa only [List.length_append, List.length_singleton] using HO4.out), HX4.out⟩, by simp [intOf]; omega⟩
     · obtain rfl : i = 8 := by omega
       have HPA := Lib.hid (padI_all m.length)
       have HE := Lib.hid (show m ++ padL m.length = q by rw [HQ.out, HPA.out])
       go_wp2_with fail
       go_ret
       refine ⟨A4, c4, ?_, ?_, HX.out⟩
       · rw [HE.out]; rfl
       · rw [HE.out]; exact HW.out
end Go.Proofs.YtlinhgannajfpaaGreatDoor

/- The reference's words. -/
namespace Go.Proofs.YtlinhgannajfpaaGreatDoor
open Go Go.RowKit

theorem wn_shl_byte (c : UInt8) (k : Nat) (_hk : k ≤ 24) : (c.toNat : Int) * 2 ^ k % 4294967296 = (wn (BitVec.ofNat 32 c.toNat <<< k) : Int) := by
 rw [← w_shl, wn_byte]
theorem word_or (b : List UInt8) (t : Nat) : BitVec.ofNat 32 (b.getD (4 * t) 0).toNat <<< 24 ||| BitVec.ofNat 32 (b.getD (4 * t + 1) 0).toNat <<< 16 ||| BitVec.ofNat 32 (b.getD (4 * t + 2) 0).toNat <<< 8 ||| BitVec.ofNat 32 (b.getD (4 * t + 3) 0).toNat = wd b t := by
 have h0 := (b.getD (4 * t) 0).toNat_lt
 have h1 := (b.getD (4 * t + 1) 0).toNat_lt
 have h2 := (b.getD (4 * t + 2) 0).toNat_lt
 have h3 := (b.getD (4 * t + 3) 0).toNat_lt
 apply BitVec.eq_of_toNat_eq
 unfold wd
 rw [BitVec.toNat_or, BitVec.toNat_or, BitVec.toNat_or, BitVec.toNat_shiftLeft, BitVec.toNat_shiftLeft, BitVec.toNat_shiftLeft, BitVec.toNat_ofNat, BitVec.toNat_ofNat, BitVec.toNat_ofNat, BitVec.toNat_ofNat, BitVec.toNat_ofNat, Nat.shiftLeft_eq, Nat.shiftLeft_eq, Nat.shiftLeft_eq]
 generalize (b.getD (4 * t) 0).toNat = c0 at *
 generalize (b.getD (4 * t + 1) 0).toNat = c1 at *
 generalize (b.getD (4 * t + 2) 0).toNat = c2 at *
 generalize (b.getD (4 * t + 3) 0).toNat = c3 at *
 rw [show c0 % 2 ^ 32 * 2 ^ 24 % 2 ^ 32 = c0 * 16777216 by omega, show c1 % 2 ^ 32 * 2 ^ 16 % 2 ^ 32 = c1 * 65536 by omega, show c2 % 2 ^ 32 * 2 ^ 8 % 2 ^ 32 = c2 * 256 by omega, show c3 % 2 ^ 32 = c3 by omega]
 rw [nat_join 24 (c0 * 16777216) (c1 * 65536) (by omega) (by omega), nat_join 16 (c0 * 16777216 + c1 * 65536) (c2 * 256) (by omega) (by omega), nat_join 8 (c0 * 16777216 + c1 * 65536 + c2 * 256) c3 (by omega) (by omega)]
 omega
@[go_sem] theorem w_byte (c : UInt8) : (c.toNat : Int) % 4294967296 = (wn (BitVec.ofNat 32 c.toNat) : Int) := by
 rw [wn_byte]
 have := c.toNat_lt
 omega
@[go_sem] theorem w_shl24 (x : W32) : (wn x : Int) * (16777216 : Int) % (4294967296 : Int) = (wn (x <<< 24) : Int) := w_shl x 24
@[go_sem] theorem w_shl16 (x : W32) : (wn x : Int) * (65536 : Int) % (4294967296 : Int) = (wn (x <<< 16) : Int) := w_shl x 16
@[go_sem] theorem w_shl8 (x : W32) : (wn x : Int) * (256 : Int) % (4294967296 : Int) = (wn (x <<< 8) : Int) := w_shl x 8
set_option maxHeartbeats 8000000 in
set_option maxRecDepth 100000 in
theorem words_any (bl : List UInt8) (hl : bl.length = 64) (g o c : Nat) (w : World) (_hc : 64 ≤ c) (hb : BlkB w w.heap.size g o bl) :
    Calls Tryz.prog 153 #[.slice (some ⟨g, o, none⟩) 64 c] w fun e w' => e = .returned (.agg (wvs (schedL bl 64)).toArray) ∧ Ext w w' := by
 have hm := mixed
 have HB := Lib.hid hb
 clear hb
 have hG := near_old
 go_enter Tryz.func153, Tryz.ntmps153
 go_upto_region 3 with fail
 go_loopw [4] (fun tv wr => ∃ t : Nat, t ≤ 16 ∧ tv = .int .i64 (t : Int) ∧ Arr wr w.heap.size 155 (List.replicate 64 (.int .u32 0)) ∧ Arr wr (w.heap.size + 1) 155 (schedC bl t) ∧ Ext w wr) (fun tv _ => 16 - (intOf tv).toNat)
 case atStart => exact ⟨0, by omega, rfl, (Arr.new w _ (List.replicate 64 (.int .u32 0))).alloc _, (by rw [schedC_zero]; exact Arr.new1 w _ _ (List.replicate 64 (.int .u32 0))), ((Ext.refl w).alloc _).alloc _⟩
 case round =>
  obtain ⟨t, ht, rfl, hR, hA, hx⟩ := hrel
  have HR := Lib.hid hR; have HA := Lib.hid hA; have HX := Lib.hid hx
  clear hR hA hx
  by_cases h16 : t < 16
  · have hbx := (HB.out).ext (Nat.le_refl _) HX.out
    have k0 := hbx.cell (4 * t) (bl.getD (4 * t) 0) (by rw [List.getD_eq_getElem?_getD, List.getElem?_eq_getElem (by omega)]; rfl)
    have k1 := hbx.cell (4 * t + 1) (bl.getD (4 * t + 1) 0) (by rw [List.getD_eq_getElem?_getD, List.getElem?_eq_getElem (by omega)]; rfl)
    have k2 := hbx.cell (4 * t + 2) (bl.getD (4 * t + 2) 0) (by rw [List.getD_eq_getElem?_getD, List.getElem?_eq_getElem (by omega)]; rfl)
    have k3 := hbx.cell (4 * t + 3) (bl.getD (4 * t + 3) 0) (by rw [List.getD_eq_getElem?_getD, List.getElem?_eq_getElem (by omega)]; rfl)
    have lB : g < wr.heap.size := Nat.lt_of_lt_of_le hbx.lt HX.out.size
    have HWO := Lib.hid (word_or bl t)
    have HN := Lib.hid (schedC_step (b := bl) (t := t) (by omega))
    rw [show nextW bl t (schedL bl t) = wd bl t by unfold nextW; rw [if_pos h16]] at HN
    generalize bl.getD (4 * t) 0 = c0 at k0 HWO
    generalize bl.getD (4 * t + 1) 0 = c1 at k1 HWO
    generalize bl.getD (4 * t + 2) 0 = c2 at k2 HWO
    generalize bl.getD (4 * t + 3) 0 = c3 at k3 HWO
    rw [← HWO.out] at HN
    clear hbx HWO
    go_upto_region 5 with fail
    refine wp_region_near_tail 35 (by assumption) (by kernel_rfl) ?_
    simp only [List.take_succ_cons, List.take_zero, List.drop_succ_cons, List.drop_zero]
    repeat (go_big_quiet_step (fail))
    refine wpQuiet_nil ?_
    intro w1 hw1
    have hy := Ext.of_near hw1
    clear hw1
    have HA2 := Lib.hid (HA.out.ext hy); have HR2 := Lib.hid (HR.out.ext hy); have HX2 := Lib.hid (HX.out.trans hy)
    have fA2 := HA2.out.frozen t; have cA2 := HA2.out.cell t; have lA2 := HA2.out.lt
    rw [schedC_at (by omega)] at cA2
    clear hy k0 k1 k2 k3
    go_wp2_with fail
    refine ⟨⟨t + 1, by omega, rfl, HR2.out.other (by simp) _, ?_, HX2.out.setCell (by simp) _⟩, by simp [intOf]; omega⟩
    have h := HA2.out.set t (.int .u32 (wn (BitVec.ofNat 32 c0.toNat <<< 24 ||| BitVec.ofNat 32 c1.toNat <<< 16 ||| BitVec.ofNat 32 c2.toNat <<< 8 ||| BitVec.ofNat 32 c3.toNat) : Int))
    rw [HN.out] at h
    try rw [w_shl24, w_shl16, w_shl8, w_or, w_or, w_or]
    exact h
  · obtain rfl : t = 16 := by omega
    clear h16 ht
    go_upto_region 7 with fail
    rename World => wo
    go_loopw [5] (fun tv wr => ∃ t : Nat, 16 ≤ t ∧ t ≤ 64 ∧ tv = .int .i64 (t : Int) ∧ Arr wr w.heap.size 155 (List.replicate 64 (.int .u32 0)) ∧ Arr wr (w.heap.size + 1) 155 (schedC bl t) ∧ Ext w wr) (fun tv _ => 64 - (intOf tv).toNat)
    case atStart => exact ⟨16, by omega, by omega, rfl, HR.out, HA.out, HX.out⟩
    case round =>
     obtain ⟨t, ht0, ht, rfl, hR, hA, hx⟩ := hrel
     have HR := Lib.hid hR; have HA := Lib.hid hA; have HX := Lib.hid hx
     clear hR hA hx
     by_cases h64 : t < 64
     · have eN : nextW bl t (schedL bl t) = (schedL bl t).getD (t - 16) 0 + (rr ((schedL bl t).getD (t - 15) 0) 7 ^^^ rr ((schedL bl t).getD (t - 15) 0) 18 ^^^ ((schedL bl t).getD (t - 15) 0) >>> 3) + (schedL bl t).getD (t - 7) 0 + (rr ((schedL bl t).getD (t - 2) 0) 17 ^^^ rr ((schedL bl t).getD (t - 2) 0) 19 ^^^ ((schedL bl t).getD (t - 2) 0) >>> 10) := by
         unfold nextW
         rw [if_neg (by omega)]
       have HN := Lib.hid (schedC_step (b := bl) h64)
       rw [eN] at HN
       have c15 := HA.out.cell (t - 15); have c2 := HA.out.cell (t - 2); have c16 := HA.out.cell (t - 16); have c7 := HA.out.cell (t - 7)
       rw [schedC_get (by omega)] at c15 c2 c16 c7
       generalize (schedL bl t).getD (t - 15) 0 = x15 at c15 HN
       generalize (schedL bl t).getD (t - 2) 0 = x2 at c2 HN
       generalize (schedL bl t).getD (t - 16) 0 = x16 at c16 HN
       generalize (schedL bl t).getD (t - 7) 0 = x7 at c7 HN
       clear eN
       have lA := HA.out.lt
       have R7 : ∀ w, Calls Tryz.prog 154 #[.int .u32 (wn x15 : Int), .int .i64 7] w fun e w' => e = .returned (.int .u32 (wn (rr x15 7) : Int)) ∧ Ext w w' := rotr_any x15 7 (by decide) (by decide)
       have R18 : ∀ w, Calls Tryz.prog 154 #[.int .u32 (wn x15 : Int), .int .i64 18] w fun e w' => e = .returned (.int .u32 (wn (rr x15 18) : Int)) ∧ Ext w w' := rotr_any x15 18 (by decide) (by decide)
       have R17 : ∀ w, Calls Tryz.prog 154 #[.int .u32 (wn x2 : Int), .int .i64 17] w fun e w' => e = .returned (.int .u32 (wn (rr x2 17) : Int)) ∧ Ext w w' := rotr_any x2 17 (by decide) (by decide)
       have R19 : ∀ w, Calls Tryz.prog 154 #[.int .u32 (wn x2 : Int), .int .i64 19] w fun e w' => e = .returned (.int .u32 (wn (rr x2 19) : Int)) ∧ Ext w w' := rotr_any x2 19 (by decide) (by decide)
       have H7 := Lib.hid R7; have H18 := Lib.hid R18; have H17 := Lib.hid R17; have H19 := Lib.hid R19
       have s3 : (wn x15 : Int) / (8 : Int) = (wn (x15 >>> 3) : Int) := w_shr x15 3
       have s10 : (wn x2 : Int) / (1024 : Int) = (wn (x2 >>> 10) : Int) := w_shr x2 10
       clear R7 R18 R17 R19
       go_upto_region 9 with fail
       refine wp_region_near (by assumption) (by kernel_rfl) ?_
       repeat (go_big_quiet_step ((go_at_call 154; first | (with_reducible exact near_call (H7.out _)) | (with_reducible exact near_call (H18.out _)))))
       refine wpQuiet_nil ?_
       intro w1 hw1
       have hy := Ext.of_near hw1
       clear hw1
       have HA1 := Lib.hid (HA.out.ext hy); have HR1 := Lib.hid (HR.out.ext hy); have HX1 := Lib.hid (HX.out.trans hy)
       rw [HA.out.cell] at c2 c16 c7
       have d2 := HA1.out.cell (t - 2)
       rw [c2] at d2
       have lA1 := HA1.out.lt
       clear hy c15 lA s3
       go_upto_region 10 with fail
       refine wp_region_near (by assumption) (by kernel_rfl) ?_
       repeat (go_big_quiet_step ((go_at_call 154; first | (with_reducible exact near_call (H17.out _)) | (with_reducible exact near_call (H19.out _)))))
       refine wpQuiet_nil ?_
       intro w1 hw1
       have hy := Ext.of_near hw1
       clear hw1
       have HA2 := Lib.hid (HA1.out.ext hy); have HR2 := Lib.hid (HR1.out.ext hy); have HX2 := Lib.hid (HX1.out.trans hy)
       have d16 := HA2.out.cell (t - 16); have d7 := HA2.out.cell (t - 7)
       rw [c16] at d16
       rw [c7] at d7
       have lA2 := HA2.out.lt
       clear hy c2 c16 c7 d2 lA1 s10
       go_upto_region 11 with fail
       refine wp_region_near_tail 15 (by assumption) (by kernel_rfl) ?_
       simp only [List.take_succ_cons, List.take_zero, List.drop_succ_cons, List.drop_zero]
       repeat (go_big_quiet_step (fail))
       refine wpQuiet_nil ?_
       intro w1 hw1
       have hy := Ext.of_near hw1
       clear hw1
       have HA3 := Lib.hid (HA2.out.ext hy); have HR3 := Lib.hid (HR2.out.ext hy); have HX3 := Lib.hid (HX2.out.trans hy)
       have fA3 := HA3.out.frozen t; have cA3 := HA3.out.cell t; have lA3 := HA3.out.lt
       rw [schedC_at h64] at cA3
       clear hy d16 d7
       go_wp2_with fail
       refine ⟨⟨t + 1, by omega, by omega, rfl, HR3.out.other (by simp) _, ?_, HX3.out.setCell (by simp) _⟩, by simp [intOf]; omega⟩
       have h := HA3.out.set t (.int .u32 (wn (x16 + (rr x15 7 ^^^ rr x15 18 ^^^ x15 >>> 3) + x7 + (rr x2 17 ^^^ rr x2 19 ^^^ x2 >>> 10)) : Int))
       rw [HN.out] at h
       exact h
     · obtain rfl : t = 64 := by omega
       rw [schedC_all] at HA
       have l64 : (wvs (schedL bl 64)).length = 64 := by rw [wvs_len, schedL_len]
       have iA : (Tryz.prog.info? 155).map (·.size) = some (wvs (schedL bl 64)).length := by rw [l64]; exact infoW64
       have oA : (wvs (schedL bl 64)).all (·.oneCell') = true := wvs_one _
       have HiA := Lib.hid iA; have HoA := Lib.hid oA; have Hl64 := Lib.hid l64
       clear iA oA l64
       generalize hvs : wvs (schedL bl 64) = vs at HA HiA HoA Hl64
       have HVS := Lib.hid hvs
       clear hvs
       go_wp2_with (first | (refine wpList_load_blk 155 (.tmp 3) rfl rfl HA.out rfl _ Tryz.underlying155 rfl HiA.out ?_) | (refine wpList_store_blk 155 (.tmp 2) (.tmp 100) rfl rfl HR.out vs rfl rfl HiA.out (by rw [Hl64.out]; rfl) HoA.out ?_))
       refine bodyPost_ret (v := .agg vs.toArray) ?_ rfl ⟨by rw [HVS.out], HX.out.setRow (by simp) _⟩
       exact results_cell_row Tryz.results153 _ _ _ _ _ _ _ rfl (HR.out.setRow vs) Tryz.underlying155 rfl HiA.out
end Go.Proofs.YtlinhgannajfpaaGreatDoor

/- The reference's Sum. -/
namespace Go.Proofs.YtlinhgannajfpaaGreatDoor
open Go Go.RowKit

def sum8C (s v : S8) (i : Nat) : List Value := wvs ((s8w (addS s v)).take i ++ (s8w s).drop i)
theorem sum8_get (s v : S8) : ∀ (i : Nat), i < 8 → (sum8C s v i)[i]? = some (.int .u32 (wn ((s8w s).getD i 0) : Int))
 | 0, _ => rfl
 | 1, _ => rfl
 | 2, _ => rfl
 | 3, _ => rfl
 | 4, _ => rfl
 | 5, _ => rfl
 | 6, _ => rfl
 | 7, _ => rfl
 | i + 8, h => by omega
theorem sum8_set (s v : S8) : ∀ (i : Nat), i < 8 → (sum8C s v i).set i (.int .u32 (wn ((s8w s).getD i 0 + (s8w v).getD i 0) : Int)) = sum8C s v (i + 1)
 | 0, _ => rfl
 | 1, _ => rfl
 | 2, _ => rfl
 | 3, _ => rfl
 | 4, _ => rfl
 | 5, _ => rfl
 | 6, _ => rfl
 | 7, _ => rfl
 | i + 8, h => by omega
theorem s8_get (v : S8) : ∀ (i : Nat), i < 8 → ([.int .u32 (wn v.a : Int), .int .u32 (wn v.b : Int), .int .u32 (wn v.c : Int), .int .u32 (wn v.d : Int), .int .u32 (wn v.e : Int), .int .u32 (wn v.f : Int), .int .u32 (wn v.g : Int), .int .u32 (wn v.h : Int)] : List Value)[i]? = some (.int .u32 (wn ((s8w v).getD i 0) : Int))
 | 0, _ => rfl
 | 1, _ => rfl
 | 2, _ => rfl
 | 3, _ => rfl
 | 4, _ => rfl
 | 5, _ => rfl
 | 6, _ => rfl
 | 7, _ => rfl
 | i + 8, h => by omega
theorem sum8_zero (s v : S8) : sum8C s v 0 = [.int .u32 (wn s.a : Int), .int .u32 (wn s.b : Int), .int .u32 (wn s.c : Int), .int .u32 (wn s.d : Int), .int .u32 (wn s.e : Int), .int .u32 (wn s.f : Int), .int .u32 (wn s.g : Int), .int .u32 (wn s.h : Int)] := rfl
theorem sum8_all (s v : S8) : sum8C s v 8 = [.int .u32 (wn (addS s v).a : Int), .int .u32 (wn (addS s v).b : Int), .int .u32 (wn (addS s v).c : Int), .int .u32 (wn (addS s v).d : Int), .int .u32 (wn (addS s v).e : Int), .int .u32 (wn (addS s v).f : Int), .int .u32 (wn (addS s v).g : Int), .int .u32 (wn (addS s v).h : Int)] := rfl
def blkK (P : List UInt8) (k : Nat) : List UInt8 := (P.drop (64 * k)).take 64
theorem blkK_len {P : List UInt8} {k : Nat} (h : 64 * k + 64 ≤ P.length) : (blkK P k).length = 64 := by
 unfold blkK
 rw [List.length_take, List.length_drop]
 omega
theorem blkK_get {P : List UInt8} {k j : Nat} {v : UInt8} (h : (blkK P k)[j]? = some v) : P[64 * k + j]? = some v := by
 unfold blkK at h
 rw [List.getElem?_take] at h
 split at h
 · rwa [List.getElem?_drop] at h
 · cases h
theorem hash_blk {P : List UInt8} {k : Nat} (h : 64 * k + 64 ≤ P.length) : hashB iS (P.take (64 * (k + 1))) = comp (hashB iS (P.take (64 * k))) (blkK P k) := by
 have e : P.take (64 * (k + 1)) = P.take (64 * k) ++ blkK P k := by
  unfold blkK
  rw [show 64 * (k + 1) = 64 * k + 64 by omega, List.take_add]
 rw [e, hashB_append k iS _ _ (by rw [List.length_take]; omega)]
 have hl := blkK_len h
 have e2 : (blkK P k).take 64 = blkK P k := List.take_of_length_le (by omega)
 have e3 : (blkK P k).drop 64 = [] := List.drop_of_length_le (by omega)
 rw [hashB_step (by omega), e2, e3, hashB_short (by simp)]
structure SumR (m P : List UInt8) (z32 cur : List Value) (w : World) (gP : Nat) (cs : List Value) (wr : World) : Prop where
 Z : Arr wr w.heap.size 121 z32
 S : Arr wr (w.heap.size + 1) 113 cs
 P : Arr wr gP 5 cur
 ext : Ext w wr
theorem SumR.ext2 {m P : List UInt8} {z32 cur cs : List Value} {w wr w' : World} {gP : Nat} (h : SumR m P z32 cur w gP cs wr) (hx : Ext wr w') : SumR m P z32 cur w gP cs w' := ⟨h.Z.ext hx, h.S.ext hx, h.P.ext hx, h.ext.trans hx⟩
theorem SumR.row {m P : List UInt8} {z32 cur cs : List Value} {w wr : World} {gP g : Nat} (h : SumR m P z32 cur w gP cs wr) (h1 : w.heap.size + 1 < g) (h2 : gP ≠ g) (c : Array Value) : SumR m P z32 cur w gP cs (wr.setRow g c) :=
 ⟨h.Z.setRow_other (by omega) _, h.S.setRow_other (by omega) _, h.P.setRow_other h2 _, h.ext.setRow (by omega) _⟩
theorem SumR.cell {m P : List UInt8} {z32 cur cs : List Value} {w wr : World} {gP g o : Nat} (h : SumR m P z32 cur w gP cs wr) (h1 : w.heap.size + 1 < g) (h2 : gP ≠ g) (v : Value) : SumR m P z32 cur w gP cs (wr.setCell ⟨g, o, none⟩ v) :=
 ⟨h.Z.other (by simp only; omega) _, h.S.other (by simp only; omega) _, h.P.other h2 _, h.ext.setCell (by simp only; omega) _⟩
set_option maxHeartbeats 16000000 in
set_option maxRecDepth 100000 in
theorem refSum_any (m : List UInt8) (hl : m.length < 100000000) (A : Option Addr) (c : Nat) (w : World) (hs : Sv w w.heap.size 1 A c (rowsB m)) (hK : KIn w 3) :
    Calls Tryz.prog 142 #[.slice A m.length c] w fun e w' => e = .returned (.agg (bvs (sha m)).toArray) ∧ Ext w w' := by
 have hm := mixed
 have hG := near_old
 have HK := Lib.hid hK; have HS := Lib.hid hs
 clear hK hs
 obtain ⟨z32, hz32⟩ : ∃ z, z = List.replicate 32 (Value.int .u8 0) := ⟨_, rfl⟩
 obtain ⟨W0, hW⟩ : ∃ W, W = w.alloc (.cells #[.int .u8 0, .int .u8 0, .int .u8 0, .int .u8 0, .int .u8 0, .int .u8 0, .int .u8 0, .int .u8 0, .int .u8 0, .int .u8 0, .int .u8 0, .int .u8 0, .int .u8 0, .int .u8 0, .int .u8 0, .int .u8 0, .int .u8 0, .int .u8 0, .int .u8 0, .int .u8 0, .int .u8 0, .int .u8 0, .int .u8 0, .int .u8 0, .int .u8 0, .int .u8 0, .int .u8 0, .int .u8 0, .int .u8 0, .int .u8 0, .int .u8 0, .int .u8 0] 121) := ⟨_, rfl⟩
 have HZ0 := Lib.hid (show Arr W0 w.heap.size 121 z32 by rw [hW, hz32]; exact Arr.new w _ (List.replicate 32 (.int .u8 0)))
 have HX0 := Lib.hid (show Ext w W0 by rw [hW]; exact (Ext.refl w).alloc _)
 have hW0 : W0.heap.size = w.heap.size + 1 := by rw [hW]; simp
 have HN0 := Lib.hid hW0
 have HZZ := Lib.hid hz32
 clear hW0 hz32
 go_enter Tryz.func142, Tryz.ntmps142
 go_upto_region 1 with fail
 rw [← hW]
 clear hW
 go_upto_region 2 with
  (refine wpList_store_blk2 113 (.tmp 3) (.tmp 14) rfl rfl (Arr.new W0 _ (List.replicate 8 (.int .u32 0))) [.int .u32 (wn iS.a : Int), .int .u32 (wn iS.b : Int), .int .u32 (wn iS.c : Int), .int .u32 (wn iS.d : Int), .int .u32 (wn iS.e : Int), .int .u32 (wn iS.f : Int), .int .u32 (wn iS.g : Int), .int .u32 (wn iS.h : Int)] rfl rfl (by kernel_rfl) rfl rfl rfl ?_;
   intro W1 hW;
   have HS1 := Lib.hid (show Arr W1 (w.heap.size + 1) 113 [.int .u32 (wn iS.a : Int), .int .u32 (wn iS.b : Int), .int .u32 (wn iS.c : Int), .int .u32 (wn iS.d : Int), .int .u32 (wn iS.e : Int), .int .u32 (wn iS.f : Int), .int .u32 (wn iS.g : Int), .int .u32 (wn iS.h : Int)] by rw [hW, ← HN0.out]; exact (Arr.new W0 _ (List.replicate 8 (.int .u32 0))).setRow _);
   have HZ1 := Lib.hid (show Arr W1 w.heap.size 121 z32 by rw [hW]; exact (HZ0.out.alloc _).setRow_other (by rw [HN0.out]; omega) _);
   have HX1 := Lib.hid (show Ext w W1 by rw [hW]; exact (HX0.out.alloc _).setRow HX0.out.size _);
   clear hW)
 rw [HN0.out]
 have HPD := Lib.hid (padded_any m hl A c W1 (HS.out.ext HX1.out))
 clear HZ0 HX0
 have hPm : (m ++ padL m.length).length % 64 = 0 := by rw [List.length_append]; exact padL_len m.length
 have hPl : (m ++ padL m.length).length < 100000200 := by
  have h := padI_len m.length (i := 8) (Nat.le_refl _)
  rw [padI_all] at h
  rw [List.length_append]
  omega
 obtain ⟨P, hP⟩ : ∃ P, P = m ++ padL m.length := ⟨_, rfl⟩
 rw [← hP] at HPD hPm hPl
 have HSH := Lib.hid (show sha m = b32 (hashB iS P) by rw [hP]; rfl)
 have hP0 : 0 < P.length := by rw [hP, List.length_append]; unfold padL; rw [List.length_cons]; omega
 clear hP
 go_upto_region 4 with
  (go_at_call 152; refine HPD.out.mono ?_; rintro e W2 ⟨A1, c1, rfl, ho1, hx1⟩;
   have HO := Lib.hid ho1; have HX := Lib.hid hx1;
   clear ho1 hx1)
 obtain ⟨gP, cur, hA1, hgP, hcur, hc1, htk⟩ : ∃ gP cur, A1 = some ⟨gP, 0, none⟩ ∧ W1.heap.size ≤ gP ∧ Arr W2 gP 5 cur ∧ P.length ≤ c1 ∧ cur.take P.length = bvs P := by
  rcases HO.out.2 with ⟨h1, h2⟩ | ⟨g, cap, cur, h1, hbg, hg, hnc, hcm, hcs, htake⟩
  · omega
  · injection h1 with h1 h2 h3
    subst h3
    refine ⟨g, cur.toList, h1, hbg, by unfold Arr; simpa using hg, hnc, ?_⟩
    rw [Nat.mul_one] at htake
    rw [htake, bvs_rows]
 subst hA1
 have HR0 := Lib.hid (SumR.mk (HZ1.out.ext HX.out) (HS1.out.ext HX.out) hcur (HX1.out.trans HX.out) : SumR m P z32 cur w gP [.int .u32 (wn iS.a : Int), .int .u32 (wn iS.b : Int), .int .u32 (wn iS.c : Int), .int .u32 (wn iS.d : Int), .int .u32 (wn iS.e : Int), .int .u32 (wn iS.f : Int), .int .u32 (wn iS.g : Int), .int .u32 (wn iS.h : Int)] W2)
 have hgP1 : w.heap.size + 1 < gP := by have := HS1.out.lt; omega
 have HTK := Lib.hid htk
 clear hcur htk HO HX HZ1 HS1 HX1 HPD hgP HN0
 go_loopw [5] (fun av wr => ∃ k : Nat, 64 * k ≤ P.length ∧ av = .int .i64 (64 * (k : Int)) ∧ SumR m P z32 cur w gP [.int .u32 (wn (hashB iS (P.take (64 * k))).a : Int), .int .u32 (wn (hashB iS (P.take (64 * k))).b : Int), .int .u32 (wn (hashB iS (P.take (64 * k))).c : Int), .int .u32 (wn (hashB iS (P.take (64 * k))).d : Int), .int .u32 (wn (hashB iS (P.take (64 * k))).e : Int), .int .u32 (wn (hashB iS (P.take (64 * k))).f : Int), .int .u32 (wn (hashB iS (P.take (64 * k))).g : Int), .int .u32 (wn (hashB iS (P.take (64 * k))).h : Int)] wr) (fun av _ => P.length - (intOf av).toNat)
 case atStart => exact ⟨0, by omega, rfl, by rw [show P.take (64 * 0) = [] from rfl, hashB_short (by simp)]; exact HR0.out⟩
 case round =>
  obtain ⟨k, hk, rfl, hR⟩ := hrel
  have HR := Lib.hid hR
  clear hR HR0
  by_cases hlt : 64 * k < P.length
  · have hk64 : 64 * k + 64 ≤ P.length := by omega
    have HHB := Lib.hid (hash_blk hk64)
    obtain ⟨s, hs⟩ : ∃ s, s = hashB iS (P.take (64 * k)) := ⟨_, rfl⟩
    rw [← hs] at HR HHB
    have HBL := Lib.hid (blkK_len hk64)
    have hblk : BlkB wr wr.heap.size gP (64 * k) (blkK P k) := ⟨HR.out.P.lt, fun j v hv => by
     rw [HR.out.P.cell]
     have h1 := blkK_get hv
     have h2 := (List.getElem?_eq_some_iff.1 h1).1
     have h3 : (cur.take P.length)[64 * k + j]? = some (bv v) := by rw [HTK.out]; simp [bvs, h1]
     rwa [List.getElem?_take, if_pos h2] at h3⟩
    clear hs
    obtain ⟨vs, hvs⟩ : ∃ vs, vs = wvs (schedL (blkK P k) 64) := ⟨_, rfl⟩
    have hvl : vs.length = 64 := by rw [hvs, wvs_len, schedL_len]
    have HiA := Lib.hid (show (Tryz.prog.info? 155).map (·.size) = some vs.length by rw [hvl]; exact infoW64)
    have HoA := Lib.hid (show vs.all (·.oneCell') = true by rw [hvs]; exact wvs_one _)
    have HVL := Lib.hid hvl; have HVS := Lib.hid hvs
    have HWD := Lib.hid (words_any (blkK P k) HBL.out gP (64 * k) (c1 - 64 * k) wr (by omega) hblk)
    rw [← hvs] at HWD
    clear hblk hvs hvl
    go_upto_region 7 with (first
     | (go_at_call 153; refine HWD.out.mono ?_; rintro e W3 ⟨rfl, hx3⟩;
        have HR3 := Lib.hid (HR.out.ext2 hx3);
        clear hx3)
     | (refine wpList_store_blk2 155 (.tmp 6) (.tmp 28) rfl rfl (Arr.new W3 _ (List.replicate 64 (.int .u32 0))) vs rfl rfl HiA.out (by rw [HVL.out]; rfl) HoA.out rfl ?_; intro W4 hW;
        have h1 := HR3.out.S.lt; have h2 := HR3.out.P.lt;
        have HW4 := Lib.hid (show Arr W4 W3.heap.size 155 vs by rw [hW]; exact (Arr.new W3 _ (List.replicate 64 (.int .u32 0))).setRow _);
        have HR4 := Lib.hid (show SumR m P z32 cur w gP [.int .u32 (wn s.a : Int), .int .u32 (wn s.b : Int), .int .u32 (wn s.c : Int), .int .u32 (wn s.d : Int), .int .u32 (wn s.e : Int), .int .u32 (wn s.f : Int), .int .u32 (wn s.g : Int), .int .u32 (wn s.h : Int)] W4 by rw [hW]; exact (HR3.out.ext2 ((Ext.refl W3).alloc _)).row (by omega) (by omega) _);
        clear hW))
    obtain ⟨nW, hnW⟩ : ∃ n, n = W3.heap.size := ⟨_, rfl⟩
    rw [← hnW] at HW4 h1 h2 ⊢
    clear HR3 HWD hnW
    go_upto_region 8 with (first
     | (refine wpList_load_blk 113 (.tmp 3) rfl rfl HR4.out.S rfl _ Tryz.underlying113 rfl (by kernel_rfl) ?_)
     | (refine wpList_store_blk2 113 (.tmp 7) (.tmp 29) rfl rfl (Arr.new W4 _ (List.replicate 8 (.int .u32 0))) [.int .u32 (wn s.a : Int), .int .u32 (wn s.b : Int), .int .u32 (wn s.c : Int), .int .u32 (wn s.d : Int), .int .u32 (wn s.e : Int), .int .u32 (wn s.f : Int), .int .u32 (wn s.g : Int), .int .u32 (wn s.h : Int)] rfl rfl (by kernel_rfl) rfl rfl rfl ?_; intro W5 hW;
        have h3 := HW4.out.lt;
        have HV5 := Lib.hid (show Arr W5 W4.heap.size 113 [.int .u32 (wn s.a : Int), .int .u32 (wn s.b : Int), .int .u32 (wn s.c : Int), .int .u32 (wn s.d : Int), .int .u32 (wn s.e : Int), .int .u32 (wn s.f : Int), .int .u32 (wn s.g : Int), .int .u32 (wn s.h : Int)] by rw [hW]; exact (Arr.new W4 _ (List.replicate 8 (.int .u32 0))).setRow _);
        have HW5 := Lib.hid (show Arr W5 nW 155 vs by rw [hW]; exact (HW4.out.alloc _).setRow_other (by omega) _);
        have HR5 := Lib.hid (show SumR m P z32 cur w gP [.int .u32 (wn s.a : Int), .int .u32 (wn s.b : Int), .int .u32 (wn s.c : Int), .int .u32 (wn s.d : Int), .int .u32 (wn s.e : Int), .int .u32 (wn s.f : Int), .int .u32 (wn s.g : Int), .int .u32 (wn s.h : Int)] W5 by rw [hW]; exact (HR4.out.ext2 ((Ext.refl W4).alloc _)).row (by omega) (by omega) _);
        clear hW))
    obtain ⟨nV, hnV⟩ : ∃ n, n = W4.heap.size := ⟨_, rfl⟩
    rw [← hnV] at HV5 h3 ⊢
    clear HR4 HW4 hnV
    have HK5 := Lib.hid (HK.out.ext HR5.out.ext)
    go_upto_region 9 with fail
    rename World => wo
    go_loopw [8] (fun tv wr => ∃ t : Nat, t ≤ 64 ∧ tv = .int .i64 (t : Int) ∧ Arr wr nV 113 [.int .u32 (wn (rnds (schedL (blkK P k) 64) s t).a : Int), .int .u32 (wn (rnds (schedL (blkK P k) 64) s t).b : Int), .int .u32 (wn (rnds (schedL (blkK P k) 64) s t).c : Int), .int .u32 (wn (rnds (schedL (blkK P k) 64) s t).d : Int), .int .u32 (wn (rnds (schedL (blkK P k) 64) s t).e : Int), .int .u32 (wn (rnds (schedL (blkK P k) 64) s t).f : Int), .int .u32 (wn (rnds (schedL (blkK P k) 64) s t).g : Int), .int .u32 (wn (rnds (schedL (blkK P k) 64) s t).h : Int)] ∧ Arr wr nW 155 vs ∧ SumR m P z32 cur w gP [.int .u32 (wn s.a : Int), .int .u32 (wn s.b : Int), .int .u32 (wn s.c : Int), .int .u32 (wn s.d : Int), .int .u32 (wn s.e : Int), .int .u32 (wn s.f : Int), .int .u32 (wn s.g : Int), .int .u32 (wn s.h : Int)] wr) (fun tv _ => 64 - (intOf tv).toNat)
    case atStart => exact ⟨0, by omega, rfl, by rw [rnds_zero]; exact HV5.out, HW5.out, HR5.out⟩
    case round =>
     obtain ⟨t, ht, rfl, hV, hW, hR⟩ := hrel
     have HV := Lib.hid hV; have HW := Lib.hid hW; have HR := Lib.hid hR
     clear hV hW hR HV5 HW5 HR5
     by_cases h64 : t < 64
     · have HN := Lib.hid (rnds_succ (schedL (blkK P k) 64) s t)
       have hwt : vs[t]? = some (.int .u32 (wn ((schedL (blkK P k) 64).getD t 0) : Int)) := by
        rw [HVS.out]
        apply wvs_get
        rw [List.getD_eq_getElem?_getD, List.getElem?_eq_getElem (by rw [schedL_len]; exact h64)]
        rfl
       have hKr := HK.out.ext HR.out.ext
       have cK := hKr.at_ t h64
       have lK := hKr.lt
       generalize rnds (schedL (blkK P k) 64) s t = r at HV HN
       generalize (schedL (blkK P k) 64).getD t 0 = wt at hwt HN
       generalize kW t = kt at cK HN
       have cW := HW.out.cell t
       rw [hwt] at cW
       have lW := HW.out.lt
       have cV := HV.out.cell; have lV := HV.out.lt
       clear hwt hKr
       have R6 : ∀ w, Calls Tryz.prog 154 #[.int .u32 (wn r.e : Int), .int .i64 6] w fun e w' => e = .returned (.int .u32 (wn (rr r.e 6) : Int)) ∧ Ext w w' := rotr_any r.e 6 (by decide) (by decide)
       have R11 : ∀ w, Calls Tryz.prog 154 #[.int .u32 (wn r.e : Int), .int .i64 11] w fun e w' => e = .returned (.int .u32 (wn (rr r.e 11) : Int)) ∧ Ext w w' := rotr_any r.e 11 (by decide) (by decide)
       have R25 : ∀ w, Calls Tryz.prog 154 #[.int .u32 (wn r.e : Int), .int .i64 25] w fun e w' => e = .returned (.int .u32 (wn (rr r.e 25) : Int)) ∧ Ext w w' := rotr_any r.e 25 (by decide) (by decide)
       have HR6 := Lib.hid R6; have HR11 := Lib.hid R11; have HR25 := Lib.hid R25
       clear R6 R11 R25
       go_upto_region 11 with fail
       refine wp_region_near (by assumption) (by kernel_rfl) ?_
       repeat (go_big_quiet_step ((go_at_call 154; first | (with_reducible exact near_call (HR6.out _)) | (with_reducible exact near_call (HR11.out _)) | (with_reducible exact near_call (HR25.out _)))))
       refine wpQuiet_nil ?_
       intro w1 hw1
       have hy := Ext.of_near hw1
       clear hw1
       have HV1 := Lib.hid (HV.out.ext hy); have HW1 := Lib.hid (HW.out.ext hy); have HR1 := Lib.hid (HR.out.ext2 hy)
       obtain ⟨xx, hxx⟩ : ∃ xx, xx = r.h + (rr r.e 6 ^^^ rr r.e 11 ^^^ rr r.e 25) + ((r.e &&& r.f) ^^^ (~~~r.e &&& r.g)) + kt + wt := ⟨_, rfl⟩
       rw [← hxx]
       have HXX := Lib.hid hxx
       have cV := HV1.out.cell; have lV := HV1.out.lt
       clear hy cK lK cW lW HR6 HR11 HR25 hxx HV HW HR
       have R2 : ∀ w, Calls Tryz.prog 154 #[.int .u32 (wn r.a : Int), .int .i64 2] w fun e w' => e = .returned (.int .u32 (wn (rr r.a 2) : Int)) ∧ Ext w w' := rotr_any r.a 2 (by decide) (by decide)
       have R13 : ∀ w, Calls Tryz.prog 154 #[.int .u32 (wn r.a : Int), .int .i64 13] w fun e w' => e = .returned (.int .u32 (wn (rr r.a 13) : Int)) ∧ Ext w w' := rotr_any r.a 13 (by decide) (by decide)
       have R22 : ∀ w, Calls Tryz.prog 154 #[.int .u32 (wn r.a : Int), .int .i64 22] w fun e w' => e = .returned (.int .u32 (wn (rr r.a 22) : Int)) ∧ Ext w w' := rotr_any r.a 22 (by decide) (by decide)
       have HR2 := Lib.hid R2; have HR13 := Lib.hid R13; have HR22 := Lib.hid R22
       clear R2 R13 R22
       go_upto_region 12 with fail
       refine wp_region_near (by assumption) (by kernel_rfl) ?_
       repeat (go_big_quiet_step ((go_at_call 154; first | (with_reducible exact near_call (HR2.out _)) | (with_reducible exact near_call (HR13.out _)) | (with_reducible exact near_call (HR22.out _)))))
       refine wpQuiet_nil ?_
       intro w1 hw1
       have hy := Ext.of_near hw1
       clear hw1
       have HV3 := Lib.hid (HV1.out.ext hy); have HW3 := Lib.hid (HW1.out.ext hy); have HQ3 := Lib.hid (HR1.out.ext2 hy)
       obtain ⟨yy, hyy⟩ : ∃ yy, yy = (rr r.a 2 ^^^ rr r.a 13 ^^^ rr r.a 22) + ((r.a &&& r.b) ^^^ (r.a &&& r.c) ^^^ (r.b &&& r.c)) := ⟨_, rfl⟩
       rw [← hyy]
       have HYY := Lib.hid hyy
       have cV := HV3.out.cell; have lV := HV3.out.lt
       clear hy HR2 HR13 HR22 hyy HV1 HW1 HR1
       go_wp2_with
        (refine wpList_store_blk2 113 (.tmp 7) (.tmp 117) rfl rfl HV3.out [.int .u32 (wn (xx + yy) : Int), .int .u32 (wn r.a : Int), .int .u32 (wn r.b : Int), .int .u32 (wn r.c : Int), .int .u32 (wn (r.d + xx) : Int), .int .u32 (wn r.e : Int), .int .u32 (wn r.f : Int), .int .u32 (wn r.g : Int)] rfl rfl (by kernel_rfl) rfl rfl rfl ?_; intro W6 hW;
         have HV6 := Lib.hid (show Arr W6 nV 113 [.int .u32 (wn (xx + yy) : Int), .int .u32 (wn r.a : Int), .int .u32 (wn r.b : Int), .int .u32 (wn r.c : Int), .int .u32 (wn (r.d + xx) : Int), .int .u32 (wn r.e : Int), .int .u32 (wn r.f : Int), .int .u32 (wn r.g : Int)] by rw [hW]; exact HV3.out.setRow _);
         have HW6 := Lib.hid (show Arr W6 nW 155 vs by rw [hW]; exact HW3.out.setRow_other (by omega) _);
         have HR6 := Lib.hid (show SumR m P z32 cur w gP [.int .u32 (wn s.a : Int), .int .u32 (wn s.b : Int), .int .u32 (wn s.c : Int), .int .u32 (wn s.d : Int), .int .u32 (wn s.e : Int), .int .u32 (wn s.f : Int), .int .u32 (wn s.g : Int), .int .u32 (wn s.h : Int)] W6 by rw [hW]; exact HQ3.out.row (by omega) (by omega) _);
         clear hW)
       refine ⟨⟨t + 1, by omega, rfl, ?_, HW6.out, HR6.out⟩, by simp [intOf]; omega⟩
       have e : rnd r kt wt = ⟨xx + yy, r.a, r.b, r.c, r.d + xx, r.e, r.f, r.g⟩ := by rw [HXX.out, HYY.out]; rfl
       rw [HN.out, e]
       exact HV6.out
     · obtain rfl : t = 64 := by omega
       have HF := Lib.hid (show comp s (blkK P k) = addS s (rnds (schedL (blkK P k) 64) s 64) from rfl)
       rw [HF.out] at HHB
       generalize rnds (schedL (blkK P k) 64) s 64 = r at HV HF HHB
       clear HF
       go_upto_region 15 with fail
       rename World => wo2
       go_loopw [11] (fun iv wr => ∃ i : Nat, i ≤ 8 ∧ iv = .int .i64 (i : Int) ∧ Arr wr nV 113 [.int .u32 (wn r.a : Int), .int .u32 (wn r.b : Int), .int .u32 (wn r.c : Int), .int .u32 (wn r.d : Int), .int .u32 (wn r.e : Int), .int .u32 (wn r.f : Int), .int .u32 (wn r.g : Int), .int .u32 (wn r.h : Int)] ∧ SumR m P z32 cur w gP (sum8C s r i) wr) (fun iv _ => 8 - (intOf iv).toNat)
       case atStart => exact ⟨0, by omega, rfl, HV.out, by rw [sum8_zero]; exact HR.out⟩
       case round =>
        obtain ⟨i, hi, rfl, hV, hR⟩ := hrel
        have HV2 := Lib.hid hV; have HQ := Lib.hid hR
        clear hV hR HV HR HW
        by_cases h8 : i < 8
        · have cS := HQ.out.S.cell i; have lS := HQ.out.S.lt
          rw [sum8_get s r i h8] at cS
          have cV := HV2.out.cell i; have lV := HV2.out.lt
          rw [s8_get r i h8] at cV
          have HST := Lib.hid (sum8_set s r i h8)
          generalize (s8w s).getD i 0 = si at cS HST
          generalize (s8w r).getD i 0 = ri at cV HST
          go_upto_region 17 with fail
          refine wp_region_near_tail 9 (by assumption) (by kernel_rfl) ?_
          simp only [List.take_succ_cons, List.take_zero, List.drop_succ_cons, List.drop_zero]
          repeat (go_big_quiet_step (fail))
          refine wpQuiet_nil ?_
          intro w1 hw1
          have hy := Ext.of_near hw1
          clear hw1
          have HV4 := Lib.hid (HV2.out.ext hy); have HQ4 := Lib.hid (HQ.out.ext2 hy)
          have cS2 := HQ4.out.S.cell i; have lS2 := HQ4.out.S.lt; have fS2 := HQ4.out.S.frozen i
          rw [← HQ.out.S.cell, cS] at cS2
          have lV4 := HV4.out.lt
          clear hy cS lS cV lV
          go_wp2_with fail
          refine ⟨⟨i + 1, by omega, rfl, HV4.out.other (by simp only; omega) _, ⟨HQ4.out.Z.other (by simp only; omega) _, ?_, HQ4.out.P.other (by simp only; omega) _, HQ4.out.ext.setCell (by simp only; omega) _⟩⟩, by simp [intOf]; omega⟩
          have h := HQ4.out.S.set i (.int .u32 (wn (si + ri) : Int))
          rw [HST.out] at h
          exact h
        · obtain rfl : i = 8 := by omega
          have hq := HQ.out
          rw [sum8_all] at hq
          rw [← HHB.out] at hq
          have HQ5 := Lib.hid hq
          clear hq HQ
          go_wp2_with fail
          exact ⟨⟨k + 1, by omega, by congr 1, HQ5.out⟩, by simp [intOf]; omega⟩
  · have hPk : P.length = 64 * k := by omega
    rw [show P.take (64 * k) = P by rw [← hPk, List.take_length]] at HR
    obtain ⟨S, hS⟩ : ∃ S, S = hashB iS P := ⟨_, rfl⟩
    rw [← hS] at HR HSH
    have HRZ := Lib.hid HR.out.Z; have HRS := Lib.hid HR.out.S; have HRX := Lib.hid HR.out.ext
    have hs1 := HR.out.S.lt
    have HS0 := Lib.hid (show shaC m 0 = List.replicate 32 (.int .u8 0) by unfold shaC; simp [bvs])
    clear hS HR hlt hk
    go_upto_region 20 with fail
    obtain ⟨n6, hn6⟩ : ∃ n, n = wr.heap.size := ⟨_, rfl⟩
    rename World => wo
    go_loopw [13] (fun iv wr => ∃ i : Nat, i ≤ 32 ∧ iv = .int .i64 (i : Int) ∧ Arr wr (w.heap.size + 1) 113 [.int .u32 (wn S.a : Int), .int .u32 (wn S.b : Int), .int .u32 (wn S.c : Int), .int .u32 (wn S.d : Int), .int .u32 (wn S.e : Int), .int .u32 (wn S.f : Int), .int .u32 (wn S.g : Int), .int .u32 (wn S.h : Int)] ∧ Arr wr w.heap.size 121 z32 ∧ Arr wr n6 121 (shaC m i) ∧ Ext w wr) (fun iv _ => 32 - (intOf iv).toNat)
    case atStart => exact ⟨0, by omega, rfl, HRS.out.alloc _, HRZ.out.alloc _, by rw [HS0.out, hn6]; exact Arr.new wo _ (List.replicate 32 (.int .u8 0)), HRX.out.alloc _⟩
    case round =>
     obtain ⟨i, hi, rfl, hA, hR, hO, hx⟩ := hrel
     have HA7 := Lib.hid hA; have HR7 := Lib.hid hR; have HO7 := Lib.hid hO; have HX7 := Lib.hid hx
     rw [← hn6] at hs1 ⊢
     clear hA hR hO hx HRZ HRS HRX hn6
     by_cases h32 : i < 32
     · have hq : ((i : Nat) : Int).tdiv 4 = ((i / 4 : Nat) : Int) := by rw [Int.tdiv_eq_ediv_of_nonneg (by omega)]; omega
       have hr : ((i : Nat) : Int).tmod 4 = ((i % 4 : Nat) : Int) := by rw [Int.tmod_eq_emod_of_nonneg (by omega)]; omega
       have hq8 : i / 4 < 8 := by omega
       have hr4 : i % 4 < 4 := by omega
       have cX := HA7.out.cell (i / 4)
       rw [s8_get S (i / 4) hq8] at cX
       have HG := Lib.hid (b32_get S i h32)
       rw [← HSH.out] at HG
       have lX := HA7.out.lt
       have fO := HO7.out.frozen i; have lO := HO7.out.lt; have cO := HO7.out.cell i
       obtain ⟨ov, hov⟩ : ∃ v, (shaC m i)[i]? = some v := ⟨_, List.getElem?_eq_getElem (by rw [shaC_len m hi]; exact h32)⟩
       rw [hov] at cO
       generalize (s8w S).getD (i / 4) 0 = x at cX HG
       have hbv : (wn x : Int) / 2 ^ (24 - 8 * (i % 4)) % 256 = (((UInt8.ofNat (wn x / 2 ^ (24 - 8 * (i % 4)))).toNat : Nat) : Int) := by
        rw [UInt8.toNat_ofNat']
        simp [Int.natCast_ediv, Int.natCast_emod, Int.natCast_pow]
       generalize UInt8.ofNat (wn x / 2 ^ (24 - 8 * (i % 4))) = b at hbv HG
       have hwl := wn_lt x
       clear hov
       go_wp2_with fail
       have h := HO7.out.set i (.int .u8 (b.toNat : Int))
       rw [shaC_set m h32 HG.out] at h
       exact ⟨⟨i + 1, by omega, rfl, HA7.out.other (by simp only; omega) _, HR7.out.other (by simp only; omega) _, h, HX7.out.setCell (by simp only; omega) _⟩, by simp [intOf]; omega⟩
     · obtain rfl : i = 32 := by omega
       rw [shaC_all] at HO7
       obtain ⟨vs, hvs⟩ : ∃ vs, vs = bvs (sha m) := ⟨_, rfl⟩
       have hvl : vs.length = 32 := by rw [hvs, bvs_len, sha_len]
       have HiV := Lib.hid (show (Tryz.prog.info? 121).map (·.size) = some vs.length by rw [hvl]; kernel_rfl)
       have HoV := Lib.hid (show vs.all (·.oneCell') = true by rw [hvs, List.all_eq_true]; exact bvs_one _)
       have HVL := Lib.hid (show z32.length = vs.length by rw [hvl, HZZ.out]; rfl)
       have HVS := Lib.hid hvs
       rw [← hvs] at HO7
       clear hvs hvl
       go_wp2_with (first
        | (refine wpList_load_blk 121 (.tmp 12) rfl rfl HO7.out rfl _ Tryz.underlying121 rfl HiV.out ?_)
        | (refine wpList_store_blk 121 (.tmp 2) (.tmp 147) rfl rfl HR7.out vs rfl rfl HiV.out HVL.out HoV.out ?_))
       refine bodyPost_ret (v := .agg vs.toArray) ?_ rfl ⟨by rw [HVS.out], HX7.out.setRow (Nat.le_refl _) _⟩
       exact results_cell_row Tryz.results142 _ _ _ _ _ _ _ rfl (HR7.out.setRow vs) Tryz.underlying121 rfl HiV.out
end Go.Proofs.YtlinhgannajfpaaGreatDoor

/- The reference's Short, Input, Of. -/
namespace Go.Proofs.YtlinhgannajfpaaGreatDoor
open Go Go.RowKit

def dC (m : List UInt8) (i : Nat) : List Value := bvs ((sha m).take i) ++ List.replicate (16 - i) (.int .u8 0)
theorem dC_len (m : List UInt8) {i : Nat} (h : i ≤ 16) : (dC m i).length = 16 := by
 unfold dC
 rw [List.length_append, bvs_len, List.length_take, sha_len, List.length_replicate]
 omega
theorem dC_set (m : List UInt8) {i : Nat} {v : UInt8} (h : i < 16) (hv : (sha m)[i]? = some v) : (dC m i).set i (.int .u8 (v.toNat : Int)) = dC m (i + 1) := by
 unfold dC
 have hl : (bvs ((sha m).take i)).length = i := by rw [bvs_len, List.length_take, sha_len]; omega
 have e : 16 - i = (16 - (i + 1)) + 1 := by omega
 rw [List.set_append_right _ _ (by omega), hl, Nat.sub_self, e, List.replicate_succ, List.set_cons_zero, List.take_add_one, hv]
 simp [bvs, bv]
theorem infoD : (Tryz.prog.info? 45).map (·.size) = some 16 := by kernel_rfl
set_option maxHeartbeats 8000000 in
set_option maxRecDepth 100000 in
theorem Short_any (m : List UInt8) (hl : m.length < 100000000) (A : Option Addr) (c : Nat) (w : World) (hs : Sv w w.heap.size 1 A c (rowsB m)) (hK : KIn w 3) :
    Calls Tryz.prog 112 #[.slice A m.length c] w fun e w' => e = .returned (.agg (bvs ((sha m).take 16)).toArray) ∧ Ext w w' := by
 have HK := Lib.hid hK; have HS := Lib.hid hs
 clear hK hs
 obtain ⟨W0, hW⟩ : ∃ W, W = w.alloc (.cells #[.int .u8 0, .int .u8 0, .int .u8 0, .int .u8 0, .int .u8 0, .int .u8 0, .int .u8 0, .int .u8 0, .int .u8 0, .int .u8 0, .int .u8 0, .int .u8 0, .int .u8 0, .int .u8 0, .int .u8 0, .int .u8 0] 45) := ⟨_, rfl⟩
 obtain ⟨z16, hz16⟩ : ∃ z, z = List.replicate 16 (Value.int .u8 0) := ⟨_, rfl⟩
 have HZ0 := Lib.hid (show Arr W0 w.heap.size 45 z16 by rw [hW, hz16]; exact Arr.new w _ (List.replicate 16 (.int .u8 0)))
 have HX0 := Lib.hid (show Ext w W0 by rw [hW]; exact (Ext.refl w).alloc _)
 have HZZ := Lib.hid hz16
 obtain ⟨sv, hsv⟩ : ∃ sv, sv = bvs (sha m) := ⟨_, rfl⟩
 have hsl : sv.length = 32 := by rw [hsv, bvs_len, sha_len]
 have HSM := Lib.hid (refSum_any m hl A c W0 (HS.out.ext HX0.out) (HK.out.ext HX0.out))
 rw [← hsv] at HSM
 have HiS := Lib.hid (show (Tryz.prog.info? 121).map (·.size) = some sv.length by rw [hsl]; kernel_rfl)
 have HoS := Lib.hid (show sv.all (·.oneCell') = true by rw [hsv, List.all_eq_true]; exact bvs_one _)
 have HSL := Lib.hid hsl
 have HGT := Lib.hid (fun i (v : UInt8) (h : (sha m)[i]? = some v) => (show sv[i]? = some (Value.int IntKind.u8 (v.toNat : Int)) by rw [hsv]; unfold bvs; rw [List.getElem?_map, h]; rfl))
 clear hsl hsv hz16
 go_enter Tryz.func112, Tryz.ntmps112
 go_upto_region 1 with fail
 rw [← hW]
 clear hW
 go_upto_region 2 with (first
  | (go_at_call 142; refine HSM.out.mono ?_; rintro e W3 ⟨rfl, hx3⟩;
     have HZ3 := Lib.hid (HZ0.out.ext hx3); have HX3 := Lib.hid (HX0.out.trans hx3);
     clear hx3)
  | (refine wpList_store_blk2 121 (.tmp 3) (.tmp 7) rfl rfl (Arr.new W3 _ (List.replicate 32 (.int .u8 0))) sv rfl rfl HiS.out (by rw [HSL.out]; rfl) HoS.out rfl ?_; intro W4 hW;
     have h1 := HZ3.out.lt;
     have HS4 := Lib.hid (show Arr W4 W3.heap.size 121 sv by rw [hW]; exact (Arr.new W3 _ (List.replicate 32 (.int .u8 0))).setRow _);
     have HZ4 := Lib.hid (show Arr W4 w.heap.size 45 z16 by rw [hW]; exact (HZ3.out.alloc _).setRow_other (by omega) _);
     have HX4 := Lib.hid (show Ext w W4 by rw [hW]; exact (HX3.out.alloc _).setRow HX3.out.size _);
     clear hW))
 obtain ⟨nS, hnS⟩ : ∃ n, n = W3.heap.size := ⟨_, rfl⟩
 rw [← hnS] at HS4 h1 ⊢
 clear HZ3 HX3 HSM hnS HZ0 HX0
 have HD0 := Lib.hid (show dC m 0 = List.replicate 16 (.int .u8 0) by unfold dC; simp [bvs])
 have HiD := Lib.hid (fun i (h : i ≤ 16) => show (Tryz.prog.info? 45).map (·.size) = some (dC m i).length by rw [dC_len m h]; exact infoD)
 go_upto_region 4 with
  (refine wpList_store_blk2 45 (.tmp 4) (.tmp 8) rfl rfl (Arr.new W4 _ (List.replicate 16 (.int .u8 0))) (List.replicate 16 (.int .u8 0)) rfl (by kernel_rfl) (by kernel_rfl) rfl rfl rfl ?_; intro W5 hW;
   have h2 := HS4.out.lt;
   have HO5 := Lib.hid (show Arr W5 W4.heap.size 45 (dC m 0) by rw [hW, HD0.out]; exact (Arr.new W4 _ (List.replicate 16 (.int .u8 0))).setRow _);
   have HS5 := Lib.hid (show Arr W5 nS 121 sv by rw [hW]; exact (HS4.out.alloc _).setRow_other (by omega) _);
   have HZ5 := Lib.hid (show Arr W5 w.heap.size 45 z16 by rw [hW]; exact (HZ4.out.alloc _).setRow_other (by omega) _);
   have HX5 := Lib.hid (show Ext w W5 by rw [hW]; exact (HX4.out.alloc _).setRow HX4.out.size _);
   clear hW)
 obtain ⟨nO, hnO⟩ : ∃ n, n = W4.heap.size := ⟨_, rfl⟩
 rw [← hnO] at HO5 h2 ⊢
 clear HS4 HZ4 HX4 hnO
 go_loopw [5] (fun iv wr => ∃ i : Nat, i ≤ 16 ∧ iv = .int .i64 (i : Int) ∧ Arr wr nS 121 sv ∧ Arr wr w.heap.size 45 z16 ∧ Arr wr nO 45 (dC m i) ∧ Ext w wr) (fun iv _ => 16 - (intOf iv).toNat)
 case atStart => exact ⟨0, by omega, rfl, HS5.out, HZ5.out, HO5.out, HX5.out⟩
 case round =>
  obtain ⟨i, hi, rfl, hS, hZ, hO, hx⟩ := hrel
  have HS7 := Lib.hid hS; have HZ7 := Lib.hid hZ; have HO7 := Lib.hid hO; have HX7 := Lib.hid hx
  clear hS hZ hO hx HS5 HZ5 HO5 HX5
  by_cases h16 : i < 16
  · obtain ⟨b, hb⟩ : ∃ b, (sha m)[i]? = some b := ⟨_, List.getElem?_eq_getElem (by rw [sha_len]; omega)⟩
    have cS := HS7.out.cell i
    rw [HGT.out i b hb] at cS
    have fO := HO7.out.frozen i; have lO := HO7.out.lt; have cO := HO7.out.cell i
    obtain ⟨ov, hov⟩ : ∃ v, (dC m i)[i]? = some v := ⟨_, List.getElem?_eq_getElem (by rw [dC_len m hi]; exact h16)⟩
    rw [hov] at cO
    have HB := Lib.hid hb
    clear hov hb
    go_wp2_with fail
    have h := HO7.out.set i (.int .u8 (b.toNat : Int))
    rw [dC_set m h16 HB.out] at h
    exact ⟨⟨i + 1, by omega, rfl, HS7.out.other (by simp only; omega) _, HZ7.out.other (by simp only; omega) _, h, HX7.out.setCell (by simp only; omega) _⟩, by simp [intOf]; omega⟩
  · obtain rfl : i = 16 := by omega
    have hall : dC m 16 = bvs ((sha m).take 16) := by unfold dC; simp
    rw [hall] at HO7
    have hid := HiD.out 16 (Nat.le_refl _)
    rw [hall] at hid
    obtain ⟨vs, hvs⟩ : ∃ vs, vs = bvs ((sha m).take 16) := ⟨_, rfl⟩
    have HoV := Lib.hid (show vs.all (·.oneCell') = true by rw [hvs, List.all_eq_true]; exact bvs_one _)
    have HVL := Lib.hid (show z16.length = vs.length by rw [hvs, bvs_len, List.length_take, sha_len, HZZ.out]; rfl)
    have HVS := Lib.hid hvs
    rw [← hvs] at HO7 hid
    have HiV := Lib.hid hid
    clear hvs hid hall
    go_wp2_with (first
     | (refine wpList_load_blk 45 (.tmp 4) rfl rfl HO7.out rfl _ Tryz.underlying45 rfl HiV.out ?_)
     | (refine wpList_store_blk 45 (.tmp 2) (.tmp 18) rfl rfl HZ7.out vs rfl rfl HiV.out HVL.out HoV.out ?_))
    refine bodyPost_ret (v := .agg vs.toArray) ?_ rfl ⟨by rw [HVS.out], HX7.out.setRow (Nat.le_refl _) _⟩
    exact results_cell_row Tryz.results112 _ _ _ _ _ _ _ rfl (HZ7.out.setRow vs) Tryz.underlying45 rfl HiV.out
set_option maxHeartbeats 8000000 in
set_option maxRecDepth 100000 in
theorem Input_any (tag : Nat) (htag : tag < 256) (ps : List (List UInt8)) (A : Option Addr) (c : Nat) (hlen : (ofMsg tag ps).length < 100000000) (w : World) (hs : Sv w w.heap.size 1 A c (rowsS ps)) :
    Calls Tryz.prog 113 #[.int .i64 (tag : Int), .slice A ps.length c] w (RetB (ofMsg tag ps) w) := by
 have HS := Lib.hid hs
 have hpl : ps.length ≤ 9223372036854775807 := by have := hs.len; rw [rowsS_len] at this; exact this
 clear hs
 obtain ⟨tb, htb⟩ : ∃ tb, tb = UInt8.ofNat tag := ⟨_, rfl⟩
 have htn : (tb.toNat : Int) = (tag : Int) := by rw [htb, u8_nat htag]
 have HM0 := Lib.hid (show ofMsg tag (ps.take 0) = [tb] by rw [htb]; rfl)
 have HO0 := Lib.hid (show (w.alloc (.cells #[.int .u8 (tb.toNat : Int)] 5)).ownsRow w.heap.size 5 1 (.slice (some ⟨w.heap.size, 0, none⟩) 1 1) (ofMsg tag (ps.take 0)).length (rowsB (ofMsg tag (ps.take 0))).flatten by rw [HM0.out]; exact ⟨rfl, .inr ⟨w.heap.size, 1, _, rfl, Nat.le_refl _, heap_alloc_new _ _, Nat.le_refl _, by unfold maxLen; omega, rfl, rfl⟩⟩)
 have HX0 := Lib.hid ((Ext.refl w).alloc (.cells #[.int .u8 (tb.toNat : Int)] 5))
 have HTB := Lib.hid htb
 rw [htn] at HO0 HX0
 clear htb htn
 go_enter Tryz.func113, Tryz.ntmps113
 go_upto_region 3 with fail
 go_loopw [5, 6] (fun pv iv wr => ∃ i : Nat, i ≤ ps.length ∧ iv = .int .i64 (i : Int) ∧ wr.ownsRow w.heap.size 5 1 pv (ofMsg tag (ps.take i)).length (rowsB (ofMsg tag (ps.take i))).flatten ∧ Ext w wr) (fun _ iv _ => ps.length - (intOf iv).toNat)
 case atStart => exact ⟨0, Nat.zero_le _, rfl, by rw [HM0.out]; exact (by have h := HO0.out; rw [HM0.out] at h; exact h), HX0.out⟩
 case round =>
  obtain ⟨i, hi, rfl, hw, hx⟩ := hrel
  have HX := Lib.hid hx
  have HML0 := Lib.hid (ofMsg_le tag ps i)
  obtain ⟨q, hq⟩ : ∃ q, q = ofMsg tag (ps.take i) := ⟨_, rfl⟩
  rw [← hq] at hw HML0
  have HW := Lib.hid hw
  have HQ := Lib.hid hq
  obtain ⟨A1, c1, rfl, _⟩ := own_form hw
  clear hw hx hq HO0 HX0
  by_cases hlt : i < ps.length
  · obtain ⟨p, hp⟩ : ∃ p, ps[i]? = some p := ⟨_, List.getElem?_eq_getElem hlt⟩
    obtain ⟨b0, off0, rfl, hb0, r0⟩ := str_row (HS.out.ext HX.out) hp
    have HMS := Lib.hid (show ofMsg tag (ps.take (i + 1)) = q ++ bytesL p by rw [HQ.out]; exact (ofMsg_succ (tag := tag) hp).symm)
    have HML := Lib.hid (show q.length + (bytesL p).length < 100000000 by
     have h2 := ofMsg_le tag ps (i + 1)
     rw [HMS.out, List.length_append] at h2
     omega)
    have hpL : p.length ≤ 100000000 := by
     have h1 := HML.out
     unfold bytesL at h1
     rw [List.length_append] at h1
     omega
    have hi1 : ¬ ((ps.length : Int) ≤ (i : Int)) := by omega
    have HBY := Lib.hid (refBytes_any p hpL wr)
    clear hp
    generalize bytesL p = y at HBY HML HMS
    go_wp2_with (first
     | (go_at_call 143; refine HBY.out.mono ?_; rintro e W2 ⟨A3, c3, rfl, ho3, hx3⟩; have HS3 := Lib.hid (own_sv_B ho3 rfl); have HO3 := Lib.hid (own_ext HW.out hx3); have HX3 := Lib.hid (HX.out.trans hx3); clear ho3 hx3)
     | (at_builtin; refine wpList_append_B rfl (.tmp 16) (.tmp 21) rfl w.heap.size _ q rfl HO3.out A3 c3 y.length y rfl rfl HS3.out (by have := HML.out; omega) HX3.out.size (q ++ y) rfl ?_; intro A4 c4 W4 ho4 hg4; have HO4 := Lib.hid ho4; have HX4 := Lib.hid (HX3.out.own HO3.out hg4 (Nat.le_refl _)); clear ho4 hg4))
    exact ⟨⟨i + 1, by omega, rfl, by (rw [HMS.out]; simpa only [List.length_append] using HO4.out), HX4.out⟩, by simp [intOf]; omega⟩
  · obtain rfl : i = ps.length := by omega
    have HE := Lib.hid (show ofMsg tag ps = q by rw [HQ.out, List.take_length])
    go_wp2_with fail
    go_ret
    refine ⟨A1, c1, ?_, ?_, HX.out⟩
    · rw [HE.out]; rfl
    · rw [HE.out]; exact HW.out
set_option maxHeartbeats 8000000 in
set_option maxRecDepth 100000 in
theorem refOf_any (tag : Nat) (htag : tag < 256) (ps : List (List UInt8)) (A : Option Addr) (c : Nat) (hlen : (ofMsg tag ps).length < 100000000) (w : World) (hs : Sv w w.heap.size 1 A c (rowsS ps)) (hK : KIn w 3) :
    Calls Tryz.prog 74 #[.int .i64 (tag : Int), .slice A ps.length c] w fun e w' => e = .returned (.agg (bvs (digL tag ps)).toArray) ∧ Ext w w' := by
 have HK := Lib.hid hK; have HS := Lib.hid hs
 clear hK hs
 obtain ⟨W0, hW⟩ : ∃ W, W = w.alloc (.cells #[.int .u8 0, .int .u8 0, .int .u8 0, .int .u8 0, .int .u8 0, .int .u8 0, .int .u8 0, .int .u8 0, .int .u8 0, .int .u8 0, .int .u8 0, .int .u8 0, .int .u8 0, .int .u8 0, .int .u8 0, .int .u8 0] 45) := ⟨_, rfl⟩
 obtain ⟨z16, hz16⟩ : ∃ z, z = List.replicate 16 (Value.int .u8 0) := ⟨_, rfl⟩
 have HZ0 := Lib.hid (show Arr W0 w.heap.size 45 z16 by rw [hW, hz16]; exact Arr.new w _ (List.replicate 16 (.int .u8 0)))
 have HX0 := Lib.hid (show Ext w W0 by rw [hW]; exact (Ext.refl w).alloc _)
 have HIN := Lib.hid (Input_any tag htag ps A c hlen W0 (HS.out.ext HX0.out))
 obtain ⟨vs, hvs⟩ : ∃ vs, vs = bvs (digL tag ps) := ⟨_, rfl⟩
 have hvl : vs.length = 16 := by rw [hvs, bvs_len]; unfold digL; rw [List.length_take, sha_len]; rfl
 have HiV := Lib.hid (show (Tryz.prog.info? 45).map (·.size) = some vs.length by rw [hvl]; exact infoD)
 have HoV := Lib.hid (show vs.all (·.oneCell') = true by rw [hvs, List.all_eq_true]; exact bvs_one _)
 have HVL := Lib.hid (show z16.length = vs.length by rw [hvl, hz16]; rfl)
 have HVS := Lib.hid (show bvs ((sha (ofMsg tag ps)).take 16) = vs from hvs.symm)
 have HVD := Lib.hid hvs
 clear hvs hvl hz16
 have HLN := Lib.hid hlen
 generalize hq : ofMsg tag ps = q at HIN HVS HLN
 have hql := HLN.out
 clear hq
 go_enter Tryz.func74, Tryz.ntmps74
 go_upto_region 1 with fail
 rw [← hW]
 clear hW
 go_wp2_with (first
  | (go_at_call 113; refine HIN.out.mono ?_; rintro e W2 ⟨A3, c3, rfl, ho3, hx3⟩; have HS3 := Lib.hid (own_sv_B ho3 rfl); have HZ3 := Lib.hid (HZ0.out.ext hx3); have HX3 := Lib.hid (HX0.out.trans hx3); have HSH := Lib.hid (Short_any q HLN.out A3 c3 W2 HS3.out (HK.out.ext HX3.out)); rw [HVS.out] at HSH; clear ho3 hx3)
  | (go_at_call 112; refine HSH.out.mono ?_; rintro e W4 ⟨rfl, hx4⟩; have HZ4 := Lib.hid (HZ3.out.ext hx4); have HX4 := Lib.hid (HX3.out.trans hx4); clear hx4)
  | (refine wpList_store_blk 45 (.tmp 4) (.tmp 8) rfl rfl HZ4.out vs rfl rfl HiV.out HVL.out HoV.out ?_))
 refine bodyPost_ret (v := .agg vs.toArray) ?_ rfl ⟨by rw [HVD.out], HX4.out.setRow (Nat.le_refl _) _⟩
 exact results_cell_row Tryz.results74 _ _ _ _ _ _ _ rfl (HZ4.out.setRow vs) Tryz.underlying45 rfl HiV.out
end Go.Proofs.YtlinhgannajfpaaGreatDoor

/- wire.list, wire.Ints. -/
namespace Go.Proofs.YtlinhgannajfpaaGreatDoor
open Go Go.RowKit

set_option maxRecDepth 100000 in
set_option maxHeartbeats 4000000 in
theorem wlist_any (A : Option Addr) (c : Nat) (l : List Int) (w : World) (hs : Sv w w.heap.size 1 A c (rowsI l)) (hf : ∀ n, n ∈ l → fit64 n) (hl : l.length ≤ 1000000) :
    Calls Tryz.prog 105 #[.slice A l.length c, .func (.func 106) #[] #[]] w (RetB (encL l) w) := by
 have eg : ∀ args w, (callFunc 106 args).run Tryz.prog w = .ok (.enter 106 args) w := fun _ _ => by kernel_rfl
 have HS := Lib.hid hs; have HF := Lib.hid hf
 have HI0 := Lib.hid (wireInt_any ((l.length : Nat) : Int) ⟨by omega, by omega⟩ w)
 clear hs hf
 go_enter Tryz.func105, Tryz.ntmps105
 go_upto_region 3 with (go_at_call 106; refine HI0.out.mono ?_; rintro e W1 ⟨A1, c1, rfl, ho1, hx1⟩; have HO1 := Lib.hid (show W1.ownsRow w.heap.size 5 1 (.slice A1 (encI ((l.length : Nat) : Int)).length c1) (encP l 0).length (rowsB (encP l 0)).flatten by unfold encP; simpa using ho1); have HX1 := Lib.hid hx1; clear ho1 hx1)
 go_loopw [5, 13] (fun ov kv wr => ∃ k : Nat, kv = .int .i64 k ∧ k ≤ l.length ∧ wr.ownsRow w.heap.size 5 1 ov (encP l k).length (rowsB (encP l k)).flatten ∧ Ext w wr) (fun _ kv _ => l.length - (intOf kv).toNat)
 case atStart => exact ⟨0, rfl, Nat.zero_le _, HO1.out, HX1.out⟩
 case round =>
  obtain ⟨k, rfl, hk, ho, hx⟩ := hrel
  have HO := Lib.hid ho; have HX := Lib.hid hx
  obtain ⟨A2, c2, rfl, _⟩ := own_form ho
  have HLN := Lib.hid (encP_len HF.out hl)
  clear ho hx
  by_cases hlt : k < l.length
  · obtain ⟨x, hxk⟩ : ∃ x, l[k]? = some x := ⟨_, List.getElem?_eq_getElem hlt⟩
    obtain ⟨b, off, rfl, hbl, r0⟩ := int_row (HS.out.ext HX.out) hxk
    have hfx := HF.out x (List.mem_of_getElem? hxk)
    have HI := Lib.hid (wireInt_any x hfx wr)
    have HST := Lib.hid (encP_succ hxk)
    have hk1 : ¬ ((l.length : Int) ≤ (k : Int)) := by omega
    clear hxk
    generalize hep : encP l k = ep at HO HST
    have hepl : ep.length ≤ 10 + 10 * l.length := by rw [← hep]; exact HLN.out k
    clear hep
    have hxl := encI_len hfx
    clear hfx
    generalize encI x = ex at HI HST hxl
    go_wp2_with (first
     | (go_at_fn 106; refine HI.out.mono ?_; rintro e W2 ⟨A3, c3, rfl, ho3, hx3⟩; have HS3 := Lib.hid (own_sv_B ho3 rfl); have HO3 := Lib.hid (own_ext HO.out hx3); have HX3 := Lib.hid (HX.out.trans hx3); clear ho3 hx3)
     | (at_builtin; refine wpList_append_B rfl (.tmp 17) (.tmp 20) rfl w.heap.size _ ep rfl HO3.out A3 c3 ex.length ex rfl rfl HS3.out (by omega) HX3.out.size (ep ++ ex) rfl ?_; intro A4 c4 W4 ho4 hg4; have HO4 := Lib.hid ho4; have HX4 := Lib.hid (HX3.out.own HO3.out hg4 (Nat.le_refl _)); clear ho4 hg4))
    exact ⟨⟨k + 1, rfl, by omega, (by rw [HST.out]; have h := HO4.out; simpa only [List.length_append] using h), HX4.out⟩, by simp [intOf]; omega⟩
  · obtain rfl : k = l.length := by omega
    have HE := Lib.hid (encP_all l)
    rw [HE.out] at HO
    rw [HE.out]
    go_wp2_with fail
    go_ret
    exact ⟨A2, c2, rfl, HO.out, HX.out⟩
set_option maxRecDepth 100000 in
theorem wireInts_any (A : Option Addr) (c : Nat) (l : List Int) (w : World) (hs : Sv w w.heap.size 1 A c (rowsI l)) (hf : ∀ n, n ∈ l → fit64 n) (hl : l.length ≤ 1000000) :
    Calls Tryz.prog 71 #[.slice A l.length c] w (RetB (encL l) w) := by
 have HL := Lib.hid (wlist_any A c l w hs hf hl)
 clear hs
 go_enter Tryz.func71, Tryz.ntmps71
 go_wp2_with (go_at_call 105; refine HL.out.mono ?_; rintro e W2 ⟨A3, c3, rfl, ho3, hx3⟩)
 go_ret
 exact ⟨A3, c3, rfl, ho3, hx3⟩
end Go.Proofs.YtlinhgannajfpaaGreatDoor

/- wire.GetInt. -/
namespace Go.Proofs.YtlinhgannajfpaaGreatDoor
open Go Go.RowKit

def eno : Nat → Int
 | 1 => 5
 | _ => 6
def getRes : Nat ⊕ (Int × Nat) → Value
 | .inl e => .tuple #[.int .i64 0, .int .i64 0, .int .i64 (eno e)]
 | .inr (n, u) => .tuple #[.int .i64 n, .int .i64 (u : Int), .int .i64 0]
def resV : Nat ⊕ (Nat × Nat) → Nat ⊕ (Int × Nat)
 | .inl e => .inl e
 | .inr (z, u) => .inr (unzz z, u)
theorem getI_eq (b : List UInt8) : getI b = resV (getV 0 0 b) := by unfold getI resV; cases getV 0 0 b <;> rfl
theorem and127 : ∀ m : Fin 256, bits BinOp.and IntKind.u8 (m.val : Int) 127 = ((m.val % 128 : Nat) : Int) := by decide +kernel
theorem and127_u8 (c : UInt8) : bits BinOp.and IntKind.u8 (c.toNat : Int) 127 = ((c.toNat % 128 : Nat) : Int) := and127 ⟨c.toNat, c.toNat_lt⟩
theorem or_digit {z d k : Nat} (hz : z < 128 ^ k) (hzb : z < 18446744073709551616) (hs : d * 128 ^ k < 18446744073709551616) : bits BinOp.or IntKind.u64 (z : Int) ((d * 128 ^ k : Nat) : Int) = ((z + d * 128 ^ k : Nat) : Int) := by
 rw [u64_or_nat z (d * 128 ^ k) hzb hs]
 have e : 128 ^ k = 2 ^ (7 * k) := by rw [show (128 : Nat) = 2 ^ 7 from rfl, ← Nat.pow_mul]
 have h := nat_join (7 * k) (d * 128 ^ k) z (by rw [e]; exact Nat.mul_mod_left _ _) (by rw [← e]; exact hz)
 rw [Nat.or_comm, h]
 congr 1
 omega
theorem unzz_prog {z : Nat} (h : z < 18446744073709551616) : bits BinOp.xor IntKind.i64 (((z / 2 : Nat) : Int)) (-((z % 2 : Nat) : Int)) = unzz z := by
 unfold unzz
 split
 · rename_i h0
   rw [h0]
   show bits BinOp.xor IntKind.i64 (((z / 2 : Nat) : Int)) 0 = _
   show IntKind.i64.wrap ((BitVec.ofInt 64 ((z / 2 : Nat) : Int) ^^^ BitVec.ofInt 64 0).toNat : Int) = _
   rw [show BitVec.ofInt 64 0 = 0#64 from rfl, BitVec.xor_zero, ofInt_u64 _ (by omega), IntKind.wrap_i64]
   omega
 · rename_i h0
   have h1 : z % 2 = 1 := by omega
   rw [h1]
   show IntKind.i64.wrap ((BitVec.ofInt 64 ((z / 2 : Nat) : Int) ^^^ BitVec.ofInt 64 (-1)).toNat : Int) = _
   rw [show BitVec.ofInt 64 (-1) = BitVec.allOnes 64 from rfl, BitVec.xor_allOnes, BitVec.toNat_not, ofInt_u64 _ (by omega), IntKind.wrap_i64]
   omega
theorem getV_cons (k z : Nat) (c : UInt8) (r : List UInt8) : getV k z (c :: r) = if (k = 9 ∧ 1 < c.toNat) ∨ (0 < k ∧ c.toNat = 0) then .inl 2 else if c.toNat < 128 then .inr (z + c.toNat * 128 ^ k, k + 1) else getV (k + 1) (z + (c.toNat % 128) * 128 ^ k) r := rfl
theorem getV_nil (k z : Nat) : getV k z [] = .inl 1 := rfl
set_option maxRecDepth 100000 in
set_option maxHeartbeats 8000000 in
theorem wireGetInt_any (b : List UInt8) (hl : b.length ≤ 1000000000) (A : Option Addr) (c : Nat) (w : World) (hs : Sv w w.heap.size 1 A c (rowsB b)) :
    Calls Tryz.prog 115 #[.slice A b.length c] w fun e w' => e = .returned (getRes (getI b)) ∧ Ext w w' := by
 have hm := mixed
 have HS := Lib.hid hs
 clear hs
 rw [getI_eq]
 go_enter Tryz.func115, Tryz.ntmps115
 go_wp2
 go_step3
 go_wp2
 go_step3
 go_wp2
 go_loopw [5, 6, 11] (fun zv uv kv wr => ∃ (k z : Nat), kv = .int .i64 (k : Int) ∧ zv = .int .u64 (z : Int) ∧ uv = .int .i64 0 ∧ k ≤ b.length ∧ k ≤ 9 ∧ z < 128 ^ k ∧ getV 0 0 b = getV k z (b.drop k) ∧ wr = w) (fun _ _ kv _ => b.length - (intOf kv).toNat)
 case atStart => exact ⟨0, 0, rfl, rfl, rfl, by omega, by omega, by simp, rfl, rfl⟩
 case round =>
  obtain ⟨k, z, rfl, rfl, rfl, hk, hk9, hz, hg, rfl⟩ := hrel
  have HZ := Lib.hid hz; have HG := Lib.hid hg
  have hz64 : z < 9223372036854775808 := Nat.lt_of_lt_of_le hz (Nat.le_trans (Nat.pow_le_pow_right (by decide) hk9) (by decide))
  clear hz hg
  by_cases hlt : k < b.length
  · obtain ⟨x, hx⟩ : ∃ x, b[k]? = some x := ⟨_, List.getElem?_eq_getElem hlt⟩
    obtain ⟨g, off, rfl, hgl, r0⟩ := byte_row HS.out hx
    have hdr : b.drop k = x :: b.drop (k + 1) := by
     rw [List.drop_eq_getElem_cons hlt]
     rw [List.getElem?_eq_getElem hlt] at hx
     injection hx with hx
     rw [hx]
    have hgv := HG.out
    rw [hdr] at hgv
    have HST := Lib.hid (hgv.trans (getV_cons k z x (b.drop (k + 1))))
    clear hgv hx hdr
    have hxl := x.toNat_lt
    have ha := and127_u8 x
    have hk1 : ¬ ((b.length : Int) ≤ (k : Int)) := by omega
    by_cases hA : k = 9 ∧ 1 < x.toNat
    · obtain ⟨rfl, h1⟩ := hA
      have hst := HST.out
      rw [if_pos (.inl ⟨rfl, h1⟩)] at hst
      have HR := Lib.hid (show resV (getV 0 0 b) = .inl 2 by rw [hst]; rfl)
      clear hst
      go_wp2
      (try rw [Exit.noGoto_ret])
      go_ret3
      exact ⟨by rw [HR.out]; rfl, Ext.refl _⟩
    · by_cases hB : 0 < k ∧ x.toNat = 0
      · have hst := HST.out
        rw [if_pos (.inr hB)] at hst
        have HR := Lib.hid (show resV (getV 0 0 b) = .inl 2 by rw [hst]; rfl)
        have hk0 := hB.1
        have hx0 : (x.toNat : Int) = 0 := by omega
        clear hst hA hB
        rcases (show k < 9 ∨ k = 9 by omega) with h9 | rfl
        · have e9 : ((k : Int) == 9) = false := beq_eq_false_iff_ne.2 (by omega)
          go_wp2
          (try rw [Exit.noGoto_ret])
          go_ret3
          exact ⟨by rw [HR.out]; rfl, Ext.refl _⟩
        · go_wp2
          (try rw [Exit.noGoto_ret])
          go_ret3
          exact ⟨by rw [HR.out]; rfl, Ext.refl _⟩
      · have hno : ¬ ((k = 9 ∧ 1 < x.toNat) ∨ (0 < k ∧ x.toNat = 0)) := fun h => h.elim hA hB
        have hst := HST.out
        rw [if_neg hno] at hst
        have h9 : k = 9 → x.toNat ≤ 1 := fun h => by omega
        have hs : (x.toNat % 128) * 128 ^ k < 18446744073709551616 := by
         rcases Nat.lt_or_ge k 9 with h | h
         · have h1 : (128 : Nat) ^ k ≤ 128 ^ 8 := Nat.pow_le_pow_right (by decide) (by omega)
           have h2 : (x.toNat % 128) * 128 ^ k ≤ 127 * 128 ^ 8 := Nat.mul_le_mul (by omega) h1
           exact Nat.lt_of_le_of_lt h2 (by decide)
         · obtain rfl : k = 9 := by omega
           have := h9 rfl
           have h2 : (x.toNat % 128) * 128 ^ 9 ≤ 1 * 128 ^ 9 := Nat.mul_le_mul (by omega) (Nat.le_refl _)
           exact Nat.lt_of_le_of_lt h2 (by decide)
        have HOR := Lib.hid (or_digit (d := x.toNat % 128) HZ.out (by omega) hs)
        have hpw : (128 : Nat) ^ k = 2 ^ (7 * k) := by rw [show (128 : Nat) = 2 ^ 7 from rfl, ← Nat.pow_mul]
        have HS2 := Lib.hid hs; have HPW := Lib.hid hpw
        clear hs hpw hno
        obtain ⟨z2, hz2⟩ : ∃ z2, z2 = z + (x.toNat % 128) * 128 ^ k := ⟨_, rfl⟩
        have hV : bits BinOp.or IntKind.u64 (z : Int) (IntKind.u64.wrap ((x.toNat : Int) % (128 : Int) * (2 : Int) ^ (7 * k))) = (z2 : Int) := by
         have h1 := HOR.out
         have h2 : IntKind.u64.wrap ((x.toNat : Int) % (128 : Int) * (2 : Int) ^ (7 * k)) = (((x.toNat % 128) * 128 ^ k : Nat) : Int) := by
          rw [HPW.out, IntKind.wrap_u64]
          have h3 := HS2.out
          rw [HPW.out] at h3
          have e : ((x.toNat : Int) % (128 : Int) * (2 : Int) ^ (7 * k)) = (((x.toNat % 128) * 2 ^ (7 * k) : Nat) : Int) := by simp [Int.natCast_emod, Int.natCast_pow, Int.natCast_mul]
          rw [e]
          omega
         rw [h2, h1, hz2]
        have hz2b : z2 < 18446744073709551616 := by
         rw [hz2]
         have h3 := HS2.out
         have h4 := HZ.out
         have e : (x.toNat % 128) * 128 ^ k + z < 18446744073709551616 := by
          rcases Nat.lt_or_ge k 9 with h | h
          · have h1 : (128 : Nat) ^ k ≤ 128 ^ 8 := Nat.pow_le_pow_right (by decide) (by omega)
            have h2 : (x.toNat % 128) * 128 ^ k ≤ 127 * 128 ^ 8 := Nat.mul_le_mul (by omega) h1
            have p8 : (128 : Nat) ^ 8 = 72057594037927936 := by decide
            rw [p8] at h1 h2
            omega
          · obtain rfl : k = 9 := by omega
            have := h9 rfl
            have h2 : (x.toNat % 128) * 128 ^ 9 ≤ 1 * 128 ^ 9 := Nat.mul_le_mul (by omega) (Nat.le_refl _)
            have p9 : (128 : Nat) ^ 9 = 9223372036854775808 := by decide
            rw [p9] at h2 h3 h4 ⊢
            clear h3
            omega
         omega
        have HZ2 := Lib.hid hz2
        by_cases hC : x.toNat < 128
        · rw [if_pos hC] at hst
          have HR := Lib.hid (show resV (getV 0 0 b) = .inr (unzz z2, k + 1) by rw [hst, hz2, Nat.mod_eq_of_lt hC]; rfl)
          have hun : bits BinOp.xor IntKind.i64 ((z2 : Int) / (2 : Int)) (-((z2 : Int) % (2 : Int))) = unzz z2 := by
           have h := unzz_prog hz2b
           rw [show ((z2 / 2 : Nat) : Int) = (z2 : Int) / (2 : Int) by omega, show ((z2 % 2 : Nat) : Int) = (z2 : Int) % (2 : Int) by omega] at h
           exact h
          have ha1 : bits BinOp.and IntKind.u64 (z2 : Int) 1 = (z2 : Int) % (2 : Int) := by
           have h := u64_and_nat z2 1 hz2b (by decide)
           rw [nat_mask1] at h
           rw [show ((z2 % 2 : Nat) : Int) = (z2 : Int) % (2 : Int) by omega] at h
           exact h
          clear hst hz2
          rcases (show k < 1 ∨ (0 < k ∧ k < 9) ∨ 9 ≤ k by omega) with hk0 | ⟨hk0, hk9'⟩ | hk9'
          · have e9 : ((k : Int) == 9) = false := beq_eq_false_iff_ne.2 (by omega)
            go_upto_region 10 with fail
            have eu : (((k : Int) + 1) == 0) = false := beq_eq_false_iff_ne.2 (by omega)
            go_wp2
            (try rw [Exit.noGoto_ret])
            go_ret3
            exact ⟨by rw [HR.out]; rfl, Ext.refl _⟩
          · have e9 : ((k : Int) == 9) = false := beq_eq_false_iff_ne.2 (by omega)
            have ex : ((x.toNat : Int) == 0) = false := beq_eq_false_iff_ne.2 (by omega)
            go_upto_region 10 with fail
            have eu : (((k : Int) + 1) == 0) = false := beq_eq_false_iff_ne.2 (by omega)
            go_wp2
            (try rw [Exit.noGoto_ret])
            go_ret3
            exact ⟨by rw [HR.out]; rfl, Ext.refl _⟩
          · have e9 : ((k : Int) == 9) = true := beq_iff_eq.2 (by omega)
            have hx1 : x.toNat ≤ 1 := h9 (by omega)
            have ex : ((x.toNat : Int) == 0) = false := beq_eq_false_iff_ne.2 (by omega)
            go_upto_region 10 with fail
            have eu : (((k : Int) + 1) == 0) = false := beq_eq_false_iff_ne.2 (by omega)
            go_wp2
            (try rw [Exit.noGoto_ret])
            go_ret3
            exact ⟨by rw [HR.out]; rfl, Ext.refl _⟩
        · rw [if_neg hC] at hst
          rw [← hz2] at hst
          have HR := Lib.hid hst
          have HB := Lib.hid (show z2 < 128 ^ (k + 1) by
           rw [hz2, Nat.pow_succ]
           have h1 := HZ.out
           have h2 : (x.toNat % 128) * 128 ^ k ≤ 127 * 128 ^ k := Nat.mul_le_mul (by omega) (Nat.le_refl _)
           omega)
          have hk8 : k < 9 := by omega
          clear hz2 hst
          rcases (show k < 1 ∨ 0 < k by omega) with hk0 | hk0
          · have e9 : ((k : Int) == 9) = false := beq_eq_false_iff_ne.2 (by omega)
            go_wp2_with fail
            exact ⟨⟨k + 1, z2, rfl, rfl, rfl, by omega, by omega, HB.out, HR.out, by trivial⟩, by simp [intOf]; omega⟩
          · have e9 : ((k : Int) == 9) = false := beq_eq_false_iff_ne.2 (by omega)
            have ex : ((x.toNat : Int) == 0) = false := beq_eq_false_iff_ne.2 (by omega)
            go_wp2_with fail
            exact ⟨⟨k + 1, z2, rfl, rfl, rfl, by omega, by omega, HB.out, HR.out, by trivial⟩, by simp [intOf]; omega⟩
  · obtain rfl : k = b.length := by omega
    have HR := Lib.hid (show resV (getV 0 0 b) = .inl 1 by rw [HG.out, List.drop_length, getV_nil]; rfl)
    go_wp2
    (try rw [Exit.noGoto_ret])
    go_ret3
    exact ⟨by rw [HR.out]; rfl, Ext.refl _⟩
end Go.Proofs.YtlinhgannajfpaaGreatDoor
