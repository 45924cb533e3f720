/- YtelhefjikdoihaaDoorFl · YtelhefjikdoihaaDoorSo · DERIVED: THE SHELF's CONTRACTS AT THIS DUMP, IN PLAIN WORDS (tools/lay-plain.mjs out of 'YtelhefjikdoihaaDoorSh.lean', which tools/lay-shelf.mjs wrote): THE SAME DECLARATIONS UNDER THE SAME NAMES: 'import', 'namespace', 'open', 'def', 'theorem' AND NOTHING ELSE: no command of the shelf's: FOR A HAND-IN. Each laying: the table of numbers ('.._ren') and one theorem, a field a fact of the dump's own or the kernel's comparison; each contract: ONE APPLICATION. · YtelhefjikdoihaaDoorFm · YtelhefjikdoihaaDoorFn · YtelhefjikdoihaaDoorFo · YtelhefjikdoihaaDoorFr · YtelhefjikdoihaaDoorFs · YtelhefjikdoihaaDoorFt · YtelhefjikdoihaaDoorFu · YtelhefjikdoihaaDoorFv · YtelhefjikdoihaaDoorFw -/
import Derived.Shelf.SlSortCmp.NoneTotal
import Derived.Shelf.SlSortCmp.QuietGrown
import Derived.Shelf.SlicesQ.Contains
import Derived.Shelf.SlicesE.Clone
import Derived.Test.YtelhefjikdoihaaDoorProg
import Derived.Test.YtelhefjikdoihaaDoorZa3
/- Contract of flood. -/
namespace Go.Proofs.YtelhefjikdoihaaDoor
open Go Go.RowKit

theorem FSx.begin {B : Nat} {K : Bs} {fv : Value} {a : Pt} {c : Int} {w : World} (ok : K.Ok B) (af : Arr w K.f 61 [fv]) (aa : Arr w K.at_ 23 [.int .i64 a.x, .int .i64 a.y, .int .i64 a.z]) (ab : Arr w K.bd 31 [.slice none 0 0]) (ac : Arr w K.cell 3 [.int .i64 c])
    (aw : Arr w K.wv 84 [.pointer (some ⟨K.walk, 0, none⟩)]) (as_ : Arr w K.walk 86 [.map (some K.map), .slice none 0 0]) (am : MapF ptV w K.map (fun q => if q = a then some (.bool true) else none)) (hb : K.base ≤ w.heap.size) :
    FSx B K [] fv a c ⟨[a], [], []⟩ (.slice none 0 0) (.slice none 0 0) w :=
  ⟨ok, af, aa, ab, ac, aw, as_, am.cong fun q => by simp, World.ownsRow_nil _ _ _ _, World.ownsRow_nil _ _ _ _, fun b hb => by simp [Value.ownBlock] at hb, hb, fun b t vs hm => by simp at hm⟩
theorem own_low_mono {w : World} {base base' n k : Nat} {e : TypeId} {v : Value} {zs : List Value} (hb : base' ≤ base) (h : w.ownsRow base e k v n zs) : w.ownsRow base' e k v n zs := by
  refine ⟨h.1, ?_⟩
  rcases h.2 with h1 | ⟨g, cap, cur, h1, h2, h3⟩
  · exact .inl h1
  · exact .inr ⟨g, cap, cur, h1, Nat.le_trans hb h2, h3⟩
/-- What a flood hands back. -/
def FloodP (F : Pt → Option Int) (a : Pt) (most : Int) (l bd : List Pt) (er : Int) (k : Nat) : Prop :=
  (F a = none ∧ l = [] ∧ bd = [] ∧ er = 9 ∧ k = 1) ∨ ∃ c, F a = some c ∧
    ((∃ (r : List Pt) (n : Nat), r.Nodup ∧ (∀ q, q ∈ r → Reach F c a q) ∧ most < r.length ∧ l = [] ∧ bd = [] ∧ er = 2 ∧ k ≤ 1 + 6 * n ∧ (n = 0 ∨ (n : Int) ≤ most)) ∨
     (l.Nodup ∧ bd.Nodup ∧ (∀ q, q ∈ l ↔ Reach F c a q) ∧ (∀ q, q ∈ bd ↔ (∃ v, F q = some v ∧ v ≠ c) ∧ ∃ p, Reach F c a p ∧ adj p q) ∧ (l.length : Int) ≤ most ∧ er = 0 ∧ k ≤ 1 + 6 * l.length))
def RetFl (F : Pt → Option Int) (a : Pt) (most : Int) (fbo : Option Nat) (Cnt : Nat → World → Prop) (w : World) (en : Ending) (w' : World) : Prop :=
  ∃ l bd er k v1 v2, FloodP F a most l bd er k ∧ en = .returned (.tuple #[v1, v2, .int .i64 er]) ∧ w'.ownsRow w.heap.size 23 3 v1 l.length (rowsP l).flatten ∧ w'.ownsRow w.heap.size 23 3 v2 bd.length (rowsP bd).flatten ∧
    (∀ b, v1.ownBlock = some b → v2.ownBlock ≠ some b) ∧ Cnt k w' ∧ w.grownBy w' fbo
section
variable {D : TypeId} {rv rv' : Value} {G : FuncId} {F : Pt → Option Int} {fbo : Option Nat} {Cnt : Nat → World → Prop} {w0 : World}
set_option maxRecDepth 100000 in
set_option maxHeartbeats 8000000 in
theorem flood_any (V : FieldV w0.heap.size D rv rv' G F fbo Cnt) (hst : StepsIn w0) (hgl : fbo ≠ some 0) (a : Pt) (most : Int) (N : Nat) (hN : N ≤ 80000) (hfin : ∀ l : List Pt, l.Nodup → (∀ q, q ∈ l → F q ≠ none) → l.length ≤ N)
    (hsm : ∀ q, F q ≠ none → Small q) (hc0 : Cnt 0 w0) :
    Calls Tryd.prog 32 #[.iface D rv, .agg #[.int .i64 a.x, .int .i64 a.y, .int .i64 a.z], .int .i64 most] w0 (RetFl F a most fbo Cnt w0) := by
  have hm := mixed
  have hG := near_old
  have hx0 : Ext w0 (((w0.alloc (.cells #[.iface D rv] 61)).alloc (.cells #[.int .i64 a.x, .int .i64 a.y, .int .i64 a.z] 23)).alloc (.cells #[.slice none 0 0] 31)) := (((Ext.refl w0).alloc _).alloc _).alloc _
  have A0 := ((Arr.new w0 61 [.iface D rv]).alloc (.cells #[.int .i64 a.x, .int .i64 a.y, .int .i64 a.z] 23)).alloc (.cells #[.slice none 0 0] 31)
  have A1 := (Arr.new (w0.alloc (.cells #[.iface D rv] 61)) 23 [.int .i64 a.x, .int .i64 a.y, .int .i64 a.z]).alloc (.cells #[.slice none 0 0] 31)
  have A2 := Arr.new ((w0.alloc (.cells #[.iface D rv] 61)).alloc (.cells #[.int .i64 a.x, .int .i64 a.y, .int .i64 a.z] 23)) 31 [.slice none 0 0]
  simp only [World.size_alloc_] at A1 A2
  have hc1 := V.keep 0 w0 _ hc0 hx0.below.block
  have hcall := V.call a 0 _ hx0.size (by omega) hc1
  have HV := Lib.hid V; have HX0 := Lib.hid hx0; have HA0 := Lib.hid A0; have HA1 := Lib.hid A1; have HA2 := Lib.hid A2; have HSM := Lib.hid hsm; have HFIN := Lib.hid hfin; have HST := Lib.hid hst
  have HME := Lib.hid V.meth; have HEN := Lib.hid V.enters
  clear V hx0 A0 A1 A2 hc0 hc1 hfin hsm hst
  cases hF : F a with
  | none =>
    rw [hF] at hcall
    have HC := Lib.hid hcall; have HF := Lib.hid hF
    clear hcall hF
    simp only [Option.isSome] at HC
    go_enter Tryd.func32, Tryd.ntmps32
    go_upto_region 1 with fail
    obtain ⟨W1, hW⟩ : ∃ W, W = ((w0.alloc (.cells #[.iface D rv] 61)).alloc (.cells #[.int .i64 a.x, .int .i64 a.y, .int .i64 a.z] 23)).alloc (.cells #[.slice none 0 0] 31) := ⟨_, rfl⟩
    rw [← hW] at HX0 HA0 HA1 HA2 HC
    rw [← hW]
    clear hW
    have f0 := HA0.out.cell 0
    simp only [List.getElem?_cons_zero] at f0
    have hme := HME.out
    have hen := HEN.out
    go_upto_region 2 with (first
      | (refine wpList_load_blk 23 (.tmp 4) rfl rfl HA1.out rfl _ Tryd.underlying23 rfl (by kernel_rfl) ?_)
      | (go_at_fn G; refine HC.out.mono ?_; rintro e W2 ⟨⟨u, rfl, hu⟩, hc2, hg2⟩))
    clear hu
    have hx3 : Ext W2 (W2.alloc (.cells #[.int .i64 u] 3)) := (Ext.refl _).alloc _
    have ne := HV.out.low
    have hg1 : w0.grownBy W2 fbo := grown_trans (HX0.out.by_ fbo) hg2
    have HA5 := (HA2.out.kept hg2 (fun e => by have := ne _ e; omega)).ext hx3
    have b0 := HA5.cell 0
    have fb := HA5.frozen 0
    simp only [List.getElem?_cons_zero] at b0
    have hc3 := HV.out.keep 1 W2 _ hc2 (fun b hb => hx3.below.block b (Nat.lt_of_lt_of_le hb hg1.size))
    have hg3 := grown_ext hg1 hx3
    obtain ⟨W3, hW⟩ : ∃ W, W = W2.alloc (.cells #[.int .i64 u] 3) := ⟨_, rfl⟩
    rw [← hW] at b0 fb hc3 hg3
    rw [← hW]
    have hset : Below w0.heap.size W3 (W3.setCell ⟨w0.heap.size + 1 + 1, 0, none⟩ (.slice none 0 0)) := (Below.refl _ _).setCell (by simp only; omega) _
    have HC9 := Lib.hid (HV.out.keep _ W3 _ hc3 hset.block)
    have HG9 := Lib.hid (grown_below hg3 hset)
    clear hW hx3 hc2 hg2 hg1 ne f0 hme hen HA5 hc3 hg3 hset
    go_wp2
    refine bodyPost_ret (v := .tuple #[.slice none 0 0, .slice none 0 0, .int .i64 9]) ?_ rfl ?_
    · simp (maxDischargeDepth := 9) only [results, Tryd.results32]
      first
        | (go_simp; done)
        | (go_simp; simp; done)
        | (simp (maxDischargeDepth := 9) [go_sem, *]; done)
        | (simp (maxDischargeDepth := 9) [go_sem, *]; simp)
    exact ⟨[], [], 9, 1, _, _, .inl ⟨HF.out, rfl, rfl, rfl, rfl⟩, rfl, World.ownsRow_nil _ _ _ _, World.ownsRow_nil _ _ _ _, fun b hb => by simp [Value.ownBlock] at hb, HC9.out, HG9.out⟩
  | some c =>
    rw [hF] at hcall
    have HC := Lib.hid hcall; have HF := Lib.hid hF
    clear hcall hF
    simp only [Option.isSome] at HC
    go_enter Tryd.func32, Tryd.ntmps32
    go_upto_region 1 with fail
    obtain ⟨W1, hW⟩ : ∃ W, W = ((w0.alloc (.cells #[.iface D rv] 61)).alloc (.cells #[.int .i64 a.x, .int .i64 a.y, .int .i64 a.z] 23)).alloc (.cells #[.slice none 0 0] 31) := ⟨_, rfl⟩
    rw [← hW] at HX0 HA0 HA1 HA2 HC
    rw [← hW]
    clear hW
    have f0 := HA0.out.cell 0
    simp only [List.getElem?_cons_zero] at f0
    have hme := HME.out
    have hen := HEN.out
    go_upto_region 2 with (first
      | (refine wpList_load_blk 23 (.tmp 4) rfl rfl HA1.out rfl _ Tryd.underlying23 rfl (by kernel_rfl) ?_)
      | (go_at_fn G; refine HC.out.mono ?_; rintro e W2 ⟨⟨u, rfl, hu⟩, hc2, hg2⟩; obtain rfl : c = u := (hu _ rfl).symm))
    have HX3 := Lib.hid (show Ext W2 (W2.alloc (.cells #[.int .i64 c] 3)) from (Ext.refl _).alloc _)
    have ne := HV.out.low
    have hg1 : w0.grownBy W2 fbo := grown_trans (HX0.out.by_ fbo) hg2
    have HA3 := Lib.hid ((HA0.out.kept hg2 (fun e => by have := ne _ e; omega)).ext HX3.out)
    have HA4 := Lib.hid ((HA1.out.kept hg2 (fun e => by have := ne _ e; omega)).ext HX3.out)
    have HA5 := Lib.hid ((HA2.out.kept hg2 (fun e => by have := ne _ e; omega)).ext HX3.out)
    have HA6 := Lib.hid (Arr.new W2 3 [.int .i64 c])
    have HC3 := Lib.hid (HV.out.keep 1 W2 _ hc2 (fun b hb => HX3.out.below.block b (Nat.lt_of_lt_of_le hb hg1.size)))
    have HG3 := Lib.hid (grown_ext hg1 HX3.out)
    have hl2 : w0.heap.size + 3 ≤ W2.heap.size := by have h1 := HA2.out.lt; have h2 := hg2.size; omega
    obtain ⟨cb, hcb⟩ : ∃ cb, cb = W2.heap.size := ⟨_, rfl⟩
    have hs3 : (W2.alloc (.cells #[.int .i64 c] 3)).heap.size = cb + 1 := by rw [hcb]; simp
    obtain ⟨W3, hW⟩ : ∃ W, W = W2.alloc (.cells #[.int .i64 c] 3) := ⟨_, rfl⟩
    rw [← hW] at HA3 HA4 HA5 HA6 HC3 HG3 hs3
    rw [← hW, ← hcb]
    rw [← hcb] at HA6 hl2
    clear hW hcb HX3 hc2 hg2 hg1 ne f0 hme hen HC HA0 HA1 HA2 HX0
    have hmm := @run_makeMap Tryd.prog
    go_upto_region 4 with fail
    have HA7 := Lib.hid (HA4.out.alloc (.map #[] 0))
    have HMD := Lib.hid (show MapF ptV (W3.alloc (.map #[] 0)) (cb + 1) (fun _ => none) from hs3 ▸ MapF.made (enc := ptV) W3)
    go_wp2_with (first
      | (refine wpList_load_blk 23 (.tmp 4) rfl rfl HA7.out rfl _ Tryd.underlying23 rfl (by kernel_rfl) ?_)
      | (refine wpList_insert_F rfl (.tmp 21) (.tmp 22) (.const (.bool true)) rfl HMD.out ktPt Tryd.underlying70 a (.bool true) rfl rfl rfl ?_))
    intro W5 hm5 hg5
    have hg35 : Below W3.heap.size W3 W5 := ((Ext.refl W3).alloc (.map #[] 0)).below.trans (below_grown hg5 (by omega) (by simp))
    have hl5 : cb + 2 ≤ W5.heap.size := by have := hg5.size; simp at this; omega
    have hx35 : Ext W3 W5 := ⟨hg35⟩
    have HA13 := Lib.hid (HA3.out.ext hx35); have HA14 := Lib.hid (HA4.out.ext hx35); have HA15 := Lib.hid (HA5.out.ext hx35); have HA16 := Lib.hid (HA6.out.ext hx35)
    have HC5 := Lib.hid (HV.out.keep 1 W3 _ HC3.out (fun b hb => hx35.below.block b (Nat.lt_of_lt_of_le hb HG3.out.size)))
    have HG5 := Lib.hid (grown_ext HG3.out hx35)
    have HM5 := Lib.hid hm5
    clear HMD hm5 hg5 hg35 hx35 HA3 HA4 HA5 HA6 HA7 HC3 HG3 hmm
    go_upto_region 5 with fail
    obtain ⟨wb, hwb⟩ : ∃ wb, wb = W5.heap.size := ⟨_, rfl⟩
    have hok : Bs.Ok ⟨w0.heap.size, w0.heap.size + 1, w0.heap.size + 1 + 1, cb, wb + 1, wb, cb + 1, wb + 2⟩ w0.heap.size := by
      refine ⟨?_, ?_⟩
      · simp; omega
      · intro b hb
        simp at hb
        show w0.heap.size ≤ b ∧ b < wb + 2
        omega
    have hx7 : Ext W5 ((W5.alloc (.cells #[.map (some (cb + 1)), .slice none 0 0] 86)).alloc (.cells #[.pointer (some ⟨W5.heap.size, 0, none⟩)] 84)) := ((Ext.refl _).alloc _).alloc _
    have A8 := (Arr.new W5 86 [.map (some (cb + 1)), .slice none 0 0]).alloc (.cells #[.pointer (some ⟨W5.heap.size, 0, none⟩)] 84)
    have A9 := Arr.new (W5.alloc (.cells #[.map (some (cb + 1)), .slice none 0 0] 86)) 84 [.pointer (some ⟨W5.heap.size, 0, none⟩)]
    simp only [World.size_alloc_] at A9
    have hs7 : ((W5.alloc (.cells #[.map (some (cb + 1)), .slice none 0 0] 86)).alloc (.cells #[.pointer (some ⟨W5.heap.size, 0, none⟩)] 84)).heap.size = W5.heap.size + 2 := by simp
    have fs0 := FSx.begin (B := w0.heap.size) (K := ⟨w0.heap.size, w0.heap.size + 1, w0.heap.size + 1 + 1, cb, wb + 1, wb, cb + 1, wb + 2⟩) (fv := .iface D rv) (a := a) (c := c) hok (HA13.out.ext hx7) (HA14.out.ext hx7) (HA15.out.ext hx7) (HA16.out.ext hx7) (hwb ▸ A9) (hwb ▸ A8) ((HM5.out.ext hx7).cong fun q => rfl) (by show wb + 2 ≤ _; omega)
    have hsz5 := HG5.out.size
    have HW7 := Lib.hid (show FW w0.heap.size ⟨w0.heap.size, w0.heap.size + 1, w0.heap.size + 1 + 1, cb, wb + 1, wb, cb + 1, wb + 2⟩ [] (.iface D rv) a c fbo Cnt w0 ⟨[a], [], []⟩ 1 _ from
      ⟨⟨_, _, fs0⟩, HV.out.keep 1 W5 _ HC5.out (fun b hb => hx7.below.block b (Nat.lt_of_lt_of_le hb hsz5)), grown_ext HG5.out hx7⟩)
    obtain ⟨W7, hW⟩ : ∃ W, W = ((W5.alloc (.cells #[.map (some (cb + 1)), .slice none 0 0] 86)).alloc (.cells #[.pointer (some ⟨W5.heap.size, 0, none⟩)] 84)) := ⟨_, rfl⟩
    rw [← hW] at HW7
    rw [← hW, ← hwb]
    clear hW hwb hok hx7 A8 A9 hs7 fs0 HA13 HA14 HA15 HA16 HC5 HG5 HM5 hsz5 hl5 hl2 hs3 hu
    obtain ⟨K, hK⟩ : ∃ K : Bs, K = ⟨w0.heap.size, w0.heap.size + 1, w0.heap.size + 1 + 1, cb, wb + 1, wb, cb + 1, wb + 2⟩ := ⟨_, rfl⟩
    rw [← hK] at HW7
    have kf : w0.heap.size = K.f := by rw [hK]
    have ka : w0.heap.size + 1 = K.at_ := by rw [hK]
    have kb : w0.heap.size + 1 + 1 = K.bd := by rw [hK]
    have kc : cb = K.cell := by rw [hK]
    have kv : wb + 1 = K.wv := by rw [hK]
    have kw : wb = K.walk := by rw [hK]
    have kba : w0.heap.size ≤ K.base := by
      obtain ⟨_, _, h⟩ := HW7.out.st
      have := h.ok.low.1
      omega
    rw [kb, ka, kf, kc, kv, kw]
    clear ka kb kf kc kv kw hK
    have HP7 := Lib.hid (push_any HV.out a W7.heap.size _ (HW7.out.ext HV.out ((Ext.refl W7).alloc (.cells ([.int .i64 a.x, .int .i64 a.y, .int .i64 a.z] : List Value).toArray 23))) (Arr.new W7 23 [.int .i64 a.x, .int .i64 a.y, .int .i64 a.z]) (by simp))
    obtain ⟨lv7, bv7, hs7⟩ := HW7.out.st
    have wv0 := hs7.aw.cell 0
    simp only [List.getElem?_cons_zero] at wv0
    have HAA := Lib.hid hs7.aa
    clear hs7
    go_upto_region 6 with (first
      | (refine wpList_load_blk 23 (.tmp 4) rfl rfl HAA.out rfl _ Tryd.underlying23 rfl (by kernel_rfl) ?_)
      | (refine wpList_buildRow rfl 31 23 27 rfl 3 (by decide) (by decide) ([.int .i64 a.x, .int .i64 a.y, .int .i64 a.z]) rfl rfl Tryd.underlying31 (by kernel_rfl) (by kernel_rfl) ?_)
      | (go_at_call 49; refine HP7.out.mono ?_; rintro e W8 ⟨rfl, h8⟩))
    have HW8 := Lib.hid h8
    clear h8 wv0 HAA HP7 HW7
    go_wp2_with fail
    go_loopw [12] (fun i wr => ∃ (n : Nat) (s : Fs), i = .int .i64 n ∧ FInv F c a n (1 + 6 * n) s ∧ (n = 0 ∨ (n : Int) ≤ most) ∧ FW w0.heap.size K [] (.iface D rv) a c fbo Cnt w0 s s.seen.length wr) (fun i _ => N + 1 - (intOf i).toNat)
    case atStart => exact ⟨0, ⟨[a], [a], []⟩, rfl, FInv.start HF.out, .inl rfl, HW8.out⟩
    case round =>
      obtain ⟨n, s, rfl, hinv, hnm, hw⟩ := hrel
      have hln : s.l.length ≤ N := HFIN.out _ hinv.ln (fun q hq => by rw [(hinv.ls q hq).2.val HF.out]; simp)
      have hbn : s.bd.length ≤ N := HFIN.out _ hinv.bn (fun q hq => by obtain ⟨_, ⟨v, hv, _⟩, _⟩ := hinv.bs q hq; rw [hv]; simp)
      have hnl := hinv.nl
      have hsz := hinv.sz
      have HI := Lib.hid hinv; have HW := Lib.hid hw
      obtain ⟨lv, bv, hs⟩ := hw.st
      obtain ⟨LA, Lc, rfl⟩ := own_len hs.rl
      have wv0 := hs.aw.cell 0
      have wk1 := hs.as_.cell 1
      have lwv := hs.aw.lt
      have lwk := hs.as_.lt
      have ab0 := hs.ab.cell 0
      have fb0 := hs.ab.frozen 0
      have lab := hs.ab.lt
      obtain ⟨BA, Bc, rfl⟩ := own_len hs.rb
      simp only [List.getElem?_cons_zero, List.getElem?_cons_succ] at wv0 wk1 ab0
      have HS := Lib.hid hs
      clear hinv hw hs
      by_cases hlt : n < s.l.length
      · by_cases hmo : most < s.l.length
        · have hset : Below w0.heap.size wr (wr.setCell ⟨K.bd, 0, none⟩ (.slice none 0 0)) := (Below.refl _ _).setCell HS.out.ok.low.2.2.1.1 _
          have HC9 := Lib.hid (HV.out.keep _ wr _ HW.out.cnt hset.block)
          have HG9 := Lib.hid (grown_below HW.out.grown hset)
          clear hset
          go_wp2
          refine bodyPost_ret (v := .tuple #[.slice none 0 0, .slice none 0 0, .int .i64 2]) ?_ rfl ?_
          · simp (maxDischargeDepth := 9) only [results, Tryd.results32]
            first
              | (go_simp; done)
              | (go_simp; simp; done)
              | (simp (maxDischargeDepth := 9) [go_sem, *]; done)
              | (simp (maxDischargeDepth := 9) [go_sem, *]; simp)
          exact ⟨[], [], 2, s.seen.length, _, _, .inr ⟨c, HF.out, .inl ⟨s.l, n, HI.out.ln, fun q hq => (HI.out.ls q hq).2, hmo, rfl, rfl, rfl, hsz, hnm⟩⟩, rfl, World.ownsRow_nil _ _ _ _, World.ownsRow_nil _ _ _ _, fun b hb => by simp [Value.ownBlock] at hb, HC9.out, HG9.out⟩
        · obtain ⟨p, hp⟩ : ∃ p, s.l[n]? = some p := ⟨_, List.getElem?_eq_getElem hlt⟩
          obtain ⟨b, off, rfl, hbl, r0, r1, r2⟩ := pt_row (Sv.of_own HS.out.rl (rowsP_rwk s.l) (rowsP_length s.l)) hp
          have hpr := (HI.out.ls p (List.mem_of_getElem? hp)).2
          have HNX := Lib.hid (HI.out.next hp (HSM.out p (by rw [hpr.val HF.out]; simp)))
          clear hp hpr
          go_upto_region 11 with fail
          refine wp_region_near_tail 9 (by assumption) (by kernel_rfl) ?_
          simp only [List.take_succ_cons, List.take_zero, List.drop_succ_cons, List.drop_zero]
          repeat (go_big_quiet_step (fail))
          refine wpQuiet_nil ?_
          intro w1 hw1
          have hy := Ext.of_near hw1
          clear hw1
          have HW10 := Lib.hid (HW.out.ext HV.out hy)
          have HAR := Lib.hid (around_any HV.out HST.out hgl p w1 HW10.out (by omega) (by omega) (by omega))
          have hfl := foldS_len F c p s 6 (Nat.le_refl _)
          go_wp2_with (go_at_call 50; refine HAR.out.mono ?_; rintro e W11 ⟨rfl, h11⟩)
          have HW11 := Lib.hid h11
          clear h11
          go_roundw
          case rel => exact ⟨n + 1, foldS F c p s 6, by go_num, by have h := HNX.out; rwa [show 1 + 6 * n + 6 = 1 + 6 * (n + 1) by omega] at h, .inr (by omega), HW11.out⟩
          case measure => simp [intOf]; omega
      · obtain rfl : n = s.l.length := by omega
        go_upto_region 12 with fail
        refine wp_region_near_tail 6 (by assumption) (by kernel_rfl) ?_
        simp only [List.take_succ_cons, List.take_zero, List.drop_succ_cons, List.drop_zero]
        repeat (go_big_quiet_step (fail))
        refine wpQuiet_nil ?_
        intro w1 hw1
        have hy := Ext.of_near hw1
        clear hw1
        have HW10 := Lib.hid (HW.out.ext HV.out hy)
        obtain ⟨lv', bv', hs10⟩ := HW10.out.st
        have hsx := HS.out.ext hy
        have wk2 := hsx.as_.cell 1
        have ab2 := hsx.ab.cell 0
        have fb2 := hsx.ab.frozen 0
        have lab2 := hsx.ab.lt
        have hset : Below w0.heap.size w1 (w1.setCell ⟨K.bd, 0, none⟩ (.slice BA s.bd.length Bc)) := (Below.refl _ _).setCell hsx.ok.low.2.2.1.1 _
        have HC9 := Lib.hid (HV.out.keep _ w1 _ HW10.out.cnt hset.block)
        have HG9 := Lib.hid (grown_below HW10.out.grown hset)
        have HSX := Lib.hid hsx
        clear hset hs10 hsx wv0 wk1 ab0
        simp only [List.getElem?_cons_zero, List.getElem?_cons_succ] at wk2 ab2
        go_wp2
        have hd := HI.out.done
        have HO1 := Lib.hid (own_low_mono kba (own_keep HSX.out.rl (grown_set (g := K.bd) (grown_refl w1 _) 0 (.slice BA s.bd.length Bc)) (fun b hb hv => by have h1 := own_low HSX.out.rl b hv; have h2 := HSX.out.ok.low.2.2.1.2; injection hb with hb; omega)))
        have HO2 := Lib.hid (own_low_mono kba (own_keep HSX.out.rb (grown_set (g := K.bd) (grown_refl w1 _) 0 (.slice BA s.bd.length Bc)) (fun b hb hv => by have h1 := own_low HSX.out.rb b hv; have h2 := HSX.out.ok.low.2.2.1.2; injection hb with hb; omega)))
        have HD := Lib.hid hd
        clear hd
        have hlm : (s.l.length : Int) ≤ most := by
          rcases hnm with h | h
          · have := List.length_pos_of_mem HI.out.am
            omega
          · exact h
        refine bodyPost_ret (v := .tuple #[.slice LA s.l.length Lc, .slice BA s.bd.length Bc, .int .i64 0]) ?_ rfl ?_
        · simp (maxDischargeDepth := 9) only [results, Tryd.results32]
          first
            | (go_simp; done)
            | (go_simp; simp; done)
            | (simp (maxDischargeDepth := 9) [go_sem, *]; done)
            | (simp (maxDischargeDepth := 9) [go_sem, *]; simp)
        exact ⟨s.l, s.bd, 0, s.seen.length, _, _, .inr ⟨c, HF.out, .inr ⟨HI.out.ln, HI.out.bn, HD.out.1, HD.out.2, hlm, rfl, hsz⟩⟩, rfl, HO1.out, HO2.out, HSX.out.apart, HC9.out, HG9.out⟩
end
end Go.Proofs.YtelhefjikdoihaaDoor

/- slices.SortFunc at structs, over a row of one's own: it then holds what core's mergeSort gives. For every program. -/
namespace Go.Proofs.YtelhefjikdoihaaDoor
open Go Go.RowKit Go.Sort

section
variable {α : Type} [Inhabited α] {enc : α → List Value} {k : Nat}
theorem flatK_list (hk : ∀ x, (enc x).length = k) (d : List α) : (flatK enc k d.toArray).toList = (d.map enc).flatten := by
  have hl : ∀ x, x ∈ d.map enc → x.length = k := fun x hx => by obtain ⟨y, _, rfl⟩ := List.mem_map.1 hx; exact hk y
  apply List.ext_getElem?
  intro t
  by_cases ht : t < d.length * k
  · have k0 : 0 < k := by rcases Nat.eq_zero_or_pos k with h | h; · subst h; simp at ht
                          · exact h
    have hi : t / k < d.length := Nat.div_lt_of_lt_mul (by rw [Nat.mul_comm]; exact ht)
    have hj : t % k < k := Nat.mod_lt _ k0
    have h1 := flatten_at (d.map enc) hl (t / k) (enc d[t / k]) (by simp [hi]) (t % k) ((enc d[t / k])[t % k]'(by rw [hk]; exact hj)) (List.getElem?_eq_getElem _)
    rw [Nat.mul_comm, Nat.div_add_mod] at h1
    rw [h1]
    have h2 : (flatK enc k d.toArray)[t]! = (enc d.toArray[t / k]!)[t % k]! := get_flatK _ _ _ t (by simpa using ht)
    rw [getElem!_pos _ t (by simpa using ht)] at h2
    rw [Array.getElem?_toList, Array.getElem?_eq_getElem (by simpa using ht), h2]
    congr 1
    rw [getElem!_pos d.toArray _ (by simpa using hi)]
    simp only [List.getElem_toArray]
    rw [getElem!_pos _ _ (by rw [hk]; exact hj)]
  · rw [List.getElem?_eq_none (by simp; omega), List.getElem?_eq_none (by rw [flatten_length _ hl]; simp; omega)]
theorem take_put (cur F : Array Value) (h : F.size ≤ cur.size) : (putCells id 0 F cur).toList.take F.size = F.toList := by
  apply List.ext_getElem?
  intro t
  rw [List.getElem?_take]
  by_cases ht : t < F.size
  · rw [if_pos ht]
    have : (putCells id 0 F cur)[t]? = some F[t] := by
      unfold putCells
      rw [Array.getElem?_mapIdx, Array.getElem?_eq_getElem (by omega)]
      simp [ht]
    simpa [ht] using this
  · rw [if_neg ht, List.getElem?_eq_none (by simpa using Nat.le_of_not_lt ht)]
theorem holds_of_own {w : World} {base n c g : Nat} {e : TypeId} {d : List α} (hk : ∀ x, (enc x).length = k) (h : w.ownsRow base e k (.slice (some ⟨g, 0, none⟩) n c) n (d.map enc).flatten) (hn : d.length = n) : HoldsK enc k w g 0 d.toArray := by
  obtain ⟨cur, hb, hg, hc, hm, hl, ht⟩ := own_cur h
  have hl2 : ∀ x, x ∈ d.map enc → x.length = k := fun x hx => by obtain ⟨y, _, rfl⟩ := List.mem_map.1 hx; exact hk y
  intro j hj
  have hj2 : j < n * k := by rw [size_flatK] at hj; simpa [hn] using hj
  refine ⟨?_, frozen_of_row w g _ cur.toArray e hg⟩
  rw [Nat.zero_add, cell_of_row w g _ cur.toArray e (0, 0) hg]
  have h1 : (flatK enc k d.toArray).toList[j]? = some (flatK enc k d.toArray)[j] := by simp
  rw [flatK_list hk, ← ht, List.getElem?_take, if_pos hj2] at h1
  rw [getElem!_pos _ j hj]
  simpa using h1
theorem own_put {w : World} {base n c g m : Nat} {e : TypeId} {d d' : List α} {os : Array Obj} (hk : ∀ x, (enc x).length = k) (h : w.ownsRow base e k (.slice (some ⟨g, 0, none⟩) n c) n (d.map enc).flatten) (_hn : d.length = n) (hd : d'.length = n) :
    (sortWorldK enc k w g 0 m d'.toArray os).ownsRow base e k (.slice (some ⟨g, 0, none⟩) n c) n (d'.map enc).flatten ∧ w.grownBy (sortWorldK enc k w g 0 m d'.toArray os) (some g) := by
  obtain ⟨cur, hb, hg, hc, hm, hl, ht⟩ := own_cur h
  have hgl := (Array.getElem?_eq_some_iff.1 hg).1
  have hnk : n * k ≤ cur.length := by rw [hl]; exact Nat.mul_le_mul_right _ hc
  have hbl : (sortWorldK enc k w g 0 m d'.toArray os).heap[g]? = some (.cells (putCells id 0 (flatK enc k d'.toArray) cur.toArray) e (0, 0)) := by
    unfold sortWorldK grow putRowK putRow mapBlock Go.Sort.ahead
    simp only [Array.getElem?_append, Array.size_modify, hgl, if_true, Array.getElem?_modify]
    rw [hg]
    rfl
  have hsz : (putCells id 0 (flatK enc k d'.toArray) cur.toArray).size = cur.length := by simp [putCells]
  refine ⟨own_of_cur (cur := (putCells id 0 (flatK enc k d'.toArray) cur.toArray).toList) hb (by simpa using hbl) hc hm (by rw [Array.length_toList, hsz, hl]) ?_, ?_⟩
  · have h1 := take_put cur.toArray (flatK enc k d'.toArray) (by simp [hd]; exact hnk)
    rw [size_flatK] at h1
    simp only [List.size_toArray, hd] at h1
    rw [h1, flatK_list hk]
  · refine ⟨rfl, rfl, rfl, ?_, fun i hi hne => ?_⟩
    · simp [sortWorldK, grow, putRowK, putRow, mapBlock, Go.Sort.ahead]
    · unfold sortWorldK grow putRowK putRow mapBlock Go.Sort.ahead
      simp only [Array.getElem?_append, Array.size_modify, hi, if_true, Array.getElem?_modify]
      rw [if_neg (by rintro rfl; exact hne rfl)]
end
/-- The class of the worlds that come of w by draws and new blocks. -/
def nearG (w : World) (n : Nat) (os : Array Obj) : World := grow (w.drewN n) os
theorem nearG_old (w : World) (n : Nat) (os : Array Obj) (b o : Nat) (h : b < w.heap.size) : (nearG w n os).cell? ⟨b, o, none⟩ = w.cell? ⟨b, o, none⟩ := by
  simp only [World.cell?, nearG, grow, World.drewN, Array.getElem?_append, h, if_true]
theorem nearG_drew (w : World) : w.drew = nearG w 1 #[] := by unfold nearG; rw [grow_empty]; rfl
theorem wp_region_nearG_tail {P : Program} {id : Nat} {Q : Exit → Act → World → Prop} {a : Act} {w : World} {l : List Oper} (n : Nat) (hm : P.follows .mixedOrders = true) (hB : Region.lexTailB .any l.toArray n = true)
    (h : wpQuiet P l.toArray (fun w' => ∃ p : Near, w' = nearG w p.n p.os) (fun a' => ∀ w', (∃ p : Near, w' = nearG w p.n p.os) → wpList P l.toArray Q (l.drop n) a' w') (l.take n) a) : (Code.region id l.toArray true).wp P Q a w :=
  wp_region_head n hm hB ⟨⟨1, #[]⟩, nearG_drew w⟩ h
theorem nearG_same {P : Program} {f : FuncId} {args : Array Value} {w : World} {n : Nat} {os : Array Obj} {v : Value}
    (h : Calls P f args (nearG w n os) fun e w' => e = .returned v ∧ nearG w n os = w') : Calls P f args (nearG w n os) fun e w'' => e = .returned v ∧ ∃ p : Near, w'' = nearG w p.n p.os :=
  h.mono fun _ _ ⟨he, hx⟩ => ⟨he, ⟨⟨n, os⟩, hx.symm⟩⟩
theorem nearG_grow (w : World) (n : Nat) (os os' : Array Obj) : grow (nearG w n os) os' = grow (w.drewN n) (os ++ os') := by unfold nearG; rw [grow_grow]
theorem nearG_alloc (w : World) (n : Nat) (os : Array Obj) (o : Obj) : ∃ q os', (nearG w n os).alloc o = grow (w.drewN q) os' := ⟨n, os ++ #[o], by rw [alloc_eq_grow, nearG_grow]⟩
theorem grown_alloc2 (w : World) (a b : Obj) (q : Nat) (os : Array Obj) : ∃ q' os', grow (((w.alloc a).alloc b).drewN q) os = grow (w.drewN q') os' := by
  refine ⟨q, #[a] ++ #[b] ++ os, ?_⟩
  rw [alloc_eq_grow, alloc_eq_grow, grow_grow]
  show grow (grow (w.drewN q) _) os = _
  rw [grow_grow]
end Go.Proofs.YtelhefjikdoihaaDoor

namespace Go.Proofs.YtelhefjikdoihaaDoor
open Go.Shelf
def Tryd.sortPt_ren : Go.Shelf.Ren := ⟨fun | 6 => 33 | 15 => 53 | 14 => 52 | 28 => 76 | 29 => 77 | 20 => 68 | 21 => 69 | 22 => 70 | 23 => 71 | 24 => 72 | 25 => 73 | 26 => 74 | 27 => 75 | 46 => 85 | 47 => 86 | 48 => 87 | 49 => 88 | 50 => 89 | 57 => 90 | n => n, fun | 22 => 31 | 24 => 23 | 25 => 65 | 3 => 3 | 39 => 92 | 0 => 0 | 53 => 110 | 55 => 112 | 4 => 4 | 46 => 104 | 45 => 103 | 50 => 82 | 5 => 5 | 9 => 9 | 66 => 117 | 70 => 121 | 76 => 123 | 77 => 124 | n => n, fun | n => n⟩
theorem Tryd.sortPt : Go.Proofs.SlLaysF0.n6 Tryd.prog Tryd.sortPt_ren := {
  mixed := by kernel_rfl
  f6 := ⟨Tryd.f33.name, by decide, Tryd.func33.trans (congrArg some (by kernel_rfl))⟩
  f14 := ⟨Tryd.f52.name, by decide, Tryd.func52.trans (congrArg some (by kernel_rfl))⟩
  f15 := Tryd.func53.trans (congrArg some (by kernel_rfl))
  f20 := ⟨Tryd.f68.name, by decide, Tryd.func68.trans (congrArg some (by kernel_rfl))⟩
  f21 := ⟨Tryd.f69.name, by decide, Tryd.func69.trans (congrArg some (by kernel_rfl))⟩
  f22 := ⟨Tryd.f70.name, by decide, Tryd.func70.trans (congrArg some (by kernel_rfl))⟩
  f23 := ⟨Tryd.f71.name, by decide, Tryd.func71.trans (congrArg some (by kernel_rfl))⟩
  f24 := ⟨Tryd.f72.name, by decide, Tryd.func72.trans (congrArg some (by kernel_rfl))⟩
  f25 := ⟨Tryd.f73.name, by decide, Tryd.func73.trans (congrArg some (by kernel_rfl))⟩
  f26 := ⟨Tryd.f74.name, by decide, Tryd.func74.trans (congrArg some (by kernel_rfl))⟩
  f27 := ⟨Tryd.f75.name, by decide, Tryd.func75.trans (congrArg some (by kernel_rfl))⟩
  f28 := Tryd.func76.trans (congrArg some (by kernel_rfl))
  f29 := Tryd.func77.trans (congrArg some (by kernel_rfl))
  f46 := ⟨Tryd.f85.name, by decide, Tryd.func85.trans (congrArg some (by kernel_rfl))⟩
  f47 := Tryd.func86.trans (congrArg some (by kernel_rfl))
  f48 := Tryd.func87.trans (congrArg some (by kernel_rfl))
  f49 := ⟨Tryd.f88.name, by decide, Tryd.func88.trans (congrArg some (by kernel_rfl))⟩
  f50 := ⟨Tryd.f89.name, by decide, Tryd.func89.trans (congrArg some (by kernel_rfl))⟩
  f57 := ⟨Tryd.f90.name, by decide, Tryd.func90.trans (congrArg some (by kernel_rfl))⟩
  t0 := Tryd.underlying0
  a0 := Tryd.isAgg0
  z0 := Tryd.sizeOf0
  v0 := Tryd.zeroValue0
  t3 := Tryd.underlying3
  a3 := Tryd.isAgg3
  z3 := Tryd.sizeOf3
  v3 := Tryd.zeroValue3
  t4 := Tryd.underlying4
  a4 := Tryd.isAgg4
  z4 := Tryd.sizeOf4
  v4 := Tryd.zeroValue4
  t5 := Tryd.underlying5
  a5 := Tryd.isAgg5
  z5 := Tryd.sizeOf5
  v5 := Tryd.zeroValue5
  t9 := Tryd.underlying9
  a9 := Tryd.isAgg9
  z9 := Tryd.sizeOf9
  v9 := Tryd.zeroValue9
  t22 := Tryd.underlying31
  a22 := Tryd.isAgg31
  z22 := Tryd.sizeOf31
  v22 := Tryd.zeroValue31
  t25 := Tryd.underlying65
  a25 := Tryd.isAgg65
  z25 := Tryd.sizeOf65
  v25 := Tryd.zeroValue65
  t39 := Tryd.underlying92
  a39 := Tryd.isAgg92
  z39 := Tryd.sizeOf92
  v39 := Tryd.zeroValue92
  t45 := Tryd.underlying103
  a45 := Tryd.isAgg103
  z45 := Tryd.sizeOf103
  v45 := Tryd.zeroValue103
  t46 := Tryd.underlying104
  a46 := Tryd.isAgg104
  z46 := Tryd.sizeOf104
  v46 := Tryd.zeroValue104
  t50 := Tryd.underlying82
  a50 := Tryd.isAgg82
  z50 := Tryd.sizeOf82
  v50 := Tryd.zeroValue82
  t53 := Tryd.underlying110
  a53 := Tryd.isAgg110
  z53 := Tryd.sizeOf110
  v53 := Tryd.zeroValue110
  t55 := Tryd.underlying112
  a55 := Tryd.isAgg112
  z55 := Tryd.sizeOf112
  v55 := Tryd.zeroValue112
  t66 := Tryd.underlying117
  a66 := Tryd.isAgg117
  z66 := Tryd.sizeOf117
  v66 := Tryd.zeroValue117
  t70 := Tryd.underlying121
  a70 := Tryd.isAgg121
  z70 := Tryd.sizeOf121
  v70 := Tryd.zeroValue121
  t76 := Tryd.underlying123
  a76 := Tryd.isAgg123
  z76 := Tryd.sizeOf123
  v76 := Tryd.zeroValue123
  t77 := Tryd.underlying124
  a77 := Tryd.isAgg124
  z77 := Tryd.sizeOf124
  v77 := Tryd.zeroValue124 }
def Tryd.containsPt_ren : Go.Shelf.Ren := ⟨fun | 7 => 36 | 6 => 56 | n => n, fun | 22 => 31 | 24 => 23 | 4 => 4 | 0 => 0 | 3 => 3 | n => n, fun | n => n⟩
theorem Tryd.containsPt : Go.Proofs.SlLaysQ.n7 Tryd.prog Tryd.containsPt_ren := {
  mixed := by kernel_rfl
  f6 := ⟨Tryd.f56.name, by decide, Tryd.func56.trans (congrArg some (by kernel_rfl))⟩
  f7 := ⟨Tryd.f36.name, by decide, Tryd.func36.trans (congrArg some (by kernel_rfl))⟩
  t0 := Tryd.underlying0
  a0 := Tryd.isAgg0
  z0 := Tryd.sizeOf0
  v0 := Tryd.zeroValue0
  t3 := Tryd.underlying3
  a3 := Tryd.isAgg3
  z3 := Tryd.sizeOf3
  v3 := Tryd.zeroValue3
  t4 := Tryd.underlying4
  a4 := Tryd.isAgg4
  z4 := Tryd.sizeOf4
  v4 := Tryd.zeroValue4
  t22 := Tryd.underlying31
  a22 := Tryd.isAgg31
  z22 := Tryd.sizeOf31
  v22 := Tryd.zeroValue31 }
def Tryd.clonePt_ren : Go.Shelf.Ren := ⟨fun | 41 => 40 | n => n, fun | 22 => 31 | 23 => 23 | 4 => 4 | n => n, fun | n => n⟩
theorem Tryd.clonePt : Go.Proofs.SlLaysE0.n41 Tryd.prog Tryd.clonePt_ren := {
  mixed := by kernel_rfl
  f41 := ⟨Tryd.f40.name, by decide, Tryd.func40.trans (congrArg some (by kernel_rfl))⟩
  t4 := Tryd.underlying4
  a4 := Tryd.isAgg4
  z4 := Tryd.sizeOf4
  v4 := Tryd.zeroValue4
  t22 := Tryd.underlying31
  a22 := Tryd.isAgg31
  z22 := Tryd.sizeOf31
  v22 := Tryd.zeroValue31 }
end Go.Proofs.YtelhefjikdoihaaDoor

/- Contracts of fill's compare and of its sort. -/
namespace Go.Proofs.YtelhefjikdoihaaDoor
open Go Go.RowKit Go.Sort

instance : Inhabited Pt := ⟨⟨0, 0, 0⟩⟩
set_option maxHeartbeats 400000 in
theorem Or_three (a b c : Int) (g : Nat) (w : World) (h0 : w.cell? ⟨g, 0, none⟩ = some (.int .i64 a)) (h1 : w.cell? ⟨g, 1, none⟩ = some (.int .i64 b)) (h2 : w.cell? ⟨g, 2, none⟩ = some (.int .i64 c)) :
    Calls Tryd.prog 54 #[.slice (some ⟨g, 0, none⟩) 3 3] w fun e w' => e = .returned (.int .i64 (orI a (orI b c))) ∧ w = w' := by
  go_enter Tryd.func54, Tryd.ntmps54
  go_wp2
  go_loop [8] (fun i => ∃ k : Nat, k ≤ 3 ∧ i = .int .i64 k ∧ (0 < k → a = 0) ∧ (1 < k → b = 0) ∧ (2 < k → c = 0)) (fun i => 3 - (intOf i).toNat)
  case atStart => exact ⟨0, by omega, rfl, by omega, by omega, by omega⟩
  case round =>
    obtain ⟨k, hk, rfl, g0, g1, g2⟩ := hrel
    obtain rfl | rfl | rfl | rfl : k = 0 ∨ k = 1 ∨ k = 2 ∨ k = 3 := by omega
    · by_cases ha : a = 0
      · subst ha
        go_wp2
        go_round
        case rel => exact ⟨1, by omega, rfl, fun _ => trivial, by omega, by omega⟩
        case measure => simp [intOf]
      · have hb : (a != 0) = true := by simpa using ha
        go_wp2
        go_ret
        exact ⟨ret_int (by unfold orI; rw [if_neg ha]), rfl⟩
    · obtain rfl := g0 (by omega)
      by_cases ha : b = 0
      · subst ha
        go_wp2
        go_round
        case rel => exact ⟨2, by omega, rfl, fun _ => trivial, fun _ => trivial, by omega⟩
        case measure => simp [intOf]
      · have hb : (b != 0) = true := by simpa using ha
        go_wp2
        go_ret
        exact ⟨ret_int (by unfold orI; simp [ha]), rfl⟩
    · obtain rfl := g0 (by omega)
      obtain rfl := g1 (by omega)
      by_cases ha : c = 0
      · subst ha
        go_wp2
        go_round
        case rel => exact ⟨3, by omega, rfl, fun _ => trivial, fun _ => trivial, fun _ => trivial⟩
        case measure => simp [intOf]
      · have hb : (c != 0) = true := by simpa using ha
        go_wp2
        go_ret
        exact ⟨ret_int (by unfold orI; simp), rfl⟩
    · go_wp2
      go_ret
      exact ⟨ret_int (by have h0 := g0 (by omega); have h1 := g1 (by omega); have h2 := g2 (by omega); subst h0 h1 h2; rfl), rfl⟩
def cmpP (x y : Pt) : Int := orI (cmpI x.z y.z) (orI (cmpI x.y y.y) (cmpI x.x y.x))
set_option maxHeartbeats 1000000 in
theorem compareP_any (x y : Pt) (w : World) :
    Calls Tryd.prog 34 #[.agg #[.int .i64 x.x, .int .i64 x.y, .int .i64 x.z], .agg #[.int .i64 y.x, .int .i64 y.y, .int .i64 y.z]] w fun e w' => e = .returned (.int .i64 (cmpP x y)) ∧ ∃ q os, w' = grow (w.drewN q) os := by
  have hm := mixed
  have hG := nearG_old
  go_enter Tryd.func34, Tryd.ntmps34
  go_wp2
  refine wp_region_nearG_tail 15 (by assumption) (by kernel_rfl) ?_
  simp only [List.take_succ_cons, List.take_zero, List.drop_succ_cons, List.drop_zero]
  repeat (go_big_quiet_step ((go_at_call 55; exact nearG_same (Compare_any _ _ _))))
  refine wpQuiet_nil ?_
  intro w1 hw1
  obtain ⟨⟨n, os⟩, hw1⟩ := hw1
  have HW1 := Lib.hid hw1
  clear hw1
  go_wp2_with (go_at_call 54; refine (Or_three (cmpI x.z y.z) (cmpI x.y y.y) (cmpI x.x y.x) _ _ (by simp [go_sem]) (by simp [go_sem]) (by simp [go_sem])).mono ?_; rintro e w' ⟨rfl, rfl⟩)
  go_ret
  refine ⟨rfl, ?_⟩
  rw [HW1.out]
  obtain ⟨q, os', e⟩ := nearG_alloc ((w.alloc (.cells #[.int .i64 x.x, .int .i64 x.y, .int .i64 x.z] 23)).alloc (.cells #[.int .i64 y.x, .int .i64 y.y, .int .i64 y.z] 23)) n os (.cells #[.int .i64 (cmpI x.z y.z), .int .i64 (cmpI x.y y.y), .int .i64 (cmpI x.x y.x)] 3)
  obtain ⟨q2, os2, e2⟩ := grown_alloc2 w (.cells #[.int .i64 x.x, .int .i64 x.y, .int .i64 x.z] 23) (.cells #[.int .i64 y.x, .int .i64 y.y, .int .i64 y.z] 23) q os'
  exact ⟨q2, os2, e.trans e2⟩
theorem cmpP_lt (x y : Pt) : ltOf cmpP x y = befP x y := by
  unfold ltOf
  rw [Bool.eq_iff_iff, decide_eq_true_eq, befP_iff]
  unfold cmpP orI cmpI
  constructor
  · intro h
    repeat' split at h
    all_goals omega
  · intro h
    repeat' split
    all_goals omega
theorem swoP : SWO (ltOf cmpP) where
  irrefl x := by rw [cmpP_lt, befP_irr]
  trans x y z h k := by rw [cmpP_lt] at *; exact befP_trans h k
  ntrans x y z h k := by
    rw [cmpP_lt] at *
    rw [Bool.eq_false_iff] at *
    intro g
    rw [ne_eq, befP_iff] at *
    omega
def sortL (l : List Pt) : List Pt := l.mergeSort fun x y => !befP y x
theorem sortL_length (l : List Pt) : (sortL l).length = l.length := List.length_mergeSort ..
theorem sortL_perm (l : List Pt) : (sortL l).Perm l := List.mergeSort_perm ..
theorem sortL_mem (l : List Pt) (q : Pt) : q ∈ sortL l ↔ q ∈ l := (sortL_perm l).mem_iff
theorem sortL_le (l : List Pt) : (sortL l).Pairwise fun x y => befP y x = false := by
  have h := List.pairwise_mergeSort (le := fun x y => !befP y x) (fun a b c h k => by
    simp only [Bool.not_eq_true', Bool.eq_false_iff] at *
    intro g
    rw [ne_eq, befP_iff] at *
    omega) (fun a b => by
    cases h : befP b a
    · simp
    · simp [befP_asymm h]) l
  exact h.imp fun h => by simpa using h
theorem sortL_sort {l : List Pt} (h : l.Nodup) : SortP (sortL l) := by
  have hn : (sortL l).Nodup := (sortL_perm l).nodup_iff.2 h
  unfold SortP
  refine (sortL_le l).imp₂ ?_ hn
  intro x y h k
  exact befP_total h (fun e => k e.symm)
set_option maxHeartbeats 1000000 in
theorem SortPt_any (l : List Pt) (v : Value) (base : Nat) (w : World) (h : w.ownsRow base 23 3 v l.length (rowsP l).flatten) (hb : l.length ≤ 100000) :
    Calls Tryd.prog 33 #[v, .func (.func 34) #[] #[]] w fun e w' => e = .returned (.tuple #[]) ∧ w'.ownsRow base 23 3 v l.length (rowsP (sortL l)).flatten ∧ w.grownBy w' v.ownBlock := by
  rcases h.2 with ⟨rfl, h0⟩ | ⟨g, cap, cur, rfl, hg, hgg, _⟩
  · have hl : l = [] := List.eq_nil_of_length_eq_zero h0
    subst hl
    have hcon := AnyF.slices_SortFunc_none { Tryd.sortPt with } none 0 (.func (.func 34) #[] #[]) w
    exact hcon.mono fun e w' ⟨he, hw⟩ => ⟨he, by subst hw; simpa [sortL] using h, by subst hw; exact grown_refl _ _⟩
  · have eg : ∀ args w, (callFunc 34 args).run Tryd.prog w = .ok (.enter 34 args) w := fun _ _ => by kernel_rfl
    have hcmp : CmpLays Tryd.prog 34 #[] Pt.cells 3 cmpP g 0 l.toArray.size w := fun m os dk hs x y => compareP_any x y _
    have hsz : l.toArray.size < 4611686018427387904 := by simp; omega
    have hcon := AnyQ.slices_SortFunc_total Tryd.sortPt 3 Tryd.isAgg23 Tryd.sizeOf23 Pt.cells (fun _ => rfl) (fun x u hu => by simp [Pt.cells] at hu; rcases hu with rfl | rfl | rfl <;> rfl) cmpP swoP 34 #[] g 0 cap l.toArray w eg hcmp (holds_of_own (enc := Pt.cells) (fun _ => rfl) h rfl) ((Array.getElem?_eq_some_iff.1 hgg).1) hsz (fun x y h1 h2 => by
      rw [cmpP_lt] at h1 h2
      apply Classical.byContradiction
      intro hne
      rw [befP_total h1 hne] at h2
      cases h2)
    refine hcon.mono fun e w' ⟨he, n, os, hw⟩ => ?_
    have hsl : (l.toArray.toList.mergeSort fun x y => !(ltOf cmpP) y x) = sortL l := by
      unfold sortL
      simp only [cmpP_lt]
    rw [hsl] at hw
    obtain ⟨r1, r2⟩ := own_put (enc := Pt.cells) (m := n) (os := os) (d' := sortL l) (fun _ => rfl) h rfl (sortL_length l)
    rw [hw]
    exact ⟨he, r1, r2⟩
end Go.Proofs.YtelhefjikdoihaaDoor

/- Contracts of fill.Flood, Joined, Border. -/
namespace Go.Proofs.YtelhefjikdoihaaDoor
open Go Go.RowKit

theorem FieldV.mono {B B' : Nat} {D : TypeId} {rv rv' : Value} {G : FuncId} {F : Pt → Option Int} {fbo : Option Nat} {Cnt : Nat → World → Prop} (V : FieldV B D rv rv' G F fbo Cnt) (hb : B ≤ B') : FieldV B' D rv rv' G F fbo Cnt :=
  ⟨V.meth, V.enters, fun k hk => Nat.lt_of_lt_of_le (V.low k hk) hb, fun n w w' hc hh => V.keep n w w' hc (fun b h => hh b (Nat.lt_of_lt_of_le h hb)), fun q n w h1 h2 h3 => V.call q n w (Nat.le_trans hb h1) h2 h3⟩
theorem FloodP.out {F : Pt → Option Int} {a : Pt} {most er : Int} {l bd : List Pt} {k : Nat} (h : FloodP F a most l bd er k) : FloodOut F a most (sortL l) er ∧ BorderOut F a most (sortL bd) er ∧ ((k : Int) ≤ 1 + 6 * max most 0) := by
  rcases h with ⟨h1, rfl, rfl, rfl, rfl⟩ | ⟨c, h1, ⟨r, n, h2, h3, h4, rfl, rfl, rfl, h5, h6⟩ | ⟨h2, h3, h4, h5, h6, rfl, h7⟩⟩
  · exact ⟨.inl ⟨h1, by simp [sortL], rfl⟩, .inl ⟨h1, by simp [sortL], rfl⟩, by omega⟩
  · exact ⟨.inr ⟨c, h1, .inl ⟨⟨r, h2, h3, h4⟩, by simp [sortL], rfl⟩⟩, .inr ⟨c, h1, .inl ⟨⟨r, h2, h3, h4⟩, by simp [sortL], rfl⟩⟩, by omega⟩
  · have hr : IsReg F c a (sortL l) := ⟨sortL_sort h2, fun q => (sortL_mem l q).trans (h4 q)⟩
    have hl : ((sortL l).length : Int) ≤ most := by rw [sortL_length]; exact h6
    exact ⟨.inr ⟨c, h1, .inr ⟨hr, hl, rfl⟩⟩, .inr ⟨c, h1, .inr ⟨⟨_, hr, hl⟩, ⟨sortL_sort h3, fun q => (sortL_mem bd q).trans (h5 q)⟩, rfl⟩⟩, by omega⟩
theorem FloodP.small {F : Pt → Option Int} {a : Pt} {most er : Int} {l bd : List Pt} {k N : Nat} (h : FloodP F a most l bd er k) (hfin : ∀ l : List Pt, l.Nodup → (∀ q, q ∈ l → F q ≠ none) → l.length ≤ N) : l.length ≤ N ∧ bd.length ≤ N := by
  rcases h with ⟨h1, rfl, rfl, rfl, rfl⟩ | ⟨c, h1, ⟨r, n, h2, h3, h4, rfl, rfl, rfl, h5, h6⟩ | ⟨h2, h3, h4, h5, h6, rfl, h7⟩⟩
  · simp
  · simp
  · exact ⟨hfin l h2 (fun q hq => by rw [((h4 q).1 hq).val h1]; simp), hfin bd h3 (fun q hq => by obtain ⟨v, hv, _⟩ := ((h5 q).1 hq).1; rw [hv]; simp)⟩
/-- It hands back a row of points of its own and a code; the field has been asked k times. -/
def RetQ (P : List Pt → Int → Prop) (most : Int) (fbo : Option Nat) (Cnt : Nat → World → Prop) (w : World) (en : Ending) (w' : World) : Prop :=
  ∃ (l : List Pt) (er : Int) (k : Nat) (v : Value), P l er ∧ ((k : Int) ≤ 1 + 6 * max most 0) ∧ en = .returned (.tuple #[v, .int .i64 er]) ∧ w'.ownsRow w.heap.size 23 3 v l.length (rowsP l).flatten ∧ Cnt k w' ∧ w.grownBy w' fbo
section
variable {D : TypeId} {rv rv' : Value} {G : FuncId} {F : Pt → Option Int} {fbo : Option Nat} {Cnt : Nat → World → Prop} {w : World}
theorem sorted_world {base n : Nat} {e : TypeId} {v : Value} {zs : List Value} {k : Nat} {w0 w1 w2 : World} (ho : w1.ownsRow base e k v n zs) (hb : w0.heap.size ≤ base) (hg : w0.grownBy w1 fbo) (hg2 : w1.grownBy w2 v.ownBlock) : Below w0.heap.size w1 w2 ∧ w0.grownBy w2 fbo := by
  have h := below_own ho hg2 hb hg.size
  exact ⟨h, grown_below hg h⟩
end
set_option maxRecDepth 100000 in
set_option maxHeartbeats 4000000 in
theorem fillFlood_any {D : TypeId} {rv rv' : Value} {G : FuncId} {F : Pt → Option Int} {fbo : Option Nat} {Cnt : Nat → World → Prop} {w : World} (V : FieldV w.heap.size D rv rv' G F fbo Cnt) (hst : StepsIn w) (hgl : fbo ≠ some 0) (a : Pt) (most : Int) (N : Nat) (hN : N ≤ 80000) (hfin : ∀ l : List Pt, l.Nodup → (∀ q, q ∈ l → F q ≠ none) → l.length ≤ N)
    (hsm : ∀ q, F q ≠ none → Small q) (hc0 : Cnt 0 w) :
    Calls Tryd.prog 10 #[.iface D rv, .agg #[.int .i64 a.x, .int .i64 a.y, .int .i64 a.z], .int .i64 most] w (RetQ (FloodOut F a most) most fbo Cnt w) := by
  have hx0 : Ext w (w.alloc (.cells #[.int .i64 a.x, .int .i64 a.y, .int .i64 a.z] 23)) := (Ext.refl w).alloc _
  have A1 := Arr.new w 23 [.int .i64 a.x, .int .i64 a.y, .int .i64 a.z]
  have hfl := flood_any (w0 := w.alloc (.cells #[.int .i64 a.x, .int .i64 a.y, .int .i64 a.z] 23)) (V.mono hx0.size) (hst.ext hx0) hgl a most N hN hfin hsm (V.keep 0 w _ hc0 hx0.below.block)
  have HV := Lib.hid V; have HX0 := Lib.hid hx0; have HFL := Lib.hid hfl; have HA := Lib.hid A1; have HFIN := Lib.hid hfin
  clear hfl hx0 A1 V hst hsm hc0 hfin
  go_enter Tryd.func10, Tryd.ntmps10
  go_upto_region 1 with fail
  obtain ⟨W1, hW⟩ : ∃ W, W = w.alloc (.cells #[.int .i64 a.x, .int .i64 a.y, .int .i64 a.z] 23) := ⟨_, rfl⟩
  rw [← hW] at HX0 HFL HA
  rw [← hW]
  clear hW
  go_upto_region 2 with (first
    | (refine wpList_load_blk 23 (.tmp 4) rfl rfl HA.out rfl _ Tryd.underlying23 rfl (by kernel_rfl) ?_)
    | (go_at_call 32; refine HFL.out.mono ?_; rintro e W2 ⟨l, bd, er, k, v1, v2, hP, rfl, ho1, ho2, _, hc, hg⟩))
  obtain ⟨hP1, hP2, hk⟩ := hP.out
  have hsl := hP.small HFIN.out
  have hw1 := HX0.out.size
  have hg0 : w.grownBy W2 fbo := grown_trans (HX0.out.by_ fbo) hg
  have HO := Lib.hid (own_low_mono hw1 ho1)
  have HP := Lib.hid hP1
  have HC := Lib.hid hc; have HG := Lib.hid hg0
  have HSO := Lib.hid (SortPt_any l v1 w.heap.size W2 HO.out (by omega))
  obtain ⟨LA, Lc, rfl⟩ := own_len ho1
  clear hP hP1 hP2 ho1 ho2 hc hg hg0
  go_upto_region 3 with (go_at_call 33; refine HSO.out.mono ?_; rintro e W3 ⟨rfl, ho3, hg3⟩)
  obtain ⟨b1, b2⟩ := sorted_world HO.out (Nat.le_refl _) HG.out hg3
  have HO3 := Lib.hid ho3; have HB1 := Lib.hid b1; have HB2 := Lib.hid b2
  clear ho3 hg3 b1 b2
  go_wp2
  go_ret2
  exact ⟨sortL l, er, k, _, HP.out, hk, rfl, by rw [sortL_length]; exact HO3.out, HV.out.keep k W2 _ HC.out HB1.out.block, HB2.out⟩
set_option maxRecDepth 100000 in
set_option maxHeartbeats 4000000 in
theorem fillBorder_any {D : TypeId} {rv rv' : Value} {G : FuncId} {F : Pt → Option Int} {fbo : Option Nat} {Cnt : Nat → World → Prop} {w : World} (V : FieldV w.heap.size D rv rv' G F fbo Cnt) (hst : StepsIn w) (hgl : fbo ≠ some 0) (a : Pt) (most : Int) (N : Nat) (hN : N ≤ 80000) (hfin : ∀ l : List Pt, l.Nodup → (∀ q, q ∈ l → F q ≠ none) → l.length ≤ N)
    (hsm : ∀ q, F q ≠ none → Small q) (hc0 : Cnt 0 w) :
    Calls Tryd.prog 15 #[.iface D rv, .agg #[.int .i64 a.x, .int .i64 a.y, .int .i64 a.z], .int .i64 most] w (RetQ (BorderOut F a most) most fbo Cnt w) := by
  have hx0 : Ext w (w.alloc (.cells #[.int .i64 a.x, .int .i64 a.y, .int .i64 a.z] 23)) := (Ext.refl w).alloc _
  have A1 := Arr.new w 23 [.int .i64 a.x, .int .i64 a.y, .int .i64 a.z]
  have hfl := flood_any (w0 := w.alloc (.cells #[.int .i64 a.x, .int .i64 a.y, .int .i64 a.z] 23)) (V.mono hx0.size) (hst.ext hx0) hgl a most N hN hfin hsm (V.keep 0 w _ hc0 hx0.below.block)
  have HV := Lib.hid V; have HX0 := Lib.hid hx0; have HFL := Lib.hid hfl; have HA := Lib.hid A1; have HFIN := Lib.hid hfin
  clear hfl hx0 A1 V hst hsm hc0 hfin
  go_enter Tryd.func15, Tryd.ntmps15
  go_upto_region 1 with fail
  obtain ⟨W1, hW⟩ : ∃ W, W = w.alloc (.cells #[.int .i64 a.x, .int .i64 a.y, .int .i64 a.z] 23) := ⟨_, rfl⟩
  rw [← hW] at HX0 HFL HA
  rw [← hW]
  clear hW
  go_upto_region 2 with (first
    | (refine wpList_load_blk 23 (.tmp 4) rfl rfl HA.out rfl _ Tryd.underlying23 rfl (by kernel_rfl) ?_)
    | (go_at_call 32; refine HFL.out.mono ?_; rintro e W2 ⟨l, bd, er, k, v1, v2, hP, rfl, ho1, ho2, _, hc, hg⟩))
  obtain ⟨hP1, hP2, hk⟩ := hP.out
  have hsl := hP.small HFIN.out
  have hw1 := HX0.out.size
  have hg0 : w.grownBy W2 fbo := grown_trans (HX0.out.by_ fbo) hg
  have HO := Lib.hid (own_low_mono hw1 ho2)
  have HP := Lib.hid hP2
  have HC := Lib.hid hc; have HG := Lib.hid hg0
  have HSO := Lib.hid (SortPt_any bd v2 w.heap.size W2 HO.out (by omega))
  obtain ⟨LA, Lc, rfl⟩ := own_len ho2
  clear hP hP1 hP2 ho1 ho2 hc hg hg0
  go_upto_region 3 with (go_at_call 33; refine HSO.out.mono ?_; rintro e W3 ⟨rfl, ho3, hg3⟩)
  obtain ⟨b1, b2⟩ := sorted_world HO.out (Nat.le_refl _) HG.out hg3
  have HO3 := Lib.hid ho3; have HB1 := Lib.hid b1; have HB2 := Lib.hid b2
  clear ho3 hg3 b1 b2
  go_wp2
  go_ret2
  exact ⟨sortL bd, er, k, _, HP.out, hk, rfl, by rw [sortL_length]; exact HO3.out, HV.out.keep k W2 _ HC.out HB1.out.block, HB2.out⟩
end Go.Proofs.YtelhefjikdoihaaDoor

/- Contract of slices.Contains at points, and of fill.Joined. -/
namespace Go.Proofs.YtelhefjikdoihaaDoor
open Go Go.RowKit

theorem eqAtPt : EqlAt Tryd.prog 23 (fun x : Pt => .agg x.cells.toArray) (fun x y => decide (x = y)) :=
  ⟨fun x y w => eqPt_run x y w, GuardAt.agg _ (by kernel_rfl)⟩
set_option maxHeartbeats 1000000 in
theorem IndexPt_nil (c : Nat) (p : Pt) (w : World) :
    Calls Tryd.prog 56 #[.slice none 0 c, .agg #[.int .i64 p.x, .int .i64 p.y, .int .i64 p.z]] w fun e w' => e = .returned (.int .i64 (-1)) ∧ Ext w w' := by
  go_enter Tryd.func56, Tryd.ntmps56
  go_wp2
  go_loopw [8] (fun i wr => i = .int .i64 0 ∧ Ext w wr) (fun _ _ => 0)
  case atStart => exact ⟨rfl, (by repeat (first | with_reducible exact Ext.refl _ | with_reducible assumption | with_reducible refine Ext.alloc ?_ _ | with_reducible refine Ext.drew ?_ | (with_reducible refine Ext.setCell ?_ ?_ _; rotate_left; focus (first | (simp; done) | (simp; omega) | omega)) | (with_reducible refine Ext.setRow ?_ ?_ _; rotate_left; focus (first | (simp; done) | (simp; omega) | omega)) | with_reducible refine Ext.trans ?_ (by with_reducible assumption)))⟩
  case round =>
    obtain ⟨rfl, hx⟩ := hrel
    go_wp2
    go_ret
    exact ⟨rfl, hx⟩
set_option maxHeartbeats 1000000 in
theorem ContainsPt_nil (c : Nat) (p : Pt) (w : World) :
    Calls Tryd.prog 36 #[.slice none 0 c, .agg #[.int .i64 p.x, .int .i64 p.y, .int .i64 p.z]] w fun e w' => e = .returned (.bool false) ∧ Ext w w' := by
  go_enter Tryd.func36, Tryd.ntmps36
  go_upto_region 1 with fail
  obtain ⟨W0, hW⟩ : ∃ W, W = w.alloc (.cells #[.int .i64 p.x, .int .i64 p.y, .int .i64 p.z] 23) := ⟨_, rfl⟩
  have hx0 : Ext w W0 := by rw [hW]; exact (Ext.refl w).alloc _
  have B0 : Arr W0 w.heap.size 23 [.int .i64 p.x, .int .i64 p.y, .int .i64 p.z] := by rw [hW]; exact Arr.new w _ _
  rw [← hW]
  clear hW
  have cB0 := B0.cell
  have fB0 := B0.frozen
  have lB0 := B0.lt
  go_wp2_with (first | (go_at_call 56; (refine (IndexPt_nil _ _ _).mono ?_); rintro e wx ⟨rfl, xx⟩; have xz := xx.size; (try simp only [World.size_alloc_, World.size_setCell_] at xz); have B0 := Arr.ext (w' := wx) B0 (by repeat (first | with_reducible exact Ext.refl _ | with_reducible assumption | with_reducible refine Ext.alloc ?_ _ | with_reducible refine Ext.drew ?_ | (with_reducible refine Ext.setCell ?_ ?_ _; rotate_left; focus (first | (simp; done) | (simp; omega) | omega)) | (with_reducible refine Ext.setRow ?_ ?_ _; rotate_left; focus (first | (simp; done) | (simp; omega) | omega)) | with_reducible refine Ext.trans ?_ (by with_reducible assumption))); have cB0 := B0.cell; have fB0 := B0.frozen; have lB0 := B0.lt))
  go_ret
  exact ⟨rfl, (by repeat (first | with_reducible exact Ext.refl _ | with_reducible assumption | with_reducible refine Ext.alloc ?_ _ | with_reducible refine Ext.drew ?_ | (with_reducible refine Ext.setCell ?_ ?_ _; rotate_left; focus (first | (simp; done) | (simp; omega) | omega)) | (with_reducible refine Ext.setRow ?_ ?_ _; rotate_left; focus (first | (simp; done) | (simp; omega) | omega)) | with_reducible refine Ext.trans ?_ (by with_reducible assumption)))⟩
theorem ContainsPt_any (l : List Pt) (v : Value) (base : Nat) (w : World) (h : w.ownsRow base 23 3 v l.length (rowsP l).flatten) (hb : l.length ≤ 100000) (p : Pt) :
    Calls Tryd.prog 36 #[v, .agg #[.int .i64 p.x, .int .i64 p.y, .int .i64 p.z]] w fun e w' => e = .returned (.bool (decide (p ∈ l))) ∧ Ext w w' := by
  rcases h.2 with ⟨rfl, h0⟩ | ⟨g, cap, cur, rfl, hg, hgg, _⟩
  · have hl : l = [] := List.eq_nil_of_length_eq_zero h0
    subst hl
    have := ContainsPt_nil 0 p w
    simpa using this
  · have hs := Sv.of_own h (rowsP_rwk l) (rowsP_length l)
    have hcon := AnyQ.slices_Contains Tryd.containsPt 3 Tryd.isAgg23 Tryd.sizeOf23 Pt.cells (fun _ => rfl) (fun x y => decide (x = y)) eqAtPt g 0 l.length cap l p w (Nat.le_refl _) (by omega) (fun j hj i u hu => by
      obtain ⟨b, off, e, _, hr⟩ := hs.row (i := j) (x := (l[j]).cells) (by simp [rowsP, hj])
      injection e with e
      injection e with e1 e2
      subst e1 e2
      rw [getElem!_pos l j hj] at hu
      exact hr i u hu)
    refine hcon.mono fun e w' ⟨he, hb⟩ => ⟨?_, ⟨hb⟩⟩
    rw [he, List.take_length]
    exact ret_bool (by rw [Bool.eq_iff_iff]; simp)
set_option maxRecDepth 100000 in
set_option maxHeartbeats 4000000 in
theorem fillJoined_any {D : TypeId} {rv rv' : Value} {G : FuncId} {F : Pt → Option Int} {fbo : Option Nat} {Cnt : Nat → World → Prop} {w : World} (V : FieldV w.heap.size D rv rv' G F fbo Cnt) (hst : StepsIn w) (hgl : fbo ≠ some 0) (a b : Pt) (most : Int) (N : Nat) (hN : N ≤ 80000) (hfin : ∀ l : List Pt, l.Nodup → (∀ q, q ∈ l → F q ≠ none) → l.length ≤ N)
    (hsm : ∀ q, F q ≠ none → Small q) (hc0 : Cnt 0 w) :
    Calls Tryd.prog 13 #[.iface D rv, .agg #[.int .i64 a.x, .int .i64 a.y, .int .i64 a.z], .agg #[.int .i64 b.x, .int .i64 b.y, .int .i64 b.z], .int .i64 most] w fun e w' => ∃ l er, FloodOut F a most l er ∧ e = .returned (.tuple #[.bool (decide (b ∈ l)), .int .i64 er]) ∧ w.grownBy w' fbo := by
  have hx0 : Ext w ((w.alloc (.cells #[.int .i64 a.x, .int .i64 a.y, .int .i64 a.z] 23)).alloc (.cells #[.int .i64 b.x, .int .i64 b.y, .int .i64 b.z] 23)) := ((Ext.refl w).alloc _).alloc _
  have A1 := (Arr.new w 23 [.int .i64 a.x, .int .i64 a.y, .int .i64 a.z]).alloc (.cells #[.int .i64 b.x, .int .i64 b.y, .int .i64 b.z] 23)
  have A2 := Arr.new (w.alloc (.cells #[.int .i64 a.x, .int .i64 a.y, .int .i64 a.z] 23)) 23 [.int .i64 b.x, .int .i64 b.y, .int .i64 b.z]
  simp only [World.size_alloc_] at A2
  have hfl := flood_any (w0 := (w.alloc (.cells #[.int .i64 a.x, .int .i64 a.y, .int .i64 a.z] 23)).alloc (.cells #[.int .i64 b.x, .int .i64 b.y, .int .i64 b.z] 23)) (V.mono hx0.size) (hst.ext hx0) hgl a most N hN hfin hsm (V.keep 0 w _ hc0 hx0.below.block)
  have HV := Lib.hid V; have HX0 := Lib.hid hx0; have HFL := Lib.hid hfl; have HA := Lib.hid A1; have HA2 := Lib.hid A2; have HFIN := Lib.hid hfin
  clear hfl hx0 A1 A2 V hst hsm hc0 hfin
  go_enter Tryd.func13, Tryd.ntmps13
  go_upto_region 1 with fail
  obtain ⟨W1, hW⟩ : ∃ W, W = (w.alloc (.cells #[.int .i64 a.x, .int .i64 a.y, .int .i64 a.z] 23)).alloc (.cells #[.int .i64 b.x, .int .i64 b.y, .int .i64 b.z] 23) := ⟨_, rfl⟩
  rw [← hW] at HX0 HFL HA HA2
  rw [← hW]
  clear hW
  go_upto_region 2 with (first
    | (refine wpList_load_blk 23 (.tmp 5) rfl rfl HA.out rfl _ Tryd.underlying23 rfl (by kernel_rfl) ?_)
    | (go_at_call 32; refine HFL.out.mono ?_; rintro e W2 ⟨l, bd, er, k, v1, v2, hP, rfl, ho1, ho2, _, hc, hg⟩))
  have hP1 := hP.out.1
  have hsl := hP.small HFIN.out
  have hw1 := HX0.out.size
  have HO := Lib.hid (own_low_mono hw1 ho1)
  have HP := Lib.hid hP1
  have HG := Lib.hid (show w.grownBy W2 fbo from grown_trans (HX0.out.by_ fbo) hg)
  have HCO := Lib.hid (ContainsPt_any l v1 w.heap.size W2 HO.out (by omega) b)
  have HA3 := Lib.hid (HA2.out.kept hg (fun e => by have h1 := HV.out.low _ e; omega))
  obtain ⟨LA, Lc, rfl⟩ := own_len ho1
  have hmem : decide (b ∈ l) = decide (b ∈ sortL l) := by rw [decide_eq_decide]; exact (sortL_mem l b).symm
  rw [hmem] at HCO
  clear hP hP1 ho1 ho2 hc hg hmem
  go_wp2_with (first
    | (refine wpList_load_blk 23 (.tmp 6) rfl rfl HA3.out rfl _ Tryd.underlying23 rfl (by kernel_rfl) ?_)
    | (go_at_call 36; refine HCO.out.mono ?_; rintro e W3 ⟨rfl, x3⟩))
  go_ret2
  exact ⟨sortL l, er, HP.out, rfl, grown_ext HG.out x3⟩
end Go.Proofs.YtelhefjikdoihaaDoor

/- The law's field: of, Cell. -/
namespace Go.Proofs.YtelhefjikdoihaaDoor
open Go Go.RowKit

def fieldC (g : Gr) (A : Option Addr) (c : Nat) (n : Int) : List Value := [.int .i64 g.box.lo.x, .int .i64 g.box.lo.y, .int .i64 g.box.lo.z, .int .i64 g.box.hi.x, .int .i64 g.box.hi.y, .int .i64 g.box.hi.z, .slice A g.cells.length c, .int .i64 n]
/-- The field's memory: block fb, asked n times; the cells lie below it. -/
structure CntF (g : Gr) (A : Option Addr) (c fb : Nat) (n : Nat) (w : World) : Prop where
  blk : Arr w fb 52 (fieldC g A c n)
  cells : Sv w fb 1 A c (rowsI g.cells)
set_option maxHeartbeats 1000000 in
theorem of_any (g : Gr) (A : Option Addr) (c : Nat) (w : World) (hs : Sv w w.heap.size 1 A c (rowsI g.cells)) :
    Calls Tryd.prog 11 #[.agg #[.int .i64 g.box.lo.x, .int .i64 g.box.lo.y, .int .i64 g.box.lo.z, .int .i64 g.box.hi.x, .int .i64 g.box.hi.y, .int .i64 g.box.hi.z, .slice A g.cells.length c]] w fun e w' => ∃ fb, w.heap.size ≤ fb ∧ fb < w'.heap.size ∧ e = .returned (.pointer (some ⟨fb, 0, none⟩)) ∧ CntF g A c fb 0 w' ∧ Ext w w' := by
  have HS := Lib.hid hs; clear hs
  go_enter Tryd.func11, Tryd.ntmps11
  go_upto_region 1 with fail
  obtain ⟨W0, hW⟩ : ∃ W, W = w.alloc (.cells #[.int .i64 g.box.lo.x, .int .i64 g.box.lo.y, .int .i64 g.box.lo.z, .int .i64 g.box.hi.x, .int .i64 g.box.hi.y, .int .i64 g.box.hi.z, .slice A g.cells.length c] 28) := ⟨_, rfl⟩
  have hx0 : Ext w W0 := by rw [hW]; exact (Ext.refl w).alloc _
  have B0 : Arr W0 w.heap.size 28 [.int .i64 g.box.lo.x, .int .i64 g.box.lo.y, .int .i64 g.box.lo.z, .int .i64 g.box.hi.x, .int .i64 g.box.hi.y, .int .i64 g.box.hi.z, .slice A g.cells.length c] := by rw [hW]; exact Arr.new w _ _
  rw [← hW]
  clear hW
  have cB0 := B0.cell
  have fB0 := B0.frozen
  have lB0 := B0.lt
  have HB := Lib.hid B0
  clear cB0 fB0 lB0 B0
  have hsz := hx0.size
  go_wp2_with (first | (refine wpList_load_blk 28 (.tmp 1) rfl rfl HB.out rfl _ Tryd.underlying28 rfl (by kernel_rfl) ?_))
  go_ret
  have hx1 : Ext w (W0.alloc (.cells (fieldC g A c 0).toArray 52)) := hx0.alloc _
  exact ⟨W0.heap.size, hsz, by simp, rfl, ⟨Arr.new W0 _ (fieldC g A c 0), (HS.out.keep (fun p hp => hx1.cell hp)).more hsz⟩, hx1⟩
set_option maxRecDepth 100000 in
set_option maxHeartbeats 4000000 in
theorem Cell_out (g : Gr) (A : Option Addr) (c fb n : Nat) (q : Pt) (w : World) (hn : n ≤ 1000000) (h : CntF g A c fb n w) (hin : inP q g.box = false) :
    Calls Tryd.prog 106 #[.pointer (some ⟨fb, 0, none⟩), .agg #[.int .i64 q.x, .int .i64 q.y, .int .i64 q.z]] w fun e w' => e = .returned (.tuple #[.int .i64 0, .bool false]) ∧ CntF g A c fb (n + 1) w' ∧ w.grownBy w' (some fb) := by
  have hm := mixed
  have hG := near_old
  have HI := Lib.hid (fun w' => refIn_any q g.box w')
  rw [hin] at HI
  have fl := h.blk.lt
  have HH := Lib.hid h
  have B0 := h.blk
  have c7 := B0.cell 7
  have f7 := B0.frozen 7
  unfold fieldC at c7
  simp only [List.getElem?_cons_zero, List.getElem?_cons_succ] at c7
  have B1 := (B0.set 7 (.int .i64 ((n : Int) + 1))).alloc (.cells #[.int .i64 q.x, .int .i64 q.y, .int .i64 q.z] 23)
  have P1 := Arr.new (w.setCell ⟨fb, 7, none⟩ (.int .i64 ((n : Int) + 1))) 23 [.int .i64 q.x, .int .i64 q.y, .int .i64 q.z]
  rw [World.size_setCell_] at P1
  have hg0 : w.grownBy ((w.setCell ⟨fb, 7, none⟩ (.int .i64 ((n : Int) + 1))).alloc (.cells #[.int .i64 q.x, .int .i64 q.y, .int .i64 q.z] 23)) (some fb) := grown_ext (grown_set (grown_refl w _) 7 _) ((Ext.refl _).alloc _)
  have hS : Sv ((w.setCell ⟨fb, 7, none⟩ (.int .i64 ((n : Int) + 1))).alloc (.cells #[.int .i64 q.x, .int .i64 q.y, .int .i64 q.z] 23)) fb 1 A c (rowsI g.cells) := h.cells.keep (fun p hp => by
    rw [World.cell?_alloc_lt _ _ p (by rw [World.size_setCell_]; omega)]
    exact World.cell?_setCell_other w _ p _ (fun e => by subst e; simp at hp))
  have HB1 := Lib.hid B1; have HP1 := Lib.hid P1; have HG0 := Lib.hid hg0; have HS := Lib.hid hS
  clear B0 B1 P1 h hg0 hS hin
  go_enter Tryd.func106, Tryd.ntmps106
  go_upto_region 2 with fail
  obtain ⟨W2, hW⟩ : ∃ W, W = (w.setCell ⟨fb, 7, none⟩ (.int .i64 ((n : Int) + 1))).alloc (.cells #[.int .i64 q.x, .int .i64 q.y, .int .i64 q.z] 23) := ⟨_, rfl⟩
  rw [← hW] at HB1 HP1 HG0 HS
  rw [← hW]
  clear hW
  have HC1 := Lib.hid (show CntF g A c fb (n + 1) W2 from ⟨HB1.out, HS.out⟩)
  have d0 := HB1.out.cell 0
  have d1 := HB1.out.cell 1
  have d2 := HB1.out.cell 2
  have d3 := HB1.out.cell 3
  have d4 := HB1.out.cell 4
  have d5 := HB1.out.cell 5
  have p0 := HP1.out.cell 0
  have p1 := HP1.out.cell 1
  have p2 := HP1.out.cell 2
  have lb := HB1.out.lt
  have lp := HP1.out.lt
  unfold fieldC at d0 d1 d2 d3 d4 d5
  simp only [List.set_cons_succ, List.set_cons_zero, List.getElem?_cons_zero, List.getElem?_cons_succ] at d0 d1 d2 d3 d4 d5 p0 p1 p2
  refine wp_region_near (by assumption) (by kernel_rfl) ?_
  repeat (go_big_quiet_step ((go_at_call 26; exact near_call (HI.out _))))
  refine wpQuiet_nil ?_
  intro w1 hw1
  have hy := Ext.of_near hw1
  clear hw1
  have hx1 := hy
  have HX1 := Lib.hid hx1
  clear hy hx1 d0 d1 d2 d3 d4 d5 p0 p1 p2
  go_wp2
  go_ret2
  exact ⟨rfl, ⟨HC1.out.blk.ext HX1.out, HC1.out.cells.keep (fun p hp => HX1.out.cell (by omega))⟩, grown_ext HG0.out HX1.out⟩
set_option maxRecDepth 100000 in
set_option maxHeartbeats 4000000 in
theorem Cell_in (g : Gr) (A : Option Addr) (c fb n : Nat) (q : Pt) (w : World) (hn : n ≤ 1000000) (h : CntF g A c fb n w) {sx sy sz : Nat} (G : GoodG g sx sy sz) {v : Int} (hin : fld g q = some v) :
    Calls Tryd.prog 106 #[.pointer (some ⟨fb, 0, none⟩), .agg #[.int .i64 q.x, .int .i64 q.y, .int .i64 q.z]] w fun e w' => e = .returned (.tuple #[.int .i64 v, .bool true]) ∧ CntF g A c fb (n + 1) w' ∧ w.grownBy w' (some fb) := by
  have hm := mixed
  have hG := near_old
  have HI := Lib.hid (fun w' => refIn_any q g.box w')
  rw [fld_some hin] at HI
  have HGT := Lib.hid (fun (w' : World) (hs : Sv w' w'.heap.size 1 A c (rowsI g.cells)) => get_any G A c q w' hs hin)
  clear G
  have fl := h.blk.lt
  have HH := Lib.hid h
  have B0 := h.blk
  have c7 := B0.cell 7
  have f7 := B0.frozen 7
  unfold fieldC at c7
  simp only [List.getElem?_cons_zero, List.getElem?_cons_succ] at c7
  have B1 := (B0.set 7 (.int .i64 ((n : Int) + 1))).alloc (.cells #[.int .i64 q.x, .int .i64 q.y, .int .i64 q.z] 23)
  have P1 := Arr.new (w.setCell ⟨fb, 7, none⟩ (.int .i64 ((n : Int) + 1))) 23 [.int .i64 q.x, .int .i64 q.y, .int .i64 q.z]
  rw [World.size_setCell_] at P1
  have hg0 : w.grownBy ((w.setCell ⟨fb, 7, none⟩ (.int .i64 ((n : Int) + 1))).alloc (.cells #[.int .i64 q.x, .int .i64 q.y, .int .i64 q.z] 23)) (some fb) := grown_ext (grown_set (grown_refl w _) 7 _) ((Ext.refl _).alloc _)
  have hS : Sv ((w.setCell ⟨fb, 7, none⟩ (.int .i64 ((n : Int) + 1))).alloc (.cells #[.int .i64 q.x, .int .i64 q.y, .int .i64 q.z] 23)) fb 1 A c (rowsI g.cells) := h.cells.keep (fun p hp => by
    rw [World.cell?_alloc_lt _ _ p (by rw [World.size_setCell_]; omega)]
    exact World.cell?_setCell_other w _ p _ (fun e => by subst e; simp at hp))
  have HB1 := Lib.hid B1; have HP1 := Lib.hid P1; have HG0 := Lib.hid hg0; have HS := Lib.hid hS
  clear B0 B1 P1 h hg0 hS hin
  go_enter Tryd.func106, Tryd.ntmps106
  go_upto_region 2 with fail
  obtain ⟨W2, hW⟩ : ∃ W, W = (w.setCell ⟨fb, 7, none⟩ (.int .i64 ((n : Int) + 1))).alloc (.cells #[.int .i64 q.x, .int .i64 q.y, .int .i64 q.z] 23) := ⟨_, rfl⟩
  rw [← hW] at HB1 HP1 HG0 HS
  rw [← hW]
  clear hW
  have HC1 := Lib.hid (show CntF g A c fb (n + 1) W2 from ⟨HB1.out, HS.out⟩)
  have d0 := HB1.out.cell 0
  have d1 := HB1.out.cell 1
  have d2 := HB1.out.cell 2
  have d3 := HB1.out.cell 3
  have d4 := HB1.out.cell 4
  have d5 := HB1.out.cell 5
  have p0 := HP1.out.cell 0
  have p1 := HP1.out.cell 1
  have p2 := HP1.out.cell 2
  have lb := HB1.out.lt
  have lp := HP1.out.lt
  unfold fieldC at d0 d1 d2 d3 d4 d5
  simp only [List.set_cons_succ, List.set_cons_zero, List.getElem?_cons_zero, List.getElem?_cons_succ] at d0 d1 d2 d3 d4 d5 p0 p1 p2
  refine wp_region_near (by assumption) (by kernel_rfl) ?_
  repeat (go_big_quiet_step ((go_at_call 26; exact near_call (HI.out _))))
  refine wpQuiet_nil ?_
  intro w1 hw1
  have hy := Ext.of_near hw1
  clear hw1
  have hx1 := hy
  have HX1 := Lib.hid hx1
  have HB2 := HB1.out.ext hx1
  have HP2 := HP1.out.ext hx1
  have HS2 := Lib.hid (HS.out.keep (w' := w1) (fun p hp => hx1.cell (by omega)))
  clear hy hx1 d0 d1 d2 d3 d4 d5 p0 p1 p2 lb lp
  have d0 := HB2.cell 0
  have d1 := HB2.cell 1
  have d2 := HB2.cell 2
  have d3 := HB2.cell 3
  have d4 := HB2.cell 4
  have d5 := HB2.cell 5
  have d6 := HB2.cell 6
  have p0 := HP2.cell 0
  have p1 := HP2.cell 1
  have p2 := HP2.cell 2
  have lb := HB2.lt
  have lp := HP2.lt
  unfold fieldC at d0 d1 d2 d3 d4 d5 d6
  simp only [List.set_cons_succ, List.set_cons_zero, List.getElem?_cons_zero, List.getElem?_cons_succ] at d0 d1 d2 d3 d4 d5 d6 p0 p1 p2
  have HGN := Lib.hid (fun (n : Nat) (os : Array Obj) => HGT.out (near w1 n os) (((HS2.out.more (Nat.le_of_lt lb)).ext (Ext.of_near ⟨⟨n, os⟩, rfl⟩))))
  clear HB2 HP2
  obtain ⟨W3, hW⟩ : ∃ W, W = w1 := ⟨_, rfl⟩
  rw [← hW] at HX1 HS2 HGN d0 d1 d2 d3 d4 d5 d6 p0 p1 p2 lb lp
  rw [← hW]
  clear hW
  go_upto_region 5 with fail
  refine wp_region_near (by assumption) (by kernel_rfl) ?_
  repeat (go_big_quiet_step ((go_at_call 27; exact near_call (HGN.out _ _))))
  refine wpQuiet_nil ?_
  intro w1 hw1
  have hy := Ext.of_near hw1
  clear hw1
  have HX2 := Lib.hid (HX1.out.trans hy)
  clear hy d0 d1 d2 d3 d4 d5 d6 p0 p1 p2
  go_wp2
  go_ret2
  exact ⟨rfl, ⟨HC1.out.blk.ext HX2.out, HC1.out.cells.keep (fun p hp => HX2.out.cell (by have := HC1.out.blk.lt; omega))⟩, grown_ext HG0.out HX2.out⟩
theorem field_V (g : Gr) (hv : validG g = true) (A : Option Addr) (c fb B : Nat) (hb : fb < B) :
    FieldV B 35 (.pointer (some ⟨fb, 0, none⟩)) (.pointer (some ⟨fb, 0, none⟩)) 106 (fld g) (some fb) (CntF g A c fb) where
  meth := fun _ => by kernel_rfl
  enters := fun _ _ => by kernel_rfl
  low := fun k hk => by injection hk with hk; omega
  keep := fun n w w' h hh => ⟨(hh fb hb).trans h.blk, h.cells.keep (fun p hp => by unfold World.cell?; rw [hh p.block (by omega)])⟩
  call := fun q n w hB hn h => by
    obtain ⟨sx, sy, sz, G⟩ := good_of hv
    cases hin : inP q g.box
    · refine (Cell_out g A c fb n q w hn h hin).mono fun e w' ⟨he, h1, h2⟩ => ⟨⟨0, ?_, ?_⟩, h1, h2⟩
      · rw [he, fld_out hin]; rfl
      · intro v hv; rw [fld_out hin] at hv; cases hv
    · obtain ⟨v, hF, _⟩ := G.fld_in hin
      refine (Cell_in g A c fb n q w hn h G hF).mono fun e w' ⟨he, h1, h2⟩ => ⟨⟨v, ?_, ?_⟩, h1, h2⟩
      · rw [he, hF]; rfl
      · intro u hu; rw [hF] at hu; injection hu
theorem fld_fin (g : Gr) (hv : validG g = true) (l : List Pt) (hd : l.Nodup) (h : ∀ q, q ∈ l → fld g q ≠ none) : l.length ≤ g.cells.length := by
  obtain ⟨sx, sy, sz, G⟩ := good_of hv
  have hin : ∀ q, q ∈ l → inP q g.box = true := fun q hq => by
    cases hh : inP q g.box
    · exact absurd (fld_out hh) (h q hq)
    · rfl
  exact nodup_map_le (idxG g sx sy) _ l hd (fun x hx => (G.idx (hin x hx)).1) (fun x y hx hy e => G.inj (hin x hx) (hin y hy) e)
theorem fld_small (g : Gr) (hv : validG g = true) (q : Pt) (h : fld g q ≠ none) : Small q := by
  obtain ⟨sx, sy, sz, G⟩ := good_of hv
  have hr : rngP g.box.hi = true := by unfold validG at hv; simp only [Bool.and_eq_true] at hv; exact hv.2.1
  cases hh : inP q g.box
  · exact absurd (fld_out hh) h
  · exact G.small hr hh
end Go.Proofs.YtelhefjikdoihaaDoor

/- Contract of slices.Compact at points, on a sorted row of the call's own; fill.Sorted. -/
namespace Go.Proofs.YtelhefjikdoihaaDoor
open Go Go.RowKit

def LeP (l : List Pt) : Prop := l.Pairwise fun x y => befP y x = false
theorem LeP.at_ {l : List Pt} (h : LeP l) {i j : Nat} {x y : Pt} (hx : l[i]? = some x) (hy : l[j]? = some y) (hij : i < j) : befP y x = false := by
  obtain ⟨h1, rfl⟩ := List.getElem?_eq_some_iff.1 hx
  obtain ⟨h2, rfl⟩ := List.getElem?_eq_some_iff.1 hy
  exact List.pairwise_iff_getElem.1 h i j h1 h2 hij
theorem take_snoc' {l : List Pt} {i : Nat} {p : Pt} (h : l[i]? = some p) : l.take (i + 1) = l.take i ++ [p] := by
  obtain ⟨hi, rfl⟩ := List.getElem?_eq_some_iff.1 h
  exact List.take_succ_eq_append_getElem hi
theorem SortP.snoc {l : List Pt} {p : Pt} (h : SortP l) (hp : ∀ q, q ∈ l → befP q p = true) : SortP (l ++ [p]) := by
  unfold SortP
  rw [List.pairwise_append]
  exact ⟨h, List.pairwise_singleton .., fun a ha b hb => by simp at hb; subst hb; exact hp a ha⟩
theorem SortP.last {l : List Pt} {i : Nat} {p q : Pt} (h : SortP (l.take (i + 1))) (hp : l[i]? = some p) (hq : q ∈ l.take (i + 1)) : q = p ∨ befP q p = true := by
  rw [take_snoc' hp] at h hq
  rcases List.mem_append.1 hq with hq | hq
  · unfold SortP at h
    rw [List.pairwise_append] at h
    exact .inr (h.2.2 q hq p (by simp))
  · simp at hq; exact .inl hq
structure CMid (l ys : List Pt) (i j : Nat) : Prop where
  len : ys.length = l.length
  srt : SortP (ys.take (i + 1))
  mem : ∀ q, q ∈ ys.take (i + 1) ↔ q ∈ l.take (j + 1)
  last : ys[i]? = l[j]?
  tail : ∀ m, j ≤ m → ys[m]? = l[m]?
  ij : i < j
  jn : j < l.length
theorem CMid.start {l : List Pt} {k : Nat} {p : Pt} (hs : SortP (l.take (k + 1))) (h1 : l[k]? = some p) (h2 : l[k + 1]? = some p) : CMid l l k (k + 1) where
  len := rfl
  srt := hs
  mem q := by
    rw [take_snoc' h2, List.mem_append]
    constructor
    · exact .inl
    · rintro (h | h)
      · exact h
      · simp at h; subst h
        rw [take_snoc' h1]; simp
  last := by rw [h1, h2]
  tail m _ := rfl
  ij := by omega
  jn := (List.getElem?_eq_some_iff.1 h2).1
theorem CMid.skip {l ys : List Pt} {i j : Nat} {p : Pt} (h : CMid l ys i j) (h1 : l[j]? = some p) (h2 : l[j + 1]? = some p) : CMid l ys i (j + 1) where
  len := h.len
  srt := h.srt
  mem q := by
    rw [h.mem, take_snoc' h2, List.mem_append]
    constructor
    · exact .inl
    · rintro (hq | hq)
      · exact hq
      · simp at hq; subst hq
        rw [take_snoc' h1]; simp
  last := by rw [h.last, h1, h2]
  tail m hm := h.tail m (by omega)
  ij := by have := h.ij; omega
  jn := (List.getElem?_eq_some_iff.1 h2).1
theorem CMid.put {l ys : List Pt} {i j : Nat} {p q : Pt} (h : CMid l ys i j) (hl : LeP l) (h1 : l[j]? = some p) (h2 : l[j + 1]? = some q) (hne : q ≠ p) : CMid l (ys.set (i + 1) q) (i + 1) (j + 1) := by
  have hij := h.ij
  have hjn := h.jn
  have hlen := h.len
  have hb : befP p q = true := befP_total (hl.at_ h1 h2 (by omega)) hne
  have hi : ys[i]? = some p := by rw [h.last, h1]
  have e : (ys.set (i + 1) q).take (i + 1 + 1) = ys.take (i + 1) ++ [q] := by
    rw [take_snoc' (p := q) (by rw [List.getElem?_set_self (by omega)]), List.take_set_of_le (by omega)]
  refine ⟨by simpa using h.len, ?_, fun x => ?_, ?_, fun m hm => ?_, by omega, (List.getElem?_eq_some_iff.1 h2).1⟩
  · rw [e]
    exact h.srt.snoc fun x hx => by
      rcases h.srt.last hi hx with rfl | hx
      · exact hb
      · exact befP_trans hx hb
  · rw [e, take_snoc' h2, List.mem_append, List.mem_append, h.mem]
  · rw [List.getElem?_set_self (by omega), h2]
  · rw [List.getElem?_set_ne (by omega)]
    exact h.tail m (by omega)
/-- It hands back the first rows of the same block: the list without repetitions; only this block has turned. -/
def RetC (g c base : Nat) (l : List Pt) (w : World) (en : Ending) (w' : World) : Prop :=
  ∃ m : List Pt, SortP m ∧ (∀ q, q ∈ m ↔ q ∈ l) ∧ en = .returned (.slice (some ⟨g, 0, none⟩) m.length c) ∧ w'.ownsRow base 23 3 (.slice (some ⟨g, 0, none⟩) m.length c) m.length (rowsP m).flatten ∧ w.grownBy w' (some g)
theorem zeroPtV (w : World) : (zeroValue 23).run Tryd.prog w = .ok (.agg #[.int .i64 0, .int .i64 0, .int .i64 0]) w := by kernel_rfl
theorem rows_at {w : World} {base g c : Nat} {l : List Pt} (h : w.ownsRow base 23 3 (.slice (some ⟨g, 0, none⟩) l.length c) l.length (rowsP l).flatten) {j : Nat} {p : Pt} (hp : l[j]? = some p) :
    w.cell? ⟨g, j * 3, none⟩ = some (.int .i64 p.x) ∧ w.cell? ⟨g, j * 3 + 1, none⟩ = some (.int .i64 p.y) ∧ w.cell? ⟨g, j * 3 + 2, none⟩ = some (.int .i64 p.z) := by
  obtain ⟨b, off, e, _, h0, h1, h2⟩ := pt_row (Sv.of_own h (rowsP_rwk l) (rowsP_length l)) hp
  injection e with e
  injection e with e1 e2
  subst e1 e2
  simp only [Nat.zero_add] at h0 h1 h2
  exact ⟨h0, h1, h2⟩
set_option maxRecDepth 100000 in
set_option maxHeartbeats 4000000 in
theorem Compact_own (g c base : Nat) (l : List Pt) (w : World) (ho : w.ownsRow base 23 3 (.slice (some ⟨g, 0, none⟩) l.length c) l.length (rowsP l).flatten) (hl : LeP l) (hb : l.length ≤ 100000) :
    Calls Tryd.prog 41 #[.slice (some ⟨g, 0, none⟩) l.length c] w (RetC g c base l w) := by
  have hm := mixed
  have hG := near_old
  obtain ⟨cur0, hbg, hcur0, hnc, hcm, _⟩ := own_cur ho
  have hgl := (Array.getElem?_eq_some_iff.1 hcur0).1
  unfold maxLen at hcm
  have HO := Lib.hid ho; have HL := Lib.hid hl
  clear ho hl hcur0
  by_cases h2 : l.length < 2
  · have HS := Lib.hid (show SortP l from by
      match l, h2 with
      | [], _ => exact List.Pairwise.nil
      | [x], _ => exact List.pairwise_singleton ..
      | x :: y :: r, h => simp at h; omega)
    go_enter Tryd.func41, Tryd.ntmps41
    go_wp2
    go_ret
    exact ⟨l, HS.out, fun q => Iff.rfl, rfl, HO.out, grown_refl _ _⟩
  · go_enter Tryd.func41, Tryd.ntmps41
    go_wp2
    go_loopw [3] (fun i wr => ∃ k : Nat, k + 1 ≤ l.length ∧ i = .int .i64 (k + 1 : Nat) ∧ SortP (l.take (k + 1)) ∧ Ext w wr) (fun i _ => l.length - (intOf i).toNat)
    case atStart => exact ⟨0, by omega, rfl, by
      cases l with
      | nil => exact List.Pairwise.nil
      | cons x xs => simp; exact List.pairwise_singleton .., Ext.refl _⟩
    case round =>
      obtain ⟨k, hk, rfl, hsr, hx⟩ := hrel
      have HSR := Lib.hid hsr; have HX := Lib.hid hx
      have hgl1 := Nat.lt_of_lt_of_le hgl hx.size
      clear hsr
      by_cases hlt : k + 1 < l.length
      · obtain ⟨p, hp⟩ : ∃ p, l[k]? = some p := ⟨_, List.getElem?_eq_getElem (by omega)⟩
        obtain ⟨q, hq⟩ : ∃ q, l[k + 1]? = some q := ⟨_, List.getElem?_eq_getElem hlt⟩
        obtain ⟨r0, r1, r2⟩ := rows_at (own_ext HO.out hx) hp
        obtain ⟨s0, s1, s2⟩ := rows_at (own_ext HO.out hx) hq
        have hn := eqPt_run q p
        have HP := Lib.hid hp; have HQ := Lib.hid hq
        clear hp hq hx
        by_cases hqp : q = p
        · have HM := Lib.hid (CMid.start (k := k) HSR.out HP.out (hqp ▸ HQ.out))
          rw [decide_eq_true hqp] at hn
          clear hqp
          go_upto_region 6 with fail
          refine wp_region_near (by assumption) (by kernel_rfl) ?_
          repeat (go_big_quiet_step (fail))
          refine wpQuiet_nil ?_
          intro w1 hw1
          have hy := Ext.of_near hw1
          clear hw1
          have HX1 := Lib.hid (HX.out.trans hy)
          clear hy r0 r1 r2 s0 s1 s2 hn
          have hck : ¬ c = k + 1 := by omega
          have hck2 : k + 1 ≤ c := by omega
          go_wp2_with fail
          go_loopw [3, 5] (fun i j wv => ∃ (i' d : Nat) (ys : List Pt), i = .int .i64 (i' + 1 : Nat) ∧ j = .int .i64 (d + 1 : Nat) ∧ CMid l ys i' (k + 1 + d) ∧ wv.ownsRow base 23 3 (.slice (some ⟨g, 0, none⟩) l.length c) l.length (rowsP ys).flatten ∧ w.grownBy wv (some g)) (fun _ j _ => l.length - (intOf j).toNat)
          case atStart => exact ⟨k, 0, l, by go_num, by go_num, HM.out, own_ext HO.out HX1.out, HX1.out.by_ _⟩
          case round =>
            obtain ⟨i, d, ys, rfl, rfl, hM, hO, hW⟩ := hrel
            have hij := hM.ij
            have hjn := hM.jn
            have hyl := hM.len
            have hO' : wr.ownsRow base 23 3 (.slice (some ⟨g, 0, none⟩) ys.length c) ys.length (rowsP ys).flatten := hyl ▸ hO
            have hgl2 := Nat.lt_of_lt_of_le hgl hW.size
            have HMM := Lib.hid hM; have HOO := Lib.hid hO; have HWW := Lib.hid hW; have HYL := Lib.hid hyl
            by_cases hlt2 : k + 1 + d + 1 < l.length
            · obtain ⟨p', hp'⟩ : ∃ p, l[k + 1 + d]? = some p := ⟨_, List.getElem?_eq_getElem (by omega)⟩
              obtain ⟨q', hq'⟩ : ∃ q, l[k + 1 + d + 1]? = some q := ⟨_, List.getElem?_eq_getElem hlt2⟩
              obtain ⟨r0, r1, r2⟩ := rows_at hO' ((hM.tail _ (Nat.le_refl _)).trans hp')
              obtain ⟨s0, s1, s2⟩ := rows_at hO' ((hM.tail _ (by omega)).trans hq')
              rw [show (k + 1 + d) * 3 = (k + 1) * 3 + d * 3 by omega] at r0 r1 r2
              rw [show (k + 1 + d + 1) * 3 = (k + 1) * 3 + (d + 1) * 3 by omega] at s0 s1 s2
              have hn := neqPt_run q' p'
              have HP' := Lib.hid hp'; have HQ' := Lib.hid hq'
              have hlt3 : d + 1 < l.length - (k + 1) := by omega
              clear hM hO hO' hW hyl hp' hq'
              by_cases hqp : q' = p'
              · have HM2 := Lib.hid (HMM.out.skip (hqp ▸ HP'.out) HQ'.out)
                rw [decide_eq_false (by simpa using hqp)] at hn
                clear hqp
                go_upto_region 11 with fail
                refine wp_region_near (by assumption) (by kernel_rfl) ?_
                repeat (go_big_quiet_step (fail))
                refine wpQuiet_nil ?_
                intro w1 hw1
                have hy := Ext.of_near hw1
                clear hw1
                have HY := Lib.hid hy
                clear hy r0 r1 r2 s0 s1 s2 hn
                go_wp2
                go_roundw
                case rel => exact ⟨i, d + 1, ys, rfl, by go_num, HM2.out, own_ext HOO.out HY.out, grown_ext HWW.out HY.out⟩
                case measure => simp [intOf]; omega
              · have HM2 := Lib.hid (HMM.out.put HL.out HP'.out HQ'.out hqp)
                rw [decide_eq_true (by simpa using hqp)] at hn
                clear hqp
                go_upto_region 11 with fail
                refine wp_region_near (by assumption) (by kernel_rfl) ?_
                repeat (go_big_quiet_step (fail))
                refine wpQuiet_nil ?_
                intro w1 hw1
                have hy := Ext.of_near hw1
                clear hw1
                have hO2 := own_ext HOO.out hy
                obtain ⟨o0, t0⟩ := own_slot hO2 ((i + 1) * 3) (by omega)
                obtain ⟨o1, t1⟩ := own_slot hO2 ((i + 1) * 3 + 1) (by omega)
                obtain ⟨o2, t2⟩ := own_slot hO2 ((i + 1) * 3 + 2) (by omega)
                have f0 := hO2.frozenAt ((i + 1) * 3)
                have f1 := hO2.frozenAt ((i + 1) * 3 + 1)
                have f2 := hO2.frozenAt ((i + 1) * 3 + 2)
                have s0 := (hy.cell (p := ⟨g, (k + 1) * 3 + (d + 1) * 3, none⟩) hgl2).trans s0
                have s1 := (hy.cell (p := ⟨g, (k + 1) * 3 + (d + 1) * 3 + 1, none⟩) hgl2).trans s1
                have s2 := (hy.cell (p := ⟨g, (k + 1) * 3 + (d + 1) * 3 + 2, none⟩) hgl2).trans s2
                have hgl3 := Nat.lt_of_lt_of_le hgl2 hy.size
                have HO2 := Lib.hid hO2
                have HY := Lib.hid hy
                clear hO2 hy r0 r1 r2 hn
                have hlt4 : i + 1 < l.length := by omega
                go_wp2
                go_roundw
                case rel =>
                  refine ⟨i + 1, d + 1, ys.set (i + 1) q', by go_num, by go_num, HM2.out, ?_, grown_set (grown_set (grown_set (grown_ext HWW.out HY.out) _ _) _ _) _ _⟩
                  have hset := set3_flatten (rowsP ys) (i + 1) (.int .i64 q'.x) (.int .i64 q'.y) (.int .i64 q'.z) (rowsP_rwk ys).len (by rw [rowsP_length, HYL.out]; omega)
                  rw [show rowsP (ys.set (i + 1) q') = (rowsP ys).set (i + 1) [.int .i64 q'.x, .int .i64 q'.y, .int .i64 q'.z] by simp [rowsP, List.map_set, Pt.cells], ← hset]
                  exact (((HO2.out.stored _ _).1.stored _ _).1.stored _ _).1
                case measure => simp [intOf]; omega
            · have hj : k + 1 + d + 1 = l.length := by omega
              have HRES := Lib.hid (show SortP (ys.take (i + 1)) ∧ ∀ q, q ∈ ys.take (i + 1) ↔ q ∈ l from ⟨HMM.out.srt, fun q => by rw [HMM.out.mem, hj, List.take_length]⟩)
              obtain ⟨cur, hbg2, hcur, hnc2, hcm2, hcl, htk⟩ := own_cur hO
              have HT := Lib.hid htk
              have HCL := Lib.hid hcl
              have HC := Lib.hid hcur
              obtain ⟨dd, hd⟩ : ∃ dd, l.length - (i + 1) = dd + 1 := ⟨l.length - (i + 1) - 1, by omega⟩
              have HD := Lib.hid hd
              have hic : ¬ c = i + 1 := by omega
              have hic2 : i + 1 ≤ l.length := by omega
              have hic3 : i + 1 ≤ c := by omega
              have hlt3 : ¬ (d + 1 < l.length - (k + 1)) := by omega
              clear hM hO hO' hW hyl htk hcl hcur hd
              go_wp2_with (with_reducible refine wpList_clear_rows (n := dd) rfl (.tmp 56) 31 rfl 23 3 (.agg #[.int .i64 0, .int .i64 0, .int .i64 0]) Tryd.underlying31 zeroPtV rfl ?h1 g ((i + 1) * 3) (c - (i + 1)) ?h2 cur 23 HC.out ?h3 ?_)
              case h1 => exact zeros_one _ _ (by decide) (fun i hi => by
                have : i < 3 := hi
                match i with
                | 0 => rfl
                | 1 => rfl
                | 2 => rfl
                | n + 3 => omega)
              case h2 => simp [go_sem, HD.out]
              case h3 => have := HCL.out; have := HD.out; omega
              have hil : i + 1 = (ys.take (i + 1)).length := by rw [List.length_take, HYL.out]; omega
              have HIL := Lib.hid hil; clear hil
              go_ret
              have hD := HD.out
              have hz : (Builtin.zeroCells #[Value.int .i64 0, Value.int .i64 0, Value.int .i64 0] (dd + 1)).toList.length = (dd + 1) * 3 := by rw [Array.length_toList, size_zeroCells]; rfl
              refine ⟨ys.take (i + 1), HRES.out.1, HRES.out.2, by rw [← HIL.out]; rfl, ?_, grown_row HWW.out _⟩
              rw [← HIL.out, rowsP_take, flatten_take (rowsP ys) (i + 1) (rowsP_rwk ys).len (by rw [rowsP_length, HYL.out]; omega)]
              refine own_of_cur hbg2 (setRow_heap wr g _ _ _ _ HC.out) (by omega) hcm2 (by rw [length_splice _ _ _ (by rw [hz, HCL.out]; omega)]; exact HCL.out) ?_
              rw [splice_take _ _ _ (by rw [HCL.out]; omega), ← HT.out, List.take_take]
              congr 1; omega
        · rw [decide_eq_false hqp] at hn
          have HSR2 := Lib.hid (show SortP (l.take (k + 1 + 1)) from by
            rw [take_snoc' HQ.out]
            have hbq : befP p q = true := befP_total (HL.out.at_ HP.out HQ.out (by omega)) hqp
            exact HSR.out.snoc fun x hx => by
              rcases HSR.out.last HP.out hx with rfl | hx
              · exact hbq
              · exact befP_trans hx hbq)
          clear hqp
          go_upto_region 6 with fail
          refine wp_region_near (by assumption) (by kernel_rfl) ?_
          repeat (go_big_quiet_step (fail))
          refine wpQuiet_nil ?_
          intro w1 hw1
          have hy := Ext.of_near hw1
          clear hw1
          have HX1 := Lib.hid (HX.out.trans hy)
          clear hy r0 r1 r2 s0 s1 s2 hn
          go_wp2
          go_roundw
          case rel => exact ⟨k + 1, by omega, by go_num, HSR2.out, HX1.out⟩
          case measure => simp [intOf]; omega
      · obtain hkl : k + 1 = l.length := by omega
        have HK := Lib.hid hkl
        go_wp2
        go_ret
        exact ⟨l, by have h := HSR.out; rw [HK.out, List.take_length] at h; exact h, fun q => Iff.rfl, rfl, own_ext HO.out HX.out, HX.out.by_ _⟩
end Go.Proofs.YtelhefjikdoihaaDoor

/- Contracts of slices.Clone at points, fill.Sorted, the reference's Sorted, Ranged. -/
namespace Go.Proofs.YtelhefjikdoihaaDoor
open Go Go.RowKit

/-- It hands back a row of its own that holds l; what was there is as it was. -/
def RetO (l : List Pt) (w : World) (en : Ending) (w' : World) : Prop :=
  ∃ v, en = .returned v ∧ w'.ownsRow w.heap.size 23 3 v l.length (rowsP l).flatten ∧ Ext w w'
set_option maxHeartbeats 1000000 in
theorem ClonePt_any (A : Option Addr) (c : Nat) (l : List Pt) (w : World) (hs : Sv w w.heap.size 3 A c (rowsP l)) (hb : l.length ≤ 100000) :
    Calls Tryd.prog 40 #[.slice A l.length c] w (RetO l w) := by
  have qT : ∀ (w : World) (a : Option Addr) (n c n' c' : Nat), (binOp .eql 31 (.slice a n c) (.slice none n' c')).run Tryd.prog w = .ok (.bool a.isNone) w := fun w a n c n' c' => Lib.run_eql_slice_nil w _ _ a n c n' c' Tryd.underlying31
  cases A with
  | none =>
    have hl : l = [] := by
      apply List.eq_nil_of_length_eq_zero
      rcases Nat.eq_zero_or_pos l.length with h | h
      · exact h
      · obtain ⟨_, _, h, _⟩ := hs.mem (by rw [rowsP_length]; exact h)
        cases h
    subst hl
    clear hs
    go_enter Tryd.func40, Tryd.ntmps40
    go_wp2
    go_ret
    exact ⟨_, rfl, World.ownsRow_nil _ _ _ _, Ext.refl _⟩
  | some ad =>
    have hx0 : Ext w (w.alloc (.cells #[] 23)) := (Ext.refl w).alloc _
    have HS := Lib.hid (hs.ext hx0)
    have HX := Lib.hid hx0
    obtain ⟨i0, hi, hz0, hz1, hz2⟩ := info_parts infoPt
    have HI := Lib.hid hi; have HZ := Lib.hid hz0; have HZ1 := Lib.hid hz1; have HZ2 := Lib.hid hz2; clear hi hz0 hz1 hz2 hs hx0
    go_enter Tryd.func40, Tryd.ntmps40
    go_upto_region 3 with fail
    go_wp2_with (at_builtin; refine wpList_append_sv _ rfl (.tmp 5) (.tmp 6) 31 rfl w.heap.size 23 i0 (.agg #[.int .i64 0, .int .i64 0, .int .i64 0]) 3 24 Tryd.underlying31 HI.out HZ.out HZ1.out HZ2.out rfl (by decide) _ 0 [] rfl (own_zero w 23 3) (w.alloc (.cells #[] 23)).heap.size (some ad) l.length c (rowsP l) rfl HS.out (by rw [rowsP_length]) (by unfold maxLen; omega) (by omega) HX.out.size ?_)
    intro v2 w2 g1 g2 _
    have hx2 : Ext w w2 := HX.out.grown g2 (own_low (own_zero w 23 3))
    obtain ⟨A1, m1, c1, rfl⟩ := store_form g1
    have HG := Lib.hid g1; have HX2 := Lib.hid hx2
    clear g1 g2 hx2
    go_wp2
    go_ret
    exact ⟨_, rfl, by simpa using HG.out, HX2.out⟩
theorem Compact_none (w : World) :
    Calls Tryd.prog 41 #[.slice none 0 0] w fun e w' => e = .returned (.slice none 0 0) ∧ w' = w := by
  go_enter Tryd.func41, Tryd.ntmps41
  go_wp2
  go_ret
  exact ⟨rfl, rfl⟩
/-- m is l in order, each once. -/
structure IsSorted (l m : List Pt) : Prop where
  sort : SortP m
  mem : ∀ q, q ∈ m ↔ q ∈ l
theorem IsSorted.uniq {l m m' : List Pt} (h : IsSorted l m) (k : IsSorted l m') : m = m' := h.sort.eq k.sort fun q => (h.mem q).trans (k.mem q).symm
theorem IsSorted.len {l m : List Pt} (h : IsSorted l m) : m.length ≤ l.length := nodup_sub h.sort.nodup (fun x hx => (h.mem x).1 hx)
def RetSo (l : List Pt) (w : World) (en : Ending) (w' : World) : Prop :=
  ∃ m v, IsSorted l m ∧ en = .returned v ∧ w'.ownsRow w.heap.size 23 3 v m.length (rowsP m).flatten ∧ Ext w w'
set_option maxHeartbeats 1000000 in
theorem fillSorted_any (A : Option Addr) (c : Nat) (l : List Pt) (w : World) (hs : Sv w w.heap.size 3 A c (rowsP l)) (hb : l.length ≤ 100000) :
    Calls Tryd.prog 19 #[.slice A l.length c] w (RetSo l w) := by
  have HC := Lib.hid (ClonePt_any A c l w hs hb)
  clear hs
  go_enter Tryd.func19, Tryd.ntmps19
  go_upto_region 2 with (go_at_call 40; refine HC.out.mono ?_; rintro e w1 ⟨v, rfl, ho, hx⟩)
  have HSO := Lib.hid (SortPt_any l v w.heap.size w1 ho hb)
  have HO := Lib.hid ho; have HX := Lib.hid hx
  clear ho hx
  rcases HO.out.2 with ⟨rfl, h0⟩ | ⟨g, cap, cur, rfl, hg, hgg, _⟩
  · have hl : l = [] := List.eq_nil_of_length_eq_zero h0
    subst hl
    go_upto_region 3 with (go_at_call 33; refine HSO.out.mono ?_; rintro e w2 ⟨rfl, ho2, hg2⟩)
    go_wp2_with (go_at_call 41; refine (Compact_none _).mono ?_; rintro e w3 ⟨rfl, rfl⟩)
    go_ret
    exact ⟨[], _, ⟨List.Pairwise.nil, fun q => Iff.rfl⟩, rfl, World.ownsRow_nil _ _ _ _, HX.out.grown hg2 (fun k hk => by simp [Value.ownBlock] at hk)⟩
  · clear hgg
    go_upto_region 3 with (go_at_call 33; refine HSO.out.mono ?_; rintro e w2 ⟨rfl, ho2, hg2⟩)
    have hsl := sortL_length l
    have HCO := Lib.hid (Compact_own g cap w.heap.size (sortL l) w2 (by rw [hsl]; exact ho2) (sortL_le l) (by omega))
    rw [hsl] at HCO
    have HX2 := Lib.hid (show Ext w w2 from HX.out.grown hg2 (own_low HO.out))
    clear ho2 hg2 hsl
    go_wp2_with (go_at_call 41; refine HCO.out.mono ?_; rintro e w3 ⟨m, h1, h2, rfl, ho3, hg3⟩)
    go_ret
    exact ⟨m, _, ⟨h1, fun q => (h2 q).trans (sortL_mem l q)⟩, rfl, ho3, HX2.out.grown hg3 (fun k hk => by injection hk with hk; omega)⟩
set_option maxHeartbeats 2000000 in
theorem refSorted_any (A : Option Addr) (c : Nat) (l : List Pt) (w : World) (hs : Sv w w.heap.size 3 A c (rowsP l)) (hb : l.length ≤ 100000) :
    Calls Tryd.prog 20 #[.slice A l.length c] w fun e w' => ∃ m, IsSorted l m ∧ RetP m w e w' := by
  have HS := Lib.hid hs; clear hs
  go_enter Tryd.func20, Tryd.ntmps20
  go_wp2
  go_loopw [3, 4] (fun ov i wr => ∃ (o : List Pt) (A' : Option Addr) (c' k : Nat), ov = .slice A' o.length c' ∧ i = .int .i64 k ∧ k ≤ l.length ∧ Sv wr wr.heap.size 3 A' c' (rowsP o) ∧ IsSorted (l.take k) o ∧ Ext w wr) (fun _ i _ => l.length - (intOf i).toNat)
  case atStart => exact ⟨[], none, 0, 0, rfl, rfl, Nat.zero_le _, Sv.nil _ _ _, ⟨List.Pairwise.nil, fun q => by simp⟩, Ext.refl _⟩
  case round =>
    obtain ⟨o, A', c', k, rfl, rfl, hk, hso, ho, hx⟩ := hrel
    have hol := ho.len
    have htl := List.length_take_le k l
    have HSO := Lib.hid hso; have HO := Lib.hid ho; have HX := Lib.hid hx
    clear hso ho
    by_cases hlt : k < l.length
    · obtain ⟨p, hp⟩ : ∃ p, l[k]? = some p := ⟨_, List.getElem?_eq_getElem hlt⟩
      obtain ⟨b', off, rfl, hbl, r0, r1, r2⟩ := pt_row (HS.out.ext hx) hp
      have HP := Lib.hid hp
      have HPUT := Lib.hid (Put_any A' c' o p wr HSO.out (by omega))
      clear hp hx
      go_wp2_with (go_at_call 39; refine HPUT.out.mono ?_; rintro e W7 ⟨A7, c7, rfl, s7, x7⟩)
      have HX7 := Lib.hid (HX.out.trans x7); have HS7 := Lib.hid s7
      clear x7 s7
      go_roundw
      case rel =>
        refine ⟨putL o p, A7, c7, k + 1, rfl, by go_num, by omega, HS7.out, ⟨?_, fun q => ?_⟩, HX7.out⟩
        · rw [putL_ins]; exact insP_sort _ _ HO.out.sort
        · rw [putL_ins, insP_mem, HO.out.mem, take_snoc' HP.out, List.mem_append]
          simp [or_comm]
      case measure => simp [intOf]; omega
    · obtain rfl : k = l.length := by omega
      go_wp2
      go_ret
      exact ⟨o, ⟨HO.out.sort, fun q => by rw [HO.out.mem, List.take_length]⟩, A', c', rfl, HSO.out, HX.out⟩
def rngQ (p : Pt) : Bool := !(decide (1000 < max p.x (max p.y p.z)) || decide (min p.x (min p.y p.z) < -1000))
set_option maxHeartbeats 2000000 in
theorem Ranged_any (A : Option Addr) (c : Nat) (l : List Pt) (w : World) (hs : Sv w w.heap.size 3 A c (rowsP l)) :
    Calls Tryd.prog 18 #[.slice A l.length c] w fun e w' => e = .returned (.bool (l.all rngQ && decide (l.length ≤ 60))) ∧ Ext w w' := by
  have hln : l.length ≤ 9223372036854775807 := by have h := hs.len; rw [rowsP_length] at h; exact h
  have HS := Lib.hid hs; clear hs
  go_enter Tryd.func18, Tryd.ntmps18
  go_wp2
  go_loopw [3] (fun i wr => ∃ k : Nat, i = .int .i64 k ∧ k ≤ l.length ∧ (∀ (i : Nat) (y : Pt), i < k → l[i]? = some y → (!rngQ y) = false) ∧ Ext w wr) (fun i _ => l.length - (intOf i).toNat)
  case atStart => exact ⟨0, rfl, Nat.zero_le _, fun i y hi => absurd hi (by omega), Ext.refl _⟩
  case round =>
    obtain ⟨k, rfl, hk, hno, hx⟩ := hrel
    have HNO := Lib.hid hno; have HX := Lib.hid hx
    clear hno
    by_cases hlt : k < l.length
    · obtain ⟨p, hp⟩ : ∃ p, l[k]? = some p := ⟨_, List.getElem?_eq_getElem hlt⟩
      obtain ⟨b', off, rfl, hbl, r0, r1, r2⟩ := pt_row (HS.out.ext hx) hp
      have HP := Lib.hid hp
      clear hp hx
      by_cases h1 : 1000 < max p.x (max p.y p.z)
      · have hd1 : decide (1000 < max p.x (max p.y p.z)) = true := by simpa using h1
        have HR := Lib.hid (show (!rngQ p) = true by unfold rngQ; rw [hd1]; rfl)
        clear h1
        go_wp2
        go_ret
        refine ⟨ret_bool ?_, HX.out.alloc _⟩
        rw [show l.all rngQ = false from by rw [← Bool.not_eq_true, List.all_eq_true]; intro h; have := h p (List.mem_of_getElem? HP.out); rw [this] at HR; exact absurd HR.out (by simp)]
        rfl
      · have hd1 : decide (1000 < max p.x (max p.y p.z)) = false := by simpa using h1
        by_cases h2 : min p.x (min p.y p.z) < -1000
        · have hd2 : decide (min p.x (min p.y p.z) < -1000) = true := by simpa using h2
          have HR := Lib.hid (show (!rngQ p) = true by unfold rngQ; rw [hd2]; simp)
          clear h1 h2
          go_wp2
          go_ret
          refine ⟨ret_bool ?_, HX.out.alloc _⟩
          rw [show l.all rngQ = false from by rw [← Bool.not_eq_true, List.all_eq_true]; intro h; have := h p (List.mem_of_getElem? HP.out); rw [this] at HR; exact absurd HR.out (by simp)]
          rfl
        · have hd2 : decide (min p.x (min p.y p.z) < -1000) = false := by simpa using h2
          have HR := Lib.hid (show (!rngQ p) = false by unfold rngQ; rw [hd1, hd2]; rfl)
          clear h1 h2
          go_wp2
          go_roundw
          case rel => exact ⟨k + 1, by go_num, by omega, no_snoc (f := fun y => !rngQ y) HNO.out HP.out HR.out, HX.out.alloc _⟩
          case measure => simp [intOf]; omega
    · obtain rfl : k = l.length := by omega
      have HALL := Lib.hid (show l.all rngQ = true by
        rw [List.all_eq_true]
        intro x hx
        obtain ⟨i, hi⟩ := List.getElem?_of_mem hx
        have := HNO.out i x (List.getElem?_eq_some_iff.1 hi).1 hi
        simpa using this)
      go_wp2
      go_ret
      refine ⟨ret_bool ?_, HX.out⟩
      rw [HALL.out, Bool.true_and, Bool.eq_iff_iff]
      simp
      try omega
end Go.Proofs.YtelhefjikdoihaaDoor

/- Contracts of point.Hull, fill.Hull, the reference's Hull. -/
namespace Go.Proofs.YtelhefjikdoihaaDoor
open Go Go.RowKit

def joinB (a b : Bx) : Bx := ⟨⟨min a.lo.x b.lo.x, min a.lo.y b.lo.y, min a.lo.z b.lo.z⟩, ⟨max a.hi.x b.hi.x, max a.hi.y b.hi.y, max a.hi.z b.hi.z⟩⟩
set_option maxRecDepth 100000 in
set_option maxHeartbeats 2000000 in
theorem pointHull_two (a b : Bx) (w : World) (ha : emptyB a = false) (hb : emptyB b = false) :
    Calls Tryd.prog 42 #[.agg #[.int .i64 a.lo.x, .int .i64 a.lo.y, .int .i64 a.lo.z, .int .i64 a.hi.x, .int .i64 a.hi.y, .int .i64 a.hi.z], .agg #[.int .i64 b.lo.x, .int .i64 b.lo.y, .int .i64 b.lo.z, .int .i64 b.hi.x, .int .i64 b.hi.y, .int .i64 b.hi.z]] w fun e w' => e = .returned (.agg #[.int .i64 (joinB a b).lo.x, .int .i64 (joinB a b).lo.y, .int .i64 (joinB a b).lo.z, .int .i64 (joinB a b).hi.x, .int .i64 (joinB a b).hi.y, .int .i64 (joinB a b).hi.z]) ∧ Ext w w' := by
  have HA := Lib.hid (fun w' => ha ▸ Empty_any a w')
  have HB := Lib.hid (fun w' => hb ▸ Empty_any b w')
  clear ha hb
  have X0 := ((Arr.new w 25 [.int .i64 a.lo.x, .int .i64 a.lo.y, .int .i64 a.lo.z, .int .i64 a.hi.x, .int .i64 a.hi.y, .int .i64 a.hi.z]).alloc (.cells #[.int .i64 b.lo.x, .int .i64 b.lo.y, .int .i64 b.lo.z, .int .i64 b.hi.x, .int .i64 b.hi.y, .int .i64 b.hi.z] 25)).alloc (.cells #[.int .i64 zeroBx.lo.x, .int .i64 zeroBx.lo.y, .int .i64 zeroBx.lo.z, .int .i64 zeroBx.hi.x, .int .i64 zeroBx.hi.y, .int .i64 zeroBx.hi.z] 25)
  have X1 := (Arr.new (w.alloc (.cells #[.int .i64 a.lo.x, .int .i64 a.lo.y, .int .i64 a.lo.z, .int .i64 a.hi.x, .int .i64 a.hi.y, .int .i64 a.hi.z] 25)) 25 [.int .i64 b.lo.x, .int .i64 b.lo.y, .int .i64 b.lo.z, .int .i64 b.hi.x, .int .i64 b.hi.y, .int .i64 b.hi.z]).alloc (.cells #[.int .i64 zeroBx.lo.x, .int .i64 zeroBx.lo.y, .int .i64 zeroBx.lo.z, .int .i64 zeroBx.hi.x, .int .i64 zeroBx.hi.y, .int .i64 zeroBx.hi.z] 25)
  have X2 := Arr.new ((w.alloc (.cells #[.int .i64 a.lo.x, .int .i64 a.lo.y, .int .i64 a.lo.z, .int .i64 a.hi.x, .int .i64 a.hi.y, .int .i64 a.hi.z] 25)).alloc (.cells #[.int .i64 b.lo.x, .int .i64 b.lo.y, .int .i64 b.lo.z, .int .i64 b.hi.x, .int .i64 b.hi.y, .int .i64 b.hi.z] 25)) 25 [.int .i64 zeroBx.lo.x, .int .i64 zeroBx.lo.y, .int .i64 zeroBx.lo.z, .int .i64 zeroBx.hi.x, .int .i64 zeroBx.hi.y, .int .i64 zeroBx.hi.z]
  simp only [World.size_alloc_] at X1 X2
  have hx0 : Ext w (((w.alloc (.cells #[.int .i64 a.lo.x, .int .i64 a.lo.y, .int .i64 a.lo.z, .int .i64 a.hi.x, .int .i64 a.hi.y, .int .i64 a.hi.z] 25)).alloc (.cells #[.int .i64 b.lo.x, .int .i64 b.lo.y, .int .i64 b.lo.z, .int .i64 b.hi.x, .int .i64 b.hi.y, .int .i64 b.hi.z] 25)).alloc (.cells #[.int .i64 zeroBx.lo.x, .int .i64 zeroBx.lo.y, .int .i64 zeroBx.lo.z, .int .i64 zeroBx.hi.x, .int .i64 zeroBx.hi.y, .int .i64 zeroBx.hi.z] 25)) := (((Ext.refl w).alloc _).alloc _).alloc _
  have HX0 := Lib.hid X0; have HX1 := Lib.hid X1; have HX2 := Lib.hid X2; have HW := Lib.hid hx0
  clear X0 X1 X2 hx0
  go_enter Tryd.func42, Tryd.ntmps42
  go_upto_region 1 with fail
  obtain ⟨W0, hW⟩ : ∃ W, W = ((w.alloc (.cells #[.int .i64 a.lo.x, .int .i64 a.lo.y, .int .i64 a.lo.z, .int .i64 a.hi.x, .int .i64 a.hi.y, .int .i64 a.hi.z] 25)).alloc (.cells #[.int .i64 b.lo.x, .int .i64 b.lo.y, .int .i64 b.lo.z, .int .i64 b.hi.x, .int .i64 b.hi.y, .int .i64 b.hi.z] 25)).alloc (.cells #[.int .i64 zeroBx.lo.x, .int .i64 zeroBx.lo.y, .int .i64 zeroBx.lo.z, .int .i64 zeroBx.hi.x, .int .i64 zeroBx.hi.y, .int .i64 zeroBx.hi.z] 25) := ⟨_, rfl⟩
  have hW' : W0 = ((w.alloc (.cells #[.int .i64 a.lo.x, .int .i64 a.lo.y, .int .i64 a.lo.z, .int .i64 a.hi.x, .int .i64 a.hi.y, .int .i64 a.hi.z] 25)).alloc (.cells #[.int .i64 b.lo.x, .int .i64 b.lo.y, .int .i64 b.lo.z, .int .i64 b.hi.x, .int .i64 b.hi.y, .int .i64 b.hi.z] 25)).alloc (.cells #[.int .i64 0, .int .i64 0, .int .i64 0, .int .i64 0, .int .i64 0, .int .i64 0] 25) := hW
  rw [← hW] at HX0 HX1 HX2 HW
  rw [← hW']
  clear hW hW'
  go_upto_region 3 with (first
    | (refine wpList_load_blk 25 (.tmp 2) rfl rfl HX0.out rfl _ Tryd.underlying25 rfl (by kernel_rfl) ?_)
    | (go_at_call 61; refine (HA.out _).mono ?_; rintro e W1 ⟨rfl, x1⟩))
  have HX0 := Lib.hid (HX0.out.ext x1); have HX1 := Lib.hid (HX1.out.ext x1); have HX2 := Lib.hid (HX2.out.ext x1); have HW := Lib.hid (HW.out.trans x1)
  clear x1
  go_upto_region 5 with (first
    | (refine wpList_load_blk 25 (.tmp 2) rfl rfl HX0.out rfl _ Tryd.underlying25 rfl (by kernel_rfl) ?_)
    | (go_at_call 61; refine (HA.out _).mono ?_; rintro e W2 ⟨rfl, x1⟩))
  have HX0 := Lib.hid (HX0.out.ext x1); have HX1 := Lib.hid (HX1.out.ext x1); have HX2 := Lib.hid (HX2.out.ext x1); have HW := Lib.hid (HW.out.trans x1)
  clear x1
  go_upto_region 7 with (first
    | (refine wpList_load_blk 25 (.tmp 3) rfl rfl HX1.out rfl _ Tryd.underlying25 rfl (by kernel_rfl) ?_)
    | (go_at_call 61; refine (HB.out _).mono ?_; rintro e W3 ⟨rfl, x1⟩))
  have HX0 := Lib.hid (HX0.out.ext x1); have HX1 := Lib.hid (HX1.out.ext x1); have HX2 := Lib.hid (HX2.out.ext x1); have HW := Lib.hid (HW.out.trans x1)
  clear x1
  go_wp2_with (first
    | (refine wpList_load_blk 25 (.tmp 2) rfl rfl HX0.out rfl _ Tryd.underlying25 rfl (by kernel_rfl) ?_)
    | (refine wpList_load_blk 25 (.tmp 3) rfl rfl HX1.out rfl _ Tryd.underlying25 rfl (by kernel_rfl) ?_)
    | (go_at_call 62; refine (join_any a b _ _ min max two_lesser two_greater _).mono ?_; rintro e W4 ⟨rfl, x1⟩; have HX2 := Lib.hid (HX2.out.ext x1); have HW := Lib.hid (HW.out.trans x1); clear x1)
    | (refine wpList_store_blk 25 (.tmp 4) (.tmp 23) rfl rfl HX2.out [.int .i64 (joinB a b).lo.x, .int .i64 (joinB a b).lo.y, .int .i64 (joinB a b).lo.z, .int .i64 (joinB a b).hi.x, .int .i64 (joinB a b).hi.y, .int .i64 (joinB a b).hi.z] rfl rfl (by kernel_rfl) rfl rfl ?_))
  have hfin := HX2.out.setRow [.int .i64 (joinB a b).lo.x, .int .i64 (joinB a b).lo.y, .int .i64 (joinB a b).lo.z, .int .i64 (joinB a b).hi.x, .int .i64 (joinB a b).hi.y, .int .i64 (joinB a b).hi.z]
  have hxf := HW.out.setRow (g := w.heap.size + 1 + 1) (by omega) ([.int .i64 (joinB a b).lo.x, .int .i64 (joinB a b).lo.y, .int .i64 (joinB a b).lo.z, .int .i64 (joinB a b).hi.x, .int .i64 (joinB a b).hi.y, .int .i64 (joinB a b).hi.z] : List Value).toArray
  refine bodyPost_ret (v := .agg #[.int .i64 (joinB a b).lo.x, .int .i64 (joinB a b).lo.y, .int .i64 (joinB a b).lo.z, .int .i64 (joinB a b).hi.x, .int .i64 (joinB a b).hi.y, .int .i64 (joinB a b).hi.z]) ?_ rfl ⟨rfl, hxf⟩
  exact results_cell_row Tryd.results42 _ _ _ _ _ _ _ rfl hfin Tryd.underlying25 rfl (by kernel_rfl)
set_option maxRecDepth 100000 in
set_option maxHeartbeats 2000000 in
theorem pointHull_one (a b : Bx) (w : World) (ha : emptyB a = true) (hb : emptyB b = false) :
    Calls Tryd.prog 42 #[.agg #[.int .i64 a.lo.x, .int .i64 a.lo.y, .int .i64 a.lo.z, .int .i64 a.hi.x, .int .i64 a.hi.y, .int .i64 a.hi.z], .agg #[.int .i64 b.lo.x, .int .i64 b.lo.y, .int .i64 b.lo.z, .int .i64 b.hi.x, .int .i64 b.hi.y, .int .i64 b.hi.z]] w fun e w' => e = .returned (.agg #[.int .i64 (b).lo.x, .int .i64 (b).lo.y, .int .i64 (b).lo.z, .int .i64 (b).hi.x, .int .i64 (b).hi.y, .int .i64 (b).hi.z]) ∧ Ext w w' := by
  have HA := Lib.hid (fun w' => ha ▸ Empty_any a w')
  have HB := Lib.hid (fun w' => hb ▸ Empty_any b w')
  clear ha hb
  have X0 := ((Arr.new w 25 [.int .i64 a.lo.x, .int .i64 a.lo.y, .int .i64 a.lo.z, .int .i64 a.hi.x, .int .i64 a.hi.y, .int .i64 a.hi.z]).alloc (.cells #[.int .i64 b.lo.x, .int .i64 b.lo.y, .int .i64 b.lo.z, .int .i64 b.hi.x, .int .i64 b.hi.y, .int .i64 b.hi.z] 25)).alloc (.cells #[.int .i64 zeroBx.lo.x, .int .i64 zeroBx.lo.y, .int .i64 zeroBx.lo.z, .int .i64 zeroBx.hi.x, .int .i64 zeroBx.hi.y, .int .i64 zeroBx.hi.z] 25)
  have X1 := (Arr.new (w.alloc (.cells #[.int .i64 a.lo.x, .int .i64 a.lo.y, .int .i64 a.lo.z, .int .i64 a.hi.x, .int .i64 a.hi.y, .int .i64 a.hi.z] 25)) 25 [.int .i64 b.lo.x, .int .i64 b.lo.y, .int .i64 b.lo.z, .int .i64 b.hi.x, .int .i64 b.hi.y, .int .i64 b.hi.z]).alloc (.cells #[.int .i64 zeroBx.lo.x, .int .i64 zeroBx.lo.y, .int .i64 zeroBx.lo.z, .int .i64 zeroBx.hi.x, .int .i64 zeroBx.hi.y, .int .i64 zeroBx.hi.z] 25)
  have X2 := Arr.new ((w.alloc (.cells #[.int .i64 a.lo.x, .int .i64 a.lo.y, .int .i64 a.lo.z, .int .i64 a.hi.x, .int .i64 a.hi.y, .int .i64 a.hi.z] 25)).alloc (.cells #[.int .i64 b.lo.x, .int .i64 b.lo.y, .int .i64 b.lo.z, .int .i64 b.hi.x, .int .i64 b.hi.y, .int .i64 b.hi.z] 25)) 25 [.int .i64 zeroBx.lo.x, .int .i64 zeroBx.lo.y, .int .i64 zeroBx.lo.z, .int .i64 zeroBx.hi.x, .int .i64 zeroBx.hi.y, .int .i64 zeroBx.hi.z]
  simp only [World.size_alloc_] at X1 X2
  have hx0 : Ext w (((w.alloc (.cells #[.int .i64 a.lo.x, .int .i64 a.lo.y, .int .i64 a.lo.z, .int .i64 a.hi.x, .int .i64 a.hi.y, .int .i64 a.hi.z] 25)).alloc (.cells #[.int .i64 b.lo.x, .int .i64 b.lo.y, .int .i64 b.lo.z, .int .i64 b.hi.x, .int .i64 b.hi.y, .int .i64 b.hi.z] 25)).alloc (.cells #[.int .i64 zeroBx.lo.x, .int .i64 zeroBx.lo.y, .int .i64 zeroBx.lo.z, .int .i64 zeroBx.hi.x, .int .i64 zeroBx.hi.y, .int .i64 zeroBx.hi.z] 25)) := (((Ext.refl w).alloc _).alloc _).alloc _
  have HX0 := Lib.hid X0; have HX1 := Lib.hid X1; have HX2 := Lib.hid X2; have HW := Lib.hid hx0
  clear X0 X1 X2 hx0
  go_enter Tryd.func42, Tryd.ntmps42
  go_upto_region 1 with fail
  obtain ⟨W0, hW⟩ : ∃ W, W = ((w.alloc (.cells #[.int .i64 a.lo.x, .int .i64 a.lo.y, .int .i64 a.lo.z, .int .i64 a.hi.x, .int .i64 a.hi.y, .int .i64 a.hi.z] 25)).alloc (.cells #[.int .i64 b.lo.x, .int .i64 b.lo.y, .int .i64 b.lo.z, .int .i64 b.hi.x, .int .i64 b.hi.y, .int .i64 b.hi.z] 25)).alloc (.cells #[.int .i64 zeroBx.lo.x, .int .i64 zeroBx.lo.y, .int .i64 zeroBx.lo.z, .int .i64 zeroBx.hi.x, .int .i64 zeroBx.hi.y, .int .i64 zeroBx.hi.z] 25) := ⟨_, rfl⟩
  have hW' : W0 = ((w.alloc (.cells #[.int .i64 a.lo.x, .int .i64 a.lo.y, .int .i64 a.lo.z, .int .i64 a.hi.x, .int .i64 a.hi.y, .int .i64 a.hi.z] 25)).alloc (.cells #[.int .i64 b.lo.x, .int .i64 b.lo.y, .int .i64 b.lo.z, .int .i64 b.hi.x, .int .i64 b.hi.y, .int .i64 b.hi.z] 25)).alloc (.cells #[.int .i64 0, .int .i64 0, .int .i64 0, .int .i64 0, .int .i64 0, .int .i64 0] 25) := hW
  rw [← hW] at HX0 HX1 HX2 HW
  rw [← hW']
  clear hW hW'
  go_upto_region 3 with (first
    | (refine wpList_load_blk 25 (.tmp 2) rfl rfl HX0.out rfl _ Tryd.underlying25 rfl (by kernel_rfl) ?_)
    | (refine wpList_load_blk 25 (.tmp 3) rfl rfl HX1.out rfl _ Tryd.underlying25 rfl (by kernel_rfl) ?_)
    | (go_at_call 61; with_reducible refine (HA.out _).mono ?_; rintro e W1 ⟨rfl, x1⟩; have HX0 := Lib.hid (HX0.out.ext x1); have HX1 := Lib.hid (HX1.out.ext x1); have HX2 := Lib.hid (HX2.out.ext x1); have HW := Lib.hid (HW.out.trans x1); clear x1)
    | (go_at_call 61; with_reducible refine (HB.out _).mono ?_; rintro e W1 ⟨rfl, x1⟩; have HX0 := Lib.hid (HX0.out.ext x1); have HX1 := Lib.hid (HX1.out.ext x1); have HX2 := Lib.hid (HX2.out.ext x1); have HW := Lib.hid (HW.out.trans x1); clear x1))
  go_upto_region 4 with (first
    | (refine wpList_load_blk 25 (.tmp 2) rfl rfl HX0.out rfl _ Tryd.underlying25 rfl (by kernel_rfl) ?_)
    | (go_at_call 61; refine (HA.out _).mono ?_; rintro e W3 ⟨rfl, x1⟩; have HX0 := Lib.hid (HX0.out.ext x1); have HX1 := Lib.hid (HX1.out.ext x1); have HX2 := Lib.hid (HX2.out.ext x1); have HW := Lib.hid (HW.out.trans x1); clear x1))
  go_wp2_with (first
    | (refine wpList_load_blk 25 (.tmp 3) rfl rfl HX1.out rfl _ Tryd.underlying25 rfl (by kernel_rfl) ?_)
    | (refine wpList_store_blk 25 (.tmp 4) (.tmp 16) rfl rfl HX2.out [.int .i64 b.lo.x, .int .i64 b.lo.y, .int .i64 b.lo.z, .int .i64 b.hi.x, .int .i64 b.hi.y, .int .i64 b.hi.z] rfl rfl (by kernel_rfl) rfl rfl ?_))
  have hfin := HX2.out.setRow [.int .i64 b.lo.x, .int .i64 b.lo.y, .int .i64 b.lo.z, .int .i64 b.hi.x, .int .i64 b.hi.y, .int .i64 b.hi.z]
  have hxf := HW.out.setRow (g := w.heap.size + 1 + 1) (by omega) ([.int .i64 b.lo.x, .int .i64 b.lo.y, .int .i64 b.lo.z, .int .i64 b.hi.x, .int .i64 b.hi.y, .int .i64 b.hi.z] : List Value).toArray
  refine bodyPost_ret (v := .agg #[.int .i64 b.lo.x, .int .i64 b.lo.y, .int .i64 b.lo.z, .int .i64 b.hi.x, .int .i64 b.hi.y, .int .i64 b.hi.z]) ?_ rfl ⟨rfl, hxf⟩
  exact results_cell_row Tryd.results42 _ _ _ _ _ _ _ rfl hfin Tryd.underlying25 rfl (by kernel_rfl)
def oneB (p : Pt) : Bx := ⟨p, addP p ⟨1, 1, 1⟩⟩
def hstep (b : Option Bx) (p : Pt) : Option Bx := match b with | none => some (oneB p) | some b => some (joinB b (oneB p))
def hullO (l : List Pt) : Option Bx := l.foldl hstep none
def hullL (l : List Pt) : Bx := (hullO l).getD zeroBx
theorem oneB_full {p : Pt} (h : Small p) : oneB p = ⟨p, ⟨p.x + 1, p.y + 1, p.z + 1⟩⟩ := by
  unfold Small at h
  unfold oneB addP
  rw [wrap_small (x := p.x + _) (by simp only; omega), wrap_small (x := p.y + _) (by simp only; omega), wrap_small (x := p.z + _) (by simp only; omega)]
def Full (b : Bx) : Prop := b.lo.x < b.hi.x ∧ b.lo.y < b.hi.y ∧ b.lo.z < b.hi.z
theorem Full.empty {b : Bx} (h : Full b) : emptyB b = false := by
  unfold Full at h
  simp [emptyB, inP, h]
theorem oneB_Full {p : Pt} (h : Small p) : Full (oneB p) := by rw [oneB_full h]; unfold Full; simp only; omega
theorem joinB_Full {a b : Bx} (ha : Full a) (hb : Full b) : Full (joinB a b) := by
  unfold Full joinB at *
  simp only
  omega
theorem hullO_take {l : List Pt} {k : Nat} {p : Pt} (h : l[k]? = some p) : hullO (l.take (k + 1)) = hstep (hullO (l.take k)) p := by
  unfold hullO
  rw [take_snoc' h, List.foldl_append]
  rfl
theorem hullO_Full {l : List Pt} (h : ∀ p, p ∈ l → Small p) : ∀ b, hullO l = some b → Full b := by
  have key : ∀ (l : List Pt) (o : Option Bx), (∀ p, p ∈ l → Small p) → (∀ b, o = some b → Full b) → ∀ b, l.foldl hstep o = some b → Full b := by
    intro l
    induction l with
    | nil => intro o _ ho b hb; exact ho b hb
    | cons x xs ih =>
      intro o hs ho b hb
      refine ih (hstep o x) (fun p hp => hs p (List.mem_cons_of_mem _ hp)) (fun c hc => ?_) b hb
      have hx := oneB_Full (hs x (List.mem_cons_self ..))
      cases o with
      | none => injection hc with hc; subst hc; exact hx
      | some d => injection hc with hc; subst hc; exact joinB_Full (ho d rfl) hx
  exact key l none h (fun b hb => by cases hb)
theorem hullO_some {l : List Pt} {k : Nat} (hk : 0 < k) (hl : k ≤ l.length) : ∃ b, hullO (l.take k) = some b := by
  obtain ⟨k, rfl⟩ : ∃ j, k = j + 1 := ⟨k - 1, by omega⟩
  obtain ⟨p, hp⟩ : ∃ p, l[k]? = some p := ⟨_, List.getElem?_eq_getElem (by omega)⟩
  rw [hullO_take hp]
  cases hullO (l.take k) with
  | none => exact ⟨_, rfl⟩
  | some b => exact ⟨_, rfl⟩
theorem pointHull_step (l : List Pt) (k : Nat) (p : Pt) (h : l[k]? = some p) (hs : ∀ p, p ∈ l → Small p) (w : World) :
    Calls Tryd.prog 42 #[.agg #[.int .i64 (hullL (l.take k)).lo.x, .int .i64 (hullL (l.take k)).lo.y, .int .i64 (hullL (l.take k)).lo.z, .int .i64 (hullL (l.take k)).hi.x, .int .i64 (hullL (l.take k)).hi.y, .int .i64 (hullL (l.take k)).hi.z], .agg #[.int .i64 (oneB p).lo.x, .int .i64 (oneB p).lo.y, .int .i64 (oneB p).lo.z, .int .i64 (oneB p).hi.x, .int .i64 (oneB p).hi.y, .int .i64 (oneB p).hi.z]] w fun e w' => e = .returned (.agg #[.int .i64 (hullL (l.take (k + 1))).lo.x, .int .i64 (hullL (l.take (k + 1))).lo.y, .int .i64 (hullL (l.take (k + 1))).lo.z, .int .i64 (hullL (l.take (k + 1))).hi.x, .int .i64 (hullL (l.take (k + 1))).hi.y, .int .i64 (hullL (l.take (k + 1))).hi.z]) ∧ Ext w w' := by
  have hp := oneB_Full (hs p (List.mem_of_getElem? h))
  have hf := hullO_Full (l := l.take k) (fun p hp => hs p (List.mem_of_mem_take hp))
  unfold hullL
  rw [hullO_take h]
  cases ho : hullO (l.take k) with
  | none => exact pointHull_one zeroBx (oneB p) w (by decide) hp.empty
  | some b => exact pointHull_two b (oneB p) w (hf b ho).empty hp.empty
end Go.Proofs.YtelhefjikdoihaaDoor

/- Contracts of fill.Hull and the reference's Hull. -/
namespace Go.Proofs.YtelhefjikdoihaaDoor
open Go Go.RowKit

set_option maxRecDepth 100000 in
set_option maxHeartbeats 4000000 in
theorem fillHull_any (A : Option Addr) (c : Nat) (l : List Pt) (w : World) (hs : Sv w w.heap.size 3 A c (rowsP l)) (hsm : ∀ p, p ∈ l → Small p) :
    Calls Tryd.prog 24 #[.slice A l.length c] w fun e w' => e = .returned (.agg #[.int .i64 (hullL l).lo.x, .int .i64 (hullL l).lo.y, .int .i64 (hullL l).lo.z, .int .i64 (hullL l).hi.x, .int .i64 (hullL l).hi.y, .int .i64 (hullL l).hi.z]) ∧ Ext w w' := by
  have hm := mixed
  have hG := near_old
  have hln : l.length ≤ 9223372036854775807 := by have h := hs.len; rw [rowsP_length] at h; exact h
  have HS := Lib.hid hs; have HSM := Lib.hid hsm
  clear hs hsm
  have X0 := (Arr.new w 25 [.int .i64 zeroBx.lo.x, .int .i64 zeroBx.lo.y, .int .i64 zeroBx.lo.z, .int .i64 zeroBx.hi.x, .int .i64 zeroBx.hi.y, .int .i64 zeroBx.hi.z]).alloc (.cells #[.int .i64 zeroBx.lo.x, .int .i64 zeroBx.lo.y, .int .i64 zeroBx.lo.z, .int .i64 zeroBx.hi.x, .int .i64 zeroBx.hi.y, .int .i64 zeroBx.hi.z] 25)
  have X1 := Arr.new (w.alloc (.cells #[.int .i64 zeroBx.lo.x, .int .i64 zeroBx.lo.y, .int .i64 zeroBx.lo.z, .int .i64 zeroBx.hi.x, .int .i64 zeroBx.hi.y, .int .i64 zeroBx.hi.z] 25)) 25 [.int .i64 zeroBx.lo.x, .int .i64 zeroBx.lo.y, .int .i64 zeroBx.lo.z, .int .i64 zeroBx.hi.x, .int .i64 zeroBx.hi.y, .int .i64 zeroBx.hi.z]
  simp only [World.size_alloc_] at X1
  have hx0 : Ext w ((w.alloc (.cells #[.int .i64 zeroBx.lo.x, .int .i64 zeroBx.lo.y, .int .i64 zeroBx.lo.z, .int .i64 zeroBx.hi.x, .int .i64 zeroBx.hi.y, .int .i64 zeroBx.hi.z] 25)).alloc (.cells #[.int .i64 zeroBx.lo.x, .int .i64 zeroBx.lo.y, .int .i64 zeroBx.lo.z, .int .i64 zeroBx.hi.x, .int .i64 zeroBx.hi.y, .int .i64 zeroBx.hi.z] 25)) := ((Ext.refl w).alloc _).alloc _
  have HX0 := Lib.hid X0; have HX1 := Lib.hid X1; have HW := Lib.hid hx0
  clear X0 X1 hx0
  go_enter Tryd.func24, Tryd.ntmps24
  go_upto_region 2 with fail
  obtain ⟨W0, hW⟩ : ∃ W, W = (w.alloc (.cells #[.int .i64 zeroBx.lo.x, .int .i64 zeroBx.lo.y, .int .i64 zeroBx.lo.z, .int .i64 zeroBx.hi.x, .int .i64 zeroBx.hi.y, .int .i64 zeroBx.hi.z] 25)).alloc (.cells #[.int .i64 zeroBx.lo.x, .int .i64 zeroBx.lo.y, .int .i64 zeroBx.lo.z, .int .i64 zeroBx.hi.x, .int .i64 zeroBx.hi.y, .int .i64 zeroBx.hi.z] 25) := ⟨_, rfl⟩
  have hW' : W0 = (w.alloc (.cells #[.int .i64 0, .int .i64 0, .int .i64 0, .int .i64 0, .int .i64 0, .int .i64 0] 25)).alloc (.cells #[.int .i64 0, .int .i64 0, .int .i64 0, .int .i64 0, .int .i64 0, .int .i64 0] 25) := hW
  rw [← hW] at HX0 HX1 HW
  rw [← hW']
  clear hW hW'
  go_wp2_with fail
  go_loopw [8] (fun i wr => ∃ k : Nat, i = .int .i64 k ∧ k ≤ l.length ∧ Arr wr (w.heap.size + 1) 25 [.int .i64 (hullL (l.take k)).lo.x, .int .i64 (hullL (l.take k)).lo.y, .int .i64 (hullL (l.take k)).lo.z, .int .i64 (hullL (l.take k)).hi.x, .int .i64 (hullL (l.take k)).hi.y, .int .i64 (hullL (l.take k)).hi.z] ∧ Arr wr w.heap.size 25 [.int .i64 zeroBx.lo.x, .int .i64 zeroBx.lo.y, .int .i64 zeroBx.lo.z, .int .i64 zeroBx.hi.x, .int .i64 zeroBx.hi.y, .int .i64 zeroBx.hi.z] ∧ Ext w wr) (fun i _ => l.length - (intOf i).toNat)
  case atStart => exact ⟨0, rfl, Nat.zero_le _, HX1.out, HX0.out, HW.out⟩
  case round =>
    obtain ⟨k, rfl, hk, hB, hZ, hx⟩ := hrel
    have HB := Lib.hid hB; have HZ := Lib.hid hZ; have HX := Lib.hid hx
    clear hB hZ
    by_cases hlt : k < l.length
    · obtain ⟨p, hp⟩ : ∃ p, l[k]? = some p := ⟨_, List.getElem?_eq_getElem hlt⟩
      obtain ⟨b', off, rfl, hbl, r0, r1, r2⟩ := pt_row (HS.out.ext hx) hp
      have HH := Lib.hid (show ∀ w', Calls Tryd.prog 42 #[.agg #[.int .i64 (hullL (l.take k)).lo.x, .int .i64 (hullL (l.take k)).lo.y, .int .i64 (hullL (l.take k)).lo.z, .int .i64 (hullL (l.take k)).hi.x, .int .i64 (hullL (l.take k)).hi.y, .int .i64 (hullL (l.take k)).hi.z], .agg #[.int .i64 p.x, .int .i64 p.y, .int .i64 p.z, .int .i64 (addP p ⟨1, 1, 1⟩).x, .int .i64 (addP p ⟨1, 1, 1⟩).y, .int .i64 (addP p ⟨1, 1, 1⟩).z]] w' fun e w'' => e = .returned (.agg #[.int .i64 (hullL (l.take (k + 1))).lo.x, .int .i64 (hullL (l.take (k + 1))).lo.y, .int .i64 (hullL (l.take (k + 1))).lo.z, .int .i64 (hullL (l.take (k + 1))).hi.x, .int .i64 (hullL (l.take (k + 1))).hi.y, .int .i64 (hullL (l.take (k + 1))).hi.z]) ∧ Ext w' w'' from fun w' => pointHull_step l k p hp HSM.out w')
      have HAD := Lib.hid (fun w' => Add_any p ⟨1, 1, 1⟩ w')
      clear hp hx
      have B5 := Arr.new wr 23 [.int .i64 p.x, .int .i64 p.y, .int .i64 p.z]
      have hx3 : Ext wr (wr.alloc (.cells #[.int .i64 p.x, .int .i64 p.y, .int .i64 p.z] 23)) := (Ext.refl _).alloc _
      have HB3 := Lib.hid (HB.out.ext hx3); have HZ3 := Lib.hid (HZ.out.ext hx3); have HX3 := Lib.hid (HX.out.trans hx3); have HB5 := Lib.hid B5
      clear hx3 B5
      generalize hullL (l.take k) = b at HB HB3 HH
      obtain ⟨b2, hb2⟩ : ∃ b2, b2 = hullL (l.take (k + 1)) := ⟨_, rfl⟩
      rw [← hb2] at HH
      have HE := Lib.hid hb2
      clear hb2
      generalize addP p ⟨1, 1, 1⟩ = d at HAD HH
      go_upto_region 5 with fail
      obtain ⟨W3, hW⟩ : ∃ W, W = wr.alloc (.cells #[.int .i64 p.x, .int .i64 p.y, .int .i64 p.z] 23) := ⟨_, rfl⟩
      rw [← hW] at HB3 HZ3 HX3 HB5
      rw [← hW]
      clear hW r0 r1 r2
      have d0 := HB3.out.cell 0
      have d1 := HB3.out.cell 1
      have d2 := HB3.out.cell 2
      have d3 := HB3.out.cell 3
      have d4 := HB3.out.cell 4
      have d5 := HB3.out.cell 5
      have p0 := HB5.out.cell 0
      have p1 := HB5.out.cell 1
      have p2 := HB5.out.cell 2
      have lb := HB3.out.lt
      have lp := HB5.out.lt
      simp only [List.getElem?_cons_zero, List.getElem?_cons_succ] at d0 d1 d2 d3 d4 d5 p0 p1 p2
      refine wp_region_near_tail 7 (by assumption) (by kernel_rfl) ?_
      simp only [List.take_succ_cons, List.take_zero, List.drop_succ_cons, List.drop_zero]
      repeat (go_big_quiet_step ((first | (go_at_call 43; exact near_call (HAD.out _)) | (go_at_call 42; exact near_call (HH.out _)))))
      refine wpQuiet_nil ?_
      intro w1 hw1
      have hy := Ext.of_near hw1
      clear hw1
      have HB7 := Lib.hid (HB3.out.ext hy); have HZ7 := Lib.hid (HZ3.out.ext hy); have HX7 := Lib.hid (HX3.out.trans hy)
      clear hy d0 d1 d2 d3 d4 d5 p0 p1 p2 lb lp
      go_wp2_with (first
        | (refine wpList_store_blk 25 (.tmp 3) (.tmp 18) rfl rfl HB7.out [.int .i64 b2.lo.x, .int .i64 b2.lo.y, .int .i64 b2.lo.z, .int .i64 b2.hi.x, .int .i64 b2.hi.y, .int .i64 b2.hi.z] rfl rfl (by kernel_rfl) rfl rfl ?_))
      go_roundw
      case rel => exact ⟨k + 1, by go_num, by omega, by rw [← HE.out]; exact HB7.out.setRow [.int .i64 b2.lo.x, .int .i64 b2.lo.y, .int .i64 b2.lo.z, .int .i64 b2.hi.x, .int .i64 b2.hi.y, .int .i64 b2.hi.z], HZ7.out.setRow_other (by omega) _, HX7.out.setRow (by omega) _⟩
      case measure => simp [intOf]; omega
    · obtain rfl : k = l.length := by omega
      rw [List.take_length] at HB
      clear hx
      go_wp2_with (first
        | (refine wpList_load_blk 25 (.tmp 3) rfl rfl HB.out rfl _ Tryd.underlying25 rfl (by kernel_rfl) ?_)
        | (refine wpList_store_blk 25 (.tmp 2) (.tmp 20) rfl rfl HZ.out [.int .i64 (hullL l).lo.x, .int .i64 (hullL l).lo.y, .int .i64 (hullL l).lo.z, .int .i64 (hullL l).hi.x, .int .i64 (hullL l).hi.y, .int .i64 (hullL l).hi.z] rfl rfl (by kernel_rfl) rfl rfl ?_))
      have hfin := HZ.out.setRow [.int .i64 (hullL l).lo.x, .int .i64 (hullL l).lo.y, .int .i64 (hullL l).lo.z, .int .i64 (hullL l).hi.x, .int .i64 (hullL l).hi.y, .int .i64 (hullL l).hi.z]
      have hxf := HX.out.setRow (g := w.heap.size) (by omega) ([.int .i64 (hullL l).lo.x, .int .i64 (hullL l).lo.y, .int .i64 (hullL l).lo.z, .int .i64 (hullL l).hi.x, .int .i64 (hullL l).hi.y, .int .i64 (hullL l).hi.z] : List Value).toArray
      refine bodyPost_ret (v := .agg #[.int .i64 (hullL l).lo.x, .int .i64 (hullL l).lo.y, .int .i64 (hullL l).lo.z, .int .i64 (hullL l).hi.x, .int .i64 (hullL l).hi.y, .int .i64 (hullL l).hi.z]) ?_ rfl ⟨rfl, hxf⟩
      exact results_cell_row Tryd.results24 _ _ _ _ _ _ _ rfl hfin Tryd.underlying25 rfl (by kernel_rfl)
theorem hull_next (l : List Pt) (k : Nat) (p : Pt) (h : l[k]? = some p) (hs : ∀ p, p ∈ l → Small p) (b : Bx) (hb : b = if k = 0 then ⟨p, ⟨p.x + 1, p.y + 1, p.z + 1⟩⟩ else hullL (l.take k)) :
    hullL (l.take (k + 1)) = ⟨⟨min b.lo.x p.x, min b.lo.y p.y, min b.lo.z p.z⟩, ⟨max b.hi.x (p.x + 1), max b.hi.y (p.y + 1), max b.hi.z (p.z + 1)⟩⟩ := by
  have h1 := oneB_full (hs p (List.mem_of_getElem? h))
  unfold hullL at hb ⊢
  rw [hullO_take h]
  by_cases hk : k = 0
  · subst hk
    rw [if_pos rfl] at hb
    subst hb
    simp only [List.take_zero, hullO, List.foldl_nil, hstep, Option.getD_some, h1, Int.min_self, Int.max_self]
  · rw [if_neg hk] at hb
    obtain ⟨b', hb'⟩ := hullO_some (l := l) (k := k) (by omega) (by have := (List.getElem?_eq_some_iff.1 h).1; omega)
    rw [hb'] at hb ⊢
    simp only [Option.getD_some] at hb
    subst hb
    simp only [hstep, Option.getD_some, h1, joinB]
set_option maxRecDepth 100000 in
set_option maxHeartbeats 8000000 in
theorem refHull_any (A : Option Addr) (c : Nat) (l : List Pt) (w : World) (hs : Sv w w.heap.size 3 A c (rowsP l)) (hsm : ∀ p, p ∈ l → Small p) :
    Calls Tryd.prog 25 #[.slice A l.length c] w fun e w' => e = .returned (.agg #[.int .i64 (hullL l).lo.x, .int .i64 (hullL l).lo.y, .int .i64 (hullL l).lo.z, .int .i64 (hullL l).hi.x, .int .i64 (hullL l).hi.y, .int .i64 (hullL l).hi.z]) ∧ Ext w w' := by
  have hln : l.length ≤ 9223372036854775807 := by have h := hs.len; rw [rowsP_length] at h; exact h
  have HS := Lib.hid hs; have HSM := Lib.hid hsm
  clear hs hsm
  have X0 := (Arr.new w 25 [.int .i64 zeroBx.lo.x, .int .i64 zeroBx.lo.y, .int .i64 zeroBx.lo.z, .int .i64 zeroBx.hi.x, .int .i64 zeroBx.hi.y, .int .i64 zeroBx.hi.z]).alloc (.cells #[.int .i64 zeroBx.lo.x, .int .i64 zeroBx.lo.y, .int .i64 zeroBx.lo.z, .int .i64 zeroBx.hi.x, .int .i64 zeroBx.hi.y, .int .i64 zeroBx.hi.z] 25)
  have X1 := Arr.new (w.alloc (.cells #[.int .i64 zeroBx.lo.x, .int .i64 zeroBx.lo.y, .int .i64 zeroBx.lo.z, .int .i64 zeroBx.hi.x, .int .i64 zeroBx.hi.y, .int .i64 zeroBx.hi.z] 25)) 25 [.int .i64 zeroBx.lo.x, .int .i64 zeroBx.lo.y, .int .i64 zeroBx.lo.z, .int .i64 zeroBx.hi.x, .int .i64 zeroBx.hi.y, .int .i64 zeroBx.hi.z]
  simp only [World.size_alloc_] at X1
  have hx0 : Ext w ((w.alloc (.cells #[.int .i64 zeroBx.lo.x, .int .i64 zeroBx.lo.y, .int .i64 zeroBx.lo.z, .int .i64 zeroBx.hi.x, .int .i64 zeroBx.hi.y, .int .i64 zeroBx.hi.z] 25)).alloc (.cells #[.int .i64 zeroBx.lo.x, .int .i64 zeroBx.lo.y, .int .i64 zeroBx.lo.z, .int .i64 zeroBx.hi.x, .int .i64 zeroBx.hi.y, .int .i64 zeroBx.hi.z] 25)) := ((Ext.refl w).alloc _).alloc _
  have HX0 := Lib.hid X0; have HX1 := Lib.hid X1; have HW := Lib.hid hx0
  clear X0 X1 hx0
  go_enter Tryd.func25, Tryd.ntmps25
  go_upto_region 2 with fail
  obtain ⟨W0, hW⟩ : ∃ W, W = (w.alloc (.cells #[.int .i64 zeroBx.lo.x, .int .i64 zeroBx.lo.y, .int .i64 zeroBx.lo.z, .int .i64 zeroBx.hi.x, .int .i64 zeroBx.hi.y, .int .i64 zeroBx.hi.z] 25)).alloc (.cells #[.int .i64 zeroBx.lo.x, .int .i64 zeroBx.lo.y, .int .i64 zeroBx.lo.z, .int .i64 zeroBx.hi.x, .int .i64 zeroBx.hi.y, .int .i64 zeroBx.hi.z] 25) := ⟨_, rfl⟩
  have hW' : W0 = (w.alloc (.cells #[.int .i64 0, .int .i64 0, .int .i64 0, .int .i64 0, .int .i64 0, .int .i64 0] 25)).alloc (.cells #[.int .i64 0, .int .i64 0, .int .i64 0, .int .i64 0, .int .i64 0, .int .i64 0] 25) := hW
  rw [← hW] at HX0 HX1 HW
  rw [← hW']
  clear hW hW'
  go_wp2_with fail
  go_loopw [4] (fun i wr => ∃ k : Nat, i = .int .i64 k ∧ k ≤ l.length ∧ Arr wr (w.heap.size + 1) 25 [.int .i64 (hullL (l.take k)).lo.x, .int .i64 (hullL (l.take k)).lo.y, .int .i64 (hullL (l.take k)).lo.z, .int .i64 (hullL (l.take k)).hi.x, .int .i64 (hullL (l.take k)).hi.y, .int .i64 (hullL (l.take k)).hi.z] ∧ Arr wr w.heap.size 25 [.int .i64 zeroBx.lo.x, .int .i64 zeroBx.lo.y, .int .i64 zeroBx.lo.z, .int .i64 zeroBx.hi.x, .int .i64 zeroBx.hi.y, .int .i64 zeroBx.hi.z] ∧ Ext w wr) (fun i _ => l.length - (intOf i).toNat)
  case atStart => exact ⟨0, rfl, Nat.zero_le _, HX1.out, HX0.out, HW.out⟩
  case round =>
    obtain ⟨k, rfl, hk, hB, hZ, hx⟩ := hrel
    have HB := Lib.hid hB; have HZ := Lib.hid hZ; have HX := Lib.hid hx
    clear hB hZ
    by_cases hlt : k < l.length
    · obtain ⟨p, hp⟩ : ∃ p, l[k]? = some p := ⟨_, List.getElem?_eq_getElem hlt⟩
      obtain ⟨b', off, rfl, hbl, r0, r1, r2⟩ := pt_row (HS.out.ext hx) hp
      obtain ⟨⟨sx1, sx2⟩, ⟨sy1, sy2⟩, sz1, sz2⟩ := HSM.out p (List.mem_of_getElem? hp)
      have HN := Lib.hid (hull_next l k p hp HSM.out)
      clear hp hx
      have hx3 : Ext wr ((wr.alloc (.cells #[.int .i64 p.x, .int .i64 p.y, .int .i64 p.z] 23)).alloc (.cells #[.int .i64 p.x, .int .i64 p.y, .int .i64 p.z, .int .i64 (p.x + 1), .int .i64 (p.y + 1), .int .i64 (p.z + 1)] 25)) := ((Ext.refl _).alloc _).alloc _
      have B5 := (Arr.new wr 23 [.int .i64 p.x, .int .i64 p.y, .int .i64 p.z]).alloc (.cells #[.int .i64 p.x, .int .i64 p.y, .int .i64 p.z, .int .i64 (p.x + 1), .int .i64 (p.y + 1), .int .i64 (p.z + 1)] 25)
      have B6 := Arr.new (wr.alloc (.cells #[.int .i64 p.x, .int .i64 p.y, .int .i64 p.z] 23)) 25 [.int .i64 p.x, .int .i64 p.y, .int .i64 p.z, .int .i64 (p.x + 1), .int .i64 (p.y + 1), .int .i64 (p.z + 1)]
      simp only [World.size_alloc_] at B6
      have HT := Lib.hid (HB.out.ext hx3); have HZ6 := Lib.hid (HZ.out.ext hx3); have HX6 := Lib.hid (HX.out.trans hx3); have HP5 := Lib.hid B5; have HB6 := Lib.hid B6
      have hwl := HX.out.size
      have hbl2 := HB.out.lt
      clear hx3 B5 B6
      go_upto_region 7 with fail
      obtain ⟨pb, hpb⟩ : ∃ pb, pb = wr.heap.size := ⟨_, rfl⟩
      obtain ⟨W3, hW⟩ : ∃ W, W = (wr.alloc (.cells #[.int .i64 p.x, .int .i64 p.y, .int .i64 p.z] 23)).alloc (.cells #[.int .i64 p.x, .int .i64 p.y, .int .i64 p.z, .int .i64 (p.x + 1), .int .i64 (p.y + 1), .int .i64 (p.z + 1)] 25) := ⟨_, rfl⟩
      rw [← hW] at HT HZ6 HX6 HP5 HB6
      rw [← hW]
      rw [← hpb] at HP5 HB6 hwl hbl2
      rw [← hpb]
      clear hW r0 r1 r2 hpb
      by_cases hk0 : k = 0
      · have hk1 : ((k : Int) == 0) = true := by simp [hk0]
        have HE := Lib.hid (HN.out ⟨p, ⟨p.x + 1, p.y + 1, p.z + 1⟩⟩ (by rw [if_pos hk0]))
        clear hk0
        go_upto_region 8 with fail
        go_upto_region 9 with (first
          | (refine wpList_load_blk 25 (.tmp 6) rfl rfl HB6.out rfl _ Tryd.underlying25 rfl (by kernel_rfl) ?_)
          | (refine wpList_store_blk 25 (.tmp 3) (.tmp 31) rfl rfl HT.out [.int .i64 p.x, .int .i64 p.y, .int .i64 p.z, .int .i64 (p.x + 1), .int .i64 (p.y + 1), .int .i64 (p.z + 1)] rfl rfl (by kernel_rfl) rfl rfl ?_))
        have HP5 := Lib.hid (HP5.out.setRow_other (g := w.heap.size + 1) (by omega) ([.int .i64 p.x, .int .i64 p.y, .int .i64 p.z, .int .i64 (p.x + 1), .int .i64 (p.y + 1), .int .i64 (p.z + 1)] : List Value).toArray)
        have HZ6 := Lib.hid (HZ6.out.setRow_other (g := w.heap.size + 1) (by omega) ([.int .i64 p.x, .int .i64 p.y, .int .i64 p.z, .int .i64 (p.x + 1), .int .i64 (p.y + 1), .int .i64 (p.z + 1)] : List Value).toArray)
        have HX6 := Lib.hid (HX6.out.setRow (g := w.heap.size + 1) (by omega) ([.int .i64 p.x, .int .i64 p.y, .int .i64 p.z, .int .i64 (p.x + 1), .int .i64 (p.y + 1), .int .i64 (p.z + 1)] : List Value).toArray)
        have HT := Lib.hid (HT.out.setRow [.int .i64 p.x, .int .i64 p.y, .int .i64 p.z, .int .i64 (p.x + 1), .int .i64 (p.y + 1), .int .i64 (p.z + 1)])
        obtain ⟨W4, hW⟩ : ∃ W, W = W3.setRow (w.heap.size + 1) ([.int .i64 p.x, .int .i64 p.y, .int .i64 p.z, .int .i64 (p.x + 1), .int .i64 (p.y + 1), .int .i64 (p.z + 1)] : List Value).toArray := ⟨_, rfl⟩
        rw [← hW] at HT HP5 HX6 HZ6
        rw [← hW]
        clear hW
        have d0 := HT.out.cell 0
        have d1 := HT.out.cell 1
        have d2 := HT.out.cell 2
        have d3 := HT.out.cell 3
        have d4 := HT.out.cell 4
        have d5 := HT.out.cell 5
        have g0 := HT.out.frozen 0
        have g1 := HT.out.frozen 1
        have g2 := HT.out.frozen 2
        have g3 := HT.out.frozen 3
        have g4 := HT.out.frozen 4
        have g5 := HT.out.frozen 5
        have p0 := HP5.out.cell 0
        have p1 := HP5.out.cell 1
        have p2 := HP5.out.cell 2
        have lb := HT.out.lt
        have lp := HP5.out.lt
        simp only [List.getElem?_cons_zero, List.getElem?_cons_succ] at d0 d1 d2 d3 d4 d5 p0 p1 p2
        go_wp2
        go_roundw
        case rel =>
          refine ⟨k + 1, by go_num, by omega, ?_, ((((((HZ6.out.other (by simp only; omega) _).other (by simp only; omega) _).other (by simp only; omega) _).other (by simp only; omega) _).other (by simp only; omega) _).other (by simp only; omega) _), ((((((HX6.out.setCell (by simp only; omega) _).setCell (by simp only; omega) _).setCell (by simp only; omega) _).setCell (by simp only; omega) _).setCell (by simp only; omega) _).setCell (by simp only; omega) _)⟩
          rw [HE.out]
          simp only [Int.min_self, Int.max_self]
          exact ((((((HT.out.set 0 (.int .i64 p.x)).set 1 (.int .i64 p.y)).set 2 (.int .i64 p.z)).set 3 (.int .i64 (p.x + 1))).set 4 (.int .i64 (p.y + 1))).set 5 (.int .i64 (p.z + 1)))
        case measure => simp [intOf]; omega
      · have hk1 : ((k : Int) == 0) = false := by simp; omega
        have HE := Lib.hid (HN.out (hullL (l.take k)) (by rw [if_neg hk0]))
        clear hk0
        obtain ⟨bq, hbq⟩ : ∃ b, b = hullL (l.take k) := ⟨_, rfl⟩
        rw [← hbq] at HT HE
        clear hbq
        go_upto_region 9 with fail
        have d0 := HT.out.cell 0
        have d1 := HT.out.cell 1
        have d2 := HT.out.cell 2
        have d3 := HT.out.cell 3
        have d4 := HT.out.cell 4
        have d5 := HT.out.cell 5
        have g0 := HT.out.frozen 0
        have g1 := HT.out.frozen 1
        have g2 := HT.out.frozen 2
        have g3 := HT.out.frozen 3
        have g4 := HT.out.frozen 4
        have g5 := HT.out.frozen 5
        have p0 := HP5.out.cell 0
        have p1 := HP5.out.cell 1
        have p2 := HP5.out.cell 2
        have lb := HT.out.lt
        have lp := HP5.out.lt
        simp only [List.getElem?_cons_zero, List.getElem?_cons_succ] at d0 d1 d2 d3 d4 d5 p0 p1 p2
        go_wp2
        go_roundw
        case rel =>
          refine ⟨k + 1, by go_num, by omega, ?_, ((((((HZ6.out.other (by simp only; omega) _).other (by simp only; omega) _).other (by simp only; omega) _).other (by simp only; omega) _).other (by simp only; omega) _).other (by simp only; omega) _), ((((((HX6.out.setCell (by simp only; omega) _).setCell (by simp only; omega) _).setCell (by simp only; omega) _).setCell (by simp only; omega) _).setCell (by simp only; omega) _).setCell (by simp only; omega) _)⟩
          rw [HE.out]
          exact ((((((HT.out.set 0 _).set 1 _).set 2 _).set 3 _).set 4 _).set 5 _)
        case measure => simp [intOf]; omega
    · obtain rfl : k = l.length := by omega
      rw [List.take_length] at HB
      clear hx
      go_wp2_with (first
        | (refine wpList_load_blk 25 (.tmp 3) rfl rfl HB.out rfl _ Tryd.underlying25 rfl (by kernel_rfl) ?_)
        | (refine wpList_store_blk 25 (.tmp 2) (.tmp 75) rfl rfl HZ.out [.int .i64 (hullL l).lo.x, .int .i64 (hullL l).lo.y, .int .i64 (hullL l).lo.z, .int .i64 (hullL l).hi.x, .int .i64 (hullL l).hi.y, .int .i64 (hullL l).hi.z] rfl rfl (by kernel_rfl) rfl rfl ?_))
      have hfin := HZ.out.setRow [.int .i64 (hullL l).lo.x, .int .i64 (hullL l).lo.y, .int .i64 (hullL l).lo.z, .int .i64 (hullL l).hi.x, .int .i64 (hullL l).hi.y, .int .i64 (hullL l).hi.z]
      have hxf := HX.out.setRow (g := w.heap.size) (by omega) ([.int .i64 (hullL l).lo.x, .int .i64 (hullL l).lo.y, .int .i64 (hullL l).lo.z, .int .i64 (hullL l).hi.x, .int .i64 (hullL l).hi.y, .int .i64 (hullL l).hi.z] : List Value).toArray
      refine bodyPost_ret (v := .agg #[.int .i64 (hullL l).lo.x, .int .i64 (hullL l).lo.y, .int .i64 (hullL l).lo.z, .int .i64 (hullL l).hi.x, .int .i64 (hullL l).hi.y, .int .i64 (hullL l).hi.z]) ?_ rfl ⟨rfl, hxf⟩
      exact results_cell_row Tryd.results25 _ _ _ _ _ _ _ rfl hfin Tryd.underlying25 rfl (by kernel_rfl)
end Go.Proofs.YtelhefjikdoihaaDoor

/- A set as a field; the parts of a set, plainly; slices of slices of points. -/
namespace Go.Proofs.YtelhefjikdoihaaDoor
open Go Go.RowKit

def setF (s : List Pt) (q : Pt) : Option Int := if q ∈ s then some 1 else none
theorem setF_iff {s : List Pt} {q : Pt} : setF s q = some 1 ↔ q ∈ s := by unfold setF; split <;> simp_all
theorem setF_ne {s : List Pt} {q : Pt} : setF s q ≠ none ↔ q ∈ s := by unfold setF; split <;> simp_all
theorem Reach.mono {F F' : Pt → Option Int} {c : Int} {a q : Pt} (h : Reach F c a q) (hF : ∀ x, F x = some c → F' x = some c) : Reach F' c a q := by
  induction h with
  | base => exact .base
  | step _ h1 h2 ih => exact ih.step h1 (hF _ h2)
theorem Reach.in_ {s : List Pt} {a q : Pt} (h : Reach (setF s) 1 a q) (ha : a ∈ s) : q ∈ s := setF_iff.1 (h.val (setF_iff.2 ha))
/-- The parts that the first k cells of m lead to. -/
inductive PT (l m : List Pt) : Nat → List (List Pt) → Prop
  | zero : PT l m 0 []
  | skip {k : Nat} {ps : List (List Pt)} {p : Pt} : PT l m k ps → m[k]? = some p → p ∈ ps.flatten → PT l m (k + 1) ps
  | add {k : Nat} {ps : List (List Pt)} {p : Pt} {r : List Pt} : PT l m k ps → m[k]? = some p → p ∉ ps.flatten → IsReg (setF l) 1 p r → PT l m (k + 1) (ps ++ [r])
theorem PT.uniq {l m : List Pt} : ∀ {k : Nat} {ps ps' : List (List Pt)}, PT l m k ps → PT l m k ps' → ps = ps'
  | _, _, _, .zero, h => by cases h; rfl
  | _, _, _, .skip h1 h2 h3, h => by
    cases h with
    | skip k1 k2 k3 => exact h1.uniq k1
    | add k1 k2 k3 k4 =>
      obtain rfl := h1.uniq k1
      rw [h2] at k2; injection k2 with k2; subst k2
      exact absurd h3 k3
  | _, _, _, .add h1 h2 h3 h4, h => by
    cases h with
    | skip k1 k2 k3 =>
      obtain rfl := h1.uniq k1
      rw [h2] at k2; injection k2 with k2; subst k2
      exact absurd k3 h3
    | add k1 k2 k3 k4 =>
      obtain rfl := h1.uniq k1
      rw [h2] at k2; injection k2 with k2; subst k2
      rw [h4.uniq k4]
section
variable {l m : List Pt} {k : Nat} {ps : List (List Pt)}
theorem PT.reg (h : PT l m k ps) (hm : ∀ q, q ∈ m → q ∈ l) : ∀ r, r ∈ ps → ∃ p, p ∈ l ∧ IsReg (setF l) 1 p r := by
  induction h with
  | zero => intro r hr; simp at hr
  | skip _ _ _ ih => exact ih
  | @add k ps p r h1 h2 h3 h4 ih =>
    intro x hx
    rcases List.mem_append.1 hx with hx | hx
    · exact ih x hx
    · simp only [List.mem_singleton] at hx; subst hx
      exact ⟨p, hm p (List.mem_of_getElem? h2), h4⟩
theorem PT.sub (h : PT l m k ps) (hm : ∀ q, q ∈ m → q ∈ l) : ∀ q, q ∈ ps.flatten → q ∈ l := fun q hq => by
  obtain ⟨r, hr, hq⟩ := List.mem_flatten.1 hq
  obtain ⟨p, hp, hg⟩ := h.reg hm r hr
  exact ((hg.mem q).1 hq).in_ hp
/-- What is reached from a cell outside of the parts lies outside of them. -/
theorem PT.out (h : PT l m k ps) (hm : ∀ q, q ∈ m → q ∈ l) {p q : Pt} (hp : p ∈ l) (hn : p ∉ ps.flatten) (hr : Reach (setF l) 1 p q) : q ∉ ps.flatten := fun hq => by
  obtain ⟨r, hrm, hqr⟩ := List.mem_flatten.1 hq
  obtain ⟨x, hx, hg⟩ := h.reg hm r hrm
  have h1 := (hg.mem q).1 hqr
  have h2 := h1.trans (hr.symm (setF_iff.2 hp))
  exact hn (List.mem_flatten.2 ⟨r, hrm, (hg.mem p).2 h2⟩)
theorem PT.nodup (h : PT l m k ps) (hm : ∀ q, q ∈ m → q ∈ l) : ps.flatten.Nodup := by
  induction h with
  | zero => simp
  | skip _ _ _ ih => exact ih
  | @add k ps p r h1 h2 h3 h4 ih =>
    rw [List.flatten_append, List.nodup_append]
    refine ⟨ih, by simpa using h4.sort.nodup, fun a ha b hb e => ?_⟩
    subst e
    simp only [List.flatten_cons, List.flatten_nil, List.append_nil] at hb
    exact h1.out hm (hm p (List.mem_of_getElem? h2)) h3 ((h4.mem a).1 hb) ha
theorem PT.len (h : PT l m k ps) (hm : ∀ q, q ∈ m → q ∈ l) : ps.flatten.length ≤ l.length := nodup_sub (h.nodup hm) (h.sub hm)
theorem PT.count (h : PT l m k ps) : ps.length ≤ k := by
  induction h with
  | zero => simp
  | skip _ _ _ ih => omega
  | add _ _ _ _ ih => rw [List.length_append, List.length_singleton]; omega
theorem PT.all (h : PT l m k ps) : ∀ j q, j < k → m[j]? = some q → q ∈ ps.flatten := by
  induction h with
  | zero => intro j q hj; omega
  | skip h1 h2 h3 ih =>
    intro j q hj hq
    rcases Nat.lt_succ_iff_lt_or_eq.1 hj with h | rfl
    · exact ih j q h hq
    · rw [h2] at hq; injection hq with hq; subst hq; exact h3
  | add h1 h2 h3 h4 ih =>
    intro j q hj hq
    rw [List.flatten_append, List.mem_append]
    rcases Nat.lt_succ_iff_lt_or_eq.1 hj with h | rfl
    · exact .inl (ih j q h hq)
    · rw [h2] at hq; injection hq with hq; subst hq
      exact .inr (by simpa using (h4.mem _).2 .base)
end
/-- What is left of l. -/
def leftL (l : List Pt) (ps : List (List Pt)) : List Pt := l.filter fun q => decide (q ∉ ps.flatten)
theorem mem_left {l : List Pt} {ps : List (List Pt)} {q : Pt} : q ∈ leftL l ps ↔ q ∈ l ∧ q ∉ ps.flatten := by simp [leftL]
theorem PT.regLeft {l m : List Pt} {k : Nat} {ps : List (List Pt)} (h : PT l m k ps) (hm : ∀ q, q ∈ m → q ∈ l) {p : Pt} (hp : p ∈ l) (hn : p ∉ ps.flatten) {r : List Pt} (hr : IsReg (setF (leftL l ps)) 1 p r) : IsReg (setF l) 1 p r :=
  ⟨hr.sort, fun q => (hr.mem q).trans ⟨fun h1 => h1.mono fun x hx => setF_iff.2 (mem_left.1 (setF_iff.1 hx)).1, fun h1 => by
    have key : ∀ q, Reach (setF l) 1 p q → Reach (setF (leftL l ps)) 1 p q := by
      intro q hq
      induction hq with
      | base => exact .base
      | step k1 k2 k3 ih => exact ih.step k2 (setF_iff.2 (mem_left.2 ⟨setF_iff.1 k3, h.out hm hp hn (k1.step k2 k3)⟩))
    exact key q h1⟩⟩
structure IsParts (l : List Pt) (ps : List (List Pt)) : Prop where
  ex : ∃ m, IsSorted l m ∧ PT l m m.length ps
theorem IsParts.uniq {l : List Pt} {ps ps' : List (List Pt)} (h : IsParts l ps) (k : IsParts l ps') : ps = ps' := by
  obtain ⟨m, h1, h2⟩ := h.ex
  obtain ⟨m', k1, k2⟩ := k.ex
  obtain rfl := h1.uniq k1
  exact h2.uniq k2
/-- A slice of slices of points. -/
structure SvP (w : World) (B : Nat) (A : Option Addr) (c : Nat) (vs : List Value) (ps : List (List Pt)) : Prop where
  out : Sv w B 1 A c (vs.map ([·]))
  len : vs.length = ps.length
  each : ∀ (i : Nat) (v : Value) (p : List Pt), vs[i]? = some v → ps[i]? = some p → ∃ A' c', v = .slice A' p.length c' ∧ Sv w B 3 A' c' (rowsP p)
theorem SvP.keep {w w' : World} {B : Nat} {A : Option Addr} {c : Nat} {vs : List Value} {ps : List (List Pt)} (h : SvP w B A c vs ps) (hk : ∀ p : Addr, p.block < B → w'.cell? p = w.cell? p) : SvP w' B A c vs ps :=
  ⟨h.out.keep hk, h.len, fun i v p hv hp => by obtain ⟨A', c', e, hs⟩ := h.each i v p hv hp; exact ⟨A', c', e, hs.keep hk⟩⟩
theorem SvP.more {w : World} {B B' : Nat} {A : Option Addr} {c : Nat} {vs : List Value} {ps : List (List Pt)} (h : SvP w B A c vs ps) (hB : B ≤ B') : SvP w B' A c vs ps :=
  ⟨h.out.more hB, h.len, fun i v p hv hp => by obtain ⟨A', c', e, hs⟩ := h.each i v p hv hp; exact ⟨A', c', e, hs.more hB⟩⟩
theorem SvP.ext {w w' : World} {A : Option Addr} {c : Nat} {vs : List Value} {ps : List (List Pt)} (h : SvP w w.heap.size A c vs ps) (hx : Ext w w') : SvP w' w'.heap.size A c vs ps := (h.keep fun _ hp => hx.below.cell hp).more hx.size
/-- Part i, as it is read. -/
theorem SvP.row {w : World} {B : Nat} {A : Option Addr} {c : Nat} {vs : List Value} {ps : List (List Pt)} (h : SvP w B A c vs ps) {i : Nat} {p : List Pt} (hp : ps[i]? = some p) : ∃ b off A' c', A = some ⟨b, off, none⟩ ∧ b < B ∧ w.cell? ⟨b, off + i, none⟩ = some (.slice A' p.length c') ∧ Sv w B 3 A' c' (rowsP p) := by
  have hi : i < vs.length := by rw [h.len]; exact (List.getElem?_eq_some_iff.1 hp).1
  obtain ⟨v, hv⟩ : ∃ v, vs[i]? = some v := ⟨_, List.getElem?_eq_getElem hi⟩
  obtain ⟨A', c', rfl, hs⟩ := h.each i v p hv hp
  obtain ⟨b, off, hA, hb, hr⟩ := h.out.row (i := i) (x := [.slice A' p.length c']) (by rw [List.getElem?_map, hv]; rfl)
  refine ⟨b, off, A', c', hA, hb, ?_, hs⟩
  have := hr 0 (.slice A' p.length c') rfl
  simpa using this
set_option maxRecDepth 100000 in
set_option maxHeartbeats 2000000 in
theorem setCell_any (s : List Pt) (mb : Nat) (q : Pt) (w : World) (h : MapF ptV w mb (fun q => if q ∈ s then some (.bool true) else none)) :
    Calls Tryd.prog 107 #[.map (some mb), .agg #[.int .i64 q.x, .int .i64 q.y, .int .i64 q.z]] w fun e w' => e = .returned (.tuple #[.int .i64 1, .bool (decide (q ∈ s))]) ∧ Ext w w' := by
  have hm := mixed
  have hG := near_old
  have hx0 : Ext w (w.alloc (.cells #[.int .i64 q.x, .int .i64 q.y, .int .i64 q.z] 23)) := (Ext.refl w).alloc _
  have B0 := Arr.new w 23 [.int .i64 q.x, .int .i64 q.y, .int .i64 q.z]
  have HM := Lib.hid (h.ext hx0)
  clear h
  go_enter Tryd.func107, Tryd.ntmps107
  go_upto_region 1 with fail
  obtain ⟨W0, hW⟩ : ∃ W, W = w.alloc (.cells #[.int .i64 q.x, .int .i64 q.y, .int .i64 q.z] 23) := ⟨_, rfl⟩
  rw [← hW] at B0 HM hx0
  rw [← hW]
  clear hW
  have HX0 := Lib.hid hx0
  clear hx0
  have q0 := B0.cell 0
  have q1 := B0.cell 1
  have q2 := B0.cell 2
  have ql := B0.lt
  simp only [List.getElem?_cons_zero, List.getElem?_cons_succ] at q0 q1 q2
  clear B0
  have hlk : ∀ n os, (Instr.lookup 71 (.map (some mb)) (.agg #[.int .i64 q.x, .int .i64 q.y, .int .i64 q.z]) false).run Tryd.prog (near W0 n os) = .ok (.bool (decide (q ∈ s))) (near W0 n os) := fun n os => by
    have h := (HM.out.ext (Ext.of_near ⟨⟨n, os⟩, rfl⟩)).look ktPt Tryd.underlying71 (zeroBool _) q false
    by_cases hq : q ∈ s <;> simpa [hq, ptV] using h
  generalize hbs : decide (q ∈ s) = bs at hlk
  have HBS := Lib.hid hbs; clear hbs
  refine wp_region_near (by assumption) (by kernel_rfl) ?_
  repeat (go_big_quiet_step (fail))
  refine wpQuiet_nil ?_
  intro w1 hw1
  have hy := Ext.of_near hw1
  clear hw1
  have HX1 := Lib.hid (HX0.out.trans hy)
  clear hy q0 q1 q2 ql hlk
  go_wp2
  go_ret2
  exact ⟨by rw [HBS.out]; rfl, HX1.out⟩
def CntS (s : List Pt) (mb : Nat) (_ : Nat) (w : World) : Prop := MapF ptV w mb (fun q => if q ∈ s then some (.bool true) else none)
theorem set_V (s : List Pt) (mb B : Nat) (hb : mb < B) :
    FieldV B 71 (.map (some mb)) (.map (some mb)) 107 (setF s) none (CntS s mb) where
  meth := fun _ => by kernel_rfl
  enters := fun _ _ => by kernel_rfl
  low := fun k hk => by cases hk
  keep := fun n w w' h hh => by
    obtain ⟨es, clock, ents, h1, h2⟩ := h
    exact ⟨es, clock, ents, (hh mb hb).trans h1, h2⟩
  call := fun q n w hB hn h => by
    refine (setCell_any s mb q w h).mono fun e w' ⟨he, hx⟩ => ⟨⟨1, ?_, ?_⟩, MapF.ext h hx, hx.by_ none⟩
    · rw [he]; unfold setF; split <;> simp_all
    · intro v hv; unfold setF at hv; split at hv <;> simp_all
end Go.Proofs.YtelhefjikdoihaaDoor
