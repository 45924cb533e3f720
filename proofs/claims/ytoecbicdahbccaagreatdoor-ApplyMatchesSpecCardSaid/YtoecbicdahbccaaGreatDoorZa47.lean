/- A part of the walk of the layer of apply: contracts and plain laws that a row's text leans on. -/
import Derived.Test.YtoecbicdahbccaaGreatDoorZa40
import Derived.Test.YtoecbicdahbccaaGreatDoorZa46
set_option maxRecDepth 100000
set_option maxHeartbeats 16000000
namespace Go.Proofs.YtoecbicdahbccaaGreatDoor
open Go Go.RowKit
theorem Put_some(b off:Nat)(c:Nat)(l:List Pt)(p:Pt)(w:World)(hs:Sv w w.heap.size 3 (some ⟨b,off,none⟩) c (rowsP l))(hb:l.length≤100000):
    Calls Tryz.prog 106 #[.slice (some ⟨b,off,none⟩) l.length c,.agg #[.int .i64 p.x,.int .i64 p.y,.int .i64 p.z]] w (RetPF (some ⟨b,off,none⟩) (putL l p) w):=by
 have hm:=mixed;have hG:=near_old;have HS:=Lib.hid hs;clear hs;have HP:=Lib.hid (fun(j:Nat) h1 h2 h3=>putK_at (l:=l) (p:=p) (j:=j) h1 h2 h3);obtain⟨R,hR⟩:∃ R,R=putL l p:=⟨_,rfl⟩;rw[← hR];have HR:=Lib.hid hR;clear hR;obtain⟨i0,hi,hz0,hz1,hz2⟩:=info_parts infoPt;have HI:=Lib.hid hi;have HZ:=Lib.hid hz0;have HZ1:=Lib.hid hz1;have HZ2:=Lib.hid hz2;clear hi hz0 hz1 hz2;have HONE:=Lib.hid ((rowsP_rwk [p] p.cells (by simp[rowsP])).2)
 go_enter Tryz.func106,Tryz.ntmps106
 go_wp2
 go_loopw [5] (fun i wr=>∃ j:Nat,j≤l.length∧i = .int .i64 j∧(∀ (i:Nat) (y:Pt),i < j→l[i]? = some y→befP y p=true)∧Arr wr w.heap.size 23 [.int .i64 p.x,.int .i64 p.y,.int .i64 p.z]∧Ext w wr) (fun i _=>l.length - (intOf i).toNat)
 case atStart=>exact⟨0,Nat.zero_le _,rfl,fun i y hi=>by omega,Arr.new w _ _,(Ext.refl w).alloc _⟩
 case round=>
  obtain⟨j,hj,rfl,hno,hB,hx⟩:=hrel;have HNO:=Lib.hid hno;clear hno;have p0:=hB.cell 0;have p1:=hB.cell 1;have p2:=hB.cell 2;simp only[List.getElem?_cons_zero,List.getElem?_cons_succ]at p0 p1 p2;have lB:=hB.lt;have HB:=Lib.hid hB;clear hB
  by_cases hlt:j < l.length
  · obtain⟨q,hq⟩:∃ q,l[j]? = some q:=⟨_,List.getElem?_eq_getElem hlt⟩;obtain⟨b',off',hA,hbl,r0,r1,r2⟩:=pt_row (HS.out.ext hx) hq;injection hA with hA
    injection hA with hA1 hA2
    subst hA1 hA2;have HF:=Lib.hid (fun w'=>beforeP_any q p w');have HQ:=Lib.hid hq;generalize hbe:befP q p=be at HF;have HBE:=Lib.hid hbe;clear hq hbe
    cases be
    · have hk:=HP.out j HNO.out hj (fun y hy=>by rw[HQ.out]at hy;injection hy with hy;subst hy;exact HBE.out);have HR2:=Lib.hid (show R=if q=p then l else l.take j++(p:: l.drop j)by rw[HR.out];unfold putL;rw[hk,HQ.out];simp);have hn:=eqPt_run q p;have HN:=Lib.hid hn;clear hk hn
      go_wp2_with fail
      refine wp_region_near (by assumption) (by kernel_rfl) ?_
      repeat (go_big_quiet_step ((go_at_call 140;exact near_call (HF.out _))))
      refine wpQuiet_nil ?_;intro w1 hw1;have hy:=Ext.of_near hw1;clear hw1;obtain⟨xc,xf,xl,xe,xn,xm⟩:=hy.look;have lB1:=Nat.lt_of_lt_of_le lB hy.size;have hbl1:=Nat.lt_of_lt_of_le hbl hy.size;have HX1:=Lib.hid (hx.trans hy);have HB1:=Lib.hid (HB.out.ext hy);have hn:=HN.out
      by_cases hqp:q=p
      · have hb2:decide (q=p)=true:=by simpa using hqp
        rw[hb2]at hn;have HR3:=Lib.hid (show R=l by rw[HR2.out,if_pos hqp]);clear hqp hb2
        go_wp2_with fail
        refine wp_region_near (by assumption) (by kernel_rfl) ?_
        repeat (go_big_quiet_step (fail))
        refine wpQuiet_nil ?_;intro w1 hw1;have hy:=Ext.of_near hw1;clear hw1
        go_wp2_with fail
        go_ret
        rw[HR3.out];exact⟨_,_,rfl,HS.out.ext (HX1.out.trans hy),.inl rfl,HX1.out.trans hy⟩
      · have hb2:decide (q=p)=false:=by simpa using hqp
        rw[hb2]at hn;have HR3:=Lib.hid (show R=l.take j++(p:: l.drop j)by rw[HR2.out,if_neg hqp]);clear hqp hb2
        go_wp2_with fail
        refine wp_region_near (by assumption) (by kernel_rfl) ?_
        repeat (go_big_quiet_step (fail))
        refine wpQuiet_nil ?_;intro w1 hw1;have hy:=Ext.of_near hw1;clear hw1;have HXW:=Lib.hid (HX1.out.trans hy);have HSW:=Lib.hid (HS.out.ext HXW.out);have HBW:=Lib.hid (HB1.out.ext hy);clear r0 r1 r2 hn hy xc xf xl xe xn xm hbl hbl1 lB lB1 p0 p1 p2 hx;have hxz:Ext w1 (w1.alloc (.cells #[] 23)):=(Ext.refl _).alloc _;have HSL:=Lib.hid (HSW.out.ext hxz);have HBL:=Lib.hid (HBW.out.ext hxz);have HXZ:=Lib.hid hxz;clear hxz;have hle:=HSL.out.le;have hmx:=HSL.out.max;simp only[rowsP_length]at hle;unfold maxLen at hmx
        go_wp2_with (at_builtin;refine wpList_append_sv _ rfl (.tmp 34) (.tmp 37) 62 rfl w1.heap.size 23 i0 (.agg #[.int .i64 0,.int .i64 0,.int .i64 0]) 3 24 Tryz.underlying62 HI.out HZ.out HZ1.out HZ2.out rfl (by decide) _ 0 [] rfl (own_zero w1 23 3) (w1.alloc (.cells #[] 23)).heap.size (some ⟨b,off,none⟩) (j) c (rowsP (l.take (j))) rfl (by rw[rowsP_take];exact HSL.out.take _) (by rw[rowsP_length,List.length_take];omega) (by unfold maxLen;omega) (by omega) HXZ.out.size ?_)
        intro v2 w2 g1 g2 _;have HX3:=Lib.hid (show Ext w1 w2 from HXZ.out.grown g2 (own_low (own_zero w1 23 3)));have HSM:=Lib.hid (HSW.out.ext HX3.out);have HO3:=Lib.hid (show w2.ownsRow w1.heap.size 23 3 v2 (j) (rowsP (l.take (j))).flatten by simpa using g1);have HBM:=Lib.hid (HBW.out.ext HX3.out);clear g1 g2
        go_wp2_with (first
         | (refine wpList_load_blk 23 (.tmp 3) rfl rfl HBM.out rfl _ Tryz.underlying23 rfl (by kernel_rfl) ?_)
         | (refine wpList_buildRow rfl 62 23 40 rfl 3 (by decide) (by decide) ([.int .i64 p.x,.int .i64 p.y,.int .i64 p.z]) rfl rfl Tryz.underlying62 (by kernel_rfl) (by kernel_rfl) ?_)
         | (at_builtin;refine wpList_append_own _ rfl (.tmp 39) (.tmp 41) 62 rfl w1.heap.size 23 i0 (.agg #[.int .i64 0,.int .i64 0,.int .i64 0]) 3 24 Tryz.underlying62 HI.out HZ.out HZ1.out HZ2.out rfl (by decide) _ (j) (rowsP (l.take (j))).flatten rfl (own_ext HO3.out (Ext.alloc (Ext.refl w2) _)) ⟨w2.heap.size,0,none⟩ 1 1 ([.int .i64 p.x,.int .i64 p.y,.int .i64 p.z]) rfl rfl ?_ HONE.out (by unfold maxLen;omega) (by omega) ?_ ?_))
        · intro j2 u hu;rw[add_lit,Nat.zero_add,cell_of_row _ _ _ _ _ _ (heap_alloc_new w2 _)];simpa using hu
        · have h1:=HX3.out.size;simp only[World.size_alloc_];omega
        intro v3 w3 g1 g2 _;have HX4:=Lib.hid (show Ext w1 w3 from(HX3.out.alloc _).grown g2 (own_low (own_ext HO3.out (Ext.alloc (Ext.refl w2) (.cells ([.int .i64 p.x,.int .i64 p.y,.int .i64 p.z]:List Value).toArray 23)))));have HO4:=Lib.hid g1;clear g1 g2;have HSD:=Lib.hid (show Sv w3 w3.heap.size 3 (if c=j then(some ⟨b,off,none⟩)else Option.map (fun z:Addr=>z.add ((j) * 3)) (some ⟨b,off,none⟩)) (c - (j)) (rowsP (l.drop (j)))from by rw[rowsP_drop];exact(HSW.out.ext HX4.out).drop (by rw[rowsP_length];omega))
        by_cases hca:c=j
        all_goals
         go_wp2_with (at_builtin;refine wpList_append_sv _ rfl (.tmp 43) (.tmp 46) 62 rfl w1.heap.size 23 i0 (.agg #[.int .i64 0,.int .i64 0,.int .i64 0]) 3 24 Tryz.underlying62 HI.out HZ.out HZ1.out HZ2.out rfl (by decide) _ ((j)+1) _ rfl HO4.out w3.heap.size (if c=j then(some ⟨b,off,none⟩)else Option.map (fun z:Addr=>z.add ((j) * 3)) (some ⟨b,off,none⟩)) (l.length - (j)) (c - (j)) (rowsP (l.drop (j))) ?_ HSD.out (by rw[rowsP_length,List.length_drop]) (by unfold maxLen;omega) (by omega) HX4.out.size ?_)
         intro v5 w5 g1 g2 _;have HX6:=Lib.hid (HX4.out.grown g2 (own_low HO4.out));have HO5:=Lib.hid g1;clear g1 g2;go_wp2
         go_ret
         rw[HR3.out];exact RetPF.mk (base:=w1.heap.size) (by simpa[rowsP,Pt.cells]using HO5.out) (by simp <;> omega) (HXW.out.trans HX6.out) HXW.out.size
    · go_wp2_with fail
      refine wp_region_near (by assumption) (by kernel_rfl) ?_
      repeat (go_big_quiet_step ((go_at_call 140;exact near_call (HF.out _))))
      refine wpQuiet_nil ?_;intro w1 hw1;have hy:=Ext.of_near hw1;clear hw1;have hB2:=HB.out.ext hy;go_wp2
      go_roundw
      case rel=>exact⟨j+1,by omega,by go_num,no_snoc (f:=fun y=>!befP y p) (fun i y hi hy=>by simp[HNO.out i y hi hy]) HQ.out (by simp[HBE.out]) |> fun h i y hi hy=>by simpa using h i y hi hy,hB2,hx.trans hy⟩
      case measure=>simp[intOf];omega
  · obtain rfl:j=l.length:=by omega
    have hk:=HP.out l.length HNO.out (Nat.le_refl _) (fun y hy=>by simp at hy);have HR3:=Lib.hid (show R=l.take l.length++(p:: l.drop l.length)by rw[HR.out];unfold putL;rw[hk];simp);clear hk
    go_wp2_with fail
    refine wp_region_near (by assumption) (by kernel_rfl) ?_
    repeat (go_big_quiet_step (fail))
    refine wpQuiet_nil ?_;intro w1 hw1;have hy:=Ext.of_near hw1;clear hw1;obtain⟨xc,xf,xl,xe,xn,xm⟩:=hy.look;have lB1:=Nat.lt_of_lt_of_le lB hy.size;have HX1:=Lib.hid (hx.trans hy);have HB1:=Lib.hid (HB.out.ext hy)
    go_wp2_with fail
    refine wp_region_near (by assumption) (by kernel_rfl) ?_
    repeat (go_big_quiet_step (fail))
    refine wpQuiet_nil ?_;intro w1 hw1;have hy:=Ext.of_near hw1;clear hw1;have HXW:=Lib.hid (HX1.out.trans hy);have HSW:=Lib.hid (HS.out.ext HXW.out);have HBW:=Lib.hid (HB1.out.ext hy);clear hy xc xf xl xe xn xm lB lB1 p0 p1 p2 hx;have hxz:Ext w1 (w1.alloc (.cells #[] 23)):=(Ext.refl _).alloc _;have HSL:=Lib.hid (HSW.out.ext hxz);have HBL:=Lib.hid (HBW.out.ext hxz);have HXZ:=Lib.hid hxz;clear hxz;have hle:=HSL.out.le;have hmx:=HSL.out.max;simp only[rowsP_length]at hle;unfold maxLen at hmx
    go_wp2_with (at_builtin;refine wpList_append_sv _ rfl (.tmp 34) (.tmp 37) 62 rfl w1.heap.size 23 i0 (.agg #[.int .i64 0,.int .i64 0,.int .i64 0]) 3 24 Tryz.underlying62 HI.out HZ.out HZ1.out HZ2.out rfl (by decide) _ 0 [] rfl (own_zero w1 23 3) (w1.alloc (.cells #[] 23)).heap.size (some ⟨b,off,none⟩) (l.length) c (rowsP (l.take (l.length))) rfl (by rw[rowsP_take];exact HSL.out.take _) (by rw[rowsP_length,List.length_take];omega) (by unfold maxLen;omega) (by omega) HXZ.out.size ?_)
    intro v2 w2 g1 g2 _;have HX3:=Lib.hid (show Ext w1 w2 from HXZ.out.grown g2 (own_low (own_zero w1 23 3)));have HSM:=Lib.hid (HSW.out.ext HX3.out);have HO3:=Lib.hid (show w2.ownsRow w1.heap.size 23 3 v2 (l.length) (rowsP (l.take (l.length))).flatten by simpa using g1);have HBM:=Lib.hid (HBW.out.ext HX3.out);clear g1 g2
    go_wp2_with (first
     | (refine wpList_load_blk 23 (.tmp 3) rfl rfl HBM.out rfl _ Tryz.underlying23 rfl (by kernel_rfl) ?_)
     | (refine wpList_buildRow rfl 62 23 40 rfl 3 (by decide) (by decide) ([.int .i64 p.x,.int .i64 p.y,.int .i64 p.z]) rfl rfl Tryz.underlying62 (by kernel_rfl) (by kernel_rfl) ?_)
     | (at_builtin;refine wpList_append_own _ rfl (.tmp 39) (.tmp 41) 62 rfl w1.heap.size 23 i0 (.agg #[.int .i64 0,.int .i64 0,.int .i64 0]) 3 24 Tryz.underlying62 HI.out HZ.out HZ1.out HZ2.out rfl (by decide) _ (l.length) (rowsP (l.take (l.length))).flatten rfl (own_ext HO3.out (Ext.alloc (Ext.refl w2) _)) ⟨w2.heap.size,0,none⟩ 1 1 ([.int .i64 p.x,.int .i64 p.y,.int .i64 p.z]) rfl rfl ?_ HONE.out (by unfold maxLen;omega) (by omega) ?_ ?_))
    · intro j2 u hu;rw[add_lit,Nat.zero_add,cell_of_row _ _ _ _ _ _ (heap_alloc_new w2 _)];simpa using hu
    · have h1:=HX3.out.size;simp only[World.size_alloc_];omega
    intro v3 w3 g1 g2 _;have HX4:=Lib.hid (show Ext w1 w3 from(HX3.out.alloc _).grown g2 (own_low (own_ext HO3.out (Ext.alloc (Ext.refl w2) (.cells ([.int .i64 p.x,.int .i64 p.y,.int .i64 p.z]:List Value).toArray 23)))));have HO4:=Lib.hid g1;clear g1 g2;have HSD:=Lib.hid (show Sv w3 w3.heap.size 3 (if c=l.length then(some ⟨b,off,none⟩)else Option.map (fun z:Addr=>z.add ((l.length) * 3)) (some ⟨b,off,none⟩)) (c - (l.length)) (rowsP (l.drop (l.length)))from by rw[rowsP_drop];exact(HSW.out.ext HX4.out).drop (by rw[rowsP_length];omega))
    by_cases hca:c=l.length
    all_goals
     go_wp2_with (at_builtin;refine wpList_append_sv _ rfl (.tmp 43) (.tmp 46) 62 rfl w1.heap.size 23 i0 (.agg #[.int .i64 0,.int .i64 0,.int .i64 0]) 3 24 Tryz.underlying62 HI.out HZ.out HZ1.out HZ2.out rfl (by decide) _ ((l.length)+1) _ rfl HO4.out w3.heap.size (if c=l.length then(some ⟨b,off,none⟩)else Option.map (fun z:Addr=>z.add ((l.length) * 3)) (some ⟨b,off,none⟩)) (l.length - (l.length)) (c - (l.length)) (rowsP (l.drop (l.length))) ?_ HSD.out (by rw[rowsP_length,List.length_drop]) (by unfold maxLen;omega) (by omega) HX4.out.size ?_)
     intro v5 w5 g1 g2 _;have HX6:=Lib.hid (HX4.out.grown g2 (own_low HO4.out));have HO5:=Lib.hid g1;clear g1 g2;go_wp2
     go_ret
     rw[HR3.out];exact RetPF.mk (base:=w1.heap.size) (by simpa[rowsP,Pt.cells]using HO5.out) (by simp <;> omega) (HXW.out.trans HX6.out) HXW.out.size
theorem Put_nil(A:Option Addr)(c:Nat)(p:Pt)(w:World)(hs:Sv w w.heap.size 3 A c (rowsP ([]:List Pt))):
    Calls Tryz.prog 106 #[.slice A 0 c,.agg #[.int .i64 p.x,.int .i64 p.y,.int .i64 p.z]] w (RetPF A (putL [] p) w):=by
 have hm:=mixed;have hG:=near_old;have HS:=Lib.hid hs;clear hs;have HR3:=Lib.hid (show putL [] p = [p]from rfl);obtain⟨i0,hi,hz0,hz1,hz2⟩:=info_parts infoPt;have HI:=Lib.hid hi;have HZ:=Lib.hid hz0;have HZ1:=Lib.hid hz1;have HZ2:=Lib.hid hz2;clear hi hz0 hz1 hz2;have HONE:=Lib.hid ((rowsP_rwk [p] p.cells (by simp[rowsP])).2)
 go_enter Tryz.func106,Tryz.ntmps106
 go_wp2
 go_loopw [5] (fun i wr=>i = .int .i64 0∧Arr wr w.heap.size 23 [.int .i64 p.x,.int .i64 p.y,.int .i64 p.z]∧Ext w wr) (fun i _=>0)
 case atStart=>exact⟨rfl,Arr.new w _ _,(Ext.refl w).alloc _⟩
 case round=>
     obtain⟨rfl,hB,hx⟩:=hrel;have lB:=hB.lt;have HB:=Lib.hid hB;clear hB
     go_wp2_with fail
     refine wp_region_near (by assumption) (by kernel_rfl) ?_
     repeat (go_big_quiet_step (fail))
     refine wpQuiet_nil ?_;intro w1 hw1;have hy:=Ext.of_near hw1;clear hw1;obtain⟨xc,xf,xl,xe,xn,xm⟩:=hy.look;have lB1:=Nat.lt_of_lt_of_le lB hy.size;have HX1:=Lib.hid (hx.trans hy);have HB1:=Lib.hid (HB.out.ext hy)
     go_wp2_with fail
     refine wp_region_near (by assumption) (by kernel_rfl) ?_
     repeat (go_big_quiet_step (fail))
     refine wpQuiet_nil ?_;intro w1 hw1;have hy:=Ext.of_near hw1;clear hw1;have HXW:=Lib.hid (HX1.out.trans hy);have HSW:=Lib.hid (HS.out.ext HXW.out);have HBW:=Lib.hid (HB1.out.ext hy);clear hy xc xf xl xe xn xm lB lB1 hx;have hxz:Ext w1 (w1.alloc (.cells #[] 23)):=(Ext.refl _).alloc _;have HSL:=Lib.hid (HSW.out.ext hxz);have HBL:=Lib.hid (HBW.out.ext hxz);have HXZ:=Lib.hid hxz;clear hxz;have hle:=HSL.out.le;have hmx:=HSL.out.max;simp only[rowsP_length]at hle;unfold maxLen at hmx
     go_wp2_with (at_builtin;refine wpList_append_sv _ rfl (.tmp 34) (.tmp 37) 62 rfl w1.heap.size 23 i0 (.agg #[.int .i64 0,.int .i64 0,.int .i64 0]) 3 24 Tryz.underlying62 HI.out HZ.out HZ1.out HZ2.out rfl (by decide) _ 0 [] rfl (own_zero w1 23 3) (w1.alloc (.cells #[] 23)).heap.size A 0 c (rowsP (([]:List Pt).take 0)) rfl (by rw[rowsP_take];exact HSL.out.take _) (by rw[rowsP_length,List.length_take];omega) (by unfold maxLen;omega) (by omega) HXZ.out.size ?_)
     intro v2 w2 g1 g2 _;have HX3:=Lib.hid (show Ext w1 w2 from HXZ.out.grown g2 (own_low (own_zero w1 23 3)));have HSM:=Lib.hid (HSW.out.ext HX3.out);have HO3:=Lib.hid (show w2.ownsRow w1.heap.size 23 3 v2 0 (rowsP (([]:List Pt).take 0)).flatten by simpa using g1);have HBM:=Lib.hid (HBW.out.ext HX3.out);clear g1 g2
     go_wp2_with (first
      | (refine wpList_load_blk 23 (.tmp 3) rfl rfl HBM.out rfl _ Tryz.underlying23 rfl (by kernel_rfl) ?_)
      | (refine wpList_buildRow rfl 62 23 40 rfl 3 (by decide) (by decide) ([.int .i64 p.x,.int .i64 p.y,.int .i64 p.z]) rfl rfl Tryz.underlying62 (by kernel_rfl) (by kernel_rfl) ?_)
      | (at_builtin;refine wpList_append_own _ rfl (.tmp 39) (.tmp 41) 62 rfl w1.heap.size 23 i0 (.agg #[.int .i64 0,.int .i64 0,.int .i64 0]) 3 24 Tryz.underlying62 HI.out HZ.out HZ1.out HZ2.out rfl (by decide) _ 0 (rowsP (([]:List Pt).take 0)).flatten rfl (own_ext HO3.out (Ext.alloc (Ext.refl w2) _)) ⟨w2.heap.size,0,none⟩ 1 1 ([.int .i64 p.x,.int .i64 p.y,.int .i64 p.z]) rfl rfl ?_ HONE.out (by unfold maxLen;omega) (by omega) ?_ ?_))
     · intro j2 u hu;rw[add_lit,Nat.zero_add,cell_of_row _ _ _ _ _ _ (heap_alloc_new w2 _)];simpa using hu
     · have h1:=HX3.out.size;simp only[World.size_alloc_];omega
     intro v3 w3 g1 g2 _;have HX4:=Lib.hid (show Ext w1 w3 from(HX3.out.alloc _).grown g2 (own_low (own_ext HO3.out (Ext.alloc (Ext.refl w2) (.cells ([.int .i64 p.x,.int .i64 p.y,.int .i64 p.z]:List Value).toArray 23)))));have HO4:=Lib.hid g1;clear g1 g2
     rcases A with _ | ⟨ab,ao,asp⟩ <;> by_cases hca:c=0
     all_goals
      go_wp2_with (at_builtin;refine wpList_append_sv _ rfl (.tmp 43) (.tmp 46) 62 rfl w1.heap.size 23 i0 (.agg #[.int .i64 0,.int .i64 0,.int .i64 0]) 3 24 Tryz.underlying62 HI.out HZ.out HZ1.out HZ2.out rfl (by decide) _ (0+1) _ rfl HO4.out w3.heap.size _ 0 _ [] rfl (Sv.empty _ _ _ (by unfold maxLen;omega)) rfl (by unfold maxLen;omega) (by omega) HX4.out.size ?_)
      intro v5 w5 g1 g2 _;have HX6:=Lib.hid (HX4.out.grown g2 (own_low HO4.out));have HO5:=Lib.hid g1;clear g1 g2;go_wp2
      go_ret
      rw[HR3.out];exact RetPF.mk (base:=w1.heap.size) (by simpa[rowsP,Pt.cells]using HO5.out) (by simp <;> omega) (HXW.out.trans HX6.out) HXW.out.size
theorem Put_fresh(A:Option Addr)(c:Nat)(l:List Pt)(p:Pt)(w:World)(hs:Sv w w.heap.size 3 A c (rowsP l))(hb:l.length≤100000):
    Calls Tryz.prog 106 #[.slice A l.length c,.agg #[.int .i64 p.x,.int .i64 p.y,.int .i64 p.z]] w (RetPF A (putL l p) w):=by
 rcases Nat.eq_zero_or_pos l.length with h0 | h0
 · obtain rfl:=List.eq_nil_of_length_eq_zero h0;exact Put_nil A c p w hs
 · obtain⟨b,off,rfl,_⟩:=hs.mem (by rw[rowsP_length];exact h0);exact Put_some b off c l p w hs hb
theorem Put_any(A:Option Addr)(c:Nat)(l:List Pt)(p:Pt)(w:World)(hs:Sv w w.heap.size 3 A c (rowsP l))(hb:l.length≤100000):
    Calls Tryz.prog 106 #[.slice A l.length c,.agg #[.int .i64 p.x,.int .i64 p.y,.int .i64 p.z]] w (RetP (putL l p) w):=
 (Put_fresh A c l p w hs hb).mono fun _ _ ⟨A',c',h1,h2,_,h3⟩=>⟨A',c',h1,h2,h3⟩
def lenOf:Value→Nat
 | .slice _ n _=>n
 | _=>0
theorem atG_any{g:Gr}{sx sy sz:Nat}(G:GoodG g sx sy sz){i:Nat}(h:i < g.cells.length)(h2:g.cells.length≤100000)(w:World):
    Calls Tryz.prog 87 #[.agg #[.int .i64 g.box.lo.x,.int .i64 g.box.lo.y,.int .i64 g.box.lo.z,.int .i64 g.box.hi.x,.int .i64 g.box.hi.y,.int .i64 g.box.hi.z],.int .i64 i] w fun e w'=>e = .returned (.tuple #[.agg #[.int .i64 (atG g sx sy i).x,.int .i64 (atG g sx sy i).y,.int .i64 (atG g sx sy i).z],.bool true])∧Ext w w':=by
 obtain⟨px,py,pz⟩:=G.pos (by omega);have h1:=refAt_any g.box i g.cells.length sx sy sz w G.size h (G.sp (by omega)) px py (by have:=G.bx;omega) (by have:=G.by_;omega) (by omega);rw[G.atW h]at h1;exact h1
theorem GoodL.isReg{g:Gr}{v:Int}{a:Pt}{l:List Pt}{sx sy sz:Nat}(h:GoodL g v a l)(ha:fld g a=some v)(G:GoodG g sx sy sz)(hr:rngP g.box.hi=true)(hc:Closed g v sx sy l g.cells.length):IsReg (fld g) v a l:=
 ⟨h.sort,fun q=>⟨h.reach q,fun hq=>by
   induction hq with
   | base=>exact h.mem
   | @step p q hp ha2 hF ih=>
     apply Classical.byContradiction;intro hno;have hin:=fld_some hF;have hi:=G.idx hin;refine hc _ hi.1 (by rw[hi.2];exact hno) ?_ ?_
     · rw[hi.2,List.any_eq_true];exact⟨p,ih,(nearW_iff (G.small hr (h.inb ha ih)) (G.small hr hin)).2 ha2⟩
     · obtain⟨u,h1,h2⟩:=G.fld_in hin;rw[h2,← h1,hF]⟩⟩
def RetReg(F:Pt→Option Int)(v:Int)(a:Pt)(w:World)(en:Ending)(w':World):Prop:=∃ l,IsReg F v a l∧RetP l w en w'
theorem region_any(g:Gr)(A:Option Addr)(c:Nat)(a:Pt)(v:Int)(w:World)(hs:Sv w w.heap.size 1 A c (rowsI g.cells))(hv:validG g=true)(h200:g.cells.length≤1000)(hF:fld g a=some v):
    Calls Tryz.prog 60 #[.agg #[.int .i64 g.box.lo.x,.int .i64 g.box.lo.y,.int .i64 g.box.lo.z,.int .i64 g.box.hi.x,.int .i64 g.box.hi.y,.int .i64 g.box.hi.z,.slice A g.cells.length c],.agg #[.int .i64 a.x,.int .i64 a.y,.int .i64 a.z]] w (RetReg (fld g) v a w):=by
 obtain⟨sx,sy,sz,G⟩:=good_of hv;have hr:rngP g.box.hi=true:=by unfold validG at hv;simp only[Bool.and_eq_true]at hv;exact hv.2.1
 have HG:=Lib.hid G;have HR:=Lib.hid hr;have HF:=Lib.hid hF;have HS:=Lib.hid hs;clear G hr hF hs hv
 go_enter Tryz.func60,Tryz.ntmps60
 go_upto_region 1 with fail
 have B0:=Arr.new w 28 [.int .i64 g.box.lo.x,.int .i64 g.box.lo.y,.int .i64 g.box.lo.z,.int .i64 g.box.hi.x,.int .i64 g.box.hi.y,.int .i64 g.box.hi.z,.slice A g.cells.length c];have B1:=Arr.new (w.alloc (.cells #[.int .i64 g.box.lo.x,.int .i64 g.box.lo.y,.int .i64 g.box.lo.z,.int .i64 g.box.hi.x,.int .i64 g.box.hi.y,.int .i64 g.box.hi.z,.slice A g.cells.length c] 28)) 23 [.int .i64 a.x,.int .i64 a.y,.int .i64 a.z];have B0:=B0.alloc (.cells #[.int .i64 a.x,.int .i64 a.y,.int .i64 a.z] 23);simp only[World.size_alloc_]at B1;obtain⟨W0,hW⟩:∃ W,W=(w.alloc (.cells #[.int .i64 g.box.lo.x,.int .i64 g.box.lo.y,.int .i64 g.box.lo.z,.int .i64 g.box.hi.x,.int .i64 g.box.hi.y,.int .i64 g.box.hi.z,.slice A g.cells.length c] 28)).alloc (.cells #[.int .i64 a.x,.int .i64 a.y,.int .i64 a.z] 23):=⟨_,rfl⟩;have hx0:Ext w W0:=by rw[hW];exact((Ext.refl w).alloc _).alloc _
 rw[← hW]at B0 B1;rw[← hW];clear hW;have HX0:=Lib.hid hx0;have HB0:=Lib.hid B0;have HB1:=Lib.hid B1;clear hx0 B0 B1
 go_upto_region 2 with(first
  | (refine wpList_load_blk 23 (.tmp 3) rfl rfl HB1.out rfl _ Tryz.underlying23 rfl (by kernel_rfl) ?_)
  | (refine wpList_buildRow rfl 62 23 13 rfl 3 (by decide) (by decide) ([.int .i64 a.x,.int .i64 a.y,.int .i64 a.z]) rfl rfl Tryz.underlying62 (by kernel_rfl) (by kernel_rfl) ?_))
 have hs1:Sv (W0.alloc (.cells #[.int .i64 a.x,.int .i64 a.y,.int .i64 a.z] 23)) (W0.alloc (.cells #[.int .i64 a.x,.int .i64 a.y,.int .i64 a.z] 23)).heap.size 3 (some ⟨W0.heap.size,0,none⟩) 1 (rowsP [a]):=
  ⟨Nat.le_refl _,by decide,rowsP_rwk _,fun _=>⟨W0.heap.size,0,rfl,by simp,fun j u hu=>by
    rw[Nat.zero_add,cell_of_row _ _ _ _ _ _ (heap_alloc_new W0 _)];simpa[rowsP,Pt.cells]using hu⟩⟩
 have hx1:Ext W0 (W0.alloc (.cells #[.int .i64 a.x,.int .i64 a.y,.int .i64 a.z] 23)):=(Ext.refl _).alloc _;obtain⟨W1,hW⟩:∃ W,W=W0.alloc (.cells #[.int .i64 a.x,.int .i64 a.y,.int .i64 a.z] 23):=⟨_,rfl⟩;rw[← hW]at hs1 hx1;rw[← hW];clear hW;have HX1:=Lib.hid (HX0.out.trans hx1);have HB2:=Lib.hid (HB0.out.ext hx1);have HB3:=Lib.hid (HB1.out.ext hx1);have HS1:=Lib.hid hs1;clear hx1 hs1
 go_wp2_with (first
  | (refine wpList_load_blk 28 (.tmp 2) rfl rfl HB2.out rfl _ Tryz.underlying28 rfl (by kernel_rfl) ?_)
  | (refine wpList_load_blk 23 (.tmp 3) rfl rfl HB3.out rfl _ Tryz.underlying23 rfl (by kernel_rfl) ?_)
  | (go_at_call 19;refine(get_any HG.out A c a _ (HS.out.ext HX1.out) HF.out).mono ?_;rintro e W2 ⟨rfl,x2⟩))
 have HX2:=Lib.hid (HX1.out.trans x2);have HB4:=Lib.hid (HB2.out.ext x2);have HS2:=Lib.hid (HS1.out.ext x2);clear x2
 go_loopw [5] (fun lv wr=>∃ (l:List Pt) (A':Option Addr) (c':Nat),lv = .slice A' l.length c'∧Sv wr wr.heap.size 3 A' c' (rowsP l)∧GoodL g v a l∧Ext W2 wr) (fun lv _=>g.cells.length+1 - lenOf lv)
 case atStart=>exact⟨[a],_,1,rfl,HS2.out,⟨List.pairwise_singleton ..,by simp,fun q hq=>by simp at hq;subst hq;exact .base⟩,Ext.refl _⟩
 case round=>
  obtain⟨l0,A0,c0,rfl,hs0,hgl,hx0⟩:=hrel;have hl0:=hgl.len HF.out HG.out;have HS0:=Lib.hid hs0;have HGL:=Lib.hid hgl;have HXO:=Lib.hid hx0;clear hs0 hgl hx0;obtain⟨wo,hwo⟩:∃ wo:World,wo=wr:=⟨_,rfl⟩;rw[← hwo]at HS0 HXO;rw[← hwo];clear hwo
  go_wp2_with fail
  go_loopw [5,7,8] (fun lv gr i wi=>∃ (l:List Pt) (A':Option Addr) (c' k:Nat) (gb:Bool),lv = .slice A' l.length c'∧gr = .bool gb∧i = .int .i64 k∧k≤g.cells.length∧Sv wi wi.heap.size 3 A' c' (rowsP l)∧PassR g v a sx sy l0 l gb k∧Ext wo wi) (fun _ _ i _=>g.cells.length - (intOf i).toNat)
  case atStart=>exact⟨l0,A0,c0,0,false,rfl,rfl,rfl,Nat.zero_le _,HS0.out,⟨HGL.out,fun h=>absurd h (by simp),fun _=>⟨rfl,fun j hj=>absurd hj (by omega)⟩⟩,Ext.refl _⟩
  case round=>
   obtain⟨l,A',c',k,gb,rfl,rfl,rfl,hk,hsl,hp,hx⟩:=hrel;have hll:=hp.good.len HF.out HG.out;have HSL:=Lib.hid hsl;have HP:=Lib.hid hp;have HX:=Lib.hid hx;have HXA:=Lib.hid (HX2.out.trans (HXO.out.trans hx));have HB:=Lib.hid (HB4.out.ext (HXO.out.trans hx));clear hsl hp hx;have cB:=HB.out.cell 6;have lB:=HB.out.lt;simp only[List.getElem?_cons_zero,List.getElem?_cons_succ]at cB
   by_cases hlt:k < g.cells.length
   · obtain⟨u,hu⟩:∃ u,g.cells[k]? = some u:=⟨_,List.getElem?_eq_getElem hlt⟩;obtain⟨b',off,rfl,hbl,r0⟩:=int_row (HS.out.ext HXA.out) hu;have hl2:g.cells.length≤100000:=by omega
     have HAT:=Lib.hid (fun w'=>atG_any HG.out hlt hl2 w');have HU:=Lib.hid hu;have HKP:=Lib.hid (fun h1=>HP.out.keep (k:=k) h1);have HGR:=Lib.hid (fun h1 h2 h3=>HP.out.grow (k:=k) HF.out HG.out HR.out h1 h2 h3);clear hu hl2 HP;generalize atG g sx sy k=p at HAT HKP HGR
     go_upto_region 8 with(first
      | (refine wpList_load_part 25 (.tmp 26) rfl rfl HB.out 0 [.int .i64 g.box.lo.x,.int .i64 g.box.lo.y,.int .i64 g.box.lo.z,.int .i64 g.box.hi.x,.int .i64 g.box.hi.y,.int .i64 g.box.hi.z] rfl rfl _ Tryz.underlying25 rfl (by kernel_rfl) ?_)
      | (go_at_call 87;refine(HAT.out _).mono ?_;rintro e w3 ⟨rfl,x3⟩))
     have B5:=Arr.new w3 23 [.int .i64 p.x,.int .i64 p.y,.int .i64 p.z];have hx4:Ext wr (w3.alloc (.cells #[.int .i64 p.x,.int .i64 p.y,.int .i64 p.z] 23)):=x3.alloc _;obtain⟨W4,hW⟩:∃ W,W=w3.alloc (.cells #[.int .i64 p.x,.int .i64 p.y,.int .i64 p.z] 23):=⟨_,rfl⟩;rw[← hW]at B5 hx4;rw[← hW];clear hW;have HB5:=Lib.hid B5;have HX4:=Lib.hid hx4;have r0:W4.cell? ⟨b',off+k,none⟩=some (.int .i64 u):=by rw[hx4.cell hbl];exact r0
     have cB:W4.cell? ⟨w.heap.size,6,none⟩=some (.slice (some ⟨b',off,none⟩) g.cells.length c):=by rw[hx4.cell lB];exact cB
     have lB:=Nat.lt_of_lt_of_le lB hx4.size;have hbl:=Nat.lt_of_lt_of_le hbl hx4.size;have HSL4:=Lib.hid (HSL.out.ext hx4);clear x3 hx4 B5;have HH:=Lib.hid (fun(w':World) (hx:Ext W4 w')=>Has_any A' c' l p w' (HSL4.out.ext hx));have HT:=Lib.hid (fun(w':World) (hx:Ext W4 w')=>touches_any A' c' l p w' (HSL4.out.ext hx));generalize hbt:decide (p∈l)=bt at HH;generalize hbn:(l.any fun y=>nearW y p)=bn at HT HKP HGR;have HBT:=Lib.hid hbt;clear hbt hbn
     go_upto_region 9 with(first
      | (refine wpList_load_blk 23 (.tmp 9) rfl rfl HB5.out rfl _ Tryz.underlying23 rfl (by kernel_rfl) ?_)
      | (go_at_call 104;refine(HH.out _ (Ext.refl _)).mono ?_;rintro e W5 ⟨rfl,x5⟩))
     have HB6:=Lib.hid (HB5.out.ext x5)
     go_upto_region 10 with(first
      | (refine wpList_load_blk 23 (.tmp 9) rfl rfl HB6.out rfl _ Tryz.underlying23 rfl (by kernel_rfl) ?_)
      | (go_at_call 105;refine(HT.out _ x5).mono ?_;rintro e W6 ⟨rfl,x6⟩))
     have hx6:=x5.trans x6;have HB7:=Lib.hid (HB6.out.ext x6);have r0:W6.cell? ⟨b',off+k,none⟩=some (.int .i64 u):=by rw[hx6.cell hbl];exact r0
     have cB:W6.cell? ⟨w.heap.size,6,none⟩=some (.slice (some ⟨b',off,none⟩) g.cells.length c):=by rw[hx6.cell lB];exact cB
     have lB:=Nat.lt_of_lt_of_le lB hx6.size;have hbl:=Nat.lt_of_lt_of_le hbl hx6.size;have HX6:=Lib.hid (HX4.out.trans hx6);have HXB:=Lib.hid (HX.out.trans HX6.out);have HSL6:=Lib.hid (HSL4.out.ext hx6);clear x5 x6 hx6;have hcase:(bt=true∨(bt=false∧bn=false))∨(bt=false∧bn=true∧u≠v)∨(bt=false∧bn=true∧u=v):=by
      cases bt <;> cases bn <;> simp
      exact(Classical.em (u=v)).symm
     rcases hcase with h1 | ⟨rfl,rfl,hne⟩ | ⟨rfl,rfl,rfl⟩
     · have HK:=Lib.hid (HKP.out (h1.elim (fun h=>.inl (of_decide_eq_true (HBT.out.trans h))) (fun h=>.inr (.inl h.2))))
       rcases h1 with rfl | ⟨rfl,rfl⟩ <;>
       · go_wp2
         go_roundw
         case rel=>exact⟨l,A',c',k+1,gb,rfl,rfl,by go_num,by omega,HSL6.out,HK.out,HXB.out⟩
         case measure=>simp[intOf];omega
     · have HK:=Lib.hid (HKP.out (.inr (.inr (by rw[HU.out];simpa using hne))));have hne2:(u == v)=false:=by simpa using hne
       clear hne;go_wp2
       go_roundw
       case rel=>exact⟨l,A',c',k+1,gb,rfl,rfl,by go_num,by omega,HSL6.out,HK.out,HXB.out⟩
       case measure=>simp[intOf];omega
     · have HK:=Lib.hid (HGR.out (by simpa using HBT.out) rfl HU.out);have hb2:l.length≤100000:=by omega
       have HPUT:=Lib.hid (Put_any A' c' l p W6 HSL6.out hb2)
       go_upto_region 11 with fail
       go_wp2_with (first
        | (refine wpList_load_blk 23 (.tmp 9) rfl rfl HB7.out rfl _ Tryz.underlying23 rfl (by kernel_rfl) ?_)
        | (go_at_call 106;refine HPUT.out.mono ?_;rintro e W7 ⟨A7,c7,rfl,s7,x7⟩))
       go_roundw
       case rel=>exact⟨putL l p,A7,c7,k+1,true,rfl,rfl,by go_num,by omega,s7,HK.out,HXB.out.trans x7⟩
       case measure=>simp[intOf];omega
   · obtain rfl:k=g.cells.length:=by omega
     cases gb
     · obtain⟨rfl,hcl⟩:=HP.out.same rfl;have HCL:=Lib.hid hcl;clear hcl;go_wp2
       go_ret
       exact⟨l,HP.out.good.isReg HF.out HG.out HR.out HCL.out,A',c',rfl,HSL.out,HXA.out⟩
     · have hmore:=HP.out.more rfl;go_wp2
       go_roundw
       case rel=>exact⟨l,A',c',rfl,HSL.out,HP.out.good,HXO.out.trans HX.out⟩
       case measure=>simp[lenOf];omega
def RetPE(P:List Pt→Int→Prop)(w:World)(en:Ending)(w':World):Prop:=
 ∃ l er A c,P l er∧en = .returned (.tuple #[.slice A l.length c,.int .i64 er])∧Sv w' w'.heap.size 3 A c (rowsP l)∧Ext w w'
theorem refFlood_any(g:Gr)(A:Option Addr)(c:Nat)(a:Pt)(most:Int)(w:World)(hs:Sv w w.heap.size 1 A c (rowsI g.cells))(hv:validG g=true)(h200:g.cells.length≤1000):
    Calls Tryz.prog 28 #[.agg #[.int .i64 g.box.lo.x,.int .i64 g.box.lo.y,.int .i64 g.box.lo.z,.int .i64 g.box.hi.x,.int .i64 g.box.hi.y,.int .i64 g.box.hi.z,.slice A g.cells.length c],.agg #[.int .i64 a.x,.int .i64 a.y,.int .i64 a.z],.int .i64 most] w (RetPE (FloodOut (fld g) a most) w):=by
 obtain⟨sx,sy,sz,G⟩:=good_of hv;have HI:=Lib.hid (fun w'=>refIn_any a g.box w');have B0:=Arr.new w 28 [.int .i64 g.box.lo.x,.int .i64 g.box.lo.y,.int .i64 g.box.lo.z,.int .i64 g.box.hi.x,.int .i64 g.box.hi.y,.int .i64 g.box.hi.z,.slice A g.cells.length c];have B1:=Arr.new (w.alloc (.cells #[.int .i64 g.box.lo.x,.int .i64 g.box.lo.y,.int .i64 g.box.lo.z,.int .i64 g.box.hi.x,.int .i64 g.box.hi.y,.int .i64 g.box.hi.z,.slice A g.cells.length c] 28)) 23 [.int .i64 a.x,.int .i64 a.y,.int .i64 a.z];have B0:=B0.alloc (.cells #[.int .i64 a.x,.int .i64 a.y,.int .i64 a.z] 23);simp only[World.size_alloc_]at B1;have hx0:Ext w ((w.alloc (.cells #[.int .i64 g.box.lo.x,.int .i64 g.box.lo.y,.int .i64 g.box.lo.z,.int .i64 g.box.hi.x,.int .i64 g.box.hi.y,.int .i64 g.box.hi.z,.slice A g.cells.length c] 28)).alloc (.cells #[.int .i64 a.x,.int .i64 a.y,.int .i64 a.z] 23)):=((Ext.refl w).alloc _).alloc _;have HB0:=Lib.hid B0;have HB1:=Lib.hid B1;have HX0:=Lib.hid hx0;clear B0 B1 hx0
 cases hin:inP a g.box
 · have HF:=Lib.hid (fld_out hin);rw[hin]at HI;clear hin G hs
   go_enter Tryz.func28,Tryz.ntmps28
   go_upto_region 2 with(first
    | (refine wpList_load_blk 23 (.tmp 4) rfl rfl HB1.out rfl _ Tryz.underlying23 rfl (by kernel_rfl) ?_)
    | (refine wpList_load_part 25 (.tmp 11) rfl rfl HB0.out 0 [.int .i64 g.box.lo.x,.int .i64 g.box.lo.y,.int .i64 g.box.lo.z,.int .i64 g.box.hi.x,.int .i64 g.box.hi.y,.int .i64 g.box.hi.z] rfl rfl _ Tryz.underlying25 rfl (by kernel_rfl) ?_)
    | (go_at_call 18;refine(HI.out _).mono ?_;rintro e wx ⟨rfl,xx⟩))
   go_wp2
   go_ret2
   exact⟨[],9,none,0,.inl ⟨HF.out,rfl,rfl⟩,rfl,Sv.nil _ _ _,HX0.out.trans xx⟩
 · obtain⟨v,hF,_⟩:=G.fld_in hin;rw[hin]at HI;have HF:=Lib.hid hF;have HR:=Lib.hid (fun(w':World) (hx:Ext w w')=>region_any g A c a v w' (hs.ext hx) hv h200 hF);clear hin G hs hF hv
   go_enter Tryz.func28,Tryz.ntmps28
   go_upto_region 2 with(first
    | (refine wpList_load_blk 23 (.tmp 4) rfl rfl HB1.out rfl _ Tryz.underlying23 rfl (by kernel_rfl) ?_)
    | (refine wpList_load_part 25 (.tmp 11) rfl rfl HB0.out 0 [.int .i64 g.box.lo.x,.int .i64 g.box.lo.y,.int .i64 g.box.lo.z,.int .i64 g.box.hi.x,.int .i64 g.box.hi.y,.int .i64 g.box.hi.z] rfl rfl _ Tryz.underlying25 rfl (by kernel_rfl) ?_)
    | (go_at_call 18;refine(HI.out _).mono ?_;rintro e wx ⟨rfl,xx⟩))
   have HX1:=Lib.hid (HX0.out.trans xx);have HB2:=Lib.hid (HB0.out.ext xx);have HB3:=Lib.hid (HB1.out.ext xx);clear xx
   go_upto_region 5 with(first
    | (refine wpList_load_blk 23 (.tmp 4) rfl rfl HB3.out rfl _ Tryz.underlying23 rfl (by kernel_rfl) ?_)
    | (refine wpList_load_blk 28 (.tmp 3) rfl rfl HB2.out rfl _ Tryz.underlying28 rfl (by kernel_rfl) ?_)
    | (go_at_call 60;refine(HR.out _ HX1.out).mono ?_;rintro e wy ⟨l,hreg,A1,c1,rfl,s1,xx⟩))
   by_cases hm:most < l.length
   · go_wp2
     go_ret2
     exact⟨[],2,none,0,.inr ⟨v,HF.out,.inl ⟨hreg.big hm,rfl,rfl⟩⟩,rfl,Sv.nil _ _ _,HX1.out.trans xx⟩
   · go_wp2
     go_ret2
     exact⟨l,0,A1,c1,.inr ⟨v,HF.out,.inr ⟨hreg,by omega,rfl⟩⟩,rfl,s1,HX1.out.trans xx⟩
end Go.Proofs.YtoecbicdahbccaaGreatDoor
