/- A part of the walk of the layer of apply: contracts and plain laws that a row's text leans on. -/
import Derived.Test.YtoecbicdahbccaaGreatDoorZa51
set_option maxRecDepth 100000
set_option maxHeartbeats 16000000
namespace Go.Proofs.YtoecbicdahbccaaGreatDoor
open Go Go.RowKit
structure SrS (w:World) (b:Bx) (a q:Pt) (wr:World):Prop where
 a4:Arr wr w.heap.size 25 [.int .i64 b.lo.x,.int .i64 b.lo.y,.int .i64 b.lo.z,.int .i64 b.hi.x,.int .i64 b.hi.y,.int .i64 b.hi.z]
 a6:Arr wr (w.heap.size+1) 23 [.int .i64 a.x,.int .i64 a.y,.int .i64 a.z]
 a7:Arr wr (w.heap.size+1+1) 23 [.int .i64 q.x,.int .i64 q.y,.int .i64 q.z]
 a8:Arr wr (w.heap.size+1+1+1) 23 [.int .i64 0,.int .i64 0,.int .i64 0]
 ext:Ext w wr
theorem SrS.more{w:World}{b:Bx}{a q:Pt}{wr wx:World}(h:SrS w b a q wr)(hx:Ext wr wx):SrS w b a q wx:=⟨h.a4.ext hx,h.a6.ext hx,h.a7.ext hx,h.a8.ext hx,h.ext.trans hx⟩
theorem refSource20_any{b:Bx}{s:Int}{a q:Pt}(hs:0≤s∧s < 48)(he:emptyB b=false)(hin:InC b)(ha:smlP a)(hq:inP q (tgtB s b a)=true)(w:World):
    Calls Tryz.prog 38 #[.agg #[.int .i64 b.lo.x,.int .i64 b.lo.y,.int .i64 b.lo.z,.int .i64 b.hi.x,.int .i64 b.hi.y,.int .i64 b.hi.z],.int .i64 s,.agg #[.int .i64 a.x,.int .i64 a.y,.int .i64 a.z],.agg #[.int .i64 q.x,.int .i64 q.y,.int .i64 q.z]] w fun e w'=>e = .returned (.tuple #[.agg #[.int .i64 (srcP s b a q).x,.int .i64 (srcP s b a q).y,.int .i64 (srcP s b a q).z],.bool true])∧Ext w w':=by
 have hit:isT s=true:=by unfold isT;rw[decide_eq_true hs]
 have hb:smlB b:=by
  have h1:=hin.x;have h2:=hin.y;have h3:=hin.z;unfold smlB smlP;omega
 obtain⟨n0,hn0,e0⟩:=cell_num (src_in hs he hb ha hq);have hp0:plcP s b a (atB b n0)=q:=by rw[e0];exact plc_src hs he hb ha q
 have HFD:=Lib.hid (fun(p:Pt) (hp:inP p b=true) (e:plcP s b a p=q)=>(src_find hs he hb ha hp e).1);have HPLC:=Lib.hid (fun(p:Pt) (hp:inP p b=true) (W:World)=>(show Calls Tryz.prog 88 #[.agg #[.int .i64 b.lo.x,.int .i64 b.lo.y,.int .i64 b.lo.z,.int .i64 b.hi.x,.int .i64 b.hi.y,.int .i64 b.hi.z],.int .i64 s,.agg #[.int .i64 a.x,.int .i64 a.y,.int .i64 a.z],.agg #[.int .i64 p.x,.int .i64 p.y,.int .i64 p.z]] W fun e w'=>e = .returned (.tuple #[.agg #[.int .i64 (plcP s b a p).x,.int .i64 (plcP s b a p).y,.int .i64 (plcP s b a p).z],.bool true])∧Ext W w' from by
  have h:=refPlace20_any (a:=a) hit he hb hp W;rw[plc_ref hs he hb ha (tiny_sml (hin.tiny hp))]at h;exact h))
 generalize srcP s b a q=r at HFD e0 ⊢;obtain⟨V,hV⟩:∃ V,V=volN b:=⟨_,rfl⟩;have HV:=Lib.hid (show ∀ W:World,Calls Tryz.prog 62 #[.agg #[.int .i64 b.lo.x,.int .i64 b.lo.y,.int .i64 b.lo.z,.int .i64 b.hi.x,.int .i64 b.hi.y,.int .i64 b.hi.z]] W fun e w'=>e = .returned (.int .i64 (V:Int))∧Ext W w' by rw[hV,← hin.volP];exact refVolume_any b);have hVs:V≤512:=by rw[hV];exact hin.vol
 have HVV:=Lib.hid hV;have HIN:=Lib.hid hin;have HN0:=Lib.hid (show n0 < V∧plcP s b a (atB b n0)=q from⟨by rw[hV];exact hn0,hp0⟩);obtain⟨W0,hW⟩:∃ W,W=(((w.alloc (.cells #[.int .i64 b.lo.x,.int .i64 b.lo.y,.int .i64 b.lo.z,.int .i64 b.hi.x,.int .i64 b.hi.y,.int .i64 b.hi.z] 25)).alloc (.cells #[.int .i64 a.x,.int .i64 a.y,.int .i64 a.z] 23)).alloc (.cells #[.int .i64 q.x,.int .i64 q.y,.int .i64 q.z] 23)).alloc (.cells #[.int .i64 0,.int .i64 0,.int .i64 0] 23):=⟨_,rfl⟩;have H0:=Lib.hid (show SrS w b a q W0 by
  rw[hW];have h2:=Arr.new1 w (.cells #[.int .i64 b.lo.x,.int .i64 b.lo.y,.int .i64 b.lo.z,.int .i64 b.hi.x,.int .i64 b.hi.y,.int .i64 b.hi.z] 25) 23 [.int .i64 a.x,.int .i64 a.y,.int .i64 a.z];have h3:=Arr.new1 (w.alloc (.cells #[.int .i64 b.lo.x,.int .i64 b.lo.y,.int .i64 b.lo.z,.int .i64 b.hi.x,.int .i64 b.hi.y,.int .i64 b.hi.z] 25)) (.cells #[.int .i64 a.x,.int .i64 a.y,.int .i64 a.z] 23) 23 [.int .i64 q.x,.int .i64 q.y,.int .i64 q.z];have h4:=Arr.new1 ((w.alloc (.cells #[.int .i64 b.lo.x,.int .i64 b.lo.y,.int .i64 b.lo.z,.int .i64 b.hi.x,.int .i64 b.hi.y,.int .i64 b.hi.z] 25)).alloc (.cells #[.int .i64 a.x,.int .i64 a.y,.int .i64 a.z] 23)) (.cells #[.int .i64 q.x,.int .i64 q.y,.int .i64 q.z] 23) 23 [.int .i64 0,.int .i64 0,.int .i64 0];simp only[World.size_alloc_]at h3 h4;exact⟨(((Arr.new w 25 [.int .i64 b.lo.x,.int .i64 b.lo.y,.int .i64 b.lo.z,.int .i64 b.hi.x,.int .i64 b.hi.y,.int .i64 b.hi.z]).alloc _).alloc _).alloc _,(h2.alloc _).alloc _,h3.alloc _,h4,((((Ext.refl w).alloc _).alloc _).alloc _).alloc _⟩)
 clear hin hb he hq hs ha hit hn0 hp0 hV e0
 go_enter Tryz.func38,Tryz.ntmps38
 go_upto_region 1 with fail
 rw[← hW];clear hW
 go_upto_region 2 with fail
 go_loopw [10] (fun z wr=>∃ k:Nat,k≤n0∧z = .int .i64 k∧Hid (SrS w b a q wr)) (fun z _=>V - (intOf z).toNat)
 case atStart=>exact⟨0,Nat.zero_le _,rfl,H0⟩
 case round=>
  clear H0;obtain⟨k,hk,rfl,HS⟩:=hrel;have hlt:k < V:=Nat.lt_of_le_of_lt hk HN0.out.1;have HAT:=Lib.hid (refAtC_any HIN.out (i:=k) (by rw[← HVV.out];exact hlt));have hp:inP (atB b k) b=true:=(boxL_mem b _).1 (List.mem_of_getElem? (boxL_get b (by rw[← HVV.out];exact hlt)));have HPL:=Lib.hid (HPLC.out (atB b k) hp);have HR:=Lib.hid (HFD.out (atB b k) hp);have HKN:=Lib.hid (show plcP s b a (atB b k)≠q→k+1≤n0 from fun h=>by
   rcases Nat.lt_or_ge k n0 with h1 | h1
   · exact h1
   · exfalso;apply h;rw[show k=n0 by omega];exact HN0.out.2)
  generalize atB b k=p at HAT HPL HR HKN;generalize plcP s b a p=u at HPL HR HKN;clear hp;have hqp:=eqPt_run u q
  by_cases heq:u=q
  · have hr:=HR.out heq;have hde:decide (u=q)=true:=decide_eq_true heq;subst hr;clear heq hk
    go_wp2_with (first
        | (refine ldB 25 4 HS.out.a4 Tryz.underlying25 ?_)
        | (go_at_call 62;refine(HV.out _).mono ?_;rintro e W1 ⟨rfl,hx⟩;replace HS:=Lib.hid (HS.out.more hx);clear hx)
        | (go_at_call 87;refine(HAT.out _).mono ?_;rintro e W2 ⟨rfl,hx⟩;replace HS:=Lib.hid (HS.out.more hx);clear hx)
        | (refine wpList_store_blk2 23 (.tmp 11) (.tmp 25) rfl rfl (Arr.new W2 23 [.int .i64 0,.int .i64 0,.int .i64 0]) [.int .i64 r.x,.int .i64 r.y,.int .i64 r.z] rfl rfl (by kernel_rfl) rfl rfl rfl ?_;intro W3 hW;have HE:=xNew (Lib.hid (Ext.refl W2)) hW;have H11:=nNew hW;replace HS:=Lib.hid (HS.out.more HE.out);clear hW HE)
        | (refine ldB 23 6 HS.out.a6 Tryz.underlying23 ?_)
        | (refine ldB 23 11 H11.out Tryz.underlying23 ?_)
        | (go_at_call 88;refine(HPL.out _).mono ?_;rintro e W4 ⟨rfl,hx⟩;replace H11:=aEx H11 hx;replace HS:=Lib.hid (HS.out.more hx);clear hx)
        | (refine wpList_store_blk2 23 (.tmp 13) (.tmp 33) rfl rfl (Arr.new W4 23 [.int .i64 0,.int .i64 0,.int .i64 0]) [.int .i64 u.x,.int .i64 u.y,.int .i64 u.z] rfl rfl (by kernel_rfl) rfl rfl rfl ?_;intro W5 hW;have HE:=xNew (Lib.hid (Ext.refl W4)) hW;have H13:=nNew hW;replace H11:=Lib.hid (H11.out.ext HE.out);replace HS:=Lib.hid (HS.out.more HE.out);have k0:=H13.out.cell 0;have k1:=H13.out.cell 1;have k2:=H13.out.cell 2;have m0:=HS.out.a7.cell 0;have m1:=HS.out.a7.cell 1;have m2:=HS.out.a7.cell 2;simp only[List.getElem?_cons_zero,List.getElem?_cons_succ]at k0 k1 k2 m0 m1 m2;clear hW HE)
        | (refine wpList_store_blk2 23 (.tmp 8) (.tmp 41) rfl rfl HS.out.a8 [.int .i64 r.x,.int .i64 r.y,.int .i64 r.z] rfl rfl (by kernel_rfl) rfl rfl rfl ?_;intro W6 hW;have HXF:=xRow (Lib.hid HS.out.ext) hW (by omega);have H8:=nRow (Lib.hid HS.out.a8) hW;clear hW))
    refine bodyPost_ret (v:=.tuple #[.agg #[.int .i64 r.x,.int .i64 r.y,.int .i64 r.z],.bool true]) ?_ rfl ⟨rfl,HXF.out⟩;exact results_cell_row2 Tryz.results38 _ _ _ _ _ _ _ rfl H8.out Tryz.underlying23 rfl (by kernel_rfl)
  · have hde:decide (u=q)=false:=decide_eq_false heq;have hk2:=HKN.out heq;clear heq
    go_wp2_with (first
        | (refine ldB 25 4 HS.out.a4 Tryz.underlying25 ?_)
        | (go_at_call 62;refine(HV.out _).mono ?_;rintro e W1 ⟨rfl,hx⟩;replace HS:=Lib.hid (HS.out.more hx);clear hx)
        | (go_at_call 87;refine(HAT.out _).mono ?_;rintro e W2 ⟨rfl,hx⟩;replace HS:=Lib.hid (HS.out.more hx);clear hx)
        | (refine wpList_store_blk2 23 (.tmp 11) (.tmp 25) rfl rfl (Arr.new W2 23 [.int .i64 0,.int .i64 0,.int .i64 0]) [.int .i64 p.x,.int .i64 p.y,.int .i64 p.z] rfl rfl (by kernel_rfl) rfl rfl rfl ?_;intro W3 hW;have HE:=xNew (Lib.hid (Ext.refl W2)) hW;have H11:=nNew hW;replace HS:=Lib.hid (HS.out.more HE.out);clear hW HE)
        | (refine ldB 23 6 HS.out.a6 Tryz.underlying23 ?_)
        | (refine ldB 23 11 H11.out Tryz.underlying23 ?_)
        | (go_at_call 88;refine(HPL.out _).mono ?_;rintro e W4 ⟨rfl,hx⟩;replace H11:=aEx H11 hx;replace HS:=Lib.hid (HS.out.more hx);clear hx)
        | (refine wpList_store_blk2 23 (.tmp 13) (.tmp 33) rfl rfl (Arr.new W4 23 [.int .i64 0,.int .i64 0,.int .i64 0]) [.int .i64 u.x,.int .i64 u.y,.int .i64 u.z] rfl rfl (by kernel_rfl) rfl rfl rfl ?_;intro W5 hW;have HE:=xNew (Lib.hid (Ext.refl W4)) hW;have H13:=nNew hW;replace H11:=Lib.hid (H11.out.ext HE.out);replace HS:=Lib.hid (HS.out.more HE.out);have k0:=H13.out.cell 0;have k1:=H13.out.cell 1;have k2:=H13.out.cell 2;have m0:=HS.out.a7.cell 0;have m1:=HS.out.a7.cell 1;have m2:=HS.out.a7.cell 2;simp only[List.getElem?_cons_zero,List.getElem?_cons_succ]at k0 k1 k2 m0 m1 m2;clear hW HE))
    go_roundw
    case rel=>exact⟨k+1,hk2,by go_num,HS⟩
    case measure=>simp[intOf];omega
end Go.Proofs.YtoecbicdahbccaaGreatDoor
