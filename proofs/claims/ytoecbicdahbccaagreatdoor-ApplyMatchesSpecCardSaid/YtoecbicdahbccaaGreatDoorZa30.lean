/- A part of the walk of the layer of apply: contracts and plain laws that a row's text leans on. -/
import Derived.Test.YtoecbicdahbccaaGreatDoorZa29
set_option maxRecDepth 100000
set_option maxHeartbeats 16000000
namespace Go.Proofs.YtoecbicdahbccaaGreatDoor
open Go Go.RowKit
theorem Get_out{g:Gr}{A:Option Addr}{c:Nat}{p:Pt}(hin:inP p g.box=false)(w:World):Calls Tryz.prog 208 #[.agg #[.int .i64 g.box.lo.x,.int .i64 g.box.lo.y,.int .i64 g.box.lo.z,.int .i64 g.box.hi.x,.int .i64 g.box.hi.y,.int .i64 g.box.hi.z,.slice A g.cells.length c],.agg #[.int .i64 p.x,.int .i64 p.y,.int .i64 p.z]] w fun e w'=>e = .returned (.int .i64 0)∧Ext w w':=by
 have hm:=mixed;have hG:=near_old;obtain⟨W0,hW⟩:∃ W,W=(w.alloc (.cells #[.int .i64 g.box.lo.x,.int .i64 g.box.lo.y,.int .i64 g.box.lo.z,.int .i64 g.box.hi.x,.int .i64 g.box.hi.y,.int .i64 g.box.hi.z,.slice A g.cells.length c] 28)).alloc (.cells #[.int .i64 p.x,.int .i64 p.y,.int .i64 p.z] 23):=⟨_,rfl⟩;have HX:=Lib.hid (show Ext w W0 by rw[hW];exact((Ext.refl w).alloc _).alloc _);have H2:=Lib.hid (show Arr W0 w.heap.size 28 [.int .i64 g.box.lo.x,.int .i64 g.box.lo.y,.int .i64 g.box.lo.z,.int .i64 g.box.hi.x,.int .i64 g.box.hi.y,.int .i64 g.box.hi.z,.slice A g.cells.length c]by rw[hW];exact(Arr.new w 28 [.int .i64 g.box.lo.x,.int .i64 g.box.lo.y,.int .i64 g.box.lo.z,.int .i64 g.box.hi.x,.int .i64 g.box.hi.y,.int .i64 g.box.hi.z,.slice A g.cells.length c]).alloc _);have H3:=Lib.hid (show Arr W0 (w.heap.size+1) 23 [.int .i64 p.x,.int .i64 p.y,.int .i64 p.z]by rw[hW];have h:=Arr.new (w.alloc (.cells #[.int .i64 g.box.lo.x,.int .i64 g.box.lo.y,.int .i64 g.box.lo.z,.int .i64 g.box.hi.x,.int .i64 g.box.hi.y,.int .i64 g.box.hi.z,.slice A g.cells.length c] 28)) 23 [.int .i64 p.x,.int .i64 p.y,.int .i64 p.z];simp only[World.size_alloc_]at h;exact h);have HI:=Lib.hid (Index_any g.box p);rw[hin]at HI;clear hin
 go_enter Tryz.func208,Tryz.ntmps208
 go_upto_region 1 with fail
 rw[← hW];clear hW
 go_upto_region 2 with(first
  | (refine wpList_load_part 25 (.tmp 6) rfl rfl H2.out 0 [.int .i64 g.box.lo.x,.int .i64 g.box.lo.y,.int .i64 g.box.lo.z,.int .i64 g.box.hi.x,.int .i64 g.box.hi.y,.int .i64 g.box.hi.z] rfl rfl _ Tryz.underlying25 rfl (by kernel_rfl) ?_) | (refine wpList_load_part 25 (.tmp 6) rfl rfl (H2.out.alloc _) 0 [.int .i64 g.box.lo.x,.int .i64 g.box.lo.y,.int .i64 g.box.lo.z,.int .i64 g.box.hi.x,.int .i64 g.box.hi.y,.int .i64 g.box.hi.z] rfl rfl _ Tryz.underlying25 rfl (by kernel_rfl) ?_)
  | (refine ldB 23 3 H3.out Tryz.underlying23 ?_) | (refine ldB 23 3 (H3.out.alloc _) Tryz.underlying23 ?_) | (refine ldB 23 3 ((H3.out.alloc _).alloc _) Tryz.underlying23 ?_)
  | (go_at_call 91;refine(HI.out _).mono ?_;rintro e W1 ⟨rfl,hx⟩;replace HX:=xEx HX hx;replace H2:=aEx H2 hx;replace H3:=aEx H3 hx;clear hx))
 go_upto_region 4 with fail
 go_wp2_with fail
 go_ret
 exact⟨rfl,HX.out⟩
theorem Get_in{g:Gr}{bS off c k:Nat}{v:Int}{p:Pt}(hin:inP p g.box=true)(hk:idxW g.box p=k)(hkl:k < g.cells.length)(_hln:g.cells.length≤1000000)(w:World)(hb:bS < w.heap.size)(hc:w.cell? ⟨bS,off+k,none⟩=some (.int .i64 v)):Calls Tryz.prog 208 #[.agg #[.int .i64 g.box.lo.x,.int .i64 g.box.lo.y,.int .i64 g.box.lo.z,.int .i64 g.box.hi.x,.int .i64 g.box.hi.y,.int .i64 g.box.hi.z,.slice (some ⟨bS,off,none⟩) g.cells.length c],.agg #[.int .i64 p.x,.int .i64 p.y,.int .i64 p.z]] w fun e w'=>e = .returned (.int .i64 v)∧Ext w w':=by
 have hm:=mixed;have hG:=near_old;obtain⟨W0,hW⟩:∃ W,W=(w.alloc (.cells #[.int .i64 g.box.lo.x,.int .i64 g.box.lo.y,.int .i64 g.box.lo.z,.int .i64 g.box.hi.x,.int .i64 g.box.hi.y,.int .i64 g.box.hi.z,.slice (some ⟨bS,off,none⟩) g.cells.length c] 28)).alloc (.cells #[.int .i64 p.x,.int .i64 p.y,.int .i64 p.z] 23):=⟨_,rfl⟩;have HX:=Lib.hid (show Ext w W0 by rw[hW];exact((Ext.refl w).alloc _).alloc _);have H2:=Lib.hid (show Arr W0 w.heap.size 28 [.int .i64 g.box.lo.x,.int .i64 g.box.lo.y,.int .i64 g.box.lo.z,.int .i64 g.box.hi.x,.int .i64 g.box.hi.y,.int .i64 g.box.hi.z,.slice (some ⟨bS,off,none⟩) g.cells.length c]by rw[hW];exact(Arr.new w 28 [.int .i64 g.box.lo.x,.int .i64 g.box.lo.y,.int .i64 g.box.lo.z,.int .i64 g.box.hi.x,.int .i64 g.box.hi.y,.int .i64 g.box.hi.z,.slice (some ⟨bS,off,none⟩) g.cells.length c]).alloc _);have H3:=Lib.hid (show Arr W0 (w.heap.size+1) 23 [.int .i64 p.x,.int .i64 p.y,.int .i64 p.z]by rw[hW];have h:=Arr.new (w.alloc (.cells #[.int .i64 g.box.lo.x,.int .i64 g.box.lo.y,.int .i64 g.box.lo.z,.int .i64 g.box.hi.x,.int .i64 g.box.hi.y,.int .i64 g.box.hi.z,.slice (some ⟨bS,off,none⟩) g.cells.length c] 28)) 23 [.int .i64 p.x,.int .i64 p.y,.int .i64 p.z];simp only[World.size_alloc_]at h;exact h);have HI:=Lib.hid (Index_any g.box p);rw[hin,hk]at HI;simp only[if_true]at HI;have HB:=Lib.hid hb;have HC:=Lib.hid hc;clear hin hk hb hc
 go_enter Tryz.func208,Tryz.ntmps208
 go_upto_region 1 with fail
 rw[← hW];clear hW
 go_upto_region 2 with(first
  | (refine wpList_load_part 25 (.tmp 6) rfl rfl H2.out 0 [.int .i64 g.box.lo.x,.int .i64 g.box.lo.y,.int .i64 g.box.lo.z,.int .i64 g.box.hi.x,.int .i64 g.box.hi.y,.int .i64 g.box.hi.z] rfl rfl _ Tryz.underlying25 rfl (by kernel_rfl) ?_) | (refine wpList_load_part 25 (.tmp 6) rfl rfl (H2.out.alloc _) 0 [.int .i64 g.box.lo.x,.int .i64 g.box.lo.y,.int .i64 g.box.lo.z,.int .i64 g.box.hi.x,.int .i64 g.box.hi.y,.int .i64 g.box.hi.z] rfl rfl _ Tryz.underlying25 rfl (by kernel_rfl) ?_)
  | (refine ldB 23 3 H3.out Tryz.underlying23 ?_) | (refine ldB 23 3 (H3.out.alloc _) Tryz.underlying23 ?_) | (refine ldB 23 3 ((H3.out.alloc _).alloc _) Tryz.underlying23 ?_)
  | (go_at_call 91;refine(HI.out _).mono ?_;rintro e W1 ⟨rfl,hx⟩;replace HX:=xEx HX hx;replace H2:=aEx H2 hx;replace H3:=aEx H3 hx;clear hx))
 go_upto_region 3 with fail
 have c2:=H2.out.cell;have l2:=H2.out.lt;have hcell:=(HX.out.cell (p:=⟨bS,off+k,none⟩) HB.out).trans HC.out;have hlt:=Nat.lt_of_lt_of_le HB.out HX.out.size;go_wp2
 go_ret
 exact⟨rfl,HX.out⟩
theorem Get_any{g:Gr}{A:Option Addr}{c:Nat}(hv:validG g=true)(hln:g.cells.length≤1000000)(p:Pt)(w:World)(hs:Sv w w.heap.size 1 A c (rowsI g.cells)):
    Calls Tryz.prog 208 #[.agg #[.int .i64 g.box.lo.x,.int .i64 g.box.lo.y,.int .i64 g.box.lo.z,.int .i64 g.box.hi.x,.int .i64 g.box.hi.y,.int .i64 g.box.hi.z,.slice A g.cells.length c],.agg #[.int .i64 p.x,.int .i64 p.y,.int .i64 p.z]] w fun e w'=>e = .returned (.int .i64 (matF g p))∧Ext w w':=by
 cases hq:inP p g.box
 · have e:matF g p=0:=by unfold matF;rw[fld_out hq];rfl
   rw[e];exact Get_out hq w
 · obtain⟨sx,sy,sz,G⟩:=good_of hv;obtain⟨v,h1,h2⟩:=G.fld_in hq;have e:matF g p=v:=by unfold matF;rw[h1];rfl
   obtain⟨bS,off,rfl,hb,hc⟩:=int_row hs h2;rw[e];exact Get_in hq (G.idxW hq) (G.idx hq).1 hln w hb hc
theorem FCell_any{g:Gr}{A:Option Addr}{c:Nat}(hv:validG g=true)(hln:g.cells.length≤1000000)(p:Pt)(w:World)(hs:Sv w w.heap.size 1 A c (rowsI g.cells)):Calls Tryz.prog 207 #[.agg #[.int .i64 g.box.lo.x,.int .i64 g.box.lo.y,.int .i64 g.box.lo.z,.int .i64 g.box.hi.x,.int .i64 g.box.hi.y,.int .i64 g.box.hi.z,.slice A g.cells.length c],.agg #[.int .i64 p.x,.int .i64 p.y,.int .i64 p.z]] w fun e w'=>e = .returned (.tuple #[.int .i64 (matF g p),.bool (inP p g.box)])∧Ext w w':=by
 have hm:=mixed;have hG:=near_old;obtain⟨W0,hW⟩:∃ W,W=(w.alloc (.cells #[.int .i64 g.box.lo.x,.int .i64 g.box.lo.y,.int .i64 g.box.lo.z,.int .i64 g.box.hi.x,.int .i64 g.box.hi.y,.int .i64 g.box.hi.z,.slice A g.cells.length c] 73)).alloc (.cells #[.int .i64 p.x,.int .i64 p.y,.int .i64 p.z] 23):=⟨_,rfl⟩;have HX:=Lib.hid (show Ext w W0 by rw[hW];exact((Ext.refl w).alloc _).alloc _);have H2:=Lib.hid (show Arr W0 w.heap.size 73 [.int .i64 g.box.lo.x,.int .i64 g.box.lo.y,.int .i64 g.box.lo.z,.int .i64 g.box.hi.x,.int .i64 g.box.hi.y,.int .i64 g.box.hi.z,.slice A g.cells.length c]by rw[hW];exact(Arr.new w 73 [.int .i64 g.box.lo.x,.int .i64 g.box.lo.y,.int .i64 g.box.lo.z,.int .i64 g.box.hi.x,.int .i64 g.box.hi.y,.int .i64 g.box.hi.z,.slice A g.cells.length c]).alloc _);have H3:=Lib.hid (show Arr W0 (w.heap.size+1) 23 [.int .i64 p.x,.int .i64 p.y,.int .i64 p.z]by rw[hW];have h:=Arr.new (w.alloc (.cells #[.int .i64 g.box.lo.x,.int .i64 g.box.lo.y,.int .i64 g.box.lo.z,.int .i64 g.box.hi.x,.int .i64 g.box.hi.y,.int .i64 g.box.hi.z,.slice A g.cells.length c] 73)) 23 [.int .i64 p.x,.int .i64 p.y,.int .i64 p.z];simp only[World.size_alloc_]at h;exact h);have HG:=Lib.hid (fun(W:World) (hx:Ext w W)=>Get_any hv hln p W (hs.ext hx));have HI:=Lib.hid (In_any p g.box);generalize matF g p=m at HG ⊢;generalize inP p g.box=q at HI ⊢;clear hv hln hs
 go_enter Tryz.func207,Tryz.ntmps207
 go_upto_region 1 with fail
 rw[← hW];clear hW;have HN0:=Lib.hid (fun(W:World) (hx:Ext W0 W)=>HG.out W (HX.out.trans hx));have HN1:=Lib.hid (fun W:World=>HI.out W);have c2:=H2.out.cell;have l2:=H2.out.lt;have c3:=H3.out.cell;have l3:=H3.out.lt;refine wp_region_near (by assumption) (by kernel_rfl) ?_
 repeat (go_big_quiet_step ((first | (go_at_call 208;with_reducible exact near_call (HN0.out _ (Ext.of_near ⟨⟨_,_⟩,rfl⟩))) | (go_at_call 74;with_reducible exact near_call (HN1.out _)))))
 refine wpQuiet_nil ?_;intro w1 hw1;have hy:=Ext.of_near hw1;clear hw1;replace HX:=xEx HX hy;replace H2:=aEx H2 hy;replace H3:=aEx H3 hy;clear hy c2 l2 c3 l3
 go_wp2_with fail
 go_ret2
 exact⟨rfl,HX.out⟩
def CntG(g:Gr)(A:Option Addr)(c B:Nat)(_:Nat)(w:World):Prop:=Sv w B 1 A c (rowsI g.cells)
theorem ext_none{w w':World}(hg:w.grownBy w' none):Ext w w':=⟨⟨hg.os,hg.tape,hg.output,hg.size,fun k hk=>hg.block k hk (by simp)⟩⟩
theorem fieldG{g:Gr}{A:Option Addr}{c B:Nat}(hv:validG g=true)(hln:g.cells.length≤1000000):
    FieldV B 73 (.agg #[.int .i64 g.box.lo.x,.int .i64 g.box.lo.y,.int .i64 g.box.lo.z,.int .i64 g.box.hi.x,.int .i64 g.box.hi.y,.int .i64 g.box.hi.z,.slice A g.cells.length c]) (.agg #[.int .i64 g.box.lo.x,.int .i64 g.box.lo.y,.int .i64 g.box.lo.z,.int .i64 g.box.hi.x,.int .i64 g.box.hi.y,.int .i64 g.box.hi.z,.slice A g.cells.length c]) 207 (fld g) none (CntG g A c B) where
 meth _:=by kernel_rfl
 enters _ _:=by kernel_rfl
 low _ h:=by cases h
 keep n w w' h hb:=Sv.keep h fun q hq=>by
  have h1:=hb q.block hq;unfold World.cell?;rw[h1]
 call q n w hB _ h:=(FCell_any hv hln q w (Sv.more h hB)).mono fun e w' ⟨h1,h2⟩=>⟨⟨matF g q,by rw[h1,show(fld g q).isSome=inP q g.box by cases hq:inP q g.box;(· rw[fld_out hq];rfl);(· unfold fld;rw[hq];rfl)],fun v hv=>by unfold matF;rw[hv];rfl⟩,Sv.keep h fun q hq=>h2.cell (Nat.lt_of_lt_of_le hq hB),h2.by_ none⟩
theorem Over_any(g:Gr)(A:Option Addr)(c:Nat)(w:World):
    Calls Tryz.prog 11 #[.agg #[.int .i64 g.box.lo.x,.int .i64 g.box.lo.y,.int .i64 g.box.lo.z,.int .i64 g.box.hi.x,.int .i64 g.box.hi.y,.int .i64 g.box.hi.z,.slice A g.cells.length c]] w fun e w'=>e = .returned (.iface 73 (.agg #[.int .i64 g.box.lo.x,.int .i64 g.box.lo.y,.int .i64 g.box.lo.z,.int .i64 g.box.hi.x,.int .i64 g.box.hi.y,.int .i64 g.box.hi.z,.slice A g.cells.length c]))∧Ext w w':=by
 go_enter Tryz.func11,Tryz.ntmps11
 go_upto_region 1 with fail
 obtain⟨W0,hW⟩:∃ W,W=w.alloc (.cells #[.int .i64 g.box.lo.x,.int .i64 g.box.lo.y,.int .i64 g.box.lo.z,.int .i64 g.box.hi.x,.int .i64 g.box.hi.y,.int .i64 g.box.hi.z,.slice A g.cells.length c] 28):=⟨_,rfl⟩;have hx0:Ext w W0:=by rw[hW];exact(Ext.refl w).alloc _
 have B0:Arr W0 w.heap.size 28 [.int .i64 g.box.lo.x,.int .i64 g.box.lo.y,.int .i64 g.box.lo.z,.int .i64 g.box.hi.x,.int .i64 g.box.hi.y,.int .i64 g.box.hi.z,.slice A g.cells.length c]:=by rw[hW];exact Arr.new w _ _
 rw[← hW];clear hW;have cB0:=B0.cell;have fB0:=B0.frozen;have lB0:=B0.lt
 go_wp2_with (first | (refine ldB 28 1 B0 Tryz.underlying28 ?_) | (refine ldB 28 1 (B0.alloc _) Tryz.underlying28 ?_) | (refine ldB 28 1 ((B0.alloc _).alloc _) Tryz.underlying28 ?_))
 go_ret
 exact⟨rfl,hx0⟩
theorem brushed1_any(x:Ed)(p:Pt){bx:Nat}{w:World}(h1:Arr w bx 32 [.int .i64 x.st.tick,.int .i64 x.st.clock,.int .i64 x.st.site,.int .i64 x.st.seq,.int .i64 x.kind,.int .i64 x.box.lo.x,.int .i64 x.box.lo.y,.int .i64 x.box.lo.z,.int .i64 x.box.hi.x,.int .i64 x.box.hi.y,.int .i64 x.box.hi.z,.int .i64 x.at_.x,.int .i64 x.at_.y,.int .i64 x.at_.z,.int .i64 x.turn,.int .i64 x.cell,.int .i64 x.size]):Calls Tryz.prog 75 #[.agg #[.int .i64 p.x,.int .i64 p.y,.int .i64 p.z],(.pointer (some ⟨bx,0,none⟩))] w fun e w'=>e = .returned (.int .i64 x.cell)∧Ext w w':=by
 have hm:=mixed;have hG:=near_old;obtain⟨W0,hW⟩:∃ W,W=w.alloc (.cells #[.int .i64 p.x,.int .i64 p.y,.int .i64 p.z] 23):=⟨_,rfl⟩;have HX:=Lib.hid (show Ext w W0 by rw[hW];exact(Ext.refl w).alloc _);have H2:=Lib.hid (show Arr W0 w.heap.size 23 [.int .i64 p.x,.int .i64 p.y,.int .i64 p.z]by rw[hW];exact Arr.new w 23 [.int .i64 p.x,.int .i64 p.y,.int .i64 p.z]);have l1_:=h1.lt;have H1:=Lib.hid (h1.ext HX.out);clear h1
 go_enter Tryz.func75,Tryz.ntmps75
 go_upto_region 1 with fail
 rw[← hW];clear hW;have c1:=H1.out.cell;have l1:=H1.out.lt
 go_wp2_with fail
 go_ret
 exact⟨rfl,HX.out⟩
theorem brushed2_any{g:Gr}{A:Option Addr}{c:Nat}(hv:validG g=true)(hln:g.cells.length≤1000000)(x:Ed){p:Pt}{bx bf:Nat}(hs:0≤x.turn∧x.turn < 48)(he:emptyB x.box=false)(hl:tinyP x.box.lo)(hh:tinyP x.box.hi)(ha:tinyP x.at_)(hq:inP p (tgtB x.turn x.box x.at_)=true){w:World}(hA:AxesIn w)(hsv:Sv w w.heap.size 1 A c (rowsI g.cells))(h1:Arr w bx 32 [.int .i64 x.st.tick,.int .i64 x.st.clock,.int .i64 x.st.site,.int .i64 x.st.seq,.int .i64 x.kind,.int .i64 x.box.lo.x,.int .i64 x.box.lo.y,.int .i64 x.box.lo.z,.int .i64 x.box.hi.x,.int .i64 x.box.hi.y,.int .i64 x.box.hi.z,.int .i64 x.at_.x,.int .i64 x.at_.y,.int .i64 x.at_.z,.int .i64 x.turn,.int .i64 x.cell,.int .i64 x.size])(h2:Arr w bf 36 [.iface 73 (.agg #[.int .i64 g.box.lo.x,.int .i64 g.box.lo.y,.int .i64 g.box.lo.z,.int .i64 g.box.hi.x,.int .i64 g.box.hi.y,.int .i64 g.box.hi.z,.slice A g.cells.length c])]):Calls Tryz.prog 81 #[.agg #[.int .i64 p.x,.int .i64 p.y,.int .i64 p.z],(.pointer (some ⟨bx,0,none⟩)),(.pointer (some ⟨bf,0,none⟩))] w fun e w'=>e = .returned (.int .i64 (matF g (srcP x.turn x.box x.at_ p)))∧Ext w w':=by
 have hm:=mixed;have hG:=near_old;obtain⟨W0,hW⟩:∃ W,W=w.alloc (.cells #[.int .i64 p.x,.int .i64 p.y,.int .i64 p.z] 23):=⟨_,rfl⟩;have HX:=Lib.hid (show Ext w W0 by rw[hW];exact(Ext.refl w).alloc _);have H3:=Lib.hid (show Arr W0 w.heap.size 23 [.int .i64 p.x,.int .i64 p.y,.int .i64 p.z]by rw[hW];exact Arr.new w 23 [.int .i64 p.x,.int .i64 p.y,.int .i64 p.z]);have l1_:=h1.lt;have H1:=Lib.hid (h1.ext HX.out);clear h1;have l2_:=h2.lt;have H2:=Lib.hid (h2.ext HX.out);clear h2;have HS:=Lib.hid (fun(W:World) (hx:Ext w W)=>Source_any hs he hl hh ha hq W (hA.ext hx));generalize srcP x.turn x.box x.at_ p=q at HS ⊢;have HM:=Lib.hid (show ∀ W,(method 308 73 (.agg #[.int .i64 g.box.lo.x,.int .i64 g.box.lo.y,.int .i64 g.box.lo.z,.int .i64 g.box.hi.x,.int .i64 g.box.hi.y,.int .i64 g.box.hi.z,.slice A g.cells.length c]) "Cell").run Tryz.prog W = .ok (207,.agg #[.int .i64 g.box.lo.x,.int .i64 g.box.lo.y,.int .i64 g.box.lo.z,.int .i64 g.box.hi.x,.int .i64 g.box.hi.y,.int .i64 g.box.hi.z,.slice A g.cells.length c]) W from fun _=>by kernel_rfl);have HE:=Lib.hid (show ∀ args W,(callFunc 207 args).run Tryz.prog W = .ok (.enter 207 args) W from fun _ _=>by kernel_rfl);have HC:=Lib.hid (fun(W:World) (hx:Ext w W)=>FCell_any hv hln q W (hsv.ext hx));generalize matF g q=m at HC ⊢;generalize inP q g.box=ib at HC;clear hA hv hln hsv hs he hl hh ha hq
 go_enter Tryz.func81,Tryz.ntmps81
 go_upto_region 1 with fail
 rw[← hW];clear hW;have c1:=H1.out.cell;have l1:=H1.out.lt
 go_upto_region 2 with(first
  | (refine wpList_load_part 25 (.tmp 10) rfl rfl H1.out 5 [.int .i64 x.box.lo.x,.int .i64 x.box.lo.y,.int .i64 x.box.lo.z,.int .i64 x.box.hi.x,.int .i64 x.box.hi.y,.int .i64 x.box.hi.z] rfl rfl _ Tryz.underlying25 rfl (by kernel_rfl) ?_) | (refine wpList_load_part 25 (.tmp 10) rfl rfl (H1.out.alloc _) 5 [.int .i64 x.box.lo.x,.int .i64 x.box.lo.y,.int .i64 x.box.lo.z,.int .i64 x.box.hi.x,.int .i64 x.box.hi.y,.int .i64 x.box.hi.z] rfl rfl _ Tryz.underlying25 rfl (by kernel_rfl) ?_)
  | (refine wpList_load_part 23 (.tmp 14) rfl rfl H1.out 11 [.int .i64 x.at_.x,.int .i64 x.at_.y,.int .i64 x.at_.z] rfl rfl _ Tryz.underlying23 rfl (by kernel_rfl) ?_) | (refine wpList_load_part 23 (.tmp 14) rfl rfl (H1.out.alloc _) 11 [.int .i64 x.at_.x,.int .i64 x.at_.y,.int .i64 x.at_.z] rfl rfl _ Tryz.underlying23 rfl (by kernel_rfl) ?_)
  | (refine ldB 23 3 H3.out Tryz.underlying23 ?_) | (refine ldB 23 3 (H3.out.alloc _) Tryz.underlying23 ?_) | (refine ldB 23 3 ((H3.out.alloc _).alloc _) Tryz.underlying23 ?_)
  | (go_at_call 82;refine(HS.out _ HX.out).mono ?_;rintro e W1 ⟨rfl,hx⟩;replace HX:=xEx HX hx;replace H1:=aEx H1 hx;replace H2:=aEx H2 hx;replace H3:=aEx H3 hx;clear hx;have c1:=H1.out.cell;have l1:=H1.out.lt)
  | (refine wpList_store_blk2 23 (.tmp 5) (.tmp 18) rfl rfl (Arr.new W1 23 [.int .i64 0,.int .i64 0,.int .i64 0]) [.int .i64 q.x,.int .i64 q.y,.int .i64 q.z] rfl rfl (by kernel_rfl) rfl rfl rfl ?_;intro W2 hW;have Q1_5:=aLt H1;have Q2_5:=aLt H2;have Q3_5:=aLt H3;have Qw_5:=Lib.hid HX.out.size;replace HX:=xNew HX hW;replace H1:=aNew H1 hW;replace H2:=aNew H2 hW;replace H3:=aNew H3 hW;have H5:=nNew hW;clear hW))
 clear c1 l1;obtain⟨b5,hb5⟩:∃ n,n=W1.heap.size:=⟨_,rfl⟩;rw[← hb5]at H5 Q1_5 Q2_5 Q3_5 Qw_5 ⊢;clear hb5;have c2:=H2.out.cell;have l2:=H2.out.lt;have hm2:=HM.out;have he2:=HE.out
 go_wp2_with (first | (refine ldB 23 5 H5.out Tryz.underlying23 ?_) | (refine ldB 23 5 (H5.out.alloc _) Tryz.underlying23 ?_) | (refine ldB 23 5 ((H5.out.alloc _).alloc _) Tryz.underlying23 ?_) | (go_at_fn 207;refine(HC.out _ HX.out).mono ?_;rintro e W9 ⟨rfl,hx⟩;replace HX:=xEx HX hx;clear hx))
 go_ret
 exact⟨rfl,HX.out⟩
end Go.Proofs.YtoecbicdahbccaaGreatDoor
