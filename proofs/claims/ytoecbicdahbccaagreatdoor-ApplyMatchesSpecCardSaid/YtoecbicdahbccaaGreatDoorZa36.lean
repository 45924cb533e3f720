/- A part of the walk of the layer of apply: contracts and plain laws that a row's text leans on. -/
import Derived.Test.YtoecbicdahbccaaGreatDoorZa34
import Derived.Test.YtoecbicdahbccaaGreatDoorZa35
set_option maxRecDepth 100000
set_option maxHeartbeats 16000000
namespace Go.Proofs.YtoecbicdahbccaaGreatDoor
open Go Go.RowKit
theorem results_cell_tmp2{fn:Func}{p u u2:Tmp}{ty:TypeId}(h:fn.results = #[.cell p ty,.tmp u,.tmp u2])(tmps:Array Value)(P:Program)(w:World):(results fn tmps).run P w=((asAddr (tmps.getD p undef)).run P w).andThen fun a w₁=>((loadVar ty a).run P w₁).andThen fun v w₂=>.ok (.tuple #[v,tmps.getD u undef,tmps.getD u2 undef]) w₂:=by
 simp only[results,h];simp[Sem.run_bind,Result.andThen]
theorem results_cell_row3{P:Program}{fn:Func}{p u u2:Tmp}{ty:TypeId}(h:fn.results = #[.cell p ty,.tmp u,.tmp u2])(tmps:Array Value)(w:World)(g:Nat)(t:TypeId)(cs:Array Value)(fr:Nat × Nat)(d:TypeDesc)
    (hp:tmps.getD p undef = .pointer (some ⟨g,0,none⟩)) (hg:w.heap[g]? = some (.cells cs t fr))
    (hu:P.underlying ty=some d) (hd:(match d with | .struct _ | .array _ _=>true | _=>false)=true) (hi:(P.info? ty).map (·.size)=some cs.size):
    (results fn tmps).run P w = .ok (.tuple #[.agg cs,tmps.getD u undef,tmps.getD u2 undef]) w:=by
 rw[results_cell_tmp2 h];have hp':tmps[p]?.getD undef = .pointer (some ⟨g,0,none⟩):=by simpa using hp
 simp[hp',asAddr,run_loadVar_row w g t ty cs fr d hg hu hd hi]
def RetA(g:Gr)(x:Ed)(d m:Int)(w:World)(en:Ending)(w':World):Prop:=∃ l er u v,ChgOut g x d m l er∧en = .returned (.tuple #[.agg #[.int .i64 g.box.lo.x,.int .i64 g.box.lo.y,.int .i64 g.box.lo.z,.int .i64 g.box.hi.x,.int .i64 g.box.hi.y,.int .i64 g.box.hi.z,u],v,.int .i64 er])∧w'.ownsRow w.heap.size 3 1 u (writeG g l).cells.length (rowsI (writeG g l).cells).flatten∧OwC w.heap.size l v w'∧Ext w w'
def ChV(g:Gr)(x:Ed)(d m:Int)(B:Nat)(v:Value)(w:World):Prop:=∃ l er,ChgOut g x d m l er∧OwC B l v w
def ErV(g:Gr)(x:Ed)(d m:Int)(v:Value):Prop:=∃ l er,ChgOut g x d m l er∧v = .int .i64 er
def TuV(g:Gr)(x:Ed)(d m:Int)(B:Nat)(v:Value)(w:World):Prop:=∃ u u2,v = .tuple #[u,u2]∧ChV g x d m B u w∧ErV g x d m u2
theorem ChV.ext{g:Gr}{x:Ed}{d m:Int}{B:Nat}{v:Value}{w w':World}(h:ChV g x d m B v w)(hx:Ext w w'):ChV g x d m B v w':=by
 obtain⟨l,er,h1,h2⟩:=h;exact⟨l,er,h1,own_ext h2 hx⟩
theorem TuV.ext{g:Gr}{x:Ed}{d m:Int}{B:Nat}{v:Value}{w w':World}(h:TuV g x d m B v w)(hx:Ext w w'):TuV g x d m B v w':=by
 obtain⟨u,u2,h1,h2,h3⟩:=h;exact⟨u,u2,h1,h2.ext hx,h3⟩
theorem ChgOut.len{g:Gr}{x:Ed}{d m:Int}(hd:2≤d∧d≤3){l:List Chg}{er:Int}(h:ChgOut g x d m l er):l.length≤512:=by
 rcases h.ok with⟨_,rfl⟩ | ⟨_,r,h1⟩
 · simp
 · have h2:=h1.len;have h3:=three_d hd;have h4:volN (cubeD d)≤8 * 8 * 8:=vol_le (by unfold cubeD cubeB;simp only;omega) (by unfold cubeD cubeB;simp only;omega) (by unfold cubeD cubeB;simp only;omega);omega
theorem Apply_any{g:Gr}{A:Option Addr}{c:Nat}{x:Ed}{d m:Int}(hd:2≤d∧d≤3)(hft:fits x)(hv:validG g=true)(hln:g.cells.length≤80000)(h0:0 < g.cells.length)(hb:g.box=cubeD d)(w:World)(hR:RowsIn w)(hA:AxesIn w)(hst:StepsIn w)(hs:Sv w w.heap.size 1 A c (rowsI g.cells)):Calls Tryz.prog 14 #[.agg #[.int .i64 g.box.lo.x,.int .i64 g.box.lo.y,.int .i64 g.box.lo.z,.int .i64 g.box.hi.x,.int .i64 g.box.hi.y,.int .i64 g.box.hi.z,.slice A g.cells.length c],.agg #[.int .i64 x.st.tick,.int .i64 x.st.clock,.int .i64 x.st.site,.int .i64 x.st.seq,.int .i64 x.kind,.int .i64 x.box.lo.x,.int .i64 x.box.lo.y,.int .i64 x.box.lo.z,.int .i64 x.box.hi.x,.int .i64 x.box.hi.y,.int .i64 x.box.hi.z,.int .i64 x.at_.x,.int .i64 x.at_.y,.int .i64 x.at_.z,.int .i64 x.turn,.int .i64 x.cell,.int .i64 x.size],.int .i64 d,.int .i64 m] w (RetA g x d m w):=by
 have hm:=mixed;have hG:=near_old;obtain⟨W0,hW⟩:∃ W,W=((w.alloc (.cells #[.int .i64 g.box.lo.x,.int .i64 g.box.lo.y,.int .i64 g.box.lo.z,.int .i64 g.box.hi.x,.int .i64 g.box.hi.y,.int .i64 g.box.hi.z,.slice A g.cells.length c] 28)).alloc (.cells #[.int .i64 x.st.tick,.int .i64 x.st.clock,.int .i64 x.st.site,.int .i64 x.st.seq,.int .i64 x.kind,.int .i64 x.box.lo.x,.int .i64 x.box.lo.y,.int .i64 x.box.lo.z,.int .i64 x.box.hi.x,.int .i64 x.box.hi.y,.int .i64 x.box.hi.z,.int .i64 x.at_.x,.int .i64 x.at_.y,.int .i64 x.at_.z,.int .i64 x.turn,.int .i64 x.cell,.int .i64 x.size] 32)).alloc (.cells #[.int .i64 0,.int .i64 0,.int .i64 0,.int .i64 0,.int .i64 0,.int .i64 0,.slice none 0 0] 28):=⟨_,rfl⟩;have HX:=Lib.hid (show Ext w W0 by rw[hW];exact(((Ext.refl w).alloc _).alloc _).alloc _);have H4:=Lib.hid (show Arr W0 w.heap.size 28 [.int .i64 g.box.lo.x,.int .i64 g.box.lo.y,.int .i64 g.box.lo.z,.int .i64 g.box.hi.x,.int .i64 g.box.hi.y,.int .i64 g.box.hi.z,.slice A g.cells.length c]by rw[hW];exact((Arr.new w 28 [.int .i64 g.box.lo.x,.int .i64 g.box.lo.y,.int .i64 g.box.lo.z,.int .i64 g.box.hi.x,.int .i64 g.box.hi.y,.int .i64 g.box.hi.z,.slice A g.cells.length c]).alloc _).alloc _);have H5:=Lib.hid (show Arr W0 (w.heap.size+1) 32 [.int .i64 x.st.tick,.int .i64 x.st.clock,.int .i64 x.st.site,.int .i64 x.st.seq,.int .i64 x.kind,.int .i64 x.box.lo.x,.int .i64 x.box.lo.y,.int .i64 x.box.lo.z,.int .i64 x.box.hi.x,.int .i64 x.box.hi.y,.int .i64 x.box.hi.z,.int .i64 x.at_.x,.int .i64 x.at_.y,.int .i64 x.at_.z,.int .i64 x.turn,.int .i64 x.cell,.int .i64 x.size]by rw[hW];have h:=Arr.new (w.alloc (.cells #[.int .i64 g.box.lo.x,.int .i64 g.box.lo.y,.int .i64 g.box.lo.z,.int .i64 g.box.hi.x,.int .i64 g.box.hi.y,.int .i64 g.box.hi.z,.slice A g.cells.length c] 28)) 32 [.int .i64 x.st.tick,.int .i64 x.st.clock,.int .i64 x.st.site,.int .i64 x.st.seq,.int .i64 x.kind,.int .i64 x.box.lo.x,.int .i64 x.box.lo.y,.int .i64 x.box.lo.z,.int .i64 x.box.hi.x,.int .i64 x.box.hi.y,.int .i64 x.box.hi.z,.int .i64 x.at_.x,.int .i64 x.at_.y,.int .i64 x.at_.z,.int .i64 x.turn,.int .i64 x.cell,.int .i64 x.size];simp only[World.size_alloc_]at h;exact(h.alloc _));have H8:=Lib.hid (show Arr W0 (w.heap.size+1+1) 28 [.int .i64 0,.int .i64 0,.int .i64 0,.int .i64 0,.int .i64 0,.int .i64 0,.slice none 0 0]by rw[hW];have h:=Arr.new ((w.alloc (.cells #[.int .i64 g.box.lo.x,.int .i64 g.box.lo.y,.int .i64 g.box.lo.z,.int .i64 g.box.hi.x,.int .i64 g.box.hi.y,.int .i64 g.box.hi.z,.slice A g.cells.length c] 28)).alloc (.cells #[.int .i64 x.st.tick,.int .i64 x.st.clock,.int .i64 x.st.site,.int .i64 x.st.seq,.int .i64 x.kind,.int .i64 x.box.lo.x,.int .i64 x.box.lo.y,.int .i64 x.box.lo.z,.int .i64 x.box.hi.x,.int .i64 x.box.hi.y,.int .i64 x.box.hi.z,.int .i64 x.at_.x,.int .i64 x.at_.y,.int .i64 x.at_.z,.int .i64 x.turn,.int .i64 x.cell,.int .i64 x.size] 32)) 28 [.int .i64 0,.int .i64 0,.int .i64 0,.int .i64 0,.int .i64 0,.int .i64 0,.slice none 0 0];simp only[World.size_alloc_]at h;exact h);have HO:=Lib.hid (Over_any g A c);have HC:=Lib.hid (fun(W:World) (hx:Ext w W)=>Changes_any (A:=A) (c:=c) (m:=m) hd hft hv hln hb W (hR.ext hx) (hA.ext hx) (hst.ext hx) (hs.ext hx));have HW:=Lib.hid (fun(W:World) (hx:Ext w W) (Al:Option Addr) (cl:Nat) (l:List Chg) (hl:Sv W W.heap.size 5 Al cl (rowsC l)) (hll:l.length≤1000000)=>pWrite_any (Al:=Al) (cl:=cl) (l:=l) (hs.ext hx) hl hv (by omega) h0 hll);have HD:=Lib.hid hd;clear hd hft hv hln h0 hb hR hA hst hs
 go_enter Tryz.func14,Tryz.ntmps14
 go_upto_region 1 with fail
 rw[← hW];clear hW;refine wp_region_mix [some (.agg #[.int .i64 g.box.lo.x,.int .i64 g.box.lo.y,.int .i64 g.box.lo.z,.int .i64 g.box.hi.x,.int .i64 g.box.hi.y,.int .i64 g.box.hi.z,.slice A g.cells.length c]),some (.iface 73 (.agg #[.int .i64 g.box.lo.x,.int .i64 g.box.lo.y,.int .i64 g.box.lo.z,.int .i64 g.box.hi.x,.int .i64 g.box.hi.y,.int .i64 g.box.hi.z,.slice A g.cells.length c])),some (.agg #[.int .i64 x.st.tick,.int .i64 x.st.clock,.int .i64 x.st.site,.int .i64 x.st.seq,.int .i64 x.kind,.int .i64 x.box.lo.x,.int .i64 x.box.lo.y,.int .i64 x.box.lo.z,.int .i64 x.box.hi.x,.int .i64 x.box.hi.y,.int .i64 x.box.hi.z,.int .i64 x.at_.x,.int .i64 x.at_.y,.int .i64 x.at_.z,.int .i64 x.turn,.int .i64 x.cell,.int .i64 x.size]),some (.int .i64 d),some (.int .i64 m),none,none,none,none,none,none] (fun i v w'=>if i=5 then(TuV g x d m (w.heap.size+3) v w')else(if i=6 then(TuV g x d m (w.heap.size+3) v w')else(if i=7 then(ChV g x d m (w.heap.size+3) v w')else(if i=8 then(ErV g x d m v)else(if i=9 then(ChV g x d m (w.heap.size+3) v w')else(if i=10 then(ErV g x d m v)else(True))))))) hm (by kernel_rfl) (by kernel_rfl) rfl ?_ ?_ ?_
 · exact g_if (fun v w1 w2 hx h=>((fun h=>h.ext hx)) h) (g_if (fun v w1 w2 hx h=>((fun h=>h.ext hx)) h) (g_if (fun v w1 w2 hx h=>((fun h=>h.ext hx)) h) (g_if (fun v w1 w2 hx h=>((fun h=>h)) h) (g_if (fun v w1 w2 hx h=>((fun h=>h.ext hx)) h) (g_if (fun v w1 w2 hx h=>((fun h=>h)) h) (g_true))))))
 · refine c_ (s_row H4 Tryz.underlying28) ?_;refine c_ (s_call fun w1 hx=>HO.out w1) ?_;refine c_ (s_row H5 Tryz.underlying32) ?_;refine c_ s_mv ?_;refine c_ s_mv ?_;refine c_ (s_callG fun w1 hx=>(show Calls Tryz.prog 12 _ w1 fun e w'=>∃ v,e = .returned v∧Ext w1 w'∧(TuV g x d m (w.heap.size+3) v w')from(HC.out w1 (HX.out.trans hx)).mono fun e w2 ⟨l,er,v,h1,h2,h3,h4⟩=>⟨_,h2,h4,v,_,rfl,⟨l,er,h1,own_low_mono (by have:=H8.out.lt;have:=hx.size;omega) h3⟩,l,er,h1,rfl⟩).mono fun e w' ⟨v,h1,h2,h3⟩=>⟨v,h1,h2,h3⟩) ?_;refine c_ (s_by (.inl rfl) fun b w1 h K hK=>?_) ?_
   · have hx:=h.ext;replace hK:∀ v w',Ext w1 w'→(TuV g x d m (w.heap.size+3) v w')→K (b.put (some 13) v) w':=fun v w' h1 h2=>hK v w' h1 (GdM.prop rfl h2);obtain⟨v19,g19,e19⟩:=h.dep 5 rfl;have g19:TuV g x d m (w.heap.size+3) v19 w1:=g19;obtain⟨uq,uq2,rfl,hoq,hoq2⟩:=g19;have e19:=e19 19 rfl;exact op_move rfl (eval_of e19) (hK _ w1 (Ext.refl _) ⟨uq,uq2,rfl,hoq,hoq2⟩)
   refine c_ (s_by (.inl rfl) fun b w1 h K hK=>?_) ?_
   · have hx:=h.ext;replace hK:∀ v w',Ext w1 w'→(ChV g x d m (w.heap.size+3) v w')→K (b.put (some 20) v) w':=fun v w' h1 h2=>hK v w' h1 (GdM.prop rfl h2);obtain⟨v13,g13,e13⟩:=h.dep 6 rfl;have g13:TuV g x d m (w.heap.size+3) v13 w1:=g13;obtain⟨uq,uq2,rfl,hoq,hoq2⟩:=g13;have e13:=e13 13 rfl;exact op_run (by unfold execOp;simp[e13,Act.eval,go_sem]) (hK _ w1 (Ext.refl _) hoq)
   refine c_ (s_by (.inl rfl) fun b w1 h K hK=>?_) ?_
   · have hx:=h.ext;replace hK:∀ v w',Ext w1 w'→(ErV g x d m v)→K (b.put (some 21) v) w':=fun v w' h1 h2=>hK v w' h1 (GdM.prop rfl h2);obtain⟨v13,g13,e13⟩:=h.dep 6 rfl;have g13:TuV g x d m (w.heap.size+3) v13 w1:=g13;obtain⟨uq,uq2,rfl,hoq,hoq2⟩:=g13;have e13:=e13 13 rfl;exact op_run (by unfold execOp;simp[e13,Act.eval,go_sem]) (hK _ w1 (Ext.refl _) hoq2)
   refine c_ (s_by (.inl rfl) fun b w1 h K hK=>?_) ?_
   · have hx:=h.ext;replace hK:∀ v w',Ext w1 w'→(ChV g x d m (w.heap.size+3) v w')→K (b.put (some 11) v) w':=fun v w' h1 h2=>hK v w' h1 (GdM.prop rfl h2);obtain⟨v20,g20,e20⟩:=h.dep 7 rfl;have g20:ChV g x d m (w.heap.size+3) v20 w1:=g20;have e20:=e20 20 rfl;exact op_assign rfl (eval_of e20) (hK _ w1 (Ext.refl _) g20)
   refine c_ (s_by (.inl rfl) fun b w1 h K hK=>?_) ?_
   · have hx:=h.ext;replace hK:∀ v w',Ext w1 w'→(ErV g x d m v)→K (b.put (some 12) v) w':=fun v w' h1 h2=>hK v w' h1 (GdM.prop rfl h2);obtain⟨v21,g21,e21⟩:=h.dep 8 rfl;have g21:ErV g x d m v21:=g21;have e21:=e21 21 rfl;exact op_assign rfl (eval_of e21) (hK _ w1 (Ext.refl _) g21)
   exact trivial
 · intro U w9 hx hg;have g5:TuV g x d m (w.heap.size+3) (U 5) w9:=hg 5 (by decide) rfl;have g6:TuV g x d m (w.heap.size+3) (U 6) w9:=hg 6 (by decide) rfl;have g7:ChV g x d m (w.heap.size+3) (U 7) w9:=hg 7 (by decide) rfl;have g8:ErV g x d m (U 8):=hg 8 (by decide) rfl;have g9:ChV g x d m (w.heap.size+3) (U 9) w9:=hg 9 (by decide) rfl;have g10:ErV g x d m (U 10):=hg 10 (by decide) rfl;simp only[fillM,Act.put,List.getElem?_cons_zero,List.getElem?_cons_succ,Option.join_some,Option.getD_some,Option.getD_none,List.setIfInBounds_toArray,List.set_cons_zero,List.set_cons_succ,Nat.zero_add,Nat.reduceAdd];clear hg;obtain⟨l,er,hch,hrow⟩:=g9;obtain⟨l2,er2,hch2,he2⟩:=g10;obtain⟨rfl,rfl⟩:=hch.uniq hch2;rw[he2];have HX1:=xEx HX hx;have H41:=aEx H4 hx;have H51:=aEx H5 hx;have H81:=aEx H8 hx;have HCH:=Lib.hid hch;have HRB:=Lib.hid (own_low hrow);have HRW:=Lib.hid (own_low_mono (Nat.le_add_right _ 3) hrow);have hll:=hch.len HD.out;obtain⟨lA,lc,hvv⟩:=own_len hrow;rw[hvv]at HRW HRB ⊢;have HWR:=Lib.hid (HW.out w9 HX1.out lA lc l (Sv.of_own HRW.out (rowsC_rwk l) (rowsC_length l)) (by omega));clear hx g5 g6 g7 g8 hch hch2 hrow hll hvv he2
   go_wp2_with (first
    | (refine ldB 28 4 H41.out Tryz.underlying28 ?_)
    | (go_at_call 39;refine HWR.out.mono ?_;rintro e W3 ⟨u,rfl,ho,hx⟩;obtain⟨A',c',rfl,_⟩:=own_form ho;have HX3:=xEx HX1 hx;have H83:=aEx H81 hx;have HO3:=Lib.hid ho;have HR3:=Lib.hid (own_ext HRW.out hx);have HSZ:=Lib.hid HX1.out.size;clear ho hx)
    | (refine wpList_store_blk2 28 (.tmp 8) (.tmp 24) rfl rfl H83.out [.int .i64 g.box.lo.x,.int .i64 g.box.lo.y,.int .i64 g.box.lo.z,.int .i64 g.box.hi.x,.int .i64 g.box.hi.y,.int .i64 g.box.hi.z,.slice A' (writeG g l).cells.length c'] rfl rfl (by kernel_rfl) rfl rfl rfl ?_;intro W4 hW;have H84:=nRow H83 hW;have HX4:=xRow HX3 hW (by omega);have HGR:=Lib.hid (show W3.grownBy W4 (some (w.heap.size+1+1))by rw[hW];exact grown_row (grown_refl _ _) _);clear hW))
   refine bodyPost_ret (v:=.tuple #[.agg #[.int .i64 g.box.lo.x,.int .i64 g.box.lo.y,.int .i64 g.box.lo.z,.int .i64 g.box.hi.x,.int .i64 g.box.hi.y,.int .i64 g.box.hi.z,.slice A' (writeG g l).cells.length c'],.slice lA l.length lc,.int .i64 er]) ?_ rfl ⟨l,er,_,_,HCH.out,rfl,own_low_mono HSZ.out (own_keep HO3.out HGR.out (fun b hb hbb=>by injection hb with hb;have:=own_low HO3.out b hbb;have:=H81.out.lt;omega)),own_keep HR3.out HGR.out (fun b hb hbb=>by injection hb with hb;have:=HRB.out b hbb;omega),HX4.out⟩;exact results_cell_row3 Tryz.results14 _ _ _ _ _ _ _ rfl H84.out Tryz.underlying28 rfl (by kernel_rfl)
end Go.Proofs.YtoecbicdahbccaaGreatDoor
namespace Go.Proofs.YtoecbicdahbccaaGreatDoor
open Go Go.RowKit Go.Sort
theorem ReverseC_any(l:List Chg)(v:Value)(base:Nat)(w:World)(h:w.ownsRow base 58 5 v l.length (rowsC l).flatten)(hb:l.length≤1000000):
    Calls Tryz.prog 43 #[v] w fun e w'=>e = .returned (.tuple #[])∧w'.ownsRow base 58 5 v l.length (rowsC l.reverse).flatten∧w.grownBy w' v.ownBlock:=by
 rcases h.2 with⟨rfl,h0⟩ | ⟨g,cap,cur,rfl,hg,hgg,_⟩
 · have hl:l = []:=List.eq_nil_of_length_eq_zero h0;subst hl;exact(AnyQ.slices_Reverse_empty Tryz.revCh none 0 w).mono fun e w' ⟨he,hw⟩=>⟨he,by rw[hw];exact h,by rw[hw];exact grown_refl _ _⟩
 · have hk:∀ x,(Chg.cells x).length=5:=fun _=>rfl;have h1:∀ x,∀ u∈Chg.cells x,u.oneCell'=true:=fun x u hu=>by
    simp only[Chg.cells,List.mem_cons,List.not_mem_nil,or_false]at hu
    rcases hu with rfl | rfl | rfl | rfl | rfl <;> rfl
   have hH:HoldsK Chg.cells 5 w g 0 l.toArray:=holds_of_own (enc:=Chg.cells) hk h rfl;refine(AnyQ.slices_Reverse Tryz.revCh 5 Tryz.isAgg58 Tryz.sizeOf58 Chg.cells hk h1 g 0 cap l.toArray w hH (by simp;omega)).mono fun e w' ⟨he,n,hw⟩=>?_;have hw2:w'=sortWorldK Chg.cells 5 w g 0 n l.reverse.toArray #[]:=by
    rw[hw];unfold sortWorldK;rw[grow_empty];simp
   obtain⟨r1,r2⟩:=own_put (enc:=Chg.cells) (m:=n) (os:=#[]) (d':=l.reverse) hk h rfl (by simp);rw[hw2];exact⟨he,r1,r2⟩
structure RvS (w:World) (base:Nat) (v:Value) (l:List Chg) (n k:Nat) (wr:World):Prop where
 row:wr.ownsRow base 58 5 v n (rowsC ((l.take k).map swapC++l.drop k)).flatten
 ext:Ext w wr
 base:w.heap.size≤base∧base≤wr.heap.size
theorem rv_at{l:List Chg}{k:Nat}{x:Chg}(h:l[k]? = some x):((l.take k).map swapC++l.drop k)[k]? = some x:=by
 obtain⟨hk,rfl⟩:=List.getElem?_eq_some_iff.1 h;rw[List.getElem?_append_right (by simp;omega)];simp[hk,Nat.min_eq_left (Nat.le_of_lt hk)]
theorem rv_set{l:List Chg}{k:Nat}{x:Chg}(h:l[k]? = some x):((l.take k).map swapC++l.drop k).set k (swapC x)=(l.take (k+1)).map swapC++l.drop (k+1):=by
 obtain⟨hk,rfl⟩:=List.getElem?_eq_some_iff.1 h;have e:k - ((l.take k).map swapC).length=0:=by simp;omega
 rw[List.set_append_right _ _ (by simp;omega),e,List.take_succ_eq_append_getElem hk,List.drop_eq_getElem_cons hk,List.set_cons_zero,List.map_append,List.append_assoc];rfl
theorem rowsC_set(l:List Chg){k:Nat}{x:Chg}(h:l[k]? = some x)(a b:Int):((rowsC l).flatten.set (k * 5+3) (.int .i64 a)).set (k * 5+4) (.int .i64 b)=(rowsC (l.set k ⟨x.at_,a,b⟩)).flatten:=by
 obtain⟨hk,rfl⟩:=List.getElem?_eq_some_iff.1 h;have hl:(rowsC l).flatten.length=l.length * 5:=by rw[flatten_length _ (rowsC_rwk l).len,rowsC_length]
 have e:rowsC (l.set k ⟨l[k].at_,a,b⟩)=(rowsC l).set k (Chg.cells ⟨l[k].at_,a,b⟩):=by unfold rowsC;rw[List.map_set]
 rw[e,set_flatten (rowsC l) k _ (rowsC_rwk l).len rfl (by rw[rowsC_length];exact hk)];have e2:(rowsC l).flatten=splice (rowsC l).flatten (k * 5) (Chg.cells l[k]):=by
  rw[← set_flatten (rowsC l) k _ (rowsC_rwk l).len rfl (by rw[rowsC_length];exact hk)];congr 1
  unfold rowsC;rw[← List.map_set];congr 1
  simp
 have hk5:k * 5+5≤(rowsC l).flatten.length:=by omega
 conv=>lhs;rw[e2]
 unfold splice Chg.cells;have h0:((rowsC l).flatten.take (k * 5)).length=k * 5:=by rw[List.length_take];omega
 rw[List.set_append_right _ _ (by omega),h0,Nat.add_sub_cancel_left,List.set_append_right _ _ (by omega),h0,Nat.add_sub_cancel_left];simp
theorem RvS.more{w wr W:World}{base n k:Nat}{v:Value}{l:List Chg}(h:RvS w base v l n k wr)(hw:Ext wr W):RvS w base v l n k W:=⟨own_ext h.row hw,h.ext.trans hw,⟨h.base.1,Nat.le_trans h.base.2 hw.size⟩⟩
theorem RvS.step{w wr W:World}{base g c1 k:Nat}{l:List Chg}{x:Chg}(h:RvS w base (.slice (some ⟨g,0,none⟩) l.length c1) l l.length k wr)(hx:l[k]? = some x)(hw:Ext wr W):
    RvS w base (.slice (some ⟨g,0,none⟩) l.length c1) l l.length (k+1) ((W.setCell ⟨g,k * 5+3,none⟩ (.int .i64 x.new)).setCell ⟨g,k * 5+4,none⟩ (.int .i64 x.old)):=by
 have ho:=own_ext h.row hw;have h1:=((ho.stored (k * 5+3) (.int .i64 x.new)).1.stored (k * 5+4) (.int .i64 x.old)).1;rw[rowsC_set _ (rv_at hx)]at h1;have e:(⟨x.at_,x.new,x.old⟩:Chg)=swapC x:=rfl;rw[e,rv_set hx]at h1;have hg:W.grownBy ((W.setCell ⟨g,k * 5+3,none⟩ (.int .i64 x.new)).setCell ⟨g,k * 5+4,none⟩ (.int .i64 x.old)) (some g):=grown_set (grown_set (grown_refl _ _) _ _) _ _;exact⟨h1,(h.ext.trans hw).own ho hg h.base.1,⟨h.base.1,Nat.le_trans h.base.2 (Nat.le_trans hw.size hg.size)⟩⟩
theorem Revert_any{A:Option Addr}{c:Nat}{l:List Chg}(hl:l.length≤100000)(w:World)(hs:Sv w w.heap.size 5 A c (rowsC l)):
    Calls Tryz.prog 20 #[.slice A l.length c] w fun e w'=>∃ v,e = .returned v∧w'.ownsRow w.heap.size 58 5 v l.length (rowsC (revC l)).flatten∧Ext w w':=by
 have hm:=mixed;have HC:=Lib.hid (CloneC_any A c l w hs hl);have HRV:=Lib.hid (fun v base W h=>ReverseC_any l v base W h (by omega));clear hs
 go_enter Tryz.func20,Tryz.ntmps20
 go_wp2_with (go_at_call 42;refine HC.out.mono ?_;rintro e w1 ⟨v,rfl,ho,hx⟩;have HR:=Lib.hid (HRV.out v _ w1 ho);obtain⟨A1,c1,hv⟩:=own_l2 ho;have HO:=Lib.hid ho;have HX:=Lib.hid hx;clear ho hx;rw[hv]at HR HO ⊢;clear hv)
 go_at_call 43
 refine HR.out.mono ?_;rintro e w2 ⟨rfl,ho2,hg2⟩;obtain⟨r,hr⟩:∃ r,r=l.reverse:=⟨_,rfl⟩;have hrl:l.length=r.length:=by rw[hr];simp
 rw[← hr]at ho2;have HRR:=Lib.hid hr;have HJ:=Lib.hid (show RvS w w.heap.size (.slice A1 l.length c1) r l.length 0 w2 from⟨by simpa using ho2,HX.out.own HO.out hg2 (Nat.le_refl _),⟨Nat.le_refl _,Nat.le_trans HX.out.size hg2.size⟩⟩);have hln:r.length≤100000:=by omega
 rw[hrl]at HJ ⊢;clear ho2 hg2 HC HRV HO HX HR hr;have HRL:=Lib.hid hrl;clear hrl
 go_wp2_with fail
 go_loopw [12] (fun i wr=>∃ k:Nat,i = .int .i64 k∧k≤r.length∧RvS w w.heap.size (.slice A1 r.length c1) r r.length k wr) (fun i _=>r.length - (intOf i).toNat)
 case atStart=>exact⟨0,rfl,Nat.zero_le _,HJ.out⟩
 case round=>
  clear HJ;obtain⟨k,rfl,hk,hj⟩:=hrel
  by_cases hlt:k < r.length
  · obtain⟨x,hxk⟩:∃ x,r[k]? = some x:=⟨_,List.getElem?_eq_getElem hlt⟩;have hyk:=rv_at hxk;have hll:((r.take k).map swapC++r.drop k).length=r.length:=by simp;omega
    obtain⟨bs,off,rfl,hbl,d0,d1,d2,d3,d4⟩:=chg_row (Sv.of_own hj.row (rowsC_rwk _) (by rw[rowsC_length];exact hll)) hyk;obtain rfl:off=0:=by
     rcases hj.row.2 with⟨h5,_⟩ | ⟨_,_,_,h5,_⟩
     · cases h5
     · injection h5 with h5;injection h5 with h5;injection h5
    rw[Nat.zero_add]at d0 d1 d2 d3 d4;have f3:=hj.row.frozenAt (k * 5+3);have f4:=hj.row.frozenAt (k * 5+4);have hne:bs≠wr.heap.size:=by omega
    have hne2:¬ wr.heap.size=bs:=by omega
    have hx0:=(Ext.refl wr).alloc (.cells #[.int .i64 x.at_.x,.int .i64 x.at_.y,.int .i64 x.at_.z,.int .i64 x.old,.int .i64 x.new] 58);have HJ:=Lib.hid hj;have HXK:=Lib.hid hxk;have HX0:=Lib.hid hx0;clear hj hxk hyk hll hx0
    go_wp2_with fail
    go_big_region_o
    go_wp2
    go_roundw
    case rel=>exact⟨k+1,by go_num,by omega,(HJ.out.step HXK.out (Ext.refl _)).more ((Ext.refl _).alloc _).drew⟩
    case measure=>simp[intOf];omega
  · obtain rfl:k=r.length:=by omega
    have h1:=hj.row;have e:r.map swapC=revC l:=by rw[HRR.out];rfl
    rw[List.take_length,List.drop_length,List.append_nil,e]at h1;have H1:=Lib.hid h1;have H2:=Lib.hid hj.ext;clear hj h1;go_wp2
    go_ret
    exact⟨_,rfl,by rw[HRL.out];exact H1.out,H2.out⟩
end Go.Proofs.YtoecbicdahbccaaGreatDoor
namespace Go.Proofs.YtoecbicdahbccaaGreatDoor
open Go Go.RowKit
theorem at26_any(x y z:Int)(w:World):Calls Tryz.prog 33 #[.int .i64 x,.int .i64 y,.int .i64 z] w fun e w'=>e = .returned (.agg #[.int .i64 x,.int .i64 y,.int .i64 z])∧Ext w w':=by
 have hm:=mixed;have hG:=near_old;obtain⟨W0,hW⟩:∃ W,W=w.alloc (.cells #[.int .i64 0,.int .i64 0,.int .i64 0] 23):=⟨_,rfl⟩;have HX:=Lib.hid (show Ext w W0 by rw[hW];exact(Ext.refl w).alloc _);have H6:=Lib.hid (show Arr W0 w.heap.size 23 [.int .i64 0,.int .i64 0,.int .i64 0]by rw[hW];exact Arr.new w 23 [.int .i64 0,.int .i64 0,.int .i64 0])
 go_enter Tryz.func33,Tryz.ntmps33
 go_upto_region 1 with fail
 rw[← hW];clear hW
 go_wp2_with (first
  | (refine wpList_store_blk2 23 (.tmp 6) (.tmp 10) rfl rfl H6.out [.int .i64 x,.int .i64 y,.int .i64 z] rfl rfl (by kernel_rfl) rfl rfl rfl ?_;intro W1 hW;replace HX:=xRow HX hW (by omega);replace H6:=nRow H6 hW;clear hW))
 refine bodyPost_ret (v:=.agg #[.int .i64 x,.int .i64 y,.int .i64 z]) ?_ rfl ⟨rfl,HX.out⟩;exact results_cell_row Tryz.results33 _ _ _ _ _ _ _ rfl H6.out Tryz.underlying23 rfl (by kernel_rfl)
theorem stamp26_any(w:World):Calls Tryz.prog 34 #[] w fun e w'=>e = .returned (.agg #[.int .i64 0,.int .i64 1,.int .i64 1,.int .i64 2])∧Ext w w':=by
 have hm:=mixed;have hG:=near_old;obtain⟨W0,hW⟩:∃ W,W=w.alloc (.cells #[.int .i64 0,.int .i64 0,.int .i64 0,.int .i64 0] 30):=⟨_,rfl⟩;have HX:=Lib.hid (show Ext w W0 by rw[hW];exact(Ext.refl w).alloc _);have H0:=Lib.hid (show Arr W0 w.heap.size 30 [.int .i64 0,.int .i64 0,.int .i64 0,.int .i64 0]by rw[hW];exact Arr.new w 30 [.int .i64 0,.int .i64 0,.int .i64 0,.int .i64 0])
 go_enter Tryz.func34,Tryz.ntmps34
 go_upto_region 1 with fail
 rw[← hW];clear hW
 go_wp2_with (first
  | (refine wpList_store_blk2 30 (.tmp 0) (.tmp 1) rfl rfl H0.out [.int .i64 0,.int .i64 1,.int .i64 1,.int .i64 2] rfl rfl (by kernel_rfl) rfl rfl rfl ?_;intro W1 hW;replace HX:=xRow HX hW (by omega);replace H0:=nRow H0 hW;clear hW))
 refine bodyPost_ret (v:=.agg #[.int .i64 0,.int .i64 1,.int .i64 1,.int .i64 2]) ?_ rfl ⟨rfl,HX.out⟩;exact results_cell_row Tryz.results34 _ _ _ _ _ _ _ rfl H0.out Tryz.underlying30 rfl (by kernel_rfl)
theorem fillK0:fillK 0=List.replicate 64 0:=by decide+kernel
theorem fillK64:fillK 64=exG.cells:=by decide+kernel
def FlV(B:Nat)(v:Value)(w:World):Prop:=∃ u,v = .agg #[.int .i64 (cubeB 4).lo.x,.int .i64 (cubeB 4).lo.y,.int .i64 (cubeB 4).lo.z,.int .i64 (cubeB 4).hi.x,.int .i64 (cubeB 4).hi.y,.int .i64 (cubeB 4).hi.z,u]∧w.ownsRow B 3 1 u 64 (rowsI (fillK 64)).flatten
theorem example26_any(w:World):Calls Tryz.prog 32 #[] w fun e w'=>∃ u,e = .returned (.agg #[.int .i64 exG.box.lo.x,.int .i64 exG.box.lo.y,.int .i64 exG.box.lo.z,.int .i64 exG.box.hi.x,.int .i64 exG.box.hi.y,.int .i64 exG.box.hi.z,u])∧w'.ownsRow w.heap.size 3 1 u exG.cells.length (rowsI exG.cells).flatten∧Ext w w':=by
 have hm:=mixed;obtain⟨W0,hW⟩:∃ W,W=w.alloc (.cells #[.int .i64 0,.int .i64 0,.int .i64 0,.int .i64 0,.int .i64 0,.int .i64 0,.slice none 0 0] 28):=⟨_,rfl⟩;have HX:=Lib.hid (show Ext w W0 by rw[hW];exact(Ext.refl w).alloc _);have H0:=Lib.hid (show Arr W0 w.heap.size 28 Z7 by rw[hW];exact Arr.new w _ Z7);have HCU:=Lib.hid (refCube_any 4);have HNW:=Lib.hid (fun W=>new07_any (b:=cubeB 4) (V:=64) (v:=0) (by decide) (by decide) (by decide) (by decide+kernel) (by decide) (by decide) W);have HFL:=Lib.hid (fun(A:Option Addr) (c:Nat) (W:World) (hs:Sv W W.heap.size 1 A c (rowsI (fillK 0)))=>fill07_ex (b0:=cubeB 4) (bx:=⟨⟨2,0,0⟩,⟨3,4,4⟩⟩) ⟨by decide,by decide,by decide⟩ (by decide+kernel) fillK_in W hs);have HE:=Lib.hid fillK64;have HAT:=Lib.hid at26_any;rw[← fillK0]at HNW
 go_enter Tryz.func32,Tryz.ntmps32
 go_upto_region 1 with fail
 rw[← hW];clear hW
 go_upto_region 2 with(first
  | (go_at_call 64;refine(HCU.out _).mono ?_;rintro e W1 ⟨rfl,hx⟩;replace HX:=xEx HX hx;replace H0:=aEx H0 hx;clear hx)
  | (go_at_call 65;refine(HNW.out _).mono ?_;rintro e W2 ⟨u,rfl,ho,hx⟩;obtain⟨A1,c1,rfl,_⟩:=own_form ho;replace HX:=xEx HX hx;replace H0:=aEx H0 hx;have HO:=Lib.hid ho;clear hx ho)
  | (refine wpList_store_blk2 28 (.tmp 1) (.tmp 6) rfl rfl (Arr.new W2 28 Z7) [.int .i64 (cubeB 4).lo.x,.int .i64 (cubeB 4).lo.y,.int .i64 (cubeB 4).lo.z,.int .i64 (cubeB 4).hi.x,.int .i64 (cubeB 4).hi.y,.int .i64 (cubeB 4).hi.z,.slice A1 64 c1] rfl rfl (by kernel_rfl) rfl rfl rfl ?_;intro W3 hW;have HX3:=xNew (Lib.hid (Ext.refl W2)) hW;replace HX:=xNew HX hW;replace H0:=aNew H0 hW;have H1:=nNew hW;replace HO:=Lib.hid (own_ext HO.out HX3.out);clear hW HX3))
 (try simp only[Act.put,List.setIfInBounds_toArray,List.set_cons_zero,List.set_cons_succ])
 refine wp_region_stm (w:=W3) [some (.agg #[.int .i64 (cubeB 4).lo.x,.int .i64 (cubeB 4).lo.y,.int .i64 (cubeB 4).lo.z,.int .i64 (cubeB 4).hi.x,.int .i64 (cubeB 4).hi.y,.int .i64 (cubeB 4).hi.z,.slice A1 64 c1]),some (.agg #[.int .i64 2,.int .i64 0,.int .i64 0]),some (.agg #[.int .i64 3,.int .i64 4,.int .i64 4]),some (.agg #[.int .i64 2,.int .i64 0,.int .i64 0,.int .i64 3,.int .i64 4,.int .i64 4]),none,none] (fun i v w'=>if i=4 then FlV (w.heap.size+1) v w' else True) 5 28 0 12 4 w.heap.size (fun w'=>∃ A c,Arr w' w.heap.size 28 [.int .i64 (cubeB 4).lo.x,.int .i64 (cubeB 4).lo.y,.int .i64 (cubeB 4).lo.z,.int .i64 (cubeB 4).hi.x,.int .i64 (cubeB 4).hi.y,.int .i64 (cubeB 4).hi.z,.slice A 64 c]∧w'.ownsRow (w.heap.size+1) 3 1 (.slice A 64 c) 64 (rowsI (fillK 64)).flatten∧Ext w w') hm ?_ ?_ rfl ?_ ?_
 · exact g_if (fun v w1 w2 hx h=>by obtain⟨u,h1,h2⟩:=h;exact⟨u,h1,own_ext h2 hx⟩) g_true
 · refine c_ (s_row H1 Tryz.underlying28) ?_;refine c_ (s_call fun w1 hx=>HAT.out 2 0 0 w1) ?_;refine c_ (s_call fun w1 hx=>HAT.out 3 4 4 w1) ?_;refine c_ (s_run2 9 10 (hr:=fun b w1 _ e f=>by unfold execOp;simp[e,f,Act.eval,go_sem])) ?_;refine c_ (s_callG fun w1 hx=>(HFL.out A1 c1 w1 (by have h:=own_ext HO.out hx;exact Sv.of_own h (rowsI_rwk _) (by rw[rowsI_length,fillK_len]))).mono fun e w' ⟨u,h1,h2,h3⟩=>⟨_,h1,h3,u,rfl,own_low_mono (Nat.lt_of_lt_of_le H0.out.lt hx.size) h2⟩) ?_;exact trivial
 · intro v w1 hx hgd;have hgd:FlV (w.heap.size+1) v w1:=hgd;obtain⟨u,rfl,ho⟩:=hgd;obtain⟨A,n,c,rfl⟩:=store_form ho;obtain⟨A',c',he,_⟩:=own_form ho;injection he with hA hn hc
   subst hn;refine⟨[.int .i64 (cubeB 4).lo.x,.int .i64 (cubeB 4).lo.y,.int .i64 (cubeB 4).lo.z,.int .i64 (cubeB 4).hi.x,.int .i64 (cubeB 4).hi.y,.int .i64 (cubeB 4).hi.z,.slice A 64 c],Z7,rfl,H0.out.ext hx,rfl,by kernel_rfl,rfl,A,c,(H0.out.ext hx).setRow _,own_keep ho (grown_row (grown_refl _ (some w.heap.size)) _) (fun q hq e=>by injection hq with hq;subst hq;have:=own_low ho _ e;omega),(HX.out.trans hx).setRow (Nat.le_refl _) _⟩
 intro V w9 ⟨A,c,hA,ho,hx⟩;simp only[fillM,Act.put,List.setIfInBounds_toArray,List.set_cons_zero,List.set_cons_succ];have HA9:=Lib.hid hA;have HO9:=Lib.hid ho;have HX9:=Lib.hid hx;clear hA ho hx;go_wp2
 refine bodyPost_ret (v:=.agg #[.int .i64 exG.box.lo.x,.int .i64 exG.box.lo.y,.int .i64 exG.box.lo.z,.int .i64 exG.box.hi.x,.int .i64 exG.box.hi.y,.int .i64 exG.box.hi.z,.slice A 64 c]) ?_ rfl ⟨_,rfl,?_,HX9.out⟩
 · exact results_cell_row Tryz.results32 _ _ _ _ _ _ _ rfl HA9.out Tryz.underlying28 rfl (by kernel_rfl)
 · have h:=own_low_mono (Nat.le_succ w.heap.size) HO9.out;rw[HE.out]at h;exact h
end Go.Proofs.YtoecbicdahbccaaGreatDoor
