/- A part of the walk of the layer of apply: contracts and plain laws that a row's text leans on. -/
import Derived.Test.YtoecbicdahbccaaGreatDoorZa14
import Derived.Test.YtoecbicdahbccaaGreatDoorZa17
set_option maxRecDepth 100000
set_option maxHeartbeats 16000000
namespace Go.Proofs.YtoecbicdahbccaaGreatDoor
open Go Go.RowKit
structure OwnG (g:Gr) (base rb:Nat) (u:Value) (w:World):Prop where
 blk:Arr w rb 28 [.int .i64 g.box.lo.x,.int .i64 g.box.lo.y,.int .i64 g.box.lo.z,.int .i64 g.box.hi.x,.int .i64 g.box.hi.y,.int .i64 g.box.hi.z,u]
 row:w.ownsRow base 3 1 u g.cells.length (rowsI g.cells).flatten
structure CopyI (g:Gr) (A:Option Addr) (c:Nat) (w:World) (d:Bool) (w1:World):Prop where
 src:Arr w1 w.heap.size 28 [.int .i64 g.box.lo.x,.int .i64 g.box.lo.y,.int .i64 g.box.lo.z,.int .i64 g.box.hi.x,.int .i64 g.box.hi.y,.int .i64 g.box.hi.z,.slice A g.cells.length c]
 cells:Sv w1 w.heap.size 1 A c (rowsI g.cells)
 ext:Ext w w1
 dst:∃ vs,Arr w1 (w.heap.size+1) 28 vs∧vs.length=7
 done:d=true→∃ u,OwnG g (w.heap.size+2) (w.heap.size+1) u w1
theorem CopyI.step{g:Gr}{A:Option Addr}{c:Nat}{w w1 w2:World}{d:Bool}(h:CopyI g A c w d w1)(hx:Ext w1 w2):CopyI g A c w d w2:=
 ⟨h.src.ext hx,h.cells.keep (fun p hp=>hx.cell (Nat.lt_of_lt_of_le hp h.ext.size)),h.ext.trans hx,by obtain⟨vs,h1,h2⟩:=h.dst;exact⟨vs,h1.ext hx,h2⟩,fun e=>by obtain⟨u,h1⟩:=h.done e;exact⟨u,h1.blk.ext hx,own_ext h1.row hx⟩⟩
theorem copied_any(g:Gr)(A:Option Addr)(c:Nat)(w:World)(hs:Sv w w.heap.size 1 A c (rowsI g.cells))(h200:g.cells.length≤100000):
    Calls Tryz.prog 40 #[.agg #[.int .i64 g.box.lo.x,.int .i64 g.box.lo.y,.int .i64 g.box.lo.z,.int .i64 g.box.hi.x,.int .i64 g.box.hi.y,.int .i64 g.box.hi.z,.slice A g.cells.length c]] w fun e w'=>∃ u,e = .returned (.agg #[.int .i64 g.box.lo.x,.int .i64 g.box.lo.y,.int .i64 g.box.lo.z,.int .i64 g.box.hi.x,.int .i64 g.box.hi.y,.int .i64 g.box.hi.z,u])∧w'.ownsRow w.heap.size 3 1 u g.cells.length (rowsI g.cells).flatten∧Ext w w':=by
 have hm:=mixed;have hG:=near_old;have hx0:Ext w ((w.alloc (.cells #[.int .i64 g.box.lo.x,.int .i64 g.box.lo.y,.int .i64 g.box.lo.z,.int .i64 g.box.hi.x,.int .i64 g.box.hi.y,.int .i64 g.box.hi.z,.slice A g.cells.length c] 28)).alloc (.cells #[.int .i64 zeroBx.lo.x,.int .i64 zeroBx.lo.y,.int .i64 zeroBx.lo.z,.int .i64 zeroBx.hi.x,.int .i64 zeroBx.hi.y,.int .i64 zeroBx.hi.z,.slice none 0 0] 28)):=((Ext.refl w).alloc _).alloc _;have B0:=(Arr.new w 28 [.int .i64 g.box.lo.x,.int .i64 g.box.lo.y,.int .i64 g.box.lo.z,.int .i64 g.box.hi.x,.int .i64 g.box.hi.y,.int .i64 g.box.hi.z,.slice A g.cells.length c]).alloc (.cells #[.int .i64 zeroBx.lo.x,.int .i64 zeroBx.lo.y,.int .i64 zeroBx.lo.z,.int .i64 zeroBx.hi.x,.int .i64 zeroBx.hi.y,.int .i64 zeroBx.hi.z,.slice none 0 0] 28);have B1:=Arr.new (w.alloc (.cells #[.int .i64 g.box.lo.x,.int .i64 g.box.lo.y,.int .i64 g.box.lo.z,.int .i64 g.box.hi.x,.int .i64 g.box.hi.y,.int .i64 g.box.hi.z,.slice A g.cells.length c] 28)) 28 [.int .i64 zeroBx.lo.x,.int .i64 zeroBx.lo.y,.int .i64 zeroBx.lo.z,.int .i64 zeroBx.hi.x,.int .i64 zeroBx.hi.y,.int .i64 zeroBx.hi.z,.slice none 0 0];rw[World.size_alloc_]at B1;have HB0:=Lib.hid B0;have HB1:=Lib.hid B1;have HX0:=Lib.hid hx0;have HS:=Lib.hid (hs.keep (w':=(w.alloc (.cells #[.int .i64 g.box.lo.x,.int .i64 g.box.lo.y,.int .i64 g.box.lo.z,.int .i64 g.box.hi.x,.int .i64 g.box.hi.y,.int .i64 g.box.hi.z,.slice A g.cells.length c] 28)).alloc (.cells #[.int .i64 zeroBx.lo.x,.int .i64 zeroBx.lo.y,.int .i64 zeroBx.lo.z,.int .i64 zeroBx.hi.x,.int .i64 zeroBx.hi.y,.int .i64 zeroBx.hi.z,.slice none 0 0] 28)) (fun p hp=>hx0.cell hp));clear B0 B1 hx0 hs;obtain⟨i0,hi,hz0,hz1,hz2⟩:=info_parts infoInt
 go_enter Tryz.func40,Tryz.ntmps40
 go_upto_region 2 with fail
 obtain⟨W0,hW⟩:∃ W,W=(w.alloc (.cells #[.int .i64 g.box.lo.x,.int .i64 g.box.lo.y,.int .i64 g.box.lo.z,.int .i64 g.box.hi.x,.int .i64 g.box.hi.y,.int .i64 g.box.hi.z,.slice A g.cells.length c] 28)).alloc (.cells #[.int .i64 zeroBx.lo.x,.int .i64 zeroBx.lo.y,.int .i64 zeroBx.lo.z,.int .i64 zeroBx.hi.x,.int .i64 zeroBx.hi.y,.int .i64 zeroBx.hi.z,.slice none 0 0] 28):=⟨_,rfl⟩;have hW':W0=(w.alloc (.cells #[.int .i64 g.box.lo.x,.int .i64 g.box.lo.y,.int .i64 g.box.lo.z,.int .i64 g.box.hi.x,.int .i64 g.box.hi.y,.int .i64 g.box.hi.z,.slice A g.cells.length c] 28)).alloc (.cells #[.int .i64 0,.int .i64 0,.int .i64 0,.int .i64 0,.int .i64 0,.int .i64 0,.slice none 0 0] 28):=hW;rw[← hW]at HB0 HB1 HX0 HS;rw[← hW'];clear hW hW';refine wp_region_flow2 (w:=W0) 7 (CopyI g A c w) ?_ (fun d w1 w2 hx h=>h.step hx) (fun d i v w'=>match i with
  | 0=>v = .pointer (some ⟨w.heap.size,0,none⟩)
  | 1=>v = .agg #[.int .i64 g.box.lo.x,.int .i64 g.box.lo.y,.int .i64 g.box.lo.z,.int .i64 g.box.hi.x,.int .i64 g.box.hi.y,.int .i64 g.box.hi.z]
  | 2=>v = .slice none 0 0
  | 3=>v = .pointer (some ⟨w.heap.size,6,none⟩)
  | 4=>v = .slice A g.cells.length c
  | 5=>∃ A' c',v = .slice A' g.cells.length c'∧(d=false→w'.ownsRow (w.heap.size+2) 3 1 v g.cells.length (rowsI g.cells).flatten)
  | 6=>∃ A' c',v = .agg #[.int .i64 g.box.lo.x,.int .i64 g.box.lo.y,.int .i64 g.box.lo.z,.int .i64 g.box.hi.x,.int .i64 g.box.hi.y,.int .i64 g.box.hi.z,.slice A' g.cells.length c']∧(d=false→w'.ownsRow (w.heap.size+2) 3 1 (.slice A' g.cells.length c') g.cells.length (rowsI g.cells).flatten)
  | _=>True) hm (by kernel_rfl) (by kernel_rfl) rfl (by decide) ?_ ?_ ?_ ?_
 · have hd:=(Ext.refl W0).drew;exact⟨HB0.out.ext hd,HS.out.keep (fun p hp=>hd.cell (Nat.lt_of_lt_of_le hp HX0.out.size)),HX0.out.trans hd,⟨_,HB1.out.ext hd,rfl⟩,fun e=>by cases e⟩
 · intro d i v w1 w2 hx h
   match i,h with
   | 0,h=>exact h
   | 1,h=>exact h
   | 2,h=>exact h
   | 3,h=>exact h
   | 4,h=>exact h
   | 5,h=>obtain⟨u,c',h1,h2⟩:=h;exact⟨u,c',h1,fun e=>own_ext (h2 e) hx⟩
   | 6,h=>obtain⟨u,c',h1,h2⟩:=h;exact⟨u,c',h1,fun e=>own_ext (h2 e) hx⟩
   | i+7,h=>exact trivial
 · intro i v w1 w2 h
   match i,h with
   | 0,h=>exact h
   | 1,h=>exact h
   | 2,h=>exact h
   | 3,h=>exact h
   | 4,h=>exact h
   | 5,h=>obtain⟨u,c',h1,h2⟩:=h;exact⟨u,c',h1,fun e=>by cases e⟩
   | 6,h=>obtain⟨u,c',h1,h2⟩:=h;exact⟨u,c',h1,fun e=>by cases e⟩
   | i+7,h=>exact trivial
 · intro i o ho d b w1 hJd hI hmiss hdep K hK
   match i,ho with
   | 0,ho=>
     obtain rfl:=Option.some.inj ho;refine want_none rfl ?_;have e1:b.tmps[1]? = some (.pointer (some ⟨w.heap.size,0,none⟩)):=hmiss 1 rfl;exact op_run (by unfold execOp;simp[e1,Act.eval,go_sem]) (hK _ w1 (fun e=>by cases e) (fun _=>Ext.refl _) rfl)
   | 1,ho=>
     obtain rfl:=Option.some.inj ho;refine want_none rfl ?_;obtain⟨v1,g1,e1⟩:=hdep 0 rfl;have g1:v1 = .pointer (some ⟨w.heap.size,0,none⟩):=g1;subst g1;have e1:=e1 4 rfl;refine wp_load_mid 25 (.tmp 4) rfl w.heap.size 0 (eval_of e1) [.int .i64 g.box.lo.x,.int .i64 g.box.lo.y,.int .i64 g.box.lo.z,.int .i64 g.box.hi.x,.int .i64 g.box.hi.y,.int .i64 g.box.hi.z] _ (fun j v hv=>?_) Tryz.underlying25 rfl (by kernel_rfl) (hK _ w1 (fun e=>by cases e) (fun _=>Ext.refl _) rfl);rw[Nat.zero_add,hI.src.cell];show([.int .i64 g.box.lo.x,.int .i64 g.box.lo.y,.int .i64 g.box.lo.z,.int .i64 g.box.hi.x,.int .i64 g.box.hi.y,.int .i64 g.box.hi.z]++[.slice A g.cells.length c])[j]? = some v;rw[List.getElem?_append_left (List.getElem?_eq_some_iff.1 hv).1];exact hv
   | 2,ho=>
     obtain rfl:=Option.some.inj ho;refine want_none rfl ?_;have e1:b.tmps[3]? = some (.slice none 0 0):=hmiss 3 rfl;exact op_move rfl (eval_of e1) (hK _ w1 (fun e=>by cases e) (fun _=>Ext.refl _) rfl)
   | 3,ho=>
     obtain rfl:=Option.some.inj ho;refine want_none rfl ?_;have e1:b.tmps[1]? = some (.pointer (some ⟨w.heap.size,0,none⟩)):=hmiss 1 rfl;exact op_run (by unfold execOp;simp[e1,Act.eval,go_sem]) (hK _ w1 (fun e=>by cases e) (fun _=>Ext.refl _) rfl)
   | 4,ho=>
     obtain rfl:=Option.some.inj ho;refine want_none rfl ?_;obtain⟨v1,g1,e1⟩:=hdep 3 rfl;have g1:v1 = .pointer (some ⟨w.heap.size,6,none⟩):=g1;subst g1;have e1:=e1 7 rfl;have d6:=hI.src.cell 6;have dl:=hI.src.lt;simp only[List.getElem?_cons_zero,List.getElem?_cons_succ]at d6;exact op_run (by unfold execOp;simp[e1,Act.eval,go_sem,d6]) (hK _ w1 (fun e=>by cases e) (fun _=>Ext.refl _) rfl)
   | 5,ho=>
     obtain rfl:=Option.some.inj ho;refine want_none rfl ?_;obtain⟨v6,g6,e6⟩:=hdep 2 rfl;have g6:v6 = .slice none 0 0:=g6;subst g6;have e6:=e6 6 rfl;obtain⟨v8,g8,e8⟩:=hdep 4 rfl;have g8:v8 = .slice A g.cells.length c:=g8;subst g8;have e8:=e8 8 rfl;refine op_append_sv (.tmp 6) (.tmp 8) 26 rfl (w.heap.size+2) 3 i0 (.int .i64 0) 1 8 Tryz.underlying26 hi hz0 hz1 hz2 rfl (by decide) (.slice none 0 0) 0 [] (eval_of e6) (World.ownsRow_nil _ _ _ _) _ A g.cells.length c (rowsI g.cells) (eval_of e8) hI.cells (rowsI_length _) (by unfold maxLen;omega) (by omega) (by obtain⟨_,hB,_⟩:=hI.dst;have:=hB.lt;omega) (fun v' w' ho hg=>?_);have ho':w'.ownsRow (w.heap.size+2) 3 1 v' g.cells.length (rowsI g.cells).flatten:=by simpa using ho
     obtain⟨A',c',e,_⟩:=own_form ho';exact hK v' w' (fun e=>by cases e) (fun _=>(Ext.refl _).grown hg (fun k hk=>by simp[Value.ownBlock]at hk)) ⟨A',c',e,fun _=>ho'⟩
   | 6,ho=>
     obtain rfl:=Option.some.inj ho;refine want_none rfl ?_;obtain⟨v5,g5,e5⟩:=hdep 1 rfl;have g5:v5 = .agg #[.int .i64 g.box.lo.x,.int .i64 g.box.lo.y,.int .i64 g.box.lo.z,.int .i64 g.box.hi.x,.int .i64 g.box.hi.y,.int .i64 g.box.hi.z]:=g5;subst g5;have e5:=e5 5 rfl;obtain⟨v9,⟨A',c',g9,ho9⟩,e9⟩:=hdep 5 rfl;subst g9;have e9:=e9 9 rfl;exact op_run (by unfold execOp;simp[e5,e9,Act.eval,go_sem]) (hK _ w1 (fun e=>by cases e) (fun _=>Ext.refl _) ⟨A',c',rfl,ho9⟩)
   | 7,ho=>
     obtain rfl:=Option.some.inj ho;refine want_none rfl ?_;obtain rfl:d=false:=hJd rfl;have e2:b.tmps[2]? = some (.pointer (some ⟨w.heap.size+1,0,none⟩)):=hmiss 2 rfl;obtain⟨v10,⟨A',c',g10,ho10⟩,e10⟩:=hdep 6 rfl;subst g10;have e10:=e10 10 rfl;obtain⟨vs,hB,hvl⟩:=hI.dst;refine wp_store_row 28 (.tmp 2) (.tmp 10) rfl (w.heap.size+1) #[.int .i64 g.box.lo.x,.int .i64 g.box.lo.y,.int .i64 g.box.lo.z,.int .i64 g.box.hi.x,.int .i64 g.box.hi.y,.int .i64 g.box.hi.z,.slice A' g.cells.length c'] (eval_of e2) (eval_of e10) _ vs.toArray hB (by kernel_rfl) (by simp[hvl]) (by simp[Value.oneCell']) (hK undef _ (fun _=>?_) (fun e=>absurd rfl e) trivial);have hB2:Arr w1 (w.heap.size+1) 28 vs:=hB;have hlt:=hB2.lt;have hr:=hB2.setRow [.int .i64 g.box.lo.x,.int .i64 g.box.lo.y,.int .i64 g.box.lo.z,.int .i64 g.box.hi.x,.int .i64 g.box.hi.y,.int .i64 g.box.hi.z,.slice A' g.cells.length c'];have hgr:w1.grownBy (w1.setRow (w.heap.size+1) #[.int .i64 g.box.lo.x,.int .i64 g.box.lo.y,.int .i64 g.box.lo.z,.int .i64 g.box.hi.x,.int .i64 g.box.hi.y,.int .i64 g.box.hi.z,.slice A' g.cells.length c']) (some (w.heap.size+1)):=grown_row (grown_refl w1 _) _;refine⟨hI.src.setRow_other (g:=w.heap.size+1) (by omega) _,hI.cells.keep (fun p hp=>?_),hI.ext.setRow (g:=w.heap.size+1) (by omega) _,⟨_,hr,rfl⟩,fun _=>⟨_,hr,?_⟩⟩
     · exact World.cell?_of_block (hgr.block p.block (by omega) (fun e=>by injection e with e;omega))
     · refine own_keep (ho10 rfl) hgr (fun b hb hbb=>?_);injection hb with hb
       have:=own_low (ho10 rfl) b hbb;omega
   | i+8,ho=>cases ho
 · intro V w1 hI hg;obtain⟨u,hO⟩:=hI.done rfl;simp only[List.length_cons,List.length_nil,fillAllN,dstOf,Act.put,List.getElem?_toArray,List.getElem?_cons_zero,List.getElem?_cons_succ,Option.bind_some,List.setIfInBounds_toArray,List.set_cons_zero,List.set_cons_succ];go_wp2
   refine bodyPost_ret (v:=.agg #[.int .i64 g.box.lo.x,.int .i64 g.box.lo.y,.int .i64 g.box.lo.z,.int .i64 g.box.hi.x,.int .i64 g.box.hi.y,.int .i64 g.box.hi.z,u]) ?_ rfl ⟨u,rfl,own_low_mono (by omega) hO.row,hI.ext⟩;exact results_cell_row Tryz.results40 _ _ _ _ _ _ _ rfl hO.blk Tryz.underlying28 rfl (by kernel_rfl)
structure BrdR (g:Gr) (sx sy:Nat) (l o:List Pt) (k:Nat):Prop where
 sort:SortP o
 mem:∀ q,q∈o↔∃ j,j < k∧q=atG g sx sy j∧q∉l∧l.any (fun y=>nearW y q)=true
theorem BrdR.len{g:Gr}{sx sy sz k:Nat}{l o:List Pt}(h:BrdR g sx sy l o k)(G:GoodG g sx sy sz)(hk:k≤g.cells.length):o.length≤g.cells.length:=
 nodup_map_le (idxG g sx sy) _ o h.sort.nodup (fun x hx=>by
  obtain⟨j,hj,rfl,_⟩:=(h.mem x).1 hx;rw[(G.at_ (by omega)).2];omega) (fun x y hx hy e=>by
  obtain⟨j,hj,rfl,_⟩:=(h.mem x).1 hx;obtain⟨j',hj',rfl,_⟩:=(h.mem y).1 hy;exact G.inj (G.at_ (by omega)).1 (G.at_ (by omega)).1 e)
theorem BrdR.keep{g:Gr}{sx sy k:Nat}{l o:List Pt}(h:BrdR g sx sy l o k)(hno:atG g sx sy k∈l∨l.any (fun y=>nearW y (atG g sx sy k))=false):BrdR g sx sy l o (k+1):=
 ⟨h.sort,fun q=>(h.mem q).trans ⟨fun⟨j,hj,h1⟩=>⟨j,by omega,h1⟩,fun⟨j,hj,h1,h2,h3⟩=>by
   rcases Nat.lt_succ_iff_lt_or_eq.1 hj with h4 | rfl
   · exact⟨j,h4,h1,h2,h3⟩
   · subst h1
     rcases hno with h5 | h5
     · exact absurd h5 h2
     · rw[h5]at h3;cases h3⟩⟩
theorem BrdR.grow{g:Gr}{sx sy k:Nat}{l o:List Pt}(h:BrdR g sx sy l o k)(h1:atG g sx sy k∉l)(h2:l.any (fun y=>nearW y (atG g sx sy k))=true):BrdR g sx sy l (putL o (atG g sx sy k)) (k+1):=by
 rw[putL_ins];refine⟨insP_sort _ _ h.sort,fun q=>?_⟩;rw[insP_mem,h.mem];constructor
 · rintro(rfl | ⟨j,hj,h3⟩)
   · exact⟨k,by omega,rfl,h1,h2⟩
   · exact⟨j,by omega,h3⟩
 · rintro⟨j,hj,rfl,h3,h4⟩
   rcases Nat.lt_succ_iff_lt_or_eq.1 hj with h5 | rfl
   · exact .inr ⟨j,h5,rfl,h3,h4⟩
   · exact .inl rfl
theorem BrdR.done{g:Gr}{v:Int}{a:Pt}{sx sy sz:Nat}{l o:List Pt}(h:BrdR g sx sy l o g.cells.length)(ha:fld g a=some v)(G:GoodG g sx sy sz)(hr:rngP g.box.hi=true)(hl:IsReg (fld g) v a l):IsBrd (fld g) v a o:=by
 refine⟨h.sort,fun q=>(h.mem q).trans ⟨?_,?_⟩⟩
 · rintro⟨j,hj,rfl,h1,h2⟩;have hat:=G.at_ hj;obtain⟨u,hu,_⟩:=G.fld_in hat.1;obtain⟨y,hy,hn⟩:=List.any_eq_true.1 h2;have hyr:=(hl.mem y).1 hy;have ha2:=(nearW_iff (G.small hr (fld_some (hyr.val ha))) (G.small hr hat.1)).1 hn;refine⟨⟨u,hu,?_⟩,y,hyr,ha2⟩;rintro rfl;exact h1 ((hl.mem _).2 (hyr.step ha2 hu))
 · rintro⟨⟨u,hu,hne⟩,p,hp,hap⟩;have hin:=fld_some hu;have hi:=G.idx hin;refine⟨idxG g sx sy q,hi.1,hi.2.symm,fun hq=>?_,?_⟩
   · have:=((hl.mem q).1 hq).val ha;rw[hu]at this;injection this with this
     exact hne this
   · rw[List.any_eq_true];exact⟨p,(hl.mem p).2 hp,(nearW_iff (G.small hr (fld_some (hp.val ha))) (G.small hr hin)).2 hap⟩
def isS(n:Int):Bool:=decide (1≤n∧n≤4096)
theorem around_sub(p:Pt)(h:Int):aroundB p h=⟨subP p ⟨h,h,h⟩,addP p ⟨h+1,h+1,h+1⟩⟩:=by
 unfold aroundB shiftB addP subP wrap64;simp only[Bx.mk.injEq,Pt.mk.injEq];omega
structure BoxOk (b:Bx) (s:Int):Prop where
 lo:0≤b.lo.x∧0≤b.lo.y∧0≤b.lo.z
 lt:b.lo.x < b.hi.x∧b.lo.y < b.hi.y∧b.lo.z < b.hi.z
 hi:b.hi.x≤s∧b.hi.y≤s∧b.hi.z≤s
theorem BoxOk.empty{b:Bx}{s:Int}(h:BoxOk b s):emptyB b=false:=by
 obtain⟨h1,h2,h3⟩:=h;unfold emptyB inP;simp only[Bool.not_eq_false',Bool.and_eq_true,decide_eq_true_eq];omega
theorem turned_rng{s k:Int}{p:Pt}(h:smlP p):-1000000≤tcI s p k∧tcI s p k≤1000000:=by
 unfold tcI cdP;unfold smlP at h
 split
 · split
   · unfold wrap64;omega
   · split <;> (unfold wrap64;omega)
 · split
   · omega
   · split <;> omega
theorem turnB_ne{s:Int}{b:Bx}(hs:isT s=true)(he:emptyB b=false)(hb:smlB b):emptyB (turnB s b)=false∧smlB (turnB s b):=by
 obtain⟨hx,hy,hz⟩:=notEmpty he;have d2:∀ p,turnP s p=⟨tcI s p 0,tcI s p 1,tcI s p 2⟩:=fun p=>by unfold turnP;rw[hs];rfl
 have r:=fun k=>turned_rng (s:=s) (k:=k) hb.1;have q:=fun k=>turned_rng (s:=s) (k:=k) hb.2;have ne:∀ k,tcI s b.lo k≠tcI s b.hi k:=fun k=>by
  have:=hb.1;have:=hb.2;unfold smlP at *;unfold tcI cdP
  split
  · split
    · unfold wrap64;omega
    · split <;> (unfold wrap64;omega)
  · split
    · omega
    · split <;> omega
 unfold turnB;rw[hs,he,if_pos rfl,if_neg (by decide)];simp only[d2];have r0:=r 0;have r1:=r 1;have r2:=r 2;have q0:=q 0;have q1:=q 1;have q2:=q 2;have n0:=ne 0;have n1:=ne 1;have n2:=ne 2;unfold emptyB inP smlB smlP;simp only[Bool.not_eq_false',Bool.and_eq_true,decide_eq_true_eq];omega
theorem pow_w(d:Int)(hd:2≤d∧d≤14):wrap64 ((2:Int) ^ d.toNat)=(2:Int) ^ d.toNat:=by
 rcases (show d=2∨d=3∨d=4∨d=5∨d=6∨d=7∨d=8∨d=9∨d=10∨d=11∨d=12∨d=13∨d=14 by omega)with h | h | h | h | h | h | h | h | h | h | h | h | h <;> subst h <;> kernel_rfl
def rampQ(_c:Bx)(z q:Pt):Bool:=decide (wrap64 (q.x * z.z) < wrap64 (wrap64 (q.z+1) * z.x))
def prismQ(t:Int)(b:Bx)(p:Pt):Bool:=rampQ (turnB t b) (sizeP (turnB t b)) (subP (rturnP t 1 p) (turnB t b).lo)
def prismR(b:Bx)(s:Int)(p:Pt):Bool:=inP p b && prismQ (invI s) b p
theorem add_neg(p q:Pt):addP p (scaleP q (-1))=subP p q:=by
 unfold addP scaleP subP wrap64;simp only[Pt.mk.injEq];omega
theorem pSub_any(p q:Pt)(w:World):Calls Tryz.prog 70 #[.agg #[.int .i64 p.x,.int .i64 p.y,.int .i64 p.z],.agg #[.int .i64 q.x,.int .i64 q.y,.int .i64 q.z]] w fun e w'=>e = .returned (.agg #[.int .i64 (subP p q).x,.int .i64 (subP p q).y,.int .i64 (subP p q).z])∧Ext w w':=by rw[← add_neg];exact Sub_any p q w
theorem pSize_any(b:Bx)(w:World):Calls Tryz.prog 125 #[.agg #[.int .i64 b.lo.x,.int .i64 b.lo.y,.int .i64 b.lo.z,.int .i64 b.hi.x,.int .i64 b.hi.y,.int .i64 b.hi.z]] w fun e w'=>e = .returned (.agg #[.int .i64 (sizeP b).x,.int .i64 (sizeP b).y,.int .i64 (sizeP b).z])∧Ext w w':=by unfold sizeP;rw[← add_neg];exact Size_any b w
theorem Index_any(b:Bx)(p:Pt)(w:World):Calls Tryz.prog 91 #[.agg #[.int .i64 b.lo.x,.int .i64 b.lo.y,.int .i64 b.lo.z,.int .i64 b.hi.x,.int .i64 b.hi.y,.int .i64 b.hi.z],.agg #[.int .i64 p.x,.int .i64 p.y,.int .i64 p.z]] w fun e w'=>e = .returned (.int .i64 (if inP p b then idxW b p else -1))∧Ext w w':=by
 have hm:=mixed;have hG:=near_old;obtain⟨W0,hW⟩:∃ W,W=(w.alloc (.cells #[.int .i64 b.lo.x,.int .i64 b.lo.y,.int .i64 b.lo.z,.int .i64 b.hi.x,.int .i64 b.hi.y,.int .i64 b.hi.z] 25)).alloc (.cells #[.int .i64 p.x,.int .i64 p.y,.int .i64 p.z] 23):=⟨_,rfl⟩;have HX:=Lib.hid (show Ext w W0 by rw[hW];exact((Ext.refl w).alloc _).alloc _);have H2:=Lib.hid (show Arr W0 w.heap.size 25 [.int .i64 b.lo.x,.int .i64 b.lo.y,.int .i64 b.lo.z,.int .i64 b.hi.x,.int .i64 b.hi.y,.int .i64 b.hi.z]by rw[hW];exact(Arr.new w 25 [.int .i64 b.lo.x,.int .i64 b.lo.y,.int .i64 b.lo.z,.int .i64 b.hi.x,.int .i64 b.hi.y,.int .i64 b.hi.z]).alloc _);have H3:=Lib.hid (show Arr W0 (w.heap.size+1) 23 [.int .i64 p.x,.int .i64 p.y,.int .i64 p.z]by rw[hW];have h:=Arr.new (w.alloc (.cells #[.int .i64 b.lo.x,.int .i64 b.lo.y,.int .i64 b.lo.z,.int .i64 b.hi.x,.int .i64 b.hi.y,.int .i64 b.hi.z] 25)) 23 [.int .i64 p.x,.int .i64 p.y,.int .i64 p.z];simp only[World.size_alloc_]at h;exact h)
 cases hq:inP p b
 · have HI:=Lib.hid (show ∀ W:World,Calls Tryz.prog 74 #[.agg #[.int .i64 p.x,.int .i64 p.y,.int .i64 p.z],.agg #[.int .i64 b.lo.x,.int .i64 b.lo.y,.int .i64 b.lo.z,.int .i64 b.hi.x,.int .i64 b.hi.y,.int .i64 b.hi.z]] W fun e w'=>e = .returned (.bool false)∧Ext W w' by have h:=In_any p b;rw[hq]at h;exact h);clear hq;rw[if_neg (by decide)]
   go_enter Tryz.func91,Tryz.ntmps91
   go_upto_region 1 with fail
   rw[← hW];clear hW
   go_upto_region 2 with(first
    | (refine ldB 23 3 H3.out Tryz.underlying23 ?_) | (refine ldB 23 3 (H3.out.alloc _) Tryz.underlying23 ?_) | (refine ldB 23 3 ((H3.out.alloc _).alloc _) Tryz.underlying23 ?_)
    | (refine ldB 25 2 H2.out Tryz.underlying25 ?_) | (refine ldB 25 2 (H2.out.alloc _) Tryz.underlying25 ?_) | (refine ldB 25 2 ((H2.out.alloc _).alloc _) Tryz.underlying25 ?_)
    | (go_at_call 74;refine(HI.out _).mono ?_;rintro e W1 ⟨rfl,hx⟩;replace HX:=xEx HX hx;replace H2:=aEx H2 hx;replace H3:=aEx H3 hx;clear hx))
   go_wp2_with fail
   go_ret
   exact⟨rfl,HX.out⟩
 · have HI:=Lib.hid (show ∀ W:World,Calls Tryz.prog 74 #[.agg #[.int .i64 p.x,.int .i64 p.y,.int .i64 p.z],.agg #[.int .i64 b.lo.x,.int .i64 b.lo.y,.int .i64 b.lo.z,.int .i64 b.hi.x,.int .i64 b.hi.y,.int .i64 b.hi.z]] W fun e w'=>e = .returned (.bool true)∧Ext W w' by have h:=In_any p b;rw[hq]at h;exact h);rw[if_pos rfl];have HV:=Lib.hid (show idxW b p=wrap64 ((subP p b.lo).x+wrap64 ((sizeP b).x * wrap64 ((subP p b.lo).y+wrap64 ((sizeP b).y * (subP p b.lo).z))))from rfl);have HZ:=Lib.hid (pSize_any b);have HS:=Lib.hid (pSub_any p b.lo);rw[HV.out];generalize subP p b.lo=d at HS ⊢;generalize sizeP b=s at HZ ⊢;clear hq HV
   go_enter Tryz.func91,Tryz.ntmps91
   go_upto_region 1 with fail
   rw[← hW];clear hW
   go_upto_region 3 with(first
    | (refine ldB 23 3 H3.out Tryz.underlying23 ?_) | (refine ldB 23 3 (H3.out.alloc _) Tryz.underlying23 ?_) | (refine ldB 23 3 ((H3.out.alloc _).alloc _) Tryz.underlying23 ?_)
    | (refine ldB 25 2 H2.out Tryz.underlying25 ?_) | (refine ldB 25 2 (H2.out.alloc _) Tryz.underlying25 ?_) | (refine ldB 25 2 ((H2.out.alloc _).alloc _) Tryz.underlying25 ?_)
    | (go_at_call 74;refine(HI.out _).mono ?_;rintro e W1 ⟨rfl,hx⟩;replace HX:=xEx HX hx;replace H2:=aEx H2 hx;replace H3:=aEx H3 hx;clear hx))
   (try simp only[Act.put,List.setIfInBounds_toArray,List.set_cons_zero,List.set_cons_succ])
   refine wp_region_two_val (w:=W1) [some (.agg #[.int .i64 b.lo.x,.int .i64 b.lo.y,.int .i64 b.lo.z,.int .i64 b.hi.x,.int .i64 b.hi.y,.int .i64 b.hi.z]),some (.agg #[.int .i64 s.x,.int .i64 s.y,.int .i64 s.z]),some (.agg #[.int .i64 p.x,.int .i64 p.y,.int .i64 p.z]),some (.pointer (some ⟨w.heap.size,0,none⟩)),some (.agg #[.int .i64 b.lo.x,.int .i64 b.lo.y,.int .i64 b.lo.z]),some (.agg #[.int .i64 d.x,.int .i64 d.y,.int .i64 d.z])] 6 23 5 6 12 16 1 5 [.int .i64 0,.int .i64 0,.int .i64 0] [.int .i64 s.x,.int .i64 s.y,.int .i64 s.z] [.int .i64 d.x,.int .i64 d.y,.int .i64 d.z] hm (info_zero (by kernel_rfl)) (by kernel_rfl) ?_ ?_
   · refine c_ (s_row H2 Tryz.underlying25) ?_;refine c_ (s_call fun w1 hx=>HZ.out w1) ?_;refine c_ (s_row H3 Tryz.underlying23) ?_;refine c_ (s_run1 2 (hr:=fun b w1 _ e=>by unfold execOp;simp[e,Act.eval,go_sem])) ?_;refine c_ (s_mid (bk:=w.heap.size) (off:=0) (fun w1 hx=>(H2.out.ext hx).rng 0 [.int .i64 b.lo.x,.int .i64 b.lo.y,.int .i64 b.lo.z] rfl) Tryz.underlying23) ?_;refine c_ (s_call fun w1 hx=>HS.out w1) ?_;exact trivial
   intro b5 b6 w9 hx hg0 hg1 hA0 hA1 hne;simp only[List.length_cons,List.length_nil,fillAllN,dstOf,Act.put,List.getElem?_toArray,List.getElem?_cons_zero,List.getElem?_cons_succ,Option.bind_some,List.setIfInBounds_toArray,List.set_cons_zero,List.set_cons_succ,box2V,Option.join_some,Option.getD_some,Nat.lt_irrefl,if_false,if_true,Nat.reduceLT,Nat.reduceEqDiff,Nat.reduceAdd];obtain⟨W2,hW9⟩:∃ W,W=w9:=⟨_,rfl⟩;rw[← hW9]at hx hA0 hA1 ⊢;clear hW9;have Q2_5:=Lib.hid (show w.heap.size < b5 from Nat.lt_of_lt_of_le H2.out.lt hg0);have Q3_5:=Lib.hid (show(w.heap.size+1) < b5 from Nat.lt_of_lt_of_le H3.out.lt hg0);have Qw_5:=Lib.hid (Nat.le_trans HX.out.size hg0);have Q2_6:=Lib.hid (show w.heap.size < b6 from Nat.lt_of_lt_of_le H2.out.lt hg1);have Q3_6:=Lib.hid (show(w.heap.size+1) < b6 from Nat.lt_of_lt_of_le H3.out.lt hg1);have Qw_6:=Lib.hid (Nat.le_trans HX.out.size hg1);replace HX:=xEx HX hx;replace H2:=aEx H2 hx;replace H3:=aEx H3 hx;have H5:=Lib.hid hA0;have H6:=Lib.hid hA1;have Q5_6:=Lib.hid hne;clear hx hg0 hg1 hA0 hA1 hne
   go_upto_region 4 with fail
   have c5:=H5.out.cell;have l5:=H5.out.lt;have c6:=H6.out.cell;have l6:=H6.out.lt
   go_wp2_with fail
   go_ret
   exact⟨ret_int (by unfold wrap64;simp only[Int.mul_comm,Int.add_comm]),HX.out⟩
end Go.Proofs.YtoecbicdahbccaaGreatDoor
namespace Go.Proofs.YtoecbicdahbccaaGreatDoor
open Go Go.RowKit Go.Sort
instance:Inhabited Chg:=⟨⟨⟨0,0,0⟩,0,0⟩⟩
def RowT(d:Array Chg)(D:Nat→TC)(n:Nat):Prop:=d.size=n∧∀ i,i < n→d[i]! = (D i).1
theorem RowT.swp{d:Array Chg}{D:Nat→TC}{n i j:Nat}(h:RowT d D n)(hi:i < n)(hj:j < n):RowT (swp d i j) (swpF D i j) n:=by
 refine⟨by rw[swp_size];exact h.1,fun k hk=>?_⟩;rw[swp_get d (by rw[h.1];exact hi) (by rw[h.1];exact hj) k];have hi2:=h.2 i hi;have hj2:=h.2 j hj;have hk2:=h.2 k hk;unfold swpF
 by_cases c1:k=i <;> by_cases c2:k=j
 · subst c1;subst c2;simp[hi2]
 · simp[c1,hj2]at *;intro e;exact absurd e (by omega)
 · simp[c2]at *;rw[hi2];simp[c1]
 · simp[c1,c2,hk2]
section
variable {lt:Chg→Chg→Bool} (hlt:∀ x y,lt x y=befP x.at_ y.at_)
include hlt
theorem row_lt{d:Array Chg}{D:Nat→TC}{n i j:Nat}(h:RowT d D n)(hi:i < n)(hj:j < n):lt d[i]! d[j]! = ltQ (D i) (D j):=by rw[hlt,h.2 i hi,h.2 j hj];rfl
theorem ins_inner{a i n:Nat}{D:Nat→TC}(hin:i < n):∀ (j:Nat) (d:Array Chg),a≤j→j≤i→RowT d (shF D j i) n→(∀ k,j≤k→k < i→ltQ (D i) (D k)=true)→
    ∃ j',(a≤j'∧j'≤i)∧RowT (insInner lt a j d) (shF D j' i) n∧(∀ k,j'≤k→k < i→ltQ (D i) (D k)=true)∧(j'=a∨ltQ (D i) (D (j' - 1))=false)
 | 0,d,h1,h2,hR,hk=>⟨0,⟨h1,h2⟩,by rw[insInner_stop lt a 0 d (.inl (by omega))];exact hR,hk,.inl (by omega)⟩
 | j+1,d,h1,h2,hR,hk=>by
   have e1:shF D (j+1) i (j+1)=D i:=by unfold shF;rw[if_pos rfl]
   have e2:shF D (j+1) i j=D j:=by unfold shF;rw[if_neg (by omega),if_neg (by omega)]
   have hl:=row_lt hlt hR (i:=j+1) (j:=j) (by omega) (by omega);rw[e1,e2]at hl
   by_cases ha:a < j+1
   · cases hq:ltQ (D i) (D j)
     · rw[hq]at hl;exact⟨j+1,⟨h1,h2⟩,by rw[insInner_stop lt a (j+1) d (.inr hl)];exact hR,hk,.inr hq⟩
     · rw[hq]at hl;rw[insInner_go lt a (j+1) d ha hl];have hs:=hR.swp (i:=j+1) (j:=j) (by omega) (by omega);have e3:=shF_step D (j:=j+1) (i:=i) (by omega) h2;rw[Nat.add_sub_cancel]at e3 ⊢;rw[e3]at hs;exact ins_inner hin j _ (by omega) (by omega) hs (fun k k1 k2=>by
        by_cases e:k=j
        · rw[e];exact hq
        · exact hk k (by omega) k2)
   · exact⟨j+1,⟨h1,h2⟩,by rw[insInner_stop lt a (j+1) d (.inl (by omega))];exact hR,hk,.inl (by omega)⟩
theorem ins_outer{a b n:Nat}{D0:Nat→TC}(hbn:b≤n)(ht:∀ x y,a≤x→x < y→y < b→(D0 x).2 < (D0 y).2):∀ (m i:Nat) (d:Array Chg) (D:Nat→TC),b - i≤m→a < i→i≤b→RowT d D n→InsT D0 D a i→
    ∃ E,RowT (insOuter lt a b i d) E n∧InsT D0 E a b
 | 0,i,d,D,hm,hai,hib,hR,hI=>by
   have e:i=b:=by omega
   subst e;rw[insOuter_stop lt a i i d (by omega)];exact⟨D,hR,hI⟩
 | m+1,i,d,D,hm,hai,hib,hR,hI=>by
   by_cases hlt2:i < b
   · rw[insOuter_go lt a b i d hlt2];obtain⟨j,h1,h2,h3,h4⟩:=ins_inner hlt (a:=a) (i:=i) (n:=n) (D:=D) (by omega) i d (by omega) (Nat.le_refl _) (by rw[shF_self];exact hR) (fun k k1 k2=>by exfalso;omega);exact ins_outer hbn ht m (i+1) _ _ (by omega) (by omega) (by omega) h2 (ins_step ht hI hlt2 h1.1 h1.2 h3 h4)
   · have e:i=b:=by omega
     subst e;rw[insOuter_stop lt a i i d (by omega)];exact⟨D,hR,hI⟩
theorem ins_sort{a b n:Nat}{d:Array Chg}{D:Nat→TC}(hab:a≤b)(hbn:b≤n)(ht:∀ x y,a≤x→x < y→y < b→(D x).2 < (D y).2)(hR:RowT d D n):∃ E,RowT (insertionSort lt d a b) E n∧MrgT D E a b:=by
 unfold insertionSort
 by_cases h:a+1≤b
 · obtain⟨E,h1,h2⟩:=ins_outer hlt hbn ht (b - (a+1)) (a+1) d D (by omega) (by omega) h hR ins_start;exact⟨E,h1,ins_done h2 (.inl rfl)⟩
 · rw[insOuter_stop lt a b (a+1) d (by omega)];exact⟨D,hR,.refl _ _ _,.one _ (by omega)⟩
end
end Go.Proofs.YtoecbicdahbccaaGreatDoor
