/- A part of the walk of the layer of apply: contracts and plain laws that a row's text leans on. -/
import Derived.Test.YtoecbicdahbccaaGreatDoorZa47
import Derived.Test.YtoecbicdahbccaaGreatDoorZa48
set_option maxRecDepth 100000
set_option maxHeartbeats 16000000
namespace Go.Proofs.YtoecbicdahbccaaGreatDoor
open Go Go.RowKit
theorem Set_any(g:Gr)(A:Option Addr)(c:Nat)(p:Pt)(v:Int)(w:World)(hs:Sv w w.heap.size 1 A c (rowsI g.cells))(hv:validG g=true)(h5:g.cells.length≤100000):
    Calls Tryz.prog 29 #[.agg #[.int .i64 g.box.lo.x,.int .i64 g.box.lo.y,.int .i64 g.box.lo.z,.int .i64 g.box.hi.x,.int .i64 g.box.hi.y,.int .i64 g.box.hi.z,.slice A g.cells.length c],.agg #[.int .i64 p.x,.int .i64 p.y,.int .i64 p.z],.int .i64 v] w fun e w'=>∃ u,e = .returned (.agg #[.int .i64 g.box.lo.x,.int .i64 g.box.lo.y,.int .i64 g.box.lo.z,.int .i64 g.box.hi.x,.int .i64 g.box.hi.y,.int .i64 g.box.hi.z,u])∧w'.ownsRow w.heap.size 3 1 u g.cells.length (rowsI (writeG g [⟨p,0,v⟩]).cells).flatten∧Ext w w':=by
 have hx0:Ext w (((w.alloc (.cells #[.int .i64 g.box.lo.x,.int .i64 g.box.lo.y,.int .i64 g.box.lo.z,.int .i64 g.box.hi.x,.int .i64 g.box.hi.y,.int .i64 g.box.hi.z,.slice A g.cells.length c] 28)).alloc (.cells #[.int .i64 p.x,.int .i64 p.y,.int .i64 p.z] 23)).alloc (.cells #[.int .i64 zeroBx.lo.x,.int .i64 zeroBx.lo.y,.int .i64 zeroBx.lo.z,.int .i64 zeroBx.hi.x,.int .i64 zeroBx.hi.y,.int .i64 zeroBx.hi.z,.slice none 0 0] 28)):=(((Ext.refl w).alloc _).alloc _).alloc _;have B0:=((Arr.new w 28 [.int .i64 g.box.lo.x,.int .i64 g.box.lo.y,.int .i64 g.box.lo.z,.int .i64 g.box.hi.x,.int .i64 g.box.hi.y,.int .i64 g.box.hi.z,.slice A g.cells.length c]).alloc (.cells #[.int .i64 p.x,.int .i64 p.y,.int .i64 p.z] 23)).alloc (.cells #[.int .i64 zeroBx.lo.x,.int .i64 zeroBx.lo.y,.int .i64 zeroBx.lo.z,.int .i64 zeroBx.hi.x,.int .i64 zeroBx.hi.y,.int .i64 zeroBx.hi.z,.slice none 0 0] 28);have B1:=(Arr.new (w.alloc (.cells #[.int .i64 g.box.lo.x,.int .i64 g.box.lo.y,.int .i64 g.box.lo.z,.int .i64 g.box.hi.x,.int .i64 g.box.hi.y,.int .i64 g.box.hi.z,.slice A g.cells.length c] 28)) 23 [.int .i64 p.x,.int .i64 p.y,.int .i64 p.z]).alloc (.cells #[.int .i64 zeroBx.lo.x,.int .i64 zeroBx.lo.y,.int .i64 zeroBx.lo.z,.int .i64 zeroBx.hi.x,.int .i64 zeroBx.hi.y,.int .i64 zeroBx.hi.z,.slice none 0 0] 28);have B2:=Arr.new ((w.alloc (.cells #[.int .i64 g.box.lo.x,.int .i64 g.box.lo.y,.int .i64 g.box.lo.z,.int .i64 g.box.hi.x,.int .i64 g.box.hi.y,.int .i64 g.box.hi.z,.slice A g.cells.length c] 28)).alloc (.cells #[.int .i64 p.x,.int .i64 p.y,.int .i64 p.z] 23)) 28 [.int .i64 zeroBx.lo.x,.int .i64 zeroBx.lo.y,.int .i64 zeroBx.lo.z,.int .i64 zeroBx.hi.x,.int .i64 zeroBx.hi.y,.int .i64 zeroBx.hi.z,.slice none 0 0];simp only[World.size_alloc_]at B1 B2;have HB0:=Lib.hid B0;have HB1:=Lib.hid B1;have HB2:=Lib.hid B2;have HX0:=Lib.hid hx0;have HS:=Lib.hid (hs.ext hx0);have HV:=Lib.hid hv;clear B0 B1 B2 hx0 hs hv
 go_enter Tryz.func29,Tryz.ntmps29
 go_upto_region 1 with fail
 obtain⟨W0,hW⟩:∃ W,W=((w.alloc (.cells #[.int .i64 g.box.lo.x,.int .i64 g.box.lo.y,.int .i64 g.box.lo.z,.int .i64 g.box.hi.x,.int .i64 g.box.hi.y,.int .i64 g.box.hi.z,.slice A g.cells.length c] 28)).alloc (.cells #[.int .i64 p.x,.int .i64 p.y,.int .i64 p.z] 23)).alloc (.cells #[.int .i64 zeroBx.lo.x,.int .i64 zeroBx.lo.y,.int .i64 zeroBx.lo.z,.int .i64 zeroBx.hi.x,.int .i64 zeroBx.hi.y,.int .i64 zeroBx.hi.z,.slice none 0 0] 28):=⟨_,rfl⟩;have hW':W0=((w.alloc (.cells #[.int .i64 g.box.lo.x,.int .i64 g.box.lo.y,.int .i64 g.box.lo.z,.int .i64 g.box.hi.x,.int .i64 g.box.hi.y,.int .i64 g.box.hi.z,.slice A g.cells.length c] 28)).alloc (.cells #[.int .i64 p.x,.int .i64 p.y,.int .i64 p.z] 23)).alloc (.cells #[.int .i64 0,.int .i64 0,.int .i64 0,.int .i64 0,.int .i64 0,.int .i64 0,.slice none 0 0] 28):=hW;rw[← hW]at HB0 HB1 HB2 HX0 HS;rw[← hW'];clear hW hW';have hxl:Ext W0 (W0.alloc (.cells ([.int .i64 p.x,.int .i64 p.y,.int .i64 p.z,.int .i64 0,.int .i64 v]:List Value).toArray 58)):=(Ext.refl W0).alloc _;have hsl:Sv (W0.alloc (.cells ([.int .i64 p.x,.int .i64 p.y,.int .i64 p.z,.int .i64 0,.int .i64 v]:List Value).toArray 58)) (W0.alloc (.cells ([.int .i64 p.x,.int .i64 p.y,.int .i64 p.z,.int .i64 0,.int .i64 v]:List Value).toArray 58)).heap.size 5 (some ⟨W0.heap.size,0,none⟩) 1 (rowsC [⟨p,0,v⟩]):=
  ⟨by simp[rowsC],by decide,rowsC_rwk _,fun _=>⟨W0.heap.size,0,rfl,by simp,fun j u hu=>by
    rw[Nat.zero_add,cell_of_row _ _ _ _ _ _ (heap_alloc_new W0 _)];simpa[rowsC,Chg.cells]using hu⟩⟩
 have HWR:=Lib.hid (Write_any g A c _ 1 [⟨p,0,v⟩] _ (HS.out.ext hxl) hsl HV.out h5);have HXL:=Lib.hid hxl;clear hsl hxl
 go_upto_region 2 with(first
  | (refine wpList_load_blk 28 (.tmp 3) rfl rfl HB0.out rfl _ Tryz.underlying28 rfl (by kernel_rfl) ?_)
  | (refine wpList_load_blk 23 (.tmp 4) rfl rfl HB1.out rfl _ Tryz.underlying23 rfl (by kernel_rfl) ?_)
  | (refine wpList_buildRow rfl 38 58 11 rfl 5 (by decide) (by decide) ([.int .i64 p.x,.int .i64 p.y,.int .i64 p.z,.int .i64 0,.int .i64 v]) rfl rfl Tryz.underlying38 (by kernel_rfl) (by kernel_rfl) ?_)
  | (go_at_call 17;refine HWR.out.mono ?_;rintro e W1 ⟨u,rfl,o1,x1⟩;obtain⟨A',c',rfl,_⟩:=own_form o1)
  | (refine wpList_store_blk 28 (.tmp 6) (.tmp 12) rfl rfl (HB2.out.ext (HXL.out.trans x1)) [.int .i64 g.box.lo.x,.int .i64 g.box.lo.y,.int .i64 g.box.lo.z,.int .i64 g.box.hi.x,.int .i64 g.box.hi.y,.int .i64 g.box.hi.z,.slice A' g.cells.length c'] rfl rfl (by kernel_rfl) rfl rfl ?_))
 have hz:=HB2.out.lt;have hsz:=(HXL.out.trans x1).size;have hgr:W1.grownBy (W1.setRow (w.heap.size+1+1) #[.int .i64 g.box.lo.x,.int .i64 g.box.lo.y,.int .i64 g.box.lo.z,.int .i64 g.box.hi.x,.int .i64 g.box.hi.y,.int .i64 g.box.hi.z,.slice A' g.cells.length c']) (some (w.heap.size+1+1)):=grown_row (grown_refl W1 _) _;have ho:(W1.setRow (w.heap.size+1+1) #[.int .i64 g.box.lo.x,.int .i64 g.box.lo.y,.int .i64 g.box.lo.z,.int .i64 g.box.hi.x,.int .i64 g.box.hi.y,.int .i64 g.box.hi.z,.slice A' g.cells.length c']).ownsRow w.heap.size 3 1 (.slice A' g.cells.length c') g.cells.length (rowsI (writeG g [⟨p,0,v⟩]).cells).flatten:=own_low_mono (by have:=HXL.out.size;omega) (own_keep o1 hgr (fun b hb hbb=>by injection hb with hb;have:=own_low o1 b hbb;have:=HXL.out.size;omega));go_wp2
 refine bodyPost_ret (v:=.agg #[.int .i64 g.box.lo.x,.int .i64 g.box.lo.y,.int .i64 g.box.lo.z,.int .i64 g.box.hi.x,.int .i64 g.box.hi.y,.int .i64 g.box.hi.z,.slice A' g.cells.length c']) ?_ rfl ⟨_,rfl,ho,(HX0.out.trans (HXL.out.trans x1)).setRow (g:=w.heap.size+1+1) (by omega) _⟩;exact results_cell_row Tryz.results29 _ _ _ _ _ _ _ rfl ((HB2.out.ext (HXL.out.trans x1)).setRow [.int .i64 g.box.lo.x,.int .i64 g.box.lo.y,.int .i64 g.box.lo.z,.int .i64 g.box.hi.x,.int .i64 g.box.hi.y,.int .i64 g.box.hi.z,.slice A' g.cells.length c']) Tryz.underlying28 rfl (by kernel_rfl)
def setAll(g:Gr)(l:List Pt)(v:Int):Gr:=l.foldl (fun g p=>setG g p v) g
theorem setAll_snoc(g:Gr)(l:List Pt)(p:Pt)(v:Int):setAll g (l++[p]) v=setG (setAll g l v) p v:=by unfold setAll;rw[List.foldl_append];rfl
theorem setAll_ok{v:Int}(h:0≤v∧v < 256):∀ {l:List Pt} {g:Gr},validG g=true→validG (setAll g l v)=true∧(setAll g l v).box=g.box∧(setAll g l v).cells.length=g.cells.length∧∀ q,inP q g.box=true→matF (setAll g l v) q=if q∈l then v else matF g q
 | [],g,hv=>⟨hv,rfl,rfl,fun q _=>by simp[setAll]⟩
 | p:: l,g,hv=>by
   have hv2:=valid_setG hv p h;have ih:=setAll_ok h (l:=l) hv2;have e:setAll g (p:: l) v=setAll (setG g p v) l v:=rfl;rw[e];refine⟨ih.1,ih.2.1,ih.2.2.1.trans (setG_len ..),fun q hq=>?_⟩;rw[ih.2.2.2 q hq,matF_setG hv]
   by_cases h1:q∈l
   · rw[if_pos h1,if_pos (List.mem_cons_of_mem _ h1)]
   · rw[if_neg h1]
     by_cases h2:q=p
     · rw[if_pos ⟨h2,hq⟩,if_pos (by rw[h2];exact List.mem_cons_self ..)]
     · rw[if_neg (fun k=>h2 k.1),if_neg (by rw[List.mem_cons];exact fun k=>k.elim h2 h1)]
theorem fill_fresh{g:Gr}{x:Ed}{d m:Int}{l:List Chg}{r:List Pt}(hft:fits x)(hm:m≤256)(hv:validG g=true)(hb:g.box=cubeD d)(h5:x.kind=5)(h:EdOk g x d m l r):writeG g l=setAll g r x.cell:=by
 obtain⟨hval,hw,_⟩:=ok_write hft hm hv hb h;have hck:=chk_ok hft h.chk;have hs:=setAll_ok (v:=x.cell) (by have:=hck.cell;omega) (l:=r) hv;refine grid_ext hval hs.1 (by rw[writeG_box,hs.2.1]) fun p hp=>?_;rw[writeG_box]at hp;rw[hs.2.2.2 p hp,hw p (by rw[← hb];exact hp)];unfold effF hitE newE;rw[h5]
 by_cases hq:p∈r
 · simp[hq]
 · simp[hq]
theorem fill_flood{g:Gr}{x:Ed}{d m:Int}{l:List Chg}{er:Int}{r:List Pt}{er2:Int}(hc:checkE x d m=0)(h5:x.kind=5)(h:ChgOut g x d m l er)(hf:FloodOut (fld g) x.at_ x.size r er2):er=er2∧(er2≠0→l = [])∧(er2=0→EdOk g x d m l r):=by
 rcases h with⟨h1,_⟩ | ⟨h1,⟨h3,_⟩ | ⟨h3,r',er3,k,rfl,k2⟩⟩
 · exact absurd hc h1
 · exact absurd h5 h3
 · obtain⟨rfl,rfl⟩:=k.uniq hf;refine⟨rfl,fun hne=>?_,fun he=>?_⟩
   · rcases k2 with⟨_,k3⟩ | ⟨k3,_⟩
     · exact k3
     · exact absurd k3 hne
   · rcases k2 with⟨k3,_⟩ | ⟨_,k3⟩
     · exact absurd he k3
     · refine⟨hc,k3,fun _=>?_⟩
       rcases k with⟨_,_,e⟩ | ⟨v,hv,⟨_,_,e⟩ | ⟨m1,m2,_⟩⟩
       · omega
       · omega
       · exact⟨v,hv,m1,m2⟩
theorem refCheckE_any(x:Ed)(hft:fits x)(d m:Int)(w:World):Calls Tryz.prog 27 #[.agg #[.int .i64 x.st.tick,.int .i64 x.st.clock,.int .i64 x.st.site,.int .i64 x.st.seq,.int .i64 x.kind,.int .i64 x.box.lo.x,.int .i64 x.box.lo.y,.int .i64 x.box.lo.z,.int .i64 x.box.hi.x,.int .i64 x.box.hi.y,.int .i64 x.box.hi.z,.int .i64 x.at_.x,.int .i64 x.at_.y,.int .i64 x.at_.z,.int .i64 x.turn,.int .i64 x.cell,.int .i64 x.size],.int .i64 d,.int .i64 m] w fun e w'=>e = .returned (.int .i64 (checkE x d m))∧Ext w w':=by
 rw[← check_eq x d m hft];exact refCheck_any x d m w
def SetV(h:Gr)(b:Bx)(B:Nat)(v:Value)(w:World):Prop:=∃ A c,v = .agg #[.int .i64 b.lo.x,.int .i64 b.lo.y,.int .i64 b.lo.z,.int .i64 b.hi.x,.int .i64 b.hi.y,.int .i64 b.hi.z,.slice A h.cells.length c]∧w.ownsRow B 3 1 (.slice A h.cells.length c) h.cells.length (rowsI h.cells).flatten
theorem SetV.ext{h:Gr}{b:Bx}{B:Nat}{v:Value}{w w':World}(k:SetV h b B v w)(hx:Ext w w'):SetV h b B v w':=by obtain⟨A,c,e,ho⟩:=k;exact⟨A,c,e,own_ext ho hx⟩
theorem SetV.low{h:Gr}{b:Bx}{B B':Nat}{v:Value}{w:World}(k:SetV h b B v w)(hb:B'≤B):SetV h b B' v w:=by obtain⟨A,c,e,ho⟩:=k;exact⟨A,c,e,own_low_mono hb ho⟩
theorem setV_any{g:Gr}{b:Bx}(hbb:g.box=b){A:Option Addr}{c:Nat}{p:Pt}{v:Int}(hv:validG g=true)(hln:g.cells.length≤512)(w:World)(hs:Sv w w.heap.size 1 A c (rowsI g.cells)):
    Calls Tryz.prog 29 #[.agg #[.int .i64 b.lo.x,.int .i64 b.lo.y,.int .i64 b.lo.z,.int .i64 b.hi.x,.int .i64 b.hi.y,.int .i64 b.hi.z,.slice A g.cells.length c],.agg #[.int .i64 p.x,.int .i64 p.y,.int .i64 p.z],.int .i64 v] w fun e w'=>∃ u,e = .returned u∧Ext w w'∧SetV (setG g p v) b w.heap.size u w':=by
 subst hbb;refine(Set_any g A c p v w hs hv (by omega)).mono ?_;rintro e w' ⟨u,h1,h2,h3⟩;rw[← setG_len g p v]at h2;obtain⟨A',c',rfl,_⟩:=own_form h2;exact⟨_,h1,h3,A',c',rfl,h2⟩
theorem ApplyFillIsFresh_any{g:Gr}{A:Option Addr}{c:Nat}{x y:Ed}{d m:Int}(hfx:fits x)(hfy:fits y)(w:World)(hR:RowsIn w)(hA:AxesIn w)(hst:StepsIn w)(hs:Sv w w.heap.size 1 A c (rowsI g.cells)):
    Calls Tryz.prog 8 #[.agg #[.int .i64 g.box.lo.x,.int .i64 g.box.lo.y,.int .i64 g.box.lo.z,.int .i64 g.box.hi.x,.int .i64 g.box.hi.y,.int .i64 g.box.hi.z,.slice A g.cells.length c],.agg #[.int .i64 x.st.tick,.int .i64 x.st.clock,.int .i64 x.st.site,.int .i64 x.st.seq,.int .i64 x.kind,.int .i64 x.box.lo.x,.int .i64 x.box.lo.y,.int .i64 x.box.lo.z,.int .i64 x.box.hi.x,.int .i64 x.box.hi.y,.int .i64 x.box.hi.z,.int .i64 x.at_.x,.int .i64 x.at_.y,.int .i64 x.at_.z,.int .i64 x.turn,.int .i64 x.cell,.int .i64 x.size],.agg #[.int .i64 y.st.tick,.int .i64 y.st.clock,.int .i64 y.st.site,.int .i64 y.st.seq,.int .i64 y.kind,.int .i64 y.box.lo.x,.int .i64 y.box.lo.y,.int .i64 y.box.lo.z,.int .i64 y.box.hi.x,.int .i64 y.box.hi.y,.int .i64 y.box.hi.z,.int .i64 y.at_.x,.int .i64 y.at_.y,.int .i64 y.at_.z,.int .i64 y.turn,.int .i64 y.cell,.int .i64 y.size],.int .i64 d,.int .i64 m] w fun e w'=>e = .returned (.bool true)∧Ext w w':=by
 have hm:=mixed;have hG:=near_old;have HSN:=Lib.hid (fun(W:World) (hx:Ext w W)=>sanity_any W (hR.ext hx) (hA.ext hx) (hst.ext hx));have HF:=Lib.hid (fun(W:World) (hx:Ext w W)=>fits26_any (d:=d) (m:=m) W (hs.ext hx));have HAP:=Lib.hid (fun(x:Ed) (hft:fits x) (h:Gr) (A:Option Addr) (c:Nat) (hd:2≤d∧d≤3) (hb:g.box=cubeD d) (hbb:h.box=g.box) (hv:validG h=true) (hln:0 < h.cells.length∧h.cells.length≤512) (W:World) (hx:Ext w W) (hs:Sv W W.heap.size 1 A c (rowsI h.cells))=>ApK_any (m:=m) hbb hd hft hv hln hb W (hR.ext hx) (hA.ext hx) (hst.ext hx) hs);have HY1:=Lib.hid hfx;have HY2:=Lib.hid hfy;have HCK:=Lib.hid (refCheckE_any y hfy d m);obtain⟨ky,hky⟩:∃ k,k=y.kind:=⟨_,rfl⟩;obtain⟨ck,hck⟩:∃ k,k=checkE y d m:=⟨_,rfl⟩;rw[← hck]at HCK;have HKY:=Lib.hid hky;have HCE:=Lib.hid hck;obtain⟨W0,hW⟩:∃ W,W=((w.alloc (.cells #[.int .i64 g.box.lo.x,.int .i64 g.box.lo.y,.int .i64 g.box.lo.z,.int .i64 g.box.hi.x,.int .i64 g.box.hi.y,.int .i64 g.box.hi.z,.slice A g.cells.length c] 28)).alloc (.cells #[.int .i64 x.st.tick,.int .i64 x.st.clock,.int .i64 x.st.site,.int .i64 x.st.seq,.int .i64 x.kind,.int .i64 x.box.lo.x,.int .i64 x.box.lo.y,.int .i64 x.box.lo.z,.int .i64 x.box.hi.x,.int .i64 x.box.hi.y,.int .i64 x.box.hi.z,.int .i64 x.at_.x,.int .i64 x.at_.y,.int .i64 x.at_.z,.int .i64 x.turn,.int .i64 x.cell,.int .i64 x.size] 32)).alloc (.cells #[.int .i64 y.st.tick,.int .i64 y.st.clock,.int .i64 y.st.site,.int .i64 y.st.seq,.int .i64 y.kind,.int .i64 y.box.lo.x,.int .i64 y.box.lo.y,.int .i64 y.box.lo.z,.int .i64 y.box.hi.x,.int .i64 y.box.hi.y,.int .i64 y.box.hi.z,.int .i64 y.at_.x,.int .i64 y.at_.y,.int .i64 y.at_.z,.int .i64 y.turn,.int .i64 y.cell,.int .i64 y.size] 32):=⟨_,rfl⟩;have HX:=Lib.hid (show Ext w W0 by rw[hW];exact(((Ext.refl w).alloc _).alloc _).alloc _);have H5:=Lib.hid (show Arr W0 w.heap.size 28 [.int .i64 g.box.lo.x,.int .i64 g.box.lo.y,.int .i64 g.box.lo.z,.int .i64 g.box.hi.x,.int .i64 g.box.hi.y,.int .i64 g.box.hi.z,.slice A g.cells.length c]by rw[hW];exact((Arr.new w _ [.int .i64 g.box.lo.x,.int .i64 g.box.lo.y,.int .i64 g.box.lo.z,.int .i64 g.box.hi.x,.int .i64 g.box.hi.y,.int .i64 g.box.hi.z,.slice A g.cells.length c]).alloc _).alloc _);have H6:=Lib.hid (show Arr W0 (w.heap.size+1) 32 [.int .i64 x.st.tick,.int .i64 x.st.clock,.int .i64 x.st.site,.int .i64 x.st.seq,.int .i64 x.kind,.int .i64 x.box.lo.x,.int .i64 x.box.lo.y,.int .i64 x.box.lo.z,.int .i64 x.box.hi.x,.int .i64 x.box.hi.y,.int .i64 x.box.hi.z,.int .i64 x.at_.x,.int .i64 x.at_.y,.int .i64 x.at_.z,.int .i64 x.turn,.int .i64 x.cell,.int .i64 x.size]by rw[hW];exact(Arr.new1 w _ _ [.int .i64 x.st.tick,.int .i64 x.st.clock,.int .i64 x.st.site,.int .i64 x.st.seq,.int .i64 x.kind,.int .i64 x.box.lo.x,.int .i64 x.box.lo.y,.int .i64 x.box.lo.z,.int .i64 x.box.hi.x,.int .i64 x.box.hi.y,.int .i64 x.box.hi.z,.int .i64 x.at_.x,.int .i64 x.at_.y,.int .i64 x.at_.z,.int .i64 x.turn,.int .i64 x.cell,.int .i64 x.size]).alloc _);have H7:=Lib.hid (show Arr W0 (w.heap.size+1+1) 32 [.int .i64 y.st.tick,.int .i64 y.st.clock,.int .i64 y.st.site,.int .i64 y.st.seq,.int .i64 y.kind,.int .i64 y.box.lo.x,.int .i64 y.box.lo.y,.int .i64 y.box.lo.z,.int .i64 y.box.hi.x,.int .i64 y.box.hi.y,.int .i64 y.box.hi.z,.int .i64 y.at_.x,.int .i64 y.at_.y,.int .i64 y.at_.z,.int .i64 y.turn,.int .i64 y.cell,.int .i64 y.size]by rw[hW];have h:=Arr.new1 (w.alloc (.cells #[.int .i64 g.box.lo.x,.int .i64 g.box.lo.y,.int .i64 g.box.lo.z,.int .i64 g.box.hi.x,.int .i64 g.box.hi.y,.int .i64 g.box.hi.z,.slice A g.cells.length c] 28)) (.cells #[.int .i64 x.st.tick,.int .i64 x.st.clock,.int .i64 x.st.site,.int .i64 x.st.seq,.int .i64 x.kind,.int .i64 x.box.lo.x,.int .i64 x.box.lo.y,.int .i64 x.box.lo.z,.int .i64 x.box.hi.x,.int .i64 x.box.hi.y,.int .i64 x.box.hi.z,.int .i64 x.at_.x,.int .i64 x.at_.y,.int .i64 x.at_.z,.int .i64 x.turn,.int .i64 x.cell,.int .i64 x.size] 32) 32 [.int .i64 y.st.tick,.int .i64 y.st.clock,.int .i64 y.st.site,.int .i64 y.st.seq,.int .i64 y.kind,.int .i64 y.box.lo.x,.int .i64 y.box.lo.y,.int .i64 y.box.lo.z,.int .i64 y.box.hi.x,.int .i64 y.box.hi.y,.int .i64 y.box.hi.z,.int .i64 y.at_.x,.int .i64 y.at_.y,.int .i64 y.at_.z,.int .i64 y.turn,.int .i64 y.cell,.int .i64 y.size];simp only[World.size_alloc_]at h;exact h);have HS:=Lib.hid (hs.ext HX.out);clear hR hA hst hs hfx hfy hky hck
 go_enter Tryz.func8,Tryz.ntmps8
 go_upto_region 1 with fail
 rw[← hW];clear hW
 go_upto_region 2 with(first
  | (refine ldB 28 5 H5.out Tryz.underlying28 ?_)
  | (go_at_call 9;refine(HF.out _ HX.out).mono ?_;rintro e W1 ⟨bf,rfl,hf,hx⟩;replace HX:=xEx HX hx;replace H5:=aEx H5 hx;replace H6:=aEx H6 hx;replace H7:=aEx H7 hx;replace HS:=Lib.hid (HS.out.ext hx);have HFP:=Lib.hid hf;clear hx hf))
 have e7:=H7.out.cell 4;have l7:=H7.out.lt;simp only[List.getElem?_cons_zero,List.getElem?_cons_succ]at e7;rw[← HKY.out]at e7
 by_cases hok:bf=true∧m≤256∧ky=5∧ck=0
 rotate_left 1
 · have HNK:=Lib.hid hok;clear hok
   cases bf
   · go_wp2_with (go_at_call 10;refine(HSN.out _ HX.out).mono ?_;rintro e Ws ⟨rfl,hx⟩;replace HX:=xEx HX hx;clear hx)
     go_ret
     exact⟨rfl,HX.out⟩
   · by_cases hm1:m≤256
     · have hm3:¬ 256 < m:=by omega
       by_cases h5:ky=5
       · have hk5:(ky != 5)=false:=by simpa using h5
         have hc0:(ck != 0)=true:=by rw[bne_iff_ne];exact fun h=>HNK.out ⟨rfl,hm1,h5,h⟩
         clear hm1 h5
         go_wp2_with (first
          | (refine ldB 32 7 H7.out Tryz.underlying32 ?_)
          | (go_at_call 27;refine(HCK.out _).mono ?_;rintro e W2 ⟨rfl,hx⟩;replace HX:=xEx HX hx;clear hx)
          | (go_at_call 10;refine(HSN.out _ HX.out).mono ?_;rintro e Ws ⟨rfl,hx⟩;replace HX:=xEx HX hx;clear hx))
         go_ret
         exact⟨rfl,HX.out⟩
       · have hk5:(ky != 5)=true:=by simpa using h5
         clear hm1 h5
         go_wp2_with (go_at_call 10;refine(HSN.out _ HX.out).mono ?_;rintro e Ws ⟨rfl,hx⟩;replace HX:=xEx HX hx;clear hx)
         go_ret
         exact⟨rfl,HX.out⟩
     · have hm3:256 < m:=by omega
       clear hm1
       go_wp2_with (go_at_call 10;refine(HSN.out _ HX.out).mono ?_;rintro e Ws ⟨rfl,hx⟩;replace HX:=xEx HX hx;clear hx)
       go_ret
       exact⟨rfl,HX.out⟩
 obtain⟨rfl,hm2,h5,hc0⟩:=hok;have hm3:¬ 256 < m:=by omega
 have hk5:(ky != 5)=false:=by simpa using h5
 rw[hc0]at HCK;have HM:=Lib.hid hm2;have HK5:=Lib.hid (show y.kind=5 by rw[← HKY.out];exact h5);have HC0:=Lib.hid (show checkE y d m=0 by rw[← HCE.out];exact hc0);replace HFP:=Lib.hid (HFP.out rfl);clear hm2 HF h5 hc0 HCE;have HP1:=Lib.hid (fun(W:World) (hx:Ext w W) hs=>HAP.out x HY1.out g A c HFP.out.dd HFP.out.box rfl HFP.out.val HFP.out.len W hx hs)
 go_upto_region 4 with(first
  | (refine ldB 32 7 H7.out Tryz.underlying32 ?_)
  | (go_at_call 27;refine(HCK.out _).mono ?_;rintro e W2 ⟨rfl,hx⟩;replace HX:=xEx HX hx;replace H5:=aEx H5 hx;replace H6:=aEx H6 hx;replace H7:=aEx H7 hx;replace HS:=Lib.hid (HS.out.ext hx);clear hx e7 l7 HCK))
 go_upto_region 5 with(first
  | (refine ldB 28 5 H5.out Tryz.underlying28 ?_)
  | (refine ldB 32 6 H6.out Tryz.underlying32 ?_)
  | (go_at_call 14;refine(HP1.out _ HX.out HS.out).mono ?_;rintro e Wa1 ⟨la,er1,A1,c1,Aa,ca,hc,rfl,hsg,hsl,hx⟩;replace HX:=xEx HX hx;replace H5:=aEx H5 hx;replace H6:=aEx H6 hx;replace H7:=aEx H7 hx;replace HS:=Lib.hid (HS.out.ext hx);have HC1:=Lib.hid hc;have HG1:=Lib.hid hsg;have HL1:=Lib.hid hsl;clear hx hc hsg hsl)
  | (refine wpList_store_blk2 28 (.tmp 12) (.tmp 51) rfl rfl (Arr.new Wa1 28 Z7) [.int .i64 g.box.lo.x,.int .i64 g.box.lo.y,.int .i64 g.box.lo.z,.int .i64 g.box.hi.x,.int .i64 g.box.hi.y,.int .i64 g.box.hi.z,.slice A1 (writeG g la).cells.length c1] rfl rfl (by kernel_rfl) rfl rfl rfl ?_;intro Wb1 hW;have hx:=(xNew (Lib.hid (Ext.refl Wa1)) hW).out;have H12:=nNew hW;replace HX:=xEx HX hx;replace H5:=aEx H5 hx;replace H6:=aEx H6 hx;replace H7:=aEx H7 hx;replace HS:=Lib.hid (HS.out.ext hx);replace HG1:=Lib.hid (HG1.out.ext hx);replace HL1:=Lib.hid (HL1.out.ext hx);clear hW hx))
 obtain⟨b12,hb⟩:∃ n,n=Wa1.heap.size:=⟨_,rfl⟩;rw[← hb]at H12 ⊢;clear hb HP1;have HV1:=Lib.hid (HC1.out.next HY1.out HM.out HFP.out.val HFP.out.box);have HN1:=Lib.hid (show 0 < (writeG g la).cells.length∧(writeG g la).cells.length≤512 by rw[writeG_len];exact HFP.out.len);have HB1:=Lib.hid (show(writeG g la).box=g.box from rfl);clear HC1;generalize writeG g la=gh at HV1 HN1 HB1 HG1 H12 ⊢;have HP2:=Lib.hid (fun(W:World) (hx:Ext w W) hs=>HAP.out y HY2.out gh A1 c1 HFP.out.dd HFP.out.box HB1.out HV1.out HN1.out W hx hs)
 go_upto_region 6 with(first
  | (refine ldB 28 12 H12.out Tryz.underlying28 ?_)
  | (refine ldB 32 7 H7.out Tryz.underlying32 ?_)
  | (go_at_call 14;refine(HP2.out _ HX.out HG1.out).mono ?_;rintro e Wa2 ⟨lb,er2,A2,c2,Ab,cb,hc,rfl,hsg,hsl,hx⟩;replace HX:=xEx HX hx;replace H5:=aEx H5 hx;replace H6:=aEx H6 hx;replace H7:=aEx H7 hx;replace H12:=aEx H12 hx;replace HS:=Lib.hid (HS.out.ext hx);replace HG1:=Lib.hid (HG1.out.ext hx);replace HL1:=Lib.hid (HL1.out.ext hx);have HC2:=Lib.hid hc;have HG2:=Lib.hid hsg;have HL2:=Lib.hid hsl;clear hx hc hsg hsl)
  | (refine wpList_store_blk2 28 (.tmp 15) (.tmp 60) rfl rfl (Arr.new Wa2 28 Z7) [.int .i64 g.box.lo.x,.int .i64 g.box.lo.y,.int .i64 g.box.lo.z,.int .i64 g.box.hi.x,.int .i64 g.box.hi.y,.int .i64 g.box.hi.z,.slice A2 (writeG gh lb).cells.length c2] rfl rfl (by kernel_rfl) rfl rfl rfl ?_;intro Wb2 hW;have hx:=(xNew (Lib.hid (Ext.refl Wa2)) hW).out;have H15:=nNew hW;replace HX:=xEx HX hx;replace H5:=aEx H5 hx;replace H6:=aEx H6 hx;replace H7:=aEx H7 hx;replace H12:=aEx H12 hx;replace HS:=Lib.hid (HS.out.ext hx);replace HG1:=Lib.hid (HG1.out.ext hx);replace HL1:=Lib.hid (HL1.out.ext hx);replace HG2:=Lib.hid (HG2.out.ext hx);replace HL2:=Lib.hid (HL2.out.ext hx);clear hW hx))
 obtain⟨b15,hb⟩:∃ n,n=Wa2.heap.size:=⟨_,rfl⟩;rw[← hb]at H15 ⊢;clear hb HP2;have HV2:=Lib.hid (HC2.out.next HY2.out HM.out HV1.out (HB1.out.trans HFP.out.box));have HN2:=Lib.hid (show 0 < (writeG gh lb).cells.length∧(writeG gh lb).cells.length≤512 by rw[writeG_len];exact HN1.out);have HB2:=Lib.hid (show(writeG gh lb).box=g.box from HB1.out);have HFL:=Lib.hid (fun(W:World) hs=>(show Calls Tryz.prog 28 #[.agg #[.int .i64 g.box.lo.x,.int .i64 g.box.lo.y,.int .i64 g.box.lo.z,.int .i64 g.box.hi.x,.int .i64 g.box.hi.y,.int .i64 g.box.hi.z,.slice A1 gh.cells.length c1],.agg #[.int .i64 y.at_.x,.int .i64 y.at_.y,.int .i64 y.at_.z],.int .i64 y.size] W (RetPE (FloodOut (fld gh) y.at_ y.size) W)from by rw[← HB1.out];exact refFlood_any gh A1 c1 y.at_ y.size W hs HV1.out (by have:=HN1.out;omega)));have s16:=H7.out.cell 16;have l7:=H7.out.lt;simp only[List.getElem?_cons_zero,List.getElem?_cons_succ]at s16
 go_upto_region 7 with(first
  | (refine ldB 28 12 H12.out Tryz.underlying28 ?_)
  | (refine wpList_load_part 23 (.tmp 65) rfl rfl H7.out 11 [.int .i64 y.at_.x,.int .i64 y.at_.y,.int .i64 y.at_.z] rfl rfl _ Tryz.underlying23 rfl (by kernel_rfl) ?_)
  | (go_at_call 28;refine(HFL.out _ HG1.out).mono ?_;rintro e W6 ⟨r,ef,AL,cL,hfl,rfl,hsr,hx⟩;replace HX:=xEx HX hx;replace H5:=aEx H5 hx;replace H6:=aEx H6 hx;replace H7:=aEx H7 hx;replace H12:=aEx H12 hx;replace H15:=aEx H15 hx;replace HS:=Lib.hid (HS.out.ext hx);replace HG1:=Lib.hid (HG1.out.ext hx);replace HG2:=Lib.hid (HG2.out.ext hx);replace HL1:=Lib.hid (HL1.out.ext hx);replace HL2:=Lib.hid (HL2.out.ext hx);have HFO:=Lib.hid hfl;have HSR:=Lib.hid hsr;clear hx hfl hsr s16 l7 HFL))
 have HFF:=Lib.hid (fill_flood HC0.out HK5.out HC2.out HFO.out);obtain⟨he,hz,hk⟩:=HFF.out;subst he;clear HFO HC2 HFF
 by_cases h0:er2=0
 rotate_left 1
 · have hne:(er2 != 0)=true:=by simpa using h0
   have HEQ:=Lib.hid (fun(W:World) k1 k2=>equal_at (g:=gh) (h:=writeG gh lb) (A1:=A1) (A2:=A2) (c1:=c1) (c2:=c2) (r:=true) HB1.out HB2.out (by rw[hz h0,writeG_nil];simp) W k1 k2);clear h0 hz hk
   go_wp2_with (first
    | (refine ldB 28 12 H12.out Tryz.underlying28 ?_)
    | (refine ldB 28 15 H15.out Tryz.underlying28 ?_)
    | (go_at_call 10;refine(HSN.out _ HX.out).mono ?_;rintro e Ws ⟨rfl,hx⟩;replace HX:=xEx HX hx;replace H12:=aEx H12 hx;replace H15:=aEx H15 hx;replace HG1:=Lib.hid (HG1.out.ext hx);replace HG2:=Lib.hid (HG2.out.ext hx);clear hx)
    | (go_at_call 16;refine(HEQ.out _ HG1.out HG2.out).mono ?_;rintro e We ⟨rfl,hx⟩;replace HX:=xEx HX hx;clear hx))
   go_ret
   exact⟨rfl,HX.out⟩
 subst h0;have HEK:=Lib.hid (hk rfl);have HFR:=Lib.hid (show writeG gh lb=setAll gh r y.cell from fill_fresh HY2.out HM.out HV1.out (HB1.out.trans HFP.out.box) HK5.out HEK.out);have HCL:=Lib.hid (show 0≤y.cell∧y.cell < 256 from by have:=(chk_ok HY2.out HC0.out).cell;have:=HM.out;omega);have HRL:=Lib.hid (show r.length≤512 from by
  obtain⟨v,hv0,hreg,_⟩:=HEK.out.reg HK5.out;obtain⟨sx,sy,sz,G⟩:=good_of HV1.out;have h1:=nodup_sub hreg.sort.nodup (fun p hp=>(boxL_mem (cubeD d) p).2 (by rw[← HB1.out.trans HFP.out.box];exact fld_some (((hreg.mem p).1 hp).val hv0)));rw[boxL_length]at h1;have h:=HFP.out.dd
  rcases (show d=2∨d=3 by omega)with e | e <;> subst e
  · rw[show volN (cubeD 2)=64 by decide+kernel]at h1;omega
  · rw[show volN (cubeD 3)=512 by decide+kernel]at h1;omega)
 clear hz hk HEK;generalize writeG gh lb=gi at HB2 HG2 HV2 HN2 H15 HFR ⊢;obtain⟨n,hn⟩:∃ n,n=gh.cells.length:=⟨_,rfl⟩;have HNN:=Lib.hid hn
 go_upto_region 10 with(first
  | (refine ldB 28 12 H12.out Tryz.underlying28 ?_)
  | (refine wpList_store_blk2 28 (.tmp 20) (.tmp 85) rfl rfl (Arr.new W6 28 Z7) [.int .i64 g.box.lo.x,.int .i64 g.box.lo.y,.int .i64 g.box.lo.z,.int .i64 g.box.hi.x,.int .i64 g.box.hi.y,.int .i64 g.box.hi.z,.slice A1 gh.cells.length c1] rfl rfl (by kernel_rfl) rfl rfl rfl ?_;intro W7 hW;have HX7:=xNew (Lib.hid (Ext.refl W6)) hW;have H20:=nNew hW;clear hW))
 obtain⟨b20,hb⟩:∃ n,n=W6.heap.size:=⟨_,rfl⟩;have HB20:=Lib.hid hb;rw[← hb]at H20 ⊢;rw[← hn]at H20 ⊢;clear hb hn;have HQ0:=Lib.hid (show ∃ A c,Arr W7 b20 28 [.int .i64 g.box.lo.x,.int .i64 g.box.lo.y,.int .i64 g.box.lo.z,.int .i64 g.box.hi.x,.int .i64 g.box.hi.y,.int .i64 g.box.hi.z,.slice A n c]∧Sv W7 W7.heap.size 1 A c (rowsI (setAll gh (r.take 0) y.cell).cells)∧Ext W6 W7 from⟨A1,c1,H20.out,HG1.out.ext HX7.out,HX7.out⟩);clear H20 HX7 H12
 go_upto_region 11 with fail
 go_loopw [21] (fun i wr=>∃ k:Nat,k≤r.length∧i = .int .i64 (k:Int)∧Hid (∃ A c,Arr wr b20 28 [.int .i64 g.box.lo.x,.int .i64 g.box.lo.y,.int .i64 g.box.lo.z,.int .i64 g.box.hi.x,.int .i64 g.box.hi.y,.int .i64 g.box.hi.z,.slice A n c]∧Sv wr wr.heap.size 1 A c (rowsI (setAll gh (r.take k) y.cell).cells)∧Ext W6 wr)) (fun i _=>r.length - (intOf i).toNat)
 case atStart=>exact⟨0,Nat.zero_le _,rfl,HQ0⟩
 case round=>
  clear HQ0;obtain⟨k,hk,rfl,HQ⟩:=hrel;obtain⟨Aw,cw,hbk,hsw,hxe⟩:=HQ.out;have HBK:=Lib.hid hbk;have HSW:=Lib.hid hsw;have HE:=Lib.hid hxe;clear hbk hsw hxe HQ;have HOK:=Lib.hid (setAll_ok HCL.out (l:=r.take k) HV1.out)
  by_cases hkl:k < r.length
  · obtain⟨p,hp⟩:∃ p,r[k]? = some p:=⟨_,List.getElem?_eq_getElem hkl⟩;obtain⟨bL,oL,hAL,hbL,hr⟩:=HSR.out.row (i:=k) (x:=p.cells) (by simp[rowsP,hp]);subst hAL;have HR:=Lib.hid (fun(w1:World) (hx:Ext W6 w1) (i:Nat) (v:Value) (h:[.int .i64 p.x,.int .i64 p.y,.int .i64 p.z][i]? = some v)=>(hx.cell (p:=⟨bL,oL+k * 3+i,none⟩) hbL).trans (hr i v h));have HKL:=Lib.hid hkl;have HWK:=Lib.hid (show wrap64 ((k:Int)+1)=((k+1:Nat):Int)by have:=HRL.out;unfold wrap64;omega);have HMS:=Lib.hid (show r.length - (k+1) < r.length - k by omega);have HSA:=Lib.hid (show setAll gh (r.take (k+1)) y.cell=setG (setAll gh (r.take k) y.cell) p y.cell from by
     obtain⟨hk2,e⟩:=List.getElem?_eq_some_iff.1 hp;rw[List.take_succ_eq_append_getElem hk2,setAll_snoc,e])
    have HLN:=Lib.hid (show(setAll gh (r.take k) y.cell).cells.length=n from HOK.out.2.2.1.trans HNN.out.symm);have hbx:=HOK.out.2.1.trans HB1.out;have hvl:=HOK.out.1;have HST:=Lib.hid (fun(W:World) (hx:Ext wr W)=>setV_any (p:=p) (v:=y.cell) hbx (A:=Aw) (c:=cw) hvl (by rw[HLN.out,HNN.out];exact HN1.out.2) W (HSW.out.ext hx));rw[← HSA.out]at HST;have HLN2:=Lib.hid (show(setAll gh (r.take (k+1)) y.cell).cells.length=n by rw[HSA.out,setG_len];exact HLN.out);rw[HLN.out]at HST;have H7r:=Lib.hid (H7.out.ext HE.out);have HXr:=Lib.hid (HX.out.trans HE.out);clear hp hr hbx hvl hbL
    go_upto_region 13 with fail
    (try simp only[Act.put,List.setIfInBounds_toArray,List.set_cons_zero,List.set_cons_succ])
    refine wp_region_stm (w:=wr) [some (.agg #[.int .i64 g.box.lo.x,.int .i64 g.box.lo.y,.int .i64 g.box.lo.z,.int .i64 g.box.hi.x,.int .i64 g.box.hi.y,.int .i64 g.box.hi.z,.slice Aw n cw]),some (.slice (some ⟨bL,oL,none⟩) r.length cL),some (.int .i64 k),some (.pointer (some ⟨bL,oL+k * 3,none⟩)),some (.agg #[.int .i64 p.x,.int .i64 p.y,.int .i64 p.z]),some (.pointer (some ⟨w.heap.size+1+1,15,none⟩)),some (.int .i64 y.cell),none,none] (fun i v w'=>if i=7 then SetV (setAll gh (r.take (k+1)) y.cell) g.box wr.heap.size v w' else True) 8 28 20 99 7 b20 (fun w'=>∃ A c,Arr w' b20 28 [.int .i64 g.box.lo.x,.int .i64 g.box.lo.y,.int .i64 g.box.lo.z,.int .i64 g.box.hi.x,.int .i64 g.box.hi.y,.int .i64 g.box.hi.z,.slice A n c]∧Sv w' w'.heap.size 1 A c (rowsI (setAll gh (r.take (k+1)) y.cell).cells)∧Ext W6 w') hm ?_ ?_ rfl ?_ ?_
    · exact g_if (fun v w1 w2 hx h=>h.ext hx) g_true
    · refine c_ (s_row HBK Tryz.underlying28) ?_;refine c_ s_mv ?_;refine c_ s_mv ?_;refine c_ (s_ix HKL.out Tryz.underlying62) ?_;refine c_ (s_mid (fun w1 hx i v h=>HR.out w1 (HE.out.trans hx) i v h) Tryz.underlying23) ?_;refine c_ (s_run1 7 (hr:=fun b w1 _ e=>by unfold execOp;simp[e,Act.eval,go_sem])) ?_;refine c_ (s_cell 97 (fun w1 hx=>(H7r.out.ext hx).cell 15) (hr:=fun b w1 e hc=>by unfold execOp;simp[e,hc,Act.eval,go_sem])) ?_;refine c_ (s_callG fun w1 hx=>(HST.out w1 hx).mono fun e w' ⟨u,h1,h2,h3⟩=>⟨u,h1,h2,h3.low hx.size⟩) ?_;exact trivial
    · intro v w1 hx hgd;have hgd:SetV (setAll gh (r.take (k+1)) y.cell) g.box wr.heap.size v w1:=hgd;obtain⟨A',c',rfl,ho⟩:=hgd;refine⟨[.int .i64 g.box.lo.x,.int .i64 g.box.lo.y,.int .i64 g.box.lo.z,.int .i64 g.box.hi.x,.int .i64 g.box.hi.y,.int .i64 g.box.hi.z,.slice A' (setAll gh (r.take (k+1)) y.cell).cells.length c'],[.int .i64 g.box.lo.x,.int .i64 g.box.lo.y,.int .i64 g.box.lo.z,.int .i64 g.box.hi.x,.int .i64 g.box.hi.y,.int .i64 g.box.hi.z,.slice Aw n cw],rfl,HBK.out.ext hx,rfl,by kernel_rfl,rfl,A',c',?_,?_,(HE.out.trans hx).setRow (Nat.le_of_eq HB20.out.symm) _⟩
      · rw[HLN2.out];exact(HBK.out.ext hx).setRow _
      · exact Sv.of_own (own_gr ho (HBK.out.ext hx) (by decide) _) (rowsI_rwk _) (rowsI_length _)
    · intro V w9 hp;have HP:=Lib.hid hp;clear hp;simp only[fillM,Act.put,List.setIfInBounds_toArray,List.set_cons_zero,List.set_cons_succ,Nat.zero_add,Nat.reduceAdd];generalize V 0=z0;generalize V 1=z1;generalize V 2=z2;generalize V 3=z3;generalize V 4=z4;generalize V 5=z5;generalize V 6=z6;generalize V 7=z7;go_wp2
      go_roundw
      case rel=>exact⟨k+1,hkl,by rw[HWK.out],HP⟩
      case measure=>rw[HWK.out];exact HMS.out
  · obtain rfl:k=r.length:=by omega
    rw[List.take_length]at HSW HOK;have HLN:=Lib.hid (show(setAll gh r y.cell).cells.length=n from HOK.out.2.2.1.trans HNN.out.symm);replace HX:=Lib.hid (HX.out.trans HE.out);replace H15:=Lib.hid (H15.out.ext HE.out);replace HG2:=Lib.hid (HG2.out.ext HE.out);have hbx:=HOK.out.2.1.trans HB1.out;have HEQ:=Lib.hid (fun(W:World) k1 k2=>equal_at (g:=gi) (h:=setAll gh r y.cell) (A1:=A2) (A2:=Aw) (c1:=c2) (c2:=cw) (r:=true) HB2.out hbx (decide_eq_true HFR.out) W k1 k2);rw[HLN.out]at HEQ;clear hbx HOK hk hkl
    go_wp2_with (first
     | (refine ldB 28 15 H15.out Tryz.underlying28 ?_)
     | (refine ldB 28 20 HBK.out Tryz.underlying28 ?_)
     | (go_at_call 10;refine(HSN.out _ HX.out).mono ?_;rintro e Ws ⟨rfl,hx⟩;replace HX:=xEx HX hx;replace H15:=aEx H15 hx;replace HBK:=aEx HBK hx;replace HG2:=Lib.hid (HG2.out.ext hx);replace HSW:=Lib.hid (HSW.out.ext hx);clear hx)
     | (go_at_call 16;refine(HEQ.out _ HG2.out HSW.out).mono ?_;rintro e We ⟨rfl,hx⟩;replace HX:=xEx HX hx;clear hx))
    go_ret
    exact⟨rfl,HX.out⟩
end Go.Proofs.YtoecbicdahbccaaGreatDoor
