/- A part of the walk of the layer of apply: contracts and plain laws that a row's text leans on. -/
import Derived.Test.YtoecbicdahbccaaGreatDoorZa12
import Derived.Test.YtoecbicdahbccaaGreatDoorZa21
import Derived.Test.YtoecbicdahbccaaGreatDoorZa32
set_option maxRecDepth 100000
set_option maxHeartbeats 16000000
namespace Go.Proofs.YtoecbicdahbccaaGreatDoor
open Go Go.RowKit
theorem infoCh:(Tryz.prog.info? 58).map (fun i=>(i.zero,i.size,i.bytes))=some (some (.agg #[.int .i64 0,.int .i64 0,.int .i64 0,.int .i64 0,.int .i64 0]),5,40):=by kernel_rfl
abbrev OwC(B:Nat)(l:List Chg)(v:Value)(w:World):Prop:=w.ownsRow B 58 5 v l.length (rowsC l).flatten
theorem OwC.nil(w:World)(B:Nat):OwC B [] (.slice none 0 0) w:=⟨by simp[rowsC],.inl ⟨rfl,rfl⟩⟩
theorem OwC.app{B:Nat}{l:List Chg}{v:Value}{w:World}{x:Chg}(h:w.ownsRow B 58 5 v (l.length+1) ((rowsC l).flatten++x.cells)):OwC B (l++[x]) v w:=by
 unfold OwC;rw[List.length_append];simpa[rowsC]using h
def RetC(g:Gr)(x:Ed)(d m:Int)(w:World)(en:Ending)(w':World):Prop:=∃ l er v,ChgOut g x d m l er∧en = .returned (.tuple #[v,.int .i64 er])∧OwC w.heap.size l v w'∧Ext w w'
theorem Brd.len{x:Ed}{d:Int}{r l:List Pt}(hd:2≤d∧d≤3)(h:Brd x d r l):l.length≤512:=by
 have h1:=nodup_sub h.sort.nodup (fun p hp=>(boxL_mem (cubeD d) p).2 ((h.mem p).1 hp).1);rw[boxL_length]at h1;have h2:=three_d hd;have h3:volN (cubeD d)≤8 * 8 * 8:=vol_le (by unfold cubeD cubeB;simp only;omega) (by unfold cubeD cubeB;simp only;omega) (by unfold cubeD cubeB;simp only;omega);omega
theorem chgOf_len(F N:Pt→Int)(l:List Pt):(chgOf F N l).length≤l.length:=List.length_filterMap_le ..
theorem chgOf_take{F N:Pt→Int}{l:List Pt}{k:Nat}{p:Pt}(h:l[k]? = some p):chgOf F N (l.take (k+1))=chgOf F N (l.take k)++(if F p=N p then []else [⟨p,F p,N p⟩]):=by
 obtain⟨hk,rfl⟩:=List.getElem?_eq_some_iff.1 h;rw[List.take_succ_eq_append_getElem hk,chgOf_snoc]
structure CgS (w:World) (B:Nat) (l:List Chg) (v:Value) (wr:World):Prop where
 row:OwC B l v wr
 ext:Ext w wr
 base:w.heap.size≤B∧B≤wr.heap.size
theorem CgS.more{w:World}{B:Nat}{l:List Chg}{v:Value}{wr wx:World}(h:CgS w B l v wr)(hx:Ext wr wx):CgS w B l v wx:=⟨own_ext h.row hx,h.ext.trans hx,h.base.1,Nat.le_trans h.base.2 hx.size⟩
theorem CgS.app{w:World}{B:Nat}{l:List Chg}{v v':Value}{wr wx:World}{x:Chg}(h:CgS w B l v wr)(ho:wx.ownsRow B 58 5 v' (l.length+1) ((rowsC l).flatten++x.cells))(hg:wr.grownBy wx v.ownBlock):CgS w B (l++[x]) v' wx:=
 ⟨OwC.app ho,h.ext.own h.row hg h.base.1,h.base.1,Nat.le_trans h.base.2 hg.size⟩
theorem Changes_any{g:Gr}{A:Option Addr}{c:Nat}{x:Ed}{d m:Int}(hd:2≤d∧d≤3)(hft:fits x)(hv:validG g=true)(hln:g.cells.length≤80000)(hb:g.box=cubeD d)(w:World)(hR:RowsIn w)(hA:AxesIn w)(hst:StepsIn w)(hs:Sv w w.heap.size 1 A c (rowsI g.cells)):
    Calls Tryz.prog 12 #[.iface 73 (.agg #[.int .i64 g.box.lo.x,.int .i64 g.box.lo.y,.int .i64 g.box.lo.z,.int .i64 g.box.hi.x,.int .i64 g.box.hi.y,.int .i64 g.box.hi.z,.slice A g.cells.length c]),.agg #[.int .i64 x.st.tick,.int .i64 x.st.clock,.int .i64 x.st.site,.int .i64 x.st.seq,.int .i64 x.kind,.int .i64 x.box.lo.x,.int .i64 x.box.lo.y,.int .i64 x.box.lo.z,.int .i64 x.box.hi.x,.int .i64 x.box.hi.y,.int .i64 x.box.hi.z,.int .i64 x.at_.x,.int .i64 x.at_.y,.int .i64 x.at_.z,.int .i64 x.turn,.int .i64 x.cell,.int .i64 x.size],.int .i64 d,.int .i64 m] w (RetC g x d m w):=by
 have hm:=mixed;obtain⟨W0,hW⟩:∃ W,W=w.alloc (.cells #[.int .i64 x.st.tick,.int .i64 x.st.clock,.int .i64 x.st.site,.int .i64 x.st.seq,.int .i64 x.kind,.int .i64 x.box.lo.x,.int .i64 x.box.lo.y,.int .i64 x.box.lo.z,.int .i64 x.box.hi.x,.int .i64 x.box.hi.y,.int .i64 x.box.hi.z,.int .i64 x.at_.x,.int .i64 x.at_.y,.int .i64 x.at_.z,.int .i64 x.turn,.int .i64 x.cell,.int .i64 x.size] 32):=⟨_,rfl⟩;have HX:=Lib.hid (show Ext w W0 by rw[hW];exact(Ext.refl w).alloc _);have H5:=Lib.hid (show Arr W0 w.heap.size 32 [.int .i64 x.st.tick,.int .i64 x.st.clock,.int .i64 x.st.site,.int .i64 x.st.seq,.int .i64 x.kind,.int .i64 x.box.lo.x,.int .i64 x.box.lo.y,.int .i64 x.box.lo.z,.int .i64 x.box.hi.x,.int .i64 x.box.hi.y,.int .i64 x.box.hi.z,.int .i64 x.at_.x,.int .i64 x.at_.y,.int .i64 x.at_.z,.int .i64 x.turn,.int .i64 x.cell,.int .i64 x.size]by rw[hW];exact Arr.new w _ [.int .i64 x.st.tick,.int .i64 x.st.clock,.int .i64 x.st.site,.int .i64 x.st.seq,.int .i64 x.kind,.int .i64 x.box.lo.x,.int .i64 x.box.lo.y,.int .i64 x.box.lo.z,.int .i64 x.box.hi.x,.int .i64 x.box.hi.y,.int .i64 x.box.hi.z,.int .i64 x.at_.x,.int .i64 x.at_.y,.int .i64 x.at_.z,.int .i64 x.turn,.int .i64 x.cell,.int .i64 x.size]);have HCK:=Lib.hid (fun(W:World) (hx:Ext w W)=>Check_any x d m W (hR.ext hx))
 by_cases hck:checkE x d m=0
 · have hk:=chk_ok hft hck;have HBR:=Lib.hid (fun(W:World) (hx:Ext w W)=>brushed_any (A:=A) (c:=c) hd hk hv hln hb W (hA.ext hx) (hst.ext hx) (hs.ext hx));have HFC:=Lib.hid (fun(p:Pt) (W:World) (hx:Ext w W)=>FCell_any (g:=g) (A:=A) (c:=c) hv (by omega) p W (hs.ext hx));have HD:=Lib.hid hd;rw[hck]at HCK;have HKC:=Lib.hid hck;have hmeth:∀ W,(method 308 73 (.agg #[.int .i64 g.box.lo.x,.int .i64 g.box.lo.y,.int .i64 g.box.lo.z,.int .i64 g.box.hi.x,.int .i64 g.box.hi.y,.int .i64 g.box.hi.z,.slice A g.cells.length c]) "Cell").run Tryz.prog W = .ok (207,.agg #[.int .i64 g.box.lo.x,.int .i64 g.box.lo.y,.int .i64 g.box.lo.z,.int .i64 g.box.hi.x,.int .i64 g.box.hi.y,.int .i64 g.box.hi.z,.slice A g.cells.length c]) W:=fun _=>by kernel_rfl
   have hent:∀ args W,(callFunc 207 args).run Tryz.prog W = .ok (.enter 207 args) W:=fun _ _=>by kernel_rfl
   clear hk hck hv hln hb hft hR hA hst hs hd
   go_enter Tryz.func12,Tryz.ntmps12
   go_upto_region 1 with fail
   rw[← hW];clear hW
   go_upto_region 5 with(first
    | (refine ldB 32 5 H5.out Tryz.underlying32 ?_) | (refine ldB 32 5 (H5.out.alloc _) Tryz.underlying32 ?_) | (refine ldB 32 5 ((H5.out.alloc _).alloc _) Tryz.underlying32 ?_)
    | (go_at_call 35;refine(HCK.out _ HX.out).mono ?_;rintro e W1 ⟨rfl,hx⟩;replace HX:=xEx HX hx;replace H5:=aEx H5 hx;clear hx)
    | (go_at_call 36;refine(HBR.out _ HX.out).mono ?_;rintro e W2 ⟨v,G,cb,L,r,er,rfl,hx,ho,hcl,h5,h6,h7⟩;replace HX:=xEx HX hx;have HO:=Lib.hid ho;have HCL:=Lib.hid hcl;have HN5:=Lib.hid h5;have HY5:=Lib.hid h6;have HBD:=Lib.hid h7;clear hx ho hcl h5 h6 h7))
   by_cases he:er=0
   · subst he;have HB:=Lib.hid (HBD.out rfl);have hlen:=HB.out.len HD.out;have HEQ:=Lib.hid (chg_eff (F:=matF g) HB.out.sort HB.out.mem);have eg:=HCL.out.enters;obtain⟨LA,Lc,rfl⟩:=own_len HO.out;have HLS:=Lib.hid (Sv.of_own HO.out (rowsP_rwk L) (rowsP_length L));have HLN:=Lib.hid hlen;clear hlen HBD HBR HCK H5 HD
     go_upto_region 8 with fail
     have H0:=Lib.hid (show CgS W2 W2.heap.size (chgOf (matF g) (newE x (matF g)) (L.take 0)) (.slice none 0 0) W2 from⟨by rw[List.take_zero];exact OwC.nil _ _,Ext.refl _,Nat.le_refl _,Nat.le_refl _⟩)
     go_loopw [37,8] (fun i v wr=>∃ k:Nat,k≤L.length∧i = .int .i64 (k:Int)∧Hid (CgS W2 W2.heap.size (chgOf (matF g) (newE x (matF g)) (L.take k)) v wr)) (fun i _ _=>L.length - (intOf i).toNat)
     case atStart=>exact⟨0,Nat.zero_le _,rfl,H0⟩
     case round=>
      clear H0;obtain⟨k,hk,rfl,HS⟩:=hrel
      by_cases hkl:k < L.length
      · obtain⟨p,hp⟩:∃ p,L[k]? = some p:=⟨_,List.getElem?_eq_getElem hkl⟩;have hst:=chgOf_take (F:=matF g) (N:=newE x (matF g)) hp;have hcl:=chgOf_len (matF g) (newE x (matF g)) (L.take k);rw[List.length_take]at hcl;have hl5:(chgOf (matF g) (newE x (matF g)) (L.take k)).length+1≤1000000:=by have:=HLN.out;omega
        have hfc:=fun W hx=>HFC.out p W hx;have hcall:=HCL.out.call p (List.mem_of_getElem? hp);have hmk:=HS;generalize chgOf (matF g) (newE x (matF g)) (L.take k)=l at HS hst hl5;have HST:=Lib.hid (show chgOf (matF g) (newE x (matF g)) (L.take (k+1))=_ from hst);clear hmk hcl hst;generalize newE x (matF g) p=n at HST hcall;generalize matF g p=o at HST hfc;generalize inP p g.box=ib at hfc;have HP:=Lib.hid hfc;have HCC:=Lib.hid hcall;have HL5:=Lib.hid hl5;obtain⟨bL,oL,rfl,hbL,r0,r1,r2⟩:=pt_row (HLS.out.keep (w':=wr) (fun q hq=>HS.out.ext.cell hq)) hp;have hbL2:=Nat.lt_of_lt_of_le hbL HS.out.ext.size;have HMS:=Lib.hid (show L.length - (k+1) < L.length - k by omega);have HWK:=Lib.hid (show wrap64 ((k:Int)+1)=((k+1:Nat):Int)by have:=HLN.out;unfold wrap64;omega);clear hp hl5 hfc hcall hbL
        go_upto_region 10 with(first
         | (refine wpList_store_blk2 23 (.tmp 14) (.tmp 40) rfl rfl (Arr.new wr 23 [.int .i64 0,.int .i64 0,.int .i64 0]) [.int .i64 p.x,.int .i64 p.y,.int .i64 p.z] rfl rfl (by kernel_rfl) rfl rfl rfl ?_;intro W3 hW;have HX3:=xNew (Lib.hid (Ext.refl wr)) hW;have H14:=nNew hW;clear hW))
        clear r0 r1 r2 hbL2
        by_cases hon:o=n
        · subst hon;rw[if_pos rfl,List.append_nil]at HST
          go_wp2_with (first
           | (refine ldB 23 14 H14.out Tryz.underlying23 ?_)
           | (go_at_fn 207;refine(HP.out _ (HX.out.trans (HS.out.ext.trans HX3.out))).mono ?_;rintro e W4 ⟨rfl,hx⟩;have HX4:=xEx HX3 hx;replace H14:=aEx H14 hx;clear hx)
           | (go_at_fn G;refine(HCC.out _ (HS.out.ext.trans HX4.out)).mono ?_;rintro e W5 ⟨rfl,hx⟩;have HX5:=xEx HX4 hx;replace H14:=aEx H14 hx;clear hx))
          go_roundw
          case rel=>exact⟨k+1,hkl,by rw[HWK.out],Lib.hid (by rw[HST.out];exact HS.out.more HX5.out)⟩
          case measure=>rw[HWK.out];exact HMS.out
        · rw[if_neg hon]at HST;have hne:(o != n)=true:=by simpa using hon
          have HON:=Lib.hid hon;clear hon
          go_upto_region 12 with(first
           | (refine ldB 23 14 H14.out Tryz.underlying23 ?_)
           | (go_at_fn 207;refine(HP.out _ (HX.out.trans (HS.out.ext.trans HX3.out))).mono ?_;rintro e W4 ⟨rfl,hx⟩;have HX4:=xEx HX3 hx;replace H14:=aEx H14 hx;clear hx)
           | (go_at_fn G;refine(HCC.out _ (HS.out.ext.trans HX4.out)).mono ?_;rintro e W5 ⟨rfl,hx⟩;have HX5:=xEx HX4 hx;replace H14:=aEx H14 hx;clear hx))
          have HS5:=Lib.hid (HS.out.more HX5.out);clear hne
          (try simp only[Act.put,List.setIfInBounds_toArray,List.set_cons_zero,List.set_cons_succ])
          refine wp_region_app1 (w:=W5) [some _,some (.agg #[.int .i64 p.x,.int .i64 p.y,.int .i64 p.z]),some (.int .i64 o),some (.func (.func G) #[] cb),some (.agg #[.int .i64 p.x,.int .i64 p.y,.int .i64 p.z]),some (.int .i64 n),some (.agg #[.int .i64 p.x,.int .i64 p.y,.int .i64 p.z,.int .i64 o,.int .i64 n])] 7 38 58 58 52 59 60 6 0 [.int .i64 p.x,.int .i64 p.y,.int .i64 p.z,.int .i64 o,.int .i64 n] (rowsC l).flatten hm HS5.out.row HS5.out.base.2 infoCh Tryz.underlying38 HL5.out ?_ ?_
          · refine c_ s_mv ?_;refine c_ (s_row H14 Tryz.underlying23) ?_;refine c_ s_mv ?_;refine c_ s_mv ?_;refine c_ (s_row H14 Tryz.underlying23) ?_;refine c_ (s_callv (us:=[.agg #[.int .i64 p.x,.int .i64 p.y,.int .i64 p.z]]) eg (fun w1 hx=>HCC.out w1 ((HS.out.ext.trans HX5.out).trans hx))) ?_;refine c_ (s_run3 53 54 57 (hr:=fun b w1 _ e f k=>by unfold execOp;simp[e,f,k,Act.eval,go_sem])) ?_;exact trivial
          intro g9 v9 w8 w9 hx8 hg9 ho9 _;simp only[fillM,Act.put,List.getElem?_cons_zero,List.getElem?_cons_succ,Option.join_some,Option.getD_some,List.setIfInBounds_toArray,List.set_cons_zero,List.set_cons_succ,Nat.zero_add,Nat.reduceAdd,Nat.reduceLT,Nat.reduceEqDiff,Nat.lt_irrefl,if_true,if_false];have HS9:=Lib.hid ((HS5.out.more hx8).app (x:=⟨p,o,n⟩) ho9 hg9);clear hx8 hg9 ho9;go_wp2
          go_roundw
          case rel=>exact⟨k+1,hkl,by rw[HWK.out],Lib.hid (by rw[HST.out];exact HS9.out)⟩
          case measure=>rw[HWK.out];exact HMS.out
      · obtain rfl:k=L.length:=by omega
        rw[List.take_length,HEQ.out]at HS;clear hk hkl;go_wp2
        go_ret2
        refine⟨_,0,_,.inr ⟨HKC.out,?_⟩,rfl,own_low_mono HX.out.size HS.out.row,HX.out.trans HS.out.ext⟩
        by_cases h5:x.kind=5
        · exact .inr ⟨h5,r,0,HY5.out h5,rfl,.inr ⟨rfl,rfl⟩⟩
        · obtain⟨_,hr⟩:=HN5.out h5;exact .inl ⟨h5,by rw[hr],rfl⟩
   · have HE:=Lib.hid he;have hne:(er != 0)=true:=by simpa using he
     clear he;go_wp2
     go_ret2
     refine⟨[],er,_,.inr ⟨HKC.out,?_⟩,rfl,OwC.nil _ _,HX.out⟩
     by_cases h5:x.kind=5
     · exact .inr ⟨h5,r,er,HY5.out h5,rfl,.inl ⟨HE.out,rfl⟩⟩
     · exact absurd (HN5.out h5).1 HE.out
 · have HKC:=Lib.hid hck;obtain⟨ce,hce⟩:∃ ce,ce=checkE x d m:=⟨_,rfl⟩;rw[← hce]at HCK hck;have HE:=Lib.hid hce;have hne:(ce != 0)=true:=by simpa using hck
   clear hce hck hR hA hst hs hft hv hb hln
   go_enter Tryz.func12,Tryz.ntmps12
   go_upto_region 1 with fail
   rw[← hW];clear hW
   go_wp2_with (first
    | (refine ldB 32 5 H5.out Tryz.underlying32 ?_) | (refine ldB 32 5 (H5.out.alloc _) Tryz.underlying32 ?_) | (refine ldB 32 5 ((H5.out.alloc _).alloc _) Tryz.underlying32 ?_)
    | (go_at_call 35;refine(HCK.out _ HX.out).mono ?_;rintro e W1 ⟨rfl,hx⟩;replace HX:=xEx HX hx;replace H5:=aEx H5 hx;clear hx))
   go_ret2
   exact⟨[],ce,_,.inl ⟨HKC.out,rfl,HE.out⟩,rfl,OwC.nil _ _,HX.out⟩
theorem CloneI_any(A:Option Addr)(c:Nat)(l:List Int)(w:World)(hs:Sv w w.heap.size 1 A c (rowsI l))(hb:l.length≤100000):
    Calls Tryz.prog 132 #[.slice A l.length c] w fun en w'=>∃ v,en = .returned v∧w'.ownsRow w.heap.size 3 1 v l.length (rowsI l).flatten∧Ext w w':=by
 have qT:∀ (w:World) (a:Option Addr) (n c n' c':Nat),(binOp .eql 26 (.slice a n c) (.slice none n' c')).run Tryz.prog w = .ok (.bool a.isNone) w:=fun w a n c n' c'=>Lib.run_eql_slice_nil w _ _ a n c n' c' Tryz.underlying26
 cases A with
 | none=>
   have hl:l = []:=by
    apply List.eq_nil_of_length_eq_zero
    rcases Nat.eq_zero_or_pos l.length with h | h
    · exact h
    · obtain⟨_,_,h,_⟩:=hs.mem (by rw[rowsI_length];exact h)
      cases h
   subst hl;clear hs
   go_enter Tryz.func132,Tryz.ntmps132
   go_wp2
   go_ret
   exact⟨_,rfl,World.ownsRow_nil _ _ _ _,Ext.refl _⟩
 | some ad=>
   have hx0:Ext w (w.alloc (.cells #[] 3)):=(Ext.refl w).alloc _;have HS:=Lib.hid (hs.ext hx0);have HX:=Lib.hid hx0;obtain⟨i0,hi,hz0,hz1,hz2⟩:=info_parts infoInt;have HI:=Lib.hid hi;have HZ:=Lib.hid hz0;have HZ1:=Lib.hid hz1;have HZ2:=Lib.hid hz2;clear hi hz0 hz1 hz2 hs hx0
   go_enter Tryz.func132,Tryz.ntmps132
   go_upto_region 3 with fail
   go_wp2_with (at_builtin;refine wpList_append_sv _ rfl (.tmp 5) (.tmp 6) 26 rfl w.heap.size 3 i0 (.int .i64 0) 1 8 Tryz.underlying26 HI.out HZ.out HZ1.out HZ2.out rfl (by decide) _ 0 [] rfl (own_zero w 3 1) (w.alloc (.cells #[] 3)).heap.size (some ad) l.length c (rowsI l) rfl HS.out (by rw[rowsI_length]) (by unfold maxLen;omega) (by omega) HX.out.size ?_)
   intro v2 w2 g1 g2 _;have hx2:Ext w w2:=HX.out.grown g2 (own_low (own_zero w 3 1));obtain⟨A1,m1,c1,rfl⟩:=store_form g1;have HG:=Lib.hid g1;have HX2:=Lib.hid hx2;clear g1 g2 hx2;go_wp2
   go_ret
   exact⟨_,rfl,by simpa using HG.out,HX2.out⟩
theorem CloneC_any(A:Option Addr)(c:Nat)(l:List Chg)(w:World)(hs:Sv w w.heap.size 5 A c (rowsC l))(hb:l.length≤100000):
    Calls Tryz.prog 42 #[.slice A l.length c] w fun en w'=>∃ v,en = .returned v∧w'.ownsRow w.heap.size 58 5 v l.length (rowsC l).flatten∧Ext w w':=by
 have qT:∀ (w:World) (a:Option Addr) (n c n' c':Nat),(binOp .eql 38 (.slice a n c) (.slice none n' c')).run Tryz.prog w = .ok (.bool a.isNone) w:=fun w a n c n' c'=>Lib.run_eql_slice_nil w _ _ a n c n' c' Tryz.underlying38
 cases A with
 | none=>
   have hl:l = []:=by
    apply List.eq_nil_of_length_eq_zero
    rcases Nat.eq_zero_or_pos l.length with h | h
    · exact h
    · obtain⟨_,_,h,_⟩:=hs.mem (by rw[rowsC_length];exact h)
      cases h
   subst hl;clear hs
   go_enter Tryz.func42,Tryz.ntmps42
   go_wp2
   go_ret
   exact⟨_,rfl,World.ownsRow_nil _ _ _ _,Ext.refl _⟩
 | some ad=>
   have hx0:Ext w (w.alloc (.cells #[] 58)):=(Ext.refl w).alloc _;have HS:=Lib.hid (hs.ext hx0);have HX:=Lib.hid hx0;obtain⟨i0,hi,hz0,hz1,hz2⟩:=info_parts infoCh;have HI:=Lib.hid hi;have HZ:=Lib.hid hz0;have HZ1:=Lib.hid hz1;have HZ2:=Lib.hid hz2;clear hi hz0 hz1 hz2 hs hx0
   go_enter Tryz.func42,Tryz.ntmps42
   go_upto_region 3 with fail
   go_wp2_with (at_builtin;refine wpList_append_sv _ rfl (.tmp 5) (.tmp 6) 38 rfl w.heap.size 58 i0 (.agg #[.int .i64 0,.int .i64 0,.int .i64 0,.int .i64 0,.int .i64 0]) 5 40 Tryz.underlying38 HI.out HZ.out HZ1.out HZ2.out rfl (by decide) _ 0 [] rfl (own_zero w 58 5) (w.alloc (.cells #[] 58)).heap.size (some ad) l.length c (rowsC l) rfl HS.out (by rw[rowsC_length]) (by unfold maxLen;omega) (by omega) HX.out.size ?_)
   intro v2 w2 g1 g2 _;have hx2:Ext w w2:=HX.out.grown g2 (own_low (own_zero w 58 5));obtain⟨A1,m1,c1,rfl⟩:=store_form g1;have HG:=Lib.hid g1;have HX2:=Lib.hid hx2;clear g1 g2 hx2;go_wp2
   go_ret
   exact⟨_,rfl,by simpa using HG.out,HX2.out⟩
structure WpS (g:Gr) (A:Option Addr) (c:Nat) (Al:Option Addr) (cl:Nat) (l:List Chg) (B bl bg gb c':Nat) (w:World) (cs:List Int) (wr:World):Prop where
 row:wr.ownsRow B 3 1 (.slice (some ⟨gb,0,none⟩) g.cells.length c') g.cells.length (rowsI cs).flatten
 a1:Arr wr bl 38 [.slice Al l.length cl]
 a2:Arr wr bg 28 [.int .i64 g.box.lo.x,.int .i64 g.box.lo.y,.int .i64 g.box.lo.z,.int .i64 g.box.hi.x,.int .i64 g.box.hi.y,.int .i64 g.box.hi.z,.slice A g.cells.length c]
 ls:Sv wr B 5 Al cl (rowsC l)
 len:cs.length=g.cells.length
 gr:w.grownBy wr (some gb)
 lo:bl < B∧bg < B∧B≤gb∧B≤wr.heap.size∧gb < w.heap.size
section
variable {g:Gr} {A:Option Addr} {c:Nat} {Al:Option Addr} {cl:Nat} {l:List Chg} {B bl bg gb c':Nat} {w:World} {cs:List Int} {wr w2:World}
theorem WpS.more(h:WpS g A c Al cl l B bl bg gb c' w cs wr)(hx:Ext wr w2):WpS g A c Al cl l B bl bg gb c' w cs w2:=
 ⟨own_ext h.row hx,h.a1.ext hx,h.a2.ext hx,h.ls.keep (fun _p hp=>hx.cell (Nat.lt_of_lt_of_le hp h.lo.2.2.2.1)),h.len,grown_ext h.gr hx,h.lo.1,h.lo.2.1,h.lo.2.2.1,Nat.le_trans h.lo.2.2.2.1 hx.size,h.lo.2.2.2.2⟩
theorem WpS.put(h:WpS g A c Al cl l B bl bg gb c' w cs wr)(j:Nat)(v:Int):WpS g A c Al cl l B bl bg gb c' w (cs.set j v) (wr.setCell ⟨gb,j,none⟩ (.int .i64 v)):=by
 have hs:=h.row.stored j (.int .i64 v);obtain⟨l1,l2,l3,l4,l5⟩:=h.lo;refine⟨?_,h.a1.other (by simp;omega) _,h.a2.other (by simp;omega) _,h.ls.keep (fun p hp=>?_),by rw[List.length_set];exact h.len,grown_set h.gr j _,l1,l2,l3,by rw[World.size_setCell_];exact l4,l5⟩
 · rw[← rowsI_flat_set];exact hs.1
 · exact World.cell?_of_block (hs.2.block p.block (by omega) (fun e=>by injection e with e;omega))
end
theorem Write1_any{g:Gr}{A:Option Addr}{c:Nat}{Al:Option Addr}{cl:Nat}{l:List Chg}{B bl bg gb c':Nat}{w:World}(hv:validG g=true)(hln:g.cells.length≤100000)(hll:l.length≤1000000)(h:WpS g A c Al cl l B bl bg gb c' w g.cells w):
    Calls Tryz.prog 90 #[.slice (some ⟨gb,0,none⟩) g.cells.length c',.pointer (some ⟨bl,0,none⟩),.pointer (some ⟨bg,0,none⟩)] w fun e w'=>e = .returned (.tuple #[])∧WpS g A c Al cl l B bl bg gb c' w (writeC g.box g.cells l) w':=by
 obtain⟨sx,sy,sz,G⟩:=good_of hv;have HGD:=Lib.hid G;have H0:=Lib.hid h;have c1:=h.a1.cell 0;have l1:=h.a1.lt;simp only[List.getElem?_cons_zero]at c1;have HLN:=Lib.hid hln;have HLL:=Lib.hid hll;clear h hv G hln hll
 go_enter Tryz.func90,Tryz.ntmps90
 go_upto_region 1 with fail
 clear c1 l1
 go_loopw [9] (fun i wr=>∃ k:Nat,k≤l.length∧i = .int .i64 k∧Hid (WpS g A c Al cl l B bl bg gb c' w (writeC g.box g.cells (l.take k)) wr)) (fun i _=>l.length - (intOf i).toNat)
 case atStart=>exact⟨0,Nat.zero_le _,rfl,H0⟩
 case round=>
  clear H0;obtain⟨k,hk,rfl,HS⟩:=hrel
  by_cases hlt:k < l.length
  · obtain⟨x,hx⟩:∃ x,l[k]? = some x:=⟨_,List.getElem?_eq_getElem hlt⟩;have hn:=writeC_take (b:=g.box) (cs:=g.cells) hx;generalize writeC g.box g.cells (l.take k)=cs at HS hn;have HN:=Lib.hid hn;obtain⟨b,off,rfl,hbl,r0,r1,r2,r3,r4⟩:=chg_row HS.out.ls hx;have hbl2:=Nat.lt_of_lt_of_le hbl HS.out.lo.2.2.2.1;have HMS:=Lib.hid (show l.length - (k+1) < l.length - k by omega);have HWK:=Lib.hid (show wrap64 ((k:Int)+1)=((k+1:Nat):Int)by have:=HLL.out;unfold wrap64;omega);clear hx hn hbl
    go_upto_region 3 with(refine wpList_store_blk2 58 (.tmp 5) (.tmp 12) rfl rfl (Arr.new wr 58 [.int .i64 0,.int .i64 0,.int .i64 0,.int .i64 0,.int .i64 0]) [.int .i64 x.at_.x,.int .i64 x.at_.y,.int .i64 x.at_.z,.int .i64 x.old,.int .i64 x.new] rfl rfl (by kernel_rfl) rfl rfl rfl ?_;intro W3 hW;have HX3:=xNew (Lib.hid (Ext.refl wr)) hW;have H5:=nNew hW;clear hW)
    clear r0 r1 r2 r3 r4 hbl2;replace HS:=Lib.hid (HS.out.more HX3.out);obtain⟨b5,hb5⟩:∃ n,n=wr.heap.size:=⟨_,rfl⟩;rw[← hb5]at H5 ⊢;clear hb5;have HI:=Lib.hid (Index_any g.box x.at_)
    cases hin:inP x.at_ g.box
    · rw[hin]at HI;have HN2:=Lib.hid (show writeC g.box g.cells (l.take (k+1))=cs by rw[HN.out];unfold setC;rw[hin];rfl);clear hin
      go_wp2_with (first
       | (refine wpList_load_part 25 (.tmp 13) rfl rfl HS.out.a2 0 [.int .i64 g.box.lo.x,.int .i64 g.box.lo.y,.int .i64 g.box.lo.z,.int .i64 g.box.hi.x,.int .i64 g.box.hi.y,.int .i64 g.box.hi.z] rfl rfl _ Tryz.underlying25 rfl (by kernel_rfl) ?_) | (refine wpList_load_part 25 (.tmp 13) rfl rfl (HS.out.a2.alloc _) 0 [.int .i64 g.box.lo.x,.int .i64 g.box.lo.y,.int .i64 g.box.lo.z,.int .i64 g.box.hi.x,.int .i64 g.box.hi.y,.int .i64 g.box.hi.z] rfl rfl _ Tryz.underlying25 rfl (by kernel_rfl) ?_) | (refine wpList_load_part 23 (.tmp 15) rfl rfl H5.out 0 [.int .i64 x.at_.x,.int .i64 x.at_.y,.int .i64 x.at_.z] rfl rfl _ Tryz.underlying23 rfl (by kernel_rfl) ?_) | (refine wpList_load_part 23 (.tmp 15) rfl rfl (H5.out.alloc _) 0 [.int .i64 x.at_.x,.int .i64 x.at_.y,.int .i64 x.at_.z] rfl rfl _ Tryz.underlying23 rfl (by kernel_rfl) ?_)
       | (go_at_call 91;refine(HI.out _).mono ?_;rintro e W4 ⟨rfl,hx⟩;replace HS:=Lib.hid (HS.out.more hx);clear hx))
      go_roundw
      case rel=>exact⟨k+1,hlt,by rw[HWK.out],by rw[HN2.out];exact HS⟩
      case measure=>rw[HWK.out];exact HMS.out
    · have hid:=(HGD.out.idx hin).1;have hw:=HGD.out.idxW hin;obtain⟨j,hj⟩:∃ j,j=idxG g sx sy x.at_:=⟨_,rfl⟩;rw[← hj]at hid hw;rw[hin,hw]at HI;simp only[if_true]at HI;have HN2:=Lib.hid (show writeC g.box g.cells (l.take (k+1))=cs.set j x.new by rw[HN.out];unfold setC;rw[hin,hw];rfl);have hjn:j < g.cells.length:=hid;have hgl:=HLN.out;clear hin hw hj hid
      go_upto_region 5 with(first
       | (refine wpList_load_part 25 (.tmp 13) rfl rfl HS.out.a2 0 [.int .i64 g.box.lo.x,.int .i64 g.box.lo.y,.int .i64 g.box.lo.z,.int .i64 g.box.hi.x,.int .i64 g.box.hi.y,.int .i64 g.box.hi.z] rfl rfl _ Tryz.underlying25 rfl (by kernel_rfl) ?_) | (refine wpList_load_part 25 (.tmp 13) rfl rfl (HS.out.a2.alloc _) 0 [.int .i64 g.box.lo.x,.int .i64 g.box.lo.y,.int .i64 g.box.lo.z,.int .i64 g.box.hi.x,.int .i64 g.box.hi.y,.int .i64 g.box.hi.z] rfl rfl _ Tryz.underlying25 rfl (by kernel_rfl) ?_) | (refine wpList_load_part 23 (.tmp 15) rfl rfl H5.out 0 [.int .i64 x.at_.x,.int .i64 x.at_.y,.int .i64 x.at_.z] rfl rfl _ Tryz.underlying23 rfl (by kernel_rfl) ?_) | (refine wpList_load_part 23 (.tmp 15) rfl rfl (H5.out.alloc _) 0 [.int .i64 x.at_.x,.int .i64 x.at_.y,.int .i64 x.at_.z] rfl rfl _ Tryz.underlying23 rfl (by kernel_rfl) ?_)
       | (go_at_call 91;refine(HI.out _).mono ?_;rintro e W4 ⟨rfl,hx⟩;replace HS:=Lib.hid (HS.out.more hx);replace H5:=aEx H5 hx;clear hx))
      have c5:=H5.out.cell;have l5:=H5.out.lt;obtain⟨v0,q0⟩:=own_slot HS.out.row j (by omega);have q1:=HS.out.row.frozenAt j;have q2:=own_blt HS.out.row gb rfl;go_wp2
      go_roundw
      case rel=>exact⟨k+1,hlt,by rw[HWK.out],by rw[HN2.out];exact Lib.hid (HS.out.put j x.new)⟩
      case measure=>rw[HWK.out];exact HMS.out
  · obtain rfl:k=l.length:=by omega
    rw[List.take_length]at HS;go_wp2
    go_end0
    exact⟨rfl,HS.out⟩
def RetGr(b:Bx)(cs:List Int)(w:World)(en:Ending)(w':World):Prop:=∃ u,en = .returned (.agg #[.int .i64 b.lo.x,.int .i64 b.lo.y,.int .i64 b.lo.z,.int .i64 b.hi.x,.int .i64 b.hi.y,.int .i64 b.hi.z,u])∧w'.ownsRow w.heap.size 3 1 u cs.length (rowsI cs).flatten∧Ext w w'
theorem changed_any{g:Gr}{A:Option Addr}{c:Nat}{G:FuncId}{cb:Array Value}{cs:List Int}{w:World}(hs:Sv w w.heap.size 1 A c (rowsI g.cells))(hb:g.cells.length≤100000)(h0:0 < g.cells.length)(hcs:cs.length=g.cells.length)(eg:∀ args w,(callFunc G args).run Tryz.prog w = .ok (.enter G args) w)
    (HF:∀ W gb c',Ext w W→W.ownsRow w.heap.size 3 1 (.slice (some ⟨gb,0,none⟩) g.cells.length c') g.cells.length (rowsI g.cells).flatten→Calls Tryz.prog G (#[.slice (some ⟨gb,0,none⟩) g.cells.length c']++cb) W fun e w'=>e = .returned (.tuple #[])∧w'.ownsRow w.heap.size 3 1 (.slice (some ⟨gb,0,none⟩) g.cells.length c') g.cells.length (rowsI cs).flatten∧W.grownBy w' (some gb)):
    Calls Tryz.prog 89 #[.agg #[.int .i64 g.box.lo.x,.int .i64 g.box.lo.y,.int .i64 g.box.lo.z,.int .i64 g.box.hi.x,.int .i64 g.box.hi.y,.int .i64 g.box.hi.z,.slice A g.cells.length c],.func (.func G) #[] cb] w (RetGr g.box cs w):=by
 obtain⟨W0,hW⟩:∃ W,W=(w.alloc (.cells #[.int .i64 g.box.lo.x,.int .i64 g.box.lo.y,.int .i64 g.box.lo.z,.int .i64 g.box.hi.x,.int .i64 g.box.hi.y,.int .i64 g.box.hi.z,.slice A g.cells.length c] 28)).alloc (.cells #[.int .i64 0,.int .i64 0,.int .i64 0,.int .i64 0,.int .i64 0,.int .i64 0,.slice none 0 0] 28):=⟨_,rfl⟩;have HX:=Lib.hid (show Ext w W0 by rw[hW];exact((Ext.refl w).alloc _).alloc _);have H2:=Lib.hid (show Arr W0 w.heap.size 28 [.int .i64 g.box.lo.x,.int .i64 g.box.lo.y,.int .i64 g.box.lo.z,.int .i64 g.box.hi.x,.int .i64 g.box.hi.y,.int .i64 g.box.hi.z,.slice A g.cells.length c]by rw[hW];exact(Arr.new w _ [.int .i64 g.box.lo.x,.int .i64 g.box.lo.y,.int .i64 g.box.lo.z,.int .i64 g.box.hi.x,.int .i64 g.box.hi.y,.int .i64 g.box.hi.z,.slice A g.cells.length c]).alloc _);have H4:=Lib.hid (show Arr W0 (w.heap.size+1) 28 [.int .i64 0,.int .i64 0,.int .i64 0,.int .i64 0,.int .i64 0,.int .i64 0,.slice none 0 0]by rw[hW];exact Arr.new1 w _ _ [.int .i64 0,.int .i64 0,.int .i64 0,.int .i64 0,.int .i64 0,.int .i64 0,.slice none 0 0]);have HSZ:=Lib.hid (show w.heap.size+1 < W0.heap.size by rw[hW];simp only[World.size_alloc_];omega);have HCL:=Lib.hid (fun(W:World) (hx:Ext w W)=>CloneI_any A c g.cells W (hs.ext hx) hb);have HFF:=Lib.hid HF;have HCS:=Lib.hid hcs;have HN:=Lib.hid h0;clear hs HF hb h0 hcs
 go_enter Tryz.func89,Tryz.ntmps89
 go_upto_region 1 with fail
 rw[← hW];clear hW;have c2:=H2.out.cell;have l2:=H2.out.lt
 go_upto_region 2 with(go_at_call 132;refine(HCL.out _ HX.out).mono ?_;rintro e W1 ⟨v,rfl,ho,hx⟩;replace H2:=aEx H2 hx;replace H4:=aEx H4 hx;have HX1:=xEx HX hx;have HO:=Lib.hid ho;clear hx ho)
 clear c2 l2;obtain⟨gb,c',rfl,_,_,hgl,hgb⟩:=own_at0 HO.out HN.out;have hsz:=HX.out.size;have HLO:=Lib.hid (show w.heap.size+1 < gb by have:=HSZ.out;omega)
 go_upto_region 3 with(go_at_fn G;refine(HFF.out _ gb c' HX1.out (own_low_mono hsz HO.out)).mono ?_;rintro e W2 ⟨rfl,ho,hg⟩;replace H2:=Lib.hid (H2.out.kept hg (fun e=>by injection e with e;have:=HLO.out;omega));replace H4:=Lib.hid (H4.out.kept hg (fun e=>by injection e with e;have:=HLO.out;omega));have HX2:=Lib.hid (HX1.out.own (own_low_mono hsz HO.out) hg (Nat.le_refl _));have HO2:=Lib.hid ho;clear ho hg)
 clear hsz hgl hgb
 go_wp2_with (first
  | (refine wpList_load_part 25 (.tmp 12) rfl rfl H2.out 0 [.int .i64 g.box.lo.x,.int .i64 g.box.lo.y,.int .i64 g.box.lo.z,.int .i64 g.box.hi.x,.int .i64 g.box.hi.y,.int .i64 g.box.hi.z] rfl rfl _ Tryz.underlying25 rfl (by kernel_rfl) ?_) | (refine wpList_load_part 25 (.tmp 12) rfl rfl (H2.out.alloc _) 0 [.int .i64 g.box.lo.x,.int .i64 g.box.lo.y,.int .i64 g.box.lo.z,.int .i64 g.box.hi.x,.int .i64 g.box.hi.y,.int .i64 g.box.hi.z] rfl rfl _ Tryz.underlying25 rfl (by kernel_rfl) ?_)
  | (refine wpList_store_blk2 28 (.tmp 4) (.tmp 15) rfl rfl H4.out [.int .i64 g.box.lo.x,.int .i64 g.box.lo.y,.int .i64 g.box.lo.z,.int .i64 g.box.hi.x,.int .i64 g.box.hi.y,.int .i64 g.box.hi.z,.slice (some ⟨gb,0,none⟩) g.cells.length c'] rfl rfl (by kernel_rfl) rfl rfl rfl ?_;intro W3 hW;have H43:=nRow H4 hW;have HX3:=xRow HX2 hW (by omega);have HO3:=Lib.hid (show W3.ownsRow w.heap.size 3 1 (.slice (some ⟨gb,0,none⟩) g.cells.length c') g.cells.length (rowsI cs).flatten by rw[hW];exact own_keep HO2.out (grown_row (grown_refl _ _) _) (fun b hb hbb=>by have h1:gb=b:=(by simpa[Value.ownBlock]using hbb);injection hb with hb;have:=HLO.out;omega));clear hW))
 refine bodyPost_ret (v:=.agg #[.int .i64 g.box.lo.x,.int .i64 g.box.lo.y,.int .i64 g.box.lo.z,.int .i64 g.box.hi.x,.int .i64 g.box.hi.y,.int .i64 g.box.hi.z,.slice (some ⟨gb,0,none⟩) g.cells.length c']) ?_ rfl ⟨_,rfl,by rw[HCS.out];exact HO3.out,HX3.out⟩;exact results_cell_row Tryz.results89 _ _ _ _ _ _ _ rfl H43.out Tryz.underlying28 rfl (by kernel_rfl)
theorem pWrite_any{g:Gr}{A:Option Addr}{c:Nat}{Al:Option Addr}{cl:Nat}{l:List Chg}{w:World}(hs:Sv w w.heap.size 1 A c (rowsI g.cells))(hl:Sv w w.heap.size 5 Al cl (rowsC l))(hv:validG g=true)(hb:g.cells.length≤100000)(h0:0 < g.cells.length)(hll:l.length≤1000000):
    Calls Tryz.prog 39 #[.agg #[.int .i64 g.box.lo.x,.int .i64 g.box.lo.y,.int .i64 g.box.lo.z,.int .i64 g.box.hi.x,.int .i64 g.box.hi.y,.int .i64 g.box.hi.z,.slice A g.cells.length c],.slice Al l.length cl] w (RetGr g.box (writeG g l).cells w):=by
 obtain⟨W0,hW⟩:∃ W,W=((w.alloc (.cells #[.int .i64 g.box.lo.x,.int .i64 g.box.lo.y,.int .i64 g.box.lo.z,.int .i64 g.box.hi.x,.int .i64 g.box.hi.y,.int .i64 g.box.hi.z,.slice A g.cells.length c] 28)).alloc (.cells #[.slice Al l.length cl] 38)).alloc (.cells #[.int .i64 0,.int .i64 0,.int .i64 0,.int .i64 0,.int .i64 0,.int .i64 0,.slice none 0 0] 28):=⟨_,rfl⟩;have HX:=Lib.hid (show Ext w W0 by rw[hW];exact(((Ext.refl w).alloc _).alloc _).alloc _);have HSZ:=Lib.hid (show w.heap.size+1+1 < W0.heap.size by rw[hW];simp only[World.size_alloc_];omega);have H2:=Lib.hid (show Arr W0 w.heap.size 28 [.int .i64 g.box.lo.x,.int .i64 g.box.lo.y,.int .i64 g.box.lo.z,.int .i64 g.box.hi.x,.int .i64 g.box.hi.y,.int .i64 g.box.hi.z,.slice A g.cells.length c]by rw[hW];exact((Arr.new w _ [.int .i64 g.box.lo.x,.int .i64 g.box.lo.y,.int .i64 g.box.lo.z,.int .i64 g.box.hi.x,.int .i64 g.box.hi.y,.int .i64 g.box.hi.z,.slice A g.cells.length c]).alloc _).alloc _);have H3:=Lib.hid (show Arr W0 (w.heap.size+1) 38 [.slice Al l.length cl]by rw[hW];exact(Arr.new1 w _ _ [.slice Al l.length cl]).alloc _);have H4:=Lib.hid (show Arr W0 (w.heap.size+1+1) 28 [.int .i64 0,.int .i64 0,.int .i64 0,.int .i64 0,.int .i64 0,.int .i64 0,.slice none 0 0]by rw[hW];have h:=Arr.new ((w.alloc (.cells #[.int .i64 g.box.lo.x,.int .i64 g.box.lo.y,.int .i64 g.box.lo.z,.int .i64 g.box.hi.x,.int .i64 g.box.hi.y,.int .i64 g.box.hi.z,.slice A g.cells.length c] 28)).alloc (.cells #[.slice Al l.length cl] 38)) 28 [.int .i64 0,.int .i64 0,.int .i64 0,.int .i64 0,.int .i64 0,.int .i64 0,.slice none 0 0];simp only[World.size_alloc_]at h;exact h);have HS:=Lib.hid (hs.ext HX.out);have HL:=Lib.hid (hl.ext HX.out);have HCH:=Lib.hid (changed_any (cs:=(writeG g l).cells) (G:=90) (cb:=#[.pointer (some ⟨w.heap.size+1,0,none⟩),.pointer (some ⟨w.heap.size,0,none⟩)]) HS.out hb h0 (writeC_length ..) (fun _ _=>by kernel_rfl) (fun W gb c' hx ho=>(Write1_any (B:=W0.heap.size) hv hb hll ⟨ho,H3.out.ext hx,H2.out.ext hx,HL.out.keep (fun p hp=>hx.cell hp),rfl,grown_refl _ _,by have:=HSZ.out;omega,by have:=HSZ.out;omega,own_low ho gb rfl,hx.size,own_blt ho gb rfl⟩).mono fun e w' ⟨h1,h2⟩=>⟨h1,h2.row,h2.gr⟩));clear hs hl hv hb h0 hll
 go_enter Tryz.func39,Tryz.ntmps39
 go_upto_region 1 with fail
 rw[← hW];clear hW
 go_wp2_with (first
  | (refine ldB 28 2 H2.out Tryz.underlying28 ?_) | (refine ldB 28 2 (H2.out.alloc _) Tryz.underlying28 ?_) | (refine ldB 28 2 ((H2.out.alloc _).alloc _) Tryz.underlying28 ?_)
  | (go_at_call 89;refine HCH.out.mono ?_;rintro e W1 ⟨u,rfl,ho,hx⟩;obtain⟨A',c',rfl,_⟩:=own_form ho;replace HX:=xEx HX hx;replace H4:=aEx H4 hx;have HO:=Lib.hid ho;clear ho hx)
  | (refine wpList_store_blk2 28 (.tmp 4) (.tmp 7) rfl rfl H4.out [.int .i64 g.box.lo.x,.int .i64 g.box.lo.y,.int .i64 g.box.lo.z,.int .i64 g.box.hi.x,.int .i64 g.box.hi.y,.int .i64 g.box.hi.z,.slice A' (writeG g l).cells.length c'] rfl rfl (by kernel_rfl) rfl rfl rfl ?_;intro W3 hW;have H43:=nRow H4 hW;have HX3:=xRow HX hW (by omega);have HO3:=Lib.hid (show W3.ownsRow w.heap.size 3 1 (.slice A' (writeG g l).cells.length c') (writeG g l).cells.length (rowsI (writeG g l).cells).flatten by rw[hW];exact own_low_mono (by have:=HSZ.out;omega) (own_keep HO.out (grown_row (grown_refl _ _) _) (fun b hb hbb=>by injection hb with hb;have:=own_low HO.out b hbb;have:=HSZ.out;omega)));clear hW))
 refine bodyPost_ret (v:=.agg #[.int .i64 g.box.lo.x,.int .i64 g.box.lo.y,.int .i64 g.box.lo.z,.int .i64 g.box.hi.x,.int .i64 g.box.hi.y,.int .i64 g.box.hi.z,.slice A' (writeG g l).cells.length c']) ?_ rfl ⟨_,rfl,HO3.out,HX3.out⟩;exact results_cell_row Tryz.results39 _ _ _ _ _ _ _ rfl H43.out Tryz.underlying28 rfl (by kernel_rfl)
end Go.Proofs.YtoecbicdahbccaaGreatDoor
