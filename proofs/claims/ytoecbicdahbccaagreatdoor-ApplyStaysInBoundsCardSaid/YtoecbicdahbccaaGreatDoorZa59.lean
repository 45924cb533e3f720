/- A part of the walk of the layer of apply: contracts and plain laws that a row's text leans on. -/
import Derived.Test.YtoecbicdahbccaaGreatDoorZa58
set_option maxRecDepth 100000
set_option maxHeartbeats 16000000
namespace Go.Proofs.YtoecbicdahbccaaGreatDoor
open Go Go.RowKit
theorem ApplyStaysInBounds_any{g:Gr}{A:Option Addr}{c:Nat}{x:Ed}{d m:Int}(hft:fits x)(w:World)(hR:RowsIn w)(hA:AxesIn w)(hst:StepsIn w)(hs:Sv w w.heap.size 1 A c (rowsI g.cells)):
    Calls Tryz.prog 5 #[.agg #[.int .i64 g.box.lo.x,.int .i64 g.box.lo.y,.int .i64 g.box.lo.z,.int .i64 g.box.hi.x,.int .i64 g.box.hi.y,.int .i64 g.box.hi.z,.slice A g.cells.length c],.agg #[.int .i64 x.st.tick,.int .i64 x.st.clock,.int .i64 x.st.site,.int .i64 x.st.seq,.int .i64 x.kind,.int .i64 x.box.lo.x,.int .i64 x.box.lo.y,.int .i64 x.box.lo.z,.int .i64 x.box.hi.x,.int .i64 x.box.hi.y,.int .i64 x.box.hi.z,.int .i64 x.at_.x,.int .i64 x.at_.y,.int .i64 x.at_.z,.int .i64 x.turn,.int .i64 x.cell,.int .i64 x.size],.int .i64 d,.int .i64 m] w fun e w'=>e = .returned (.bool true)∧Ext w w':=by
 have hm:=mixed;have hG:=near_old;have HSN:=Lib.hid (fun(W:World) (hx:Ext w W)=>sanity_any W (hR.ext hx) (hA.ext hx) (hst.ext hx));have HF:=Lib.hid (fun(W:World) (hx:Ext w W)=>fits26_any (d:=d) (m:=m) W (hs.ext hx));have HOV:=Lib.hid (Over_any g A c);have HCH:=Lib.hid (fun(h:FitsP g d m) (W:World) (hx:Ext w W)=>Changes_any (x:=x) (m:=m) (A:=A) (c:=c) h.dd hft h.val (by have:=h.len;omega) h.box W (hR.ext hx) (hA.ext hx) (hst.ext hx) (hs.ext hx));have HGT:=Lib.hid (fun(h:FitsP g d m) (p:Pt) (W:World) (hx:Ext w W)=>refGetM_any (g:=g) (A:=A) (c:=c) h.val p W (hs.ext hx));have HFT:=Lib.hid hft;obtain⟨W0,hW⟩:∃ W,W=(w.alloc (.cells #[.int .i64 g.box.lo.x,.int .i64 g.box.lo.y,.int .i64 g.box.lo.z,.int .i64 g.box.hi.x,.int .i64 g.box.hi.y,.int .i64 g.box.hi.z,.slice A g.cells.length c] 28)).alloc (.cells #[.int .i64 x.st.tick,.int .i64 x.st.clock,.int .i64 x.st.site,.int .i64 x.st.seq,.int .i64 x.kind,.int .i64 x.box.lo.x,.int .i64 x.box.lo.y,.int .i64 x.box.lo.z,.int .i64 x.box.hi.x,.int .i64 x.box.hi.y,.int .i64 x.box.hi.z,.int .i64 x.at_.x,.int .i64 x.at_.y,.int .i64 x.at_.z,.int .i64 x.turn,.int .i64 x.cell,.int .i64 x.size] 32):=⟨_,rfl⟩;have HX:=Lib.hid (show Ext w W0 by rw[hW];exact((Ext.refl w).alloc _).alloc _);have H4:=Lib.hid (show Arr W0 w.heap.size 28 [.int .i64 g.box.lo.x,.int .i64 g.box.lo.y,.int .i64 g.box.lo.z,.int .i64 g.box.hi.x,.int .i64 g.box.hi.y,.int .i64 g.box.hi.z,.slice A g.cells.length c]by rw[hW];exact(Arr.new w _ [.int .i64 g.box.lo.x,.int .i64 g.box.lo.y,.int .i64 g.box.lo.z,.int .i64 g.box.hi.x,.int .i64 g.box.hi.y,.int .i64 g.box.hi.z,.slice A g.cells.length c]).alloc _);have H5:=Lib.hid (show Arr W0 (w.heap.size+1) 32 [.int .i64 x.st.tick,.int .i64 x.st.clock,.int .i64 x.st.site,.int .i64 x.st.seq,.int .i64 x.kind,.int .i64 x.box.lo.x,.int .i64 x.box.lo.y,.int .i64 x.box.lo.z,.int .i64 x.box.hi.x,.int .i64 x.box.hi.y,.int .i64 x.box.hi.z,.int .i64 x.at_.x,.int .i64 x.at_.y,.int .i64 x.at_.z,.int .i64 x.turn,.int .i64 x.cell,.int .i64 x.size]by rw[hW];exact Arr.new1 w _ _ [.int .i64 x.st.tick,.int .i64 x.st.clock,.int .i64 x.st.site,.int .i64 x.st.seq,.int .i64 x.kind,.int .i64 x.box.lo.x,.int .i64 x.box.lo.y,.int .i64 x.box.lo.z,.int .i64 x.box.hi.x,.int .i64 x.box.hi.y,.int .i64 x.box.hi.z,.int .i64 x.at_.x,.int .i64 x.at_.y,.int .i64 x.at_.z,.int .i64 x.turn,.int .i64 x.cell,.int .i64 x.size]);clear hR hA hst hs hft
 go_enter Tryz.func5,Tryz.ntmps5
 go_upto_region 1 with fail
 rw[← hW];clear hW
 go_upto_region 2 with(first
  | (refine ldB 28 4 H4.out Tryz.underlying28 ?_)
  | (go_at_call 9;refine(HF.out _ HX.out).mono ?_;rintro e W1 ⟨bf,rfl,hf,hx⟩;replace HX:=xEx HX hx;replace H4:=aEx H4 hx;replace H5:=aEx H5 hx;have HFP:=Lib.hid hf;clear hx hf))
 by_cases hok:bf=true∧m≤256
 rotate_left 1
 · cases bf
   · clear hok
     go_wp2_with (go_at_call 10;refine(HSN.out _ HX.out).mono ?_;rintro e Ws ⟨rfl,hx⟩;replace HX:=xEx HX hx;clear hx)
     go_ret
     exact⟨rfl,HX.out⟩
   · have hm3:256 < m:=by
       by_cases h:m≤256
       · exact absurd ⟨rfl,h⟩ hok
       · omega
     clear hok
     go_wp2_with (go_at_call 10;refine(HSN.out _ HX.out).mono ?_;rintro e Ws ⟨rfl,hx⟩;replace HX:=xEx HX hx;clear hx)
     go_ret
     exact⟨rfl,HX.out⟩
 obtain⟨rfl,hm2⟩:=hok;have hm3:¬ 256 < m:=by omega
 have HM:=Lib.hid hm2;replace HFP:=Lib.hid (HFP.out rfl);replace HCH:=Lib.hid (HCH.out HFP.out);replace HGT:=Lib.hid (HGT.out HFP.out);clear hm2 HF
 go_upto_region 4 with fail
 (try simp only[Act.put,List.setIfInBounds_toArray,List.set_cons_zero,List.set_cons_succ])
 refine wp_region_mix [some (.agg #[.int .i64 g.box.lo.x,.int .i64 g.box.lo.y,.int .i64 g.box.lo.z,.int .i64 g.box.hi.x,.int .i64 g.box.hi.y,.int .i64 g.box.hi.z,.slice A g.cells.length c]),some (.iface 73 (.agg #[.int .i64 g.box.lo.x,.int .i64 g.box.lo.y,.int .i64 g.box.lo.z,.int .i64 g.box.hi.x,.int .i64 g.box.hi.y,.int .i64 g.box.hi.z,.slice A g.cells.length c])),some (.agg #[.int .i64 x.st.tick,.int .i64 x.st.clock,.int .i64 x.st.site,.int .i64 x.st.seq,.int .i64 x.kind,.int .i64 x.box.lo.x,.int .i64 x.box.lo.y,.int .i64 x.box.lo.z,.int .i64 x.box.hi.x,.int .i64 x.box.hi.y,.int .i64 x.box.hi.z,.int .i64 x.at_.x,.int .i64 x.at_.y,.int .i64 x.at_.z,.int .i64 x.turn,.int .i64 x.cell,.int .i64 x.size]),some (.int .i64 d),some (.int .i64 m),none,none,none,none,none,none] (fun i v w'=>if i=5 then(TuV g x d m w.heap.size v w')else(if i=6 then(TuV g x d m w.heap.size v w')else(if i=7 then(ChV g x d m w.heap.size v w')else(if i=8 then(ErV g x d m v)else(if i=9 then(ChV g x d m w.heap.size v w')else(if i=10 then(ErV g x d m v)else(True))))))) hm (by kernel_rfl) (by kernel_rfl) rfl ?_ ?_ ?_
 · exact g_if (fun v w1 w2 hx h=>((fun h=>h.ext hx)) h) (g_if (fun v w1 w2 hx h=>((fun h=>h.ext hx)) h) (g_if (fun v w1 w2 hx h=>((fun h=>h.ext hx)) h) (g_if (fun v w1 w2 hx h=>((fun h=>h)) h) (g_if (fun v w1 w2 hx h=>((fun h=>h.ext hx)) h) (g_if (fun v w1 w2 hx h=>((fun h=>h)) h) (g_true))))))
 · refine c_ (s_row H4 Tryz.underlying28) ?_;refine c_ (s_call fun w1 hx=>HOV.out w1) ?_;refine c_ (s_row H5 Tryz.underlying32) ?_;refine c_ s_mv ?_;refine c_ s_mv ?_;refine c_ (s_callG fun w1 hx=>(show Calls Tryz.prog 12 _ w1 fun e w'=>∃ v,e = .returned v∧Ext w1 w'∧(TuV g x d m w.heap.size v w')from(HCH.out w1 (HX.out.trans hx)).mono fun e w2 ⟨l,er,v,h1,h2,h3,h4⟩=>⟨_,h2,h4,v,_,rfl,⟨l,er,h1,own_low_mono (Nat.le_trans HX.out.size hx.size) h3⟩,l,er,h1,rfl⟩).mono fun e w' ⟨v,h1,h2,h3⟩=>⟨v,h1,h2,h3⟩) ?_;refine c_ (s_by (.inl rfl) fun b w1 h K hK=>?_) ?_
   · have hx:=h.ext;replace hK:∀ v w',Ext w1 w'→(TuV g x d m w.heap.size v w')→K (b.put (some 27) v) w':=fun v w' h1 h2=>hK v w' h1 (GdM.prop rfl h2);obtain⟨v33,g33,e33⟩:=h.dep 5 rfl;have g33:TuV g x d m w.heap.size v33 w1:=g33;obtain⟨uq,uq2,rfl,hoq,hoq2⟩:=g33;have e33:=e33 33 rfl;exact op_move rfl (eval_of e33) (hK _ w1 (Ext.refl _) ⟨uq,uq2,rfl,hoq,hoq2⟩)
   refine c_ (s_by (.inl rfl) fun b w1 h K hK=>?_) ?_
   · have hx:=h.ext;replace hK:∀ v w',Ext w1 w'→(ChV g x d m w.heap.size v w')→K (b.put (some 34) v) w':=fun v w' h1 h2=>hK v w' h1 (GdM.prop rfl h2);obtain⟨v27,g27,e27⟩:=h.dep 6 rfl;have g27:TuV g x d m w.heap.size v27 w1:=g27;obtain⟨uq,uq2,rfl,hoq,hoq2⟩:=g27;have e27:=e27 27 rfl;exact op_run (by unfold execOp;simp[e27,Act.eval,go_sem]) (hK _ w1 (Ext.refl _) hoq)
   refine c_ (s_by (.inl rfl) fun b w1 h K hK=>?_) ?_
   · have hx:=h.ext;replace hK:∀ v w',Ext w1 w'→(ErV g x d m v)→K (b.put (some 35) v) w':=fun v w' h1 h2=>hK v w' h1 (GdM.prop rfl h2);obtain⟨v27,g27,e27⟩:=h.dep 6 rfl;have g27:TuV g x d m w.heap.size v27 w1:=g27;obtain⟨uq,uq2,rfl,hoq,hoq2⟩:=g27;have e27:=e27 27 rfl;exact op_run (by unfold execOp;simp[e27,Act.eval,go_sem]) (hK _ w1 (Ext.refl _) hoq2)
   refine c_ (s_by (.inl rfl) fun b w1 h K hK=>?_) ?_
   · have hx:=h.ext;replace hK:∀ v w',Ext w1 w'→(ChV g x d m w.heap.size v w')→K (b.put (some 10) v) w':=fun v w' h1 h2=>hK v w' h1 (GdM.prop rfl h2);obtain⟨v34,g34,e34⟩:=h.dep 7 rfl;have g34:ChV g x d m w.heap.size v34 w1:=g34;have e34:=e34 34 rfl;exact op_assign rfl (eval_of e34) (hK _ w1 (Ext.refl _) g34)
   refine c_ (s_by (.inl rfl) fun b w1 h K hK=>?_) ?_
   · have hx:=h.ext;replace hK:∀ v w',Ext w1 w'→(ErV g x d m v)→K (b.put (some 11) v) w':=fun v w' h1 h2=>hK v w' h1 (GdM.prop rfl h2);obtain⟨v35,g35,e35⟩:=h.dep 8 rfl;have g35:ErV g x d m v35:=g35;have e35:=e35 35 rfl;exact op_assign rfl (eval_of e35) (hK _ w1 (Ext.refl _) g35)
   exact trivial
 intro U w9 hx hg;have g5:TuV g x d m w.heap.size (U 5) w9:=hg 5 (by decide) rfl;have g6:TuV g x d m w.heap.size (U 6) w9:=hg 6 (by decide) rfl;have g7:ChV g x d m w.heap.size (U 7) w9:=hg 7 (by decide) rfl;have g8:ErV g x d m (U 8):=hg 8 (by decide) rfl;have g9:ChV g x d m w.heap.size (U 9) w9:=hg 9 (by decide) rfl;have g10:ErV g x d m (U 10):=hg 10 (by decide) rfl;simp only[fillM,Act.put,List.getElem?_cons_zero,List.getElem?_cons_succ,Option.join_some,Option.getD_some,Option.getD_none,List.setIfInBounds_toArray,List.set_cons_zero,List.set_cons_succ,Nat.zero_add,Nat.reduceAdd];clear hg;obtain⟨l,er,hch,hrow⟩:=g9;obtain⟨l2,er2,hch2,he2⟩:=g10;obtain⟨rfl,rfl⟩:=hch.uniq hch2;rw[he2];replace HX:=xEx HX hx;replace H4:=aEx H4 hx;replace H5:=aEx H5 hx;have HC:=Lib.hid hch;obtain⟨Al,cl,hvv⟩:=own_len hrow;have HL:=Lib.hid (Sv.of_own (by rw[← hvv];exact hrow) (rowsC_rwk l) (rowsC_length l));rw[hvv];clear hx g5 g6 g7 g8 hch hch2 hrow hvv he2 HCH HOV
 rcases HC.out.ok with⟨he,rfl⟩ | ⟨rfl,r,hk⟩
 · have hne:(er != 0)=true:=by simpa using he
   clear he HC
   go_wp2_with (go_at_call 10;refine(HSN.out _ HX.out).mono ?_;rintro e Ws ⟨rfl,hx⟩;replace HX:=xEx HX hx;clear hx)
   go_ret
   exact⟨rfl,HX.out⟩
 have HK:=Lib.hid hk;have hll:=(HC.out.len HFP.out.dd);have HLL:=Lib.hid hll;have HTI:=Lib.hid (fun(W:World) hs=>tidy26_any (A:=Al) (c:=cl) hk.tidy W hs);have HBD:=Lib.hid (fun(W:World)=>refBounds_any x d (chk_ok HFT.out hk.chk).wide W);have HIB:=Lib.hid (fun(y:Chg) (hy:y∈l) (W:World)=>(show Calls Tryz.prog 18 #[.agg #[.int .i64 y.at_.x,.int .i64 y.at_.y,.int .i64 y.at_.z],.agg #[.int .i64 (boundsE x d).lo.x,.int .i64 (boundsE x d).lo.y,.int .i64 (boundsE x d).lo.z,.int .i64 (boundsE x d).hi.x,.int .i64 (boundsE x d).hi.y,.int .i64 (boundsE x d).hi.z]] W fun e w'=>e = .returned (.bool true)∧Ext W w' from by have h:=refIn_any y.at_ (boundsE x d) W;rw[ok_in HFT.out hk hy]at h;exact h));have HFA:=Lib.hid (fun(y:Chg) (hy:y∈l)=>ok_facts HFT.out (chk_ok HFT.out hk.chk).hm.1 HFP.out.lt HFP.out.val hk hy);generalize boundsE x d=bx at HBD HIB;clear hk hll HC
 go_upto_region 10 with(first
  | (go_at_call 25;refine(HTI.out _ HL.out).mono ?_;rintro e W3 ⟨rfl,hx⟩;replace HX:=xEx HX hx;replace H4:=aEx H4 hx;replace H5:=aEx H5 hx;replace HL:=Lib.hid (HL.out.ext hx);clear hx HTI)
  | (refine ldB 32 5 H5.out Tryz.underlying32 ?_)
  | (go_at_call 26;refine(HBD.out _).mono ?_;rintro e W4 ⟨rfl,hx⟩;replace HX:=xEx HX hx;replace H4:=aEx H4 hx;replace HL:=Lib.hid (HL.out.ext hx);clear hx HBD)
  | (refine wpList_store_blk2 25 (.tmp 13) (.tmp 48) rfl rfl (Arr.new W4 25 Z6) [.int .i64 bx.lo.x,.int .i64 bx.lo.y,.int .i64 bx.lo.z,.int .i64 bx.hi.x,.int .i64 bx.hi.y,.int .i64 bx.hi.z] rfl rfl (by kernel_rfl) rfl rfl rfl ?_;intro W5 hW;have HX5:=xNew (Lib.hid (Ext.refl W4)) hW;have H13:=nNew hW;replace HX:=xEx HX HX5.out;replace H4:=aEx H4 HX5.out;replace HL:=Lib.hid (HL.out.ext HX5.out);clear hW HX5))
 obtain⟨b13,hb⟩:∃ n,n=W4.heap.size:=⟨_,rfl⟩;rw[← hb]at H13 ⊢;clear hb;have HXW:=HX;have H4W:=H4
 go_loopw [14] (fun i wr=>∃ k:Nat,k≤l.length∧i = .int .i64 (k:Int)∧Hid (Ext W5 wr)) (fun i _=>l.length - (intOf i).toNat)
 case atStart=>exact⟨0,Nat.zero_le _,rfl,Lib.hid (Ext.refl _)⟩
 case round=>
  obtain⟨k,hk,rfl,HE⟩:=hrel
  by_cases hkl:k < l.length
  · obtain⟨y,hy⟩:∃ y,l[k]? = some y:=⟨_,List.getElem?_eq_getElem hkl⟩;have hym:=List.mem_of_getElem? hy;obtain⟨bL,oL,hAL,hbL,hr⟩:=chg_rng HL.out hy;subst hAL;have HR:=Lib.hid (fun(w1:World) (hx:Ext W5 w1) (i:Nat) (v:Value) (h:y.cells[i]? = some v)=>(hx.cell (p:=⟨bL,oL+k * 5+i,none⟩) hbL).trans (hr i v h));have HI:=Lib.hid (HIB.out y hym);obtain⟨_,fo,fn0,fnm⟩:=HFA.out y hym;have HG0:=Lib.hid (fun(W:World) (hx:Ext W5 W)=>HGT.out y.at_ W (HXW.out.trans hx));rw[← fo]at HG0;have HKL:=Lib.hid hkl;have HLK:=Lib.hid (show wrap64 ((k:Int)+1)=((k+1:Nat):Int)by have:=HLL.out;unfold wrap64;omega);have HMS:=Lib.hid (show l.length - (k+1) < l.length - k by omega);have f1:¬ y.new < 0:=by omega
    have f2:¬ m≤y.new:=by omega
    clear hy hym hr fo fn0 fnm;have r0:=HR.out wr HE.out 0 _ rfl;have r1:=HR.out wr HE.out 1 _ rfl;have r2:=HR.out wr HE.out 2 _ rfl;rw[Nat.add_zero]at r0;have hbl2:=Nat.lt_of_lt_of_le hbL HE.out.size;have H13r:=(H13.out.ext HE.out);have s0:=H13r.cell 0;have s1:=H13r.cell 1;have s2:=H13r.cell 2;have s3:=H13r.cell 3;have s4:=H13r.cell 4;have s5:=H13r.cell 5;have l13:=H13r.lt;simp only[List.getElem?_cons_zero,List.getElem?_cons_succ]at s0 s1 s2 s3 s4 s5;clear H13r
    go_upto_region 12 with fail
    refine wp_region_near (by assumption) (by kernel_rfl) ?_
    repeat (go_big_quiet_step ((go_at_call 18;exact near_call (HI.out _))))
    refine wpQuiet_nil ?_;intro w1 hw1;have hy:=Ext.of_near hw1;clear hw1;have HE2:=Lib.hid (HE.out.trans hy);replace H4:=Lib.hid (H4W.out.ext HE2.out);have HG:=Lib.hid (fun(W:World) (hx:Ext w1 W)=>HG0.out W (HE2.out.trans hx));clear hy r0 r1 r2 hbl2 s0 s1 s2 s3 s4 s5 l13
    go_upto_region 13 with fail
    (try simp only[Act.put,List.setIfInBounds_toArray,List.set_cons_zero,List.set_cons_succ])
    refine wp_region_val (w:=w1) [some (.bool true),some (.bool false),some (.bool false),some (.agg #[.int .i64 g.box.lo.x,.int .i64 g.box.lo.y,.int .i64 g.box.lo.z,.int .i64 g.box.hi.x,.int .i64 g.box.hi.y,.int .i64 g.box.hi.z,.slice A g.cells.length c]),some (.slice (some ⟨bL,oL,none⟩) l.length cl),some (.int .i64 k),some (.pointer (some ⟨bL,oL+k * 5,none⟩)),some (.pointer (some ⟨bL,oL+k * 5,none⟩)),some (.agg #[.int .i64 y.at_.x,.int .i64 y.at_.y,.int .i64 y.at_.z]),some (.int .i64 y.old),some (.slice (some ⟨bL,oL,none⟩) l.length cl),some (.int .i64 k),some (.pointer (some ⟨bL,oL+k * 5,none⟩)),some (.pointer (some ⟨bL,oL+k * 5+3,none⟩)),some (.int .i64 y.old),some (.bool false),some (.bool false),some (.bool false),some (.slice (some ⟨bL,oL,none⟩) l.length cl),some (.int .i64 k),some (.pointer (some ⟨bL,oL+k * 5,none⟩)),some (.pointer (some ⟨bL,oL+k * 5+4,none⟩)),some (.int .i64 y.new),some (.bool false),some (.bool false),some (.bool false),some (.slice (some ⟨bL,oL,none⟩) l.length cl),some (.int .i64 k),some (.pointer (some ⟨bL,oL+k * 5,none⟩)),some (.pointer (some ⟨bL,oL+k * 5+4,none⟩)),some (.int .i64 y.new),some (.int .i64 m),some (.bool false),some (.bool false)] hm (by kernel_rfl) (by kernel_rfl) rfl ?_ ?_ rfl rfl
    · refine c_ s_mv ?_;refine c_ (s_run1 62 (hr:=fun b w1 _ e=>by unfold execOp;simp[e,Act.eval,go_sem])) ?_;refine c_ s_mv ?_;refine c_ (s_row H4 Tryz.underlying28) ?_;refine c_ s_mv ?_;refine c_ s_mv ?_;refine c_ (s_ix HKL.out Tryz.underlying38) ?_;refine c_ (s_run1 68 (hr:=fun b w1 _ e=>by unfold execOp;simp[e,Act.eval,go_sem])) ?_;refine c_ (s_mid (fun w1 hx i v h=>HR.out w1 (HE2.out.trans hx) i v (pre3 i v h)) Tryz.underlying23) ?_;refine c_ (s_call fun w1 hx=>HG.out w1 hx) ?_;refine c_ s_mv ?_;refine c_ s_mv ?_;refine c_ (s_ix HKL.out Tryz.underlying38) ?_;refine c_ (s_run1 74 (hr:=fun b w1 _ e=>by unfold execOp;simp[e,Act.eval,go_sem])) ?_;refine c_ (s_cell 75 (fun w1 hx=>HR.out w1 (HE2.out.trans hx) 3 _ rfl) (hr:=fun b w1 e hc=>by unfold execOp;simp[e,hc,Act.eval,go_sem])) ?_;refine c_ (s_run2 71 76 (hr:=fun b w1 _ e f=>by unfold execOp;simp[e,f,Act.eval,go_sem])) ?_;refine c_ (s_run2 64 77 (hr:=fun b w1 _ e f=>by unfold execOp;simp[e,f,Act.eval,go_sem])) ?_;refine c_ s_mv ?_;refine c_ s_mv ?_;refine c_ s_mv ?_;refine c_ (s_ix HKL.out Tryz.underlying38) ?_;refine c_ (s_run1 82 (hr:=fun b w1 _ e=>by unfold execOp;simp[e,Act.eval,go_sem])) ?_;refine c_ (s_cell 83 (fun w1 hx=>HR.out w1 (HE2.out.trans hx) 4 _ rfl) (hr:=fun b w1 e hc=>by unfold execOp;simp[e,hc,Act.eval,go_sem])) ?_;refine c_ (s_run1 84 (hr:=fun b w1 _ e=>by unfold execOp;simp[e,Act.eval,go_sem,f1])) ?_;refine c_ (s_run2 79 85 (hr:=fun b w1 _ e f=>by unfold execOp;simp[e,f,Act.eval,go_sem])) ?_;refine c_ s_mv ?_;refine c_ s_mv ?_;refine c_ s_mv ?_;refine c_ (s_ix HKL.out Tryz.underlying38) ?_;refine c_ (s_run1 90 (hr:=fun b w1 _ e=>by unfold execOp;simp[e,Act.eval,go_sem])) ?_;refine c_ (s_cell 91 (fun w1 hx=>HR.out w1 (HE2.out.trans hx) 4 _ rfl) (hr:=fun b w1 e hc=>by unfold execOp;simp[e,hc,Act.eval,go_sem])) ?_;refine c_ s_mv ?_;refine c_ (s_run2 92 93 (hr:=fun b w1 _ e f=>by unfold execOp;simp[e,f,Act.eval,go_sem,f2])) ?_;refine c_ (s_run2 87 94 (hr:=fun b w1 _ e f=>by unfold execOp;simp[e,f,Act.eval,go_sem])) ?_;exact trivial
    · intro w9 hx;simp only[fillM,Act.put,List.getElem?_cons_zero,List.getElem?_cons_succ,Option.join_some,Option.getD_some,List.setIfInBounds_toArray,List.set_cons_zero,List.set_cons_succ,Nat.zero_add,Nat.reduceAdd];have HE3:=Lib.hid (HE2.out.trans hx);clear hx f1 f2;go_wp2
      go_roundw
      case rel=>exact⟨k+1,hkl,by rw[HLK.out],HE3⟩
      case measure=>rw[HLK.out];exact HMS.out
  · obtain rfl:k=l.length:=by omega
    replace HX:=Lib.hid (HXW.out.trans HE.out)
    go_wp2_with (go_at_call 10;refine(HSN.out _ HX.out).mono ?_;rintro e Ws ⟨rfl,hx⟩;replace HX:=xEx HX hx;clear hx)
    go_ret
    exact⟨rfl,HX.out⟩
end Go.Proofs.YtoecbicdahbccaaGreatDoor
