/- A part of the walk of the layer of apply: contracts and plain laws that a row's text leans on. -/
import Derived.Test.YtoecbicdahbccaaGreatDoorZa40
set_option maxRecDepth 100000
set_option maxHeartbeats 16000000
namespace Go.Proofs.YtoecbicdahbccaaGreatDoor
open Go Go.RowKit
theorem diffL_none{b:Bx}{F G:Pt→Int}(h:∀ p,inP p b=true→F p=G p):diffL b F G = []:=by
 refine List.eq_nil_iff_forall_not_mem.2 fun c hc=>?_;have:=diffL_mem.1 hc;exact this.2.2.2 (h _ this.1)
theorem eff_twice{x:Ed}(h4:x.kind≠4)(h5:x.kind≠5)(f:Pt→Int)(r r':List Pt)(p:Pt):effF x (effF x f r) r' p=effF x f r p:=by
 have e:hitE x r' p=hitE x r p:=by unfold hitE;rw[if_neg h5,if_neg h5]
 have n:∀ g:Pt→Int,newE x g p=x.cell:=fun g=>by unfold newE;rw[if_neg h4]
 show(if hitE x r' p then newE x (effF x f r) p else effF x f r p)=effF x f r p;rw[e,n]
 cases hq:hitE x r p
 · rfl
 · unfold effF;rw[hq,n];rfl
theorem twice_none{g:Gr}{x:Ed}{d m:Int}{l l2:List Chg}{r r2:List Pt}(hft:fits x)(hm:m≤256)(hv:validG g=true)(hb:g.box=cubeD d)(h4:x.kind≠4)(h:EdOk g x d m l r)(k:EdOk (writeG g l) x d m l2 r2):l2 = []:=by
 obtain⟨hval,hw,_⟩:=ok_write hft hm hv hb h;rw[k.eq];refine diffL_none fun p hp=>?_
 by_cases h5:x.kind=5
 · obtain⟨v,hv1,hv2,_⟩:=k.reg h5;unfold effF
   cases hq:hitE x r2 p
   · rfl
   · have hp2:p∈r2:=by
       unfold hitE at hq;rw[h5]at hq;exact of_decide_eq_true hq
     have hck:=chk_ok hft h.chk;have hat:inP x.at_ (cubeD d)=true:=hck.at_ (by rw[h5];rfl);have hself:x.at_∈r:=((h.reg h5).choose_spec.2.1.mem x.at_).2 .base;have e1:matF (writeG g l) x.at_=x.cell:=by
      rw[hw _ hat];unfold effF newE hitE;rw[h5];simp[hself]
     have e2:v=x.cell:=by
      unfold matF at e1;rw[hv1]at e1;exact e1
     have hval2:fld (writeG g l) p=some v:=((hv2.mem p).1 hp2).val hv1;have e3:matF (writeG g l) p=v:=by unfold matF;rw[hval2];rfl
     rw[if_pos rfl,e3,e2];unfold newE;rw[if_neg h4]
 · have e:=eff_twice h4 h5 (matF g) r r2 p;have hcong:effF x (matF (writeG g l)) r2 p=effF x (effF x (matF g) r) r2 p:=by
    unfold effF
    split
    · unfold newE;rw[if_neg h4,if_neg h4]
    · exact hw p hp
   rw[hcong,e,hw p hp]
theorem ChgOut.err{g:Gr}{x:Ed}{d m:Int}{l:List Chg}{er:Int}(hft:fits x)(hb:g.box=cubeD d)(hc:checkE x d m=0)(h:ChgOut g x d m l er):(er=2∧x.kind=5∧l = [])∨(er=0∧∃ r,EdOk g x d m l r):=by
 have h0:=h
 rcases h with⟨h1,_⟩ | ⟨_,h2⟩
 · exact absurd hc h1
 · rcases h2 with⟨_,_,rfl⟩ | ⟨h3,r,er2,hf,rfl,h4⟩
   · rcases h0.ok with⟨k,_⟩ | ⟨_,k⟩
     · exact absurd rfl k
     · exact .inr ⟨rfl,k⟩
   · rcases hf with⟨hn,_,_⟩ | ⟨v,_,⟨_,_,e⟩ | ⟨_,_,e⟩⟩
     · exfalso
       have hat:inP x.at_ (cubeD d)=true:=(chk_ok hft hc).at_ (by rw[h3];rfl);unfold fld at hn;rw[hb,hat]at hn
       cases hn
     · subst e
       rcases h4 with⟨_,rfl⟩ | ⟨k,_⟩
       · exact .inl ⟨rfl,h3,rfl⟩
       · cases k
     · subst e
       rcases h0.ok with⟨k,_⟩ | ⟨_,k⟩
       · exact absurd rfl k
       · exact .inr ⟨rfl,k⟩
theorem twice_out{g:Gr}{x:Ed}{d m:Int}{l l2:List Chg}{r:List Pt}{er2:Int}(hft:fits x)(hm:m≤256)(hv:validG g=true)(hb:g.box=cubeD d)(h4:x.kind≠4)(h:EdOk g x d m l r)(k:ChgOut (writeG g l) x d m l2 er2):(er2=2∧x.kind=5)∨(er2=0∧l2 = []):=by
 rcases k.err hft (show(writeG g l).box=cubeD d from hb) h.chk with⟨h1,h2,_⟩ | ⟨h1,r2,h2⟩
 · exact .inl ⟨h1,h2⟩
 · exact .inr ⟨h1,twice_none hft hm hv hb h4 h h2⟩
theorem ApplyTwice_any{g:Gr}{A:Option Addr}{c:Nat}{x:Ed}{d m:Int}(hft:fits x)(w:World)(hR:RowsIn w)(hA:AxesIn w)(hst:StepsIn w)(hs:Sv w w.heap.size 1 A c (rowsI g.cells)):
    Calls Tryz.prog 6 #[.agg #[.int .i64 g.box.lo.x,.int .i64 g.box.lo.y,.int .i64 g.box.lo.z,.int .i64 g.box.hi.x,.int .i64 g.box.hi.y,.int .i64 g.box.hi.z,.slice A g.cells.length c],.agg #[.int .i64 x.st.tick,.int .i64 x.st.clock,.int .i64 x.st.site,.int .i64 x.st.seq,.int .i64 x.kind,.int .i64 x.box.lo.x,.int .i64 x.box.lo.y,.int .i64 x.box.lo.z,.int .i64 x.box.hi.x,.int .i64 x.box.hi.y,.int .i64 x.box.hi.z,.int .i64 x.at_.x,.int .i64 x.at_.y,.int .i64 x.at_.z,.int .i64 x.turn,.int .i64 x.cell,.int .i64 x.size],.int .i64 d,.int .i64 m] w fun e w'=>e = .returned (.bool true)∧Ext w w':=by
 have hm:=mixed;have HSN:=Lib.hid (fun(W:World) (hx:Ext w W)=>sanity_any W (hR.ext hx) (hA.ext hx) (hst.ext hx));have HF:=Lib.hid (fun(W:World) (hx:Ext w W)=>fits26_any (d:=d) (m:=m) W (hs.ext hx));have HAP:=Lib.hid (fun(h:Gr) (A:Option Addr) (c:Nat) (hd:2≤d∧d≤3) (hb:g.box=cubeD d) (hbb:h.box=g.box) (hv:validG h=true) (hln:0 < h.cells.length∧h.cells.length≤512) (W:World) (hx:Ext w W) (hs:Sv W W.heap.size 1 A c (rowsI h.cells))=>ApK_any (m:=m) hbb hd hft hv hln hb W (hR.ext hx) (hA.ext hx) (hst.ext hx) hs);have HFT:=Lib.hid hft;obtain⟨W0,hW⟩:∃ W,W=(w.alloc (.cells #[.int .i64 g.box.lo.x,.int .i64 g.box.lo.y,.int .i64 g.box.lo.z,.int .i64 g.box.hi.x,.int .i64 g.box.hi.y,.int .i64 g.box.hi.z,.slice A g.cells.length c] 28)).alloc (.cells #[.int .i64 x.st.tick,.int .i64 x.st.clock,.int .i64 x.st.site,.int .i64 x.st.seq,.int .i64 x.kind,.int .i64 x.box.lo.x,.int .i64 x.box.lo.y,.int .i64 x.box.lo.z,.int .i64 x.box.hi.x,.int .i64 x.box.hi.y,.int .i64 x.box.hi.z,.int .i64 x.at_.x,.int .i64 x.at_.y,.int .i64 x.at_.z,.int .i64 x.turn,.int .i64 x.cell,.int .i64 x.size] 32):=⟨_,rfl⟩;have HX:=Lib.hid (show Ext w W0 by rw[hW];exact((Ext.refl w).alloc _).alloc _);have H4:=Lib.hid (show Arr W0 w.heap.size 28 [.int .i64 g.box.lo.x,.int .i64 g.box.lo.y,.int .i64 g.box.lo.z,.int .i64 g.box.hi.x,.int .i64 g.box.hi.y,.int .i64 g.box.hi.z,.slice A g.cells.length c]by rw[hW];exact(Arr.new w _ [.int .i64 g.box.lo.x,.int .i64 g.box.lo.y,.int .i64 g.box.lo.z,.int .i64 g.box.hi.x,.int .i64 g.box.hi.y,.int .i64 g.box.hi.z,.slice A g.cells.length c]).alloc _);have H5:=Lib.hid (show Arr W0 (w.heap.size+1) 32 [.int .i64 x.st.tick,.int .i64 x.st.clock,.int .i64 x.st.site,.int .i64 x.st.seq,.int .i64 x.kind,.int .i64 x.box.lo.x,.int .i64 x.box.lo.y,.int .i64 x.box.lo.z,.int .i64 x.box.hi.x,.int .i64 x.box.hi.y,.int .i64 x.box.hi.z,.int .i64 x.at_.x,.int .i64 x.at_.y,.int .i64 x.at_.z,.int .i64 x.turn,.int .i64 x.cell,.int .i64 x.size]by rw[hW];exact Arr.new1 w _ _ [.int .i64 x.st.tick,.int .i64 x.st.clock,.int .i64 x.st.site,.int .i64 x.st.seq,.int .i64 x.kind,.int .i64 x.box.lo.x,.int .i64 x.box.lo.y,.int .i64 x.box.lo.z,.int .i64 x.box.hi.x,.int .i64 x.box.hi.y,.int .i64 x.box.hi.z,.int .i64 x.at_.x,.int .i64 x.at_.y,.int .i64 x.at_.z,.int .i64 x.turn,.int .i64 x.cell,.int .i64 x.size]);have HS:=Lib.hid (hs.ext HX.out);clear hR hA hst hs hft;obtain⟨kd,hkd⟩:∃ k,k=x.kind:=⟨_,rfl⟩;have HKD:=Lib.hid hkd;clear hkd
 go_enter Tryz.func6,Tryz.ntmps6
 go_upto_region 1 with fail
 rw[← hW];clear hW
 go_upto_region 2 with(first
  | (refine ldB 28 4 H4.out Tryz.underlying28 ?_)
  | (go_at_call 9;refine(HF.out _ HX.out).mono ?_;rintro e W1 ⟨bf,rfl,hf,hx⟩;replace HX:=xEx HX hx;replace H4:=aEx H4 hx;replace H5:=aEx H5 hx;replace HS:=Lib.hid (HS.out.ext hx);have HFP:=Lib.hid hf;clear hx hf))
 have e5:=H5.out.cell 4;have l5:=H5.out.lt;simp only[List.getElem?_cons_zero,List.getElem?_cons_succ]at e5;rw[← HKD.out]at e5
 by_cases hok:bf=true∧m≤256∧kd≠4
 rotate_left 1
 · cases bf
   · clear hok
     go_wp2_with (go_at_call 10;refine(HSN.out _ HX.out).mono ?_;rintro e Ws ⟨rfl,hx⟩;replace HX:=xEx HX hx;clear hx)
     go_ret
     exact⟨rfl,HX.out⟩
   · by_cases hm2:m≤256
     · have e4:kd=4:=by
         by_cases h:kd=4
         · exact h
         · exact absurd ⟨rfl,hm2,h⟩ hok
       subst e4;have hm3:¬ 256 < m:=by omega
       clear hok hm2
       go_wp2_with (go_at_call 10;refine(HSN.out _ HX.out).mono ?_;rintro e Ws ⟨rfl,hx⟩;replace HX:=xEx HX hx;clear hx)
       go_ret
       exact⟨rfl,HX.out⟩
     · have hm3:256 < m:=by omega
       clear hok hm2
       go_wp2_with (go_at_call 10;refine(HSN.out _ HX.out).mono ?_;rintro e Ws ⟨rfl,hx⟩;replace HX:=xEx HX hx;clear hx)
       go_ret
       exact⟨rfl,HX.out⟩
 obtain⟨rfl,hm2,h4⟩:=hok;have hm3:¬ 256 < m:=by omega
 have hk4:(kd == 4)=false:=by simpa using h4
 have HM:=Lib.hid hm2;have HK4:=Lib.hid h4;replace HFP:=Lib.hid (HFP.out rfl);have HA1:=Lib.hid (fun(W:World) (hx:Ext w W) hs=>HAP.out g A c HFP.out.dd HFP.out.box rfl HFP.out.val HFP.out.len W hx hs);clear hm2 h4 HF
 go_upto_region 5 with(first
  | (refine ldB 28 4 H4.out Tryz.underlying28 ?_)
  | (refine ldB 32 5 H5.out Tryz.underlying32 ?_)
  | (go_at_call 14;refine(HA1.out _ HX.out HS.out).mono ?_;rintro e W2 ⟨l,er,A2,c2,Al,cl,hc,rfl,hs2,hl2,hx⟩;replace HX:=xEx HX hx;replace H4:=aEx H4 hx;replace H5:=aEx H5 hx;replace HS:=Lib.hid (HS.out.ext hx);have HC:=Lib.hid hc;have HS2:=Lib.hid hs2;clear hx hc hs2 hl2 e5 l5)
  | (refine wpList_store_blk2 28 (.tmp 10) (.tmp 38) rfl rfl (Arr.new W2 28 Z7) [.int .i64 g.box.lo.x,.int .i64 g.box.lo.y,.int .i64 g.box.lo.z,.int .i64 g.box.hi.x,.int .i64 g.box.hi.y,.int .i64 g.box.hi.z,.slice A2 (writeG g l).cells.length c2] rfl rfl (by kernel_rfl) rfl rfl rfl ?_;intro W3 hW;have HX3:=xNew (Lib.hid (Ext.refl W2)) hW;have H10:=nNew hW;replace HX:=xEx HX HX3.out;replace H4:=aEx H4 HX3.out;replace H5:=aEx H5 HX3.out;replace HS:=Lib.hid (HS.out.ext HX3.out);replace HS2:=Lib.hid (HS2.out.ext HX3.out);clear hW HX3))
 clear HA1
 rcases HC.out.ok with⟨he,hl⟩ | ⟨rfl,r,hk⟩
 · have hne:(er != 0)=true:=by simpa using he
   have HEQ:=Lib.hid (fun(W:World) k1 k2=>equal_at (g:=g) (h:=writeG g l) (A1:=A) (A2:=A2) (c1:=c) (c2:=c2) (r:=true) rfl rfl (by rw[hl,writeG_nil];simp) W k1 k2);clear he hl HC
   go_wp2_with (first
    | (refine ldB 28 4 H4.out Tryz.underlying28 ?_)
    | (refine ldB 28 10 H10.out Tryz.underlying28 ?_)
    | (go_at_call 10;refine(HSN.out _ HX.out).mono ?_;rintro e Ws ⟨rfl,hx⟩;replace HX:=xEx HX hx;replace H4:=aEx H4 hx;replace H10:=aEx H10 hx;replace HS:=Lib.hid (HS.out.ext hx);replace HS2:=Lib.hid (HS2.out.ext hx);clear hx)
    | (go_at_call 16;refine(HEQ.out _ HS.out HS2.out).mono ?_;rintro e We ⟨rfl,hx⟩;replace HX:=xEx HX hx;clear hx))
   go_ret
   exact⟨rfl,HX.out⟩
 · have hval:=(ok_write HFT.out HM.out HFP.out.val HFP.out.box hk).1;have hlen:=HFP.out.len;rw[← writeG_len g l]at hlen;have HA2:=Lib.hid (fun(W:World) (hx:Ext w W) hs=>HAP.out (writeG g l) A2 c2 HFP.out.dd HFP.out.box rfl hval hlen W hx hs);have HTW:=Lib.hid (fun(l2:List Chg) (er2:Int) (h2:ChgOut (writeG g l) x d m l2 er2)=>twice_out HFT.out HM.out HFP.out.val HFP.out.box (by rw[← HKD.out];exact HK4.out) hk h2);rw[← HKD.out]at HTW;clear hval hlen hk HC;generalize writeG g l=h at HA2 HTW HS2 H10
   go_upto_region 8 with(first
    | (refine ldB 28 10 H10.out Tryz.underlying28 ?_)
    | (refine ldB 32 5 H5.out Tryz.underlying32 ?_)
    | (go_at_call 14;refine(HA2.out _ HX.out HS2.out).mono ?_;rintro e W4 ⟨l2,er2,A3,c3,Al2,cl2,hc,rfl,hs3,hl3,hx⟩;replace HX:=xEx HX hx;replace H5:=aEx H5 hx;have HT2:=Lib.hid (HTW.out _ _ hc);clear hx hc hs3 hl3)
    | (refine wpList_store_blk2 28 (.tmp 13) (.tmp 55) rfl rfl (Arr.new W4 28 Z7) [.int .i64 g.box.lo.x,.int .i64 g.box.lo.y,.int .i64 g.box.lo.z,.int .i64 g.box.hi.x,.int .i64 g.box.hi.y,.int .i64 g.box.hi.z,.slice A3 (writeG h l2).cells.length c3] rfl rfl (by kernel_rfl) rfl rfl rfl ?_;intro W5 hW;have HX5:=xNew (Lib.hid (Ext.refl W4)) hW;replace HX:=xEx HX HX5.out;replace H5:=aEx H5 HX5.out;clear hW HX5))
   have e5:=H5.out.cell 4;have l5:=H5.out.lt;simp only[List.getElem?_cons_zero,List.getElem?_cons_succ]at e5;rw[← HKD.out]at e5
   rcases HT2.out with⟨rfl,h5⟩ | ⟨rfl,rfl⟩
   · subst h5
     go_wp2_with (go_at_call 10;refine(HSN.out _ HX.out).mono ?_;rintro e Ws ⟨rfl,hx⟩;replace HX:=xEx HX hx;clear hx)
     go_ret
     exact⟨rfl,HX.out⟩
   · by_cases h5:kd=5
     · subst h5
       go_wp2_with (go_at_call 10;refine(HSN.out _ HX.out).mono ?_;rintro e Ws ⟨rfl,hx⟩;replace HX:=xEx HX hx;clear hx)
       go_ret
       exact⟨rfl,HX.out⟩
     · have hk5:(kd == 5)=false:=by simpa using h5
       clear h5
       go_wp2_with (go_at_call 10;refine(HSN.out _ HX.out).mono ?_;rintro e Ws ⟨rfl,hx⟩;replace HX:=xEx HX hx;clear hx)
       go_ret
       exact⟨rfl,HX.out⟩
end Go.Proofs.YtoecbicdahbccaaGreatDoor
