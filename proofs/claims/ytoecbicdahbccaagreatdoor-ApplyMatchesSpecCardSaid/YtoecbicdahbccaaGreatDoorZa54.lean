/- A part of the walk of the layer of apply: contracts and plain laws that a row's text leans on. -/
import Derived.Test.YtoecbicdahbccaaGreatDoorZa48
import Derived.Test.YtoecbicdahbccaaGreatDoorZa52
import Derived.Test.YtoecbicdahbccaaGreatDoorZa53
set_option maxRecDepth 100000
set_option maxHeartbeats 16000000
namespace Go.Proofs.YtoecbicdahbccaaGreatDoor
open Go Go.RowKit
theorem BoxOk.inC{b:Bx}{s:Int}(h:BoxOk b s)(hs:s≤8):InC b:=by
 obtain⟨h1,h2,h3⟩:=h;exact⟨by omega,by omega,by omega⟩
theorem Brd.tgt{x:Ed}{d:Int}{r l:List Pt}(h:Brd x d r l)(hk:x.kind=4){p:Pt}(hp:p∈l):inP p (tgtB x.turn x.box x.at_)=true:=by
 have h2:=((h.mem p).1 hp).2;unfold hitE at h2;rw[hk]at h2;simpa using h2
theorem changes26_any{g:Gr}{A:Option Addr}{c:Nat}{x:Ed}{d m:Int}(hd:2≤d∧d≤3)(hft:fits x)(hv:validG g=true)(hln:g.cells.length≤1000)(hb:g.box=cubeD d)(w:World)(hs:Sv w w.heap.size 1 A c (rowsI g.cells)):
    Calls Tryz.prog 13 #[.agg #[.int .i64 g.box.lo.x,.int .i64 g.box.lo.y,.int .i64 g.box.lo.z,.int .i64 g.box.hi.x,.int .i64 g.box.hi.y,.int .i64 g.box.hi.z,.slice A g.cells.length c],.agg #[.int .i64 x.st.tick,.int .i64 x.st.clock,.int .i64 x.st.site,.int .i64 x.st.seq,.int .i64 x.kind,.int .i64 x.box.lo.x,.int .i64 x.box.lo.y,.int .i64 x.box.lo.z,.int .i64 x.box.hi.x,.int .i64 x.box.hi.y,.int .i64 x.box.hi.z,.int .i64 x.at_.x,.int .i64 x.at_.y,.int .i64 x.at_.z,.int .i64 x.turn,.int .i64 x.cell,.int .i64 x.size],.int .i64 d,.int .i64 m] w (RetC g x d m w):=by
 have hm:=mixed;obtain⟨W0,hW⟩:∃ W,W=(w.alloc (.cells #[.int .i64 g.box.lo.x,.int .i64 g.box.lo.y,.int .i64 g.box.lo.z,.int .i64 g.box.hi.x,.int .i64 g.box.hi.y,.int .i64 g.box.hi.z,.slice A g.cells.length c] 28)).alloc (.cells #[.int .i64 x.st.tick,.int .i64 x.st.clock,.int .i64 x.st.site,.int .i64 x.st.seq,.int .i64 x.kind,.int .i64 x.box.lo.x,.int .i64 x.box.lo.y,.int .i64 x.box.lo.z,.int .i64 x.box.hi.x,.int .i64 x.box.hi.y,.int .i64 x.box.hi.z,.int .i64 x.at_.x,.int .i64 x.at_.y,.int .i64 x.at_.z,.int .i64 x.turn,.int .i64 x.cell,.int .i64 x.size] 32):=⟨_,rfl⟩;have HX:=Lib.hid (show Ext w W0 by rw[hW];exact((Ext.refl w).alloc _).alloc _);have H4:=Lib.hid (show Arr W0 w.heap.size 28 [.int .i64 g.box.lo.x,.int .i64 g.box.lo.y,.int .i64 g.box.lo.z,.int .i64 g.box.hi.x,.int .i64 g.box.hi.y,.int .i64 g.box.hi.z,.slice A g.cells.length c]by rw[hW];exact(Arr.new w _ [.int .i64 g.box.lo.x,.int .i64 g.box.lo.y,.int .i64 g.box.lo.z,.int .i64 g.box.hi.x,.int .i64 g.box.hi.y,.int .i64 g.box.hi.z,.slice A g.cells.length c]).alloc _);have H5:=Lib.hid (show Arr W0 (w.heap.size+1) 32 [.int .i64 x.st.tick,.int .i64 x.st.clock,.int .i64 x.st.site,.int .i64 x.st.seq,.int .i64 x.kind,.int .i64 x.box.lo.x,.int .i64 x.box.lo.y,.int .i64 x.box.lo.z,.int .i64 x.box.hi.x,.int .i64 x.box.hi.y,.int .i64 x.box.hi.z,.int .i64 x.at_.x,.int .i64 x.at_.y,.int .i64 x.at_.z,.int .i64 x.turn,.int .i64 x.cell,.int .i64 x.size]by rw[hW];exact Arr.new1 w _ _ [.int .i64 x.st.tick,.int .i64 x.st.clock,.int .i64 x.st.site,.int .i64 x.st.seq,.int .i64 x.kind,.int .i64 x.box.lo.x,.int .i64 x.box.lo.y,.int .i64 x.box.lo.z,.int .i64 x.box.hi.x,.int .i64 x.box.hi.y,.int .i64 x.box.hi.z,.int .i64 x.at_.x,.int .i64 x.at_.y,.int .i64 x.at_.z,.int .i64 x.turn,.int .i64 x.cell,.int .i64 x.size]);have HCK:=Lib.hid (refCheck_any x d m);rw[check_eq x d m hft]at HCK
 by_cases hck:checkE x d m=0
 · have hk:=chk_ok hft hck;have HBR:=Lib.hid (fun(W:World) (hx:Ext w W)=>cells_any (A:=A) (c:=c) hd hk hv hln hb W (hs.ext hx));have HGM:=Lib.hid (fun(p:Pt) (W:World) (hx:Ext w W)=>refGetM_any (g:=g) (A:=A) (c:=c) hv p W (hs.ext hx));have HD:=Lib.hid hd;have HCO:=Lib.hid hk;rw[hck]at HCK;have HKC:=Lib.hid hck;clear hk hck hv hln hb hft hs hd
   go_enter Tryz.func13,Tryz.ntmps13
   go_upto_region 1 with fail
   rw[← hW];clear hW
   go_upto_region 5 with(first
    | (refine ldB 32 5 H5.out Tryz.underlying32 ?_) | (refine ldB 32 5 (H5.out.alloc _) Tryz.underlying32 ?_) | (refine ldB 32 5 ((H5.out.alloc _).alloc _) Tryz.underlying32 ?_)
    | (refine ldB 28 4 H4.out Tryz.underlying28 ?_) | (refine ldB 28 4 (H4.out.alloc _) Tryz.underlying28 ?_) | (refine ldB 28 4 ((H4.out.alloc _).alloc _) Tryz.underlying28 ?_)
    | (go_at_call 27;refine(HCK.out _).mono ?_;rintro e W1 ⟨rfl,hx⟩;replace HX:=xEx HX hx;replace H4:=aEx H4 hx;replace H5:=aEx H5 hx;clear hx)
    | (go_at_call 37;refine(HBR.out _ HX.out).mono ?_;rintro e W2 ⟨AL,cL,L,r,er,rfl,hx,hsl,h5,h6,h7⟩;replace HX:=xEx HX hx;replace H4:=aEx H4 hx;replace H5:=aEx H5 hx;have HLS:=Lib.hid hsl;have HN5:=Lib.hid h5;have HY5:=Lib.hid h6;have HBD:=Lib.hid h7;clear hx hsl h5 h6 h7))
   by_cases he:er=0
   · subst he;have HB:=Lib.hid (HBD.out rfl);have hlen:=HB.out.len HD.out;have HEQ:=Lib.hid (chg_eff (F:=matF g) HB.out.sort HB.out.mem);have HLN:=Lib.hid hlen;clear hlen HBD HBR HCK
     go_upto_region 9 with fail
     have H0:=Lib.hid (show CgS W2 W2.heap.size (chgOf (matF g) (newE x (matF g)) (L.take 0)) (.slice none 0 0) W2 from⟨by rw[List.take_zero];exact OwC.nil _ _,Ext.refl _,Nat.le_refl _,Nat.le_refl _⟩)
     go_loopw [13,14] (fun v i wr=>∃ k:Nat,k≤L.length∧i = .int .i64 (k:Int)∧Hid (CgS W2 W2.heap.size (chgOf (matF g) (newE x (matF g)) (L.take k)) v wr)) (fun _ i _=>L.length - (intOf i).toNat)
     case atStart=>exact⟨0,Nat.zero_le _,rfl,H0⟩
     case round=>
      clear H0;obtain⟨k,hk,rfl,HS⟩:=hrel
      by_cases hkl:k < L.length
      · obtain⟨p,hp⟩:∃ p,L[k]? = some p:=⟨_,List.getElem?_eq_getElem hkl⟩;have hst:=chgOf_take (F:=matF g) (N:=newE x (matF g)) hp;have hcl:=chgOf_len (matF g) (newE x (matF g)) (L.take k);rw[List.length_take]at hcl;have HL5:=Lib.hid (show(chgOf (matF g) (newE x (matF g)) (L.take k)).length+1≤1000000 by have:=HLN.out;omega);have HG0:=Lib.hid (fun(W:World) (hx:Ext wr W)=>HGM.out p W (HX.out.trans (HS.out.ext.trans hx)));obtain⟨bL,oL,hAL,hbL,hr⟩:=HLS.out.row (i:=k) (x:=p.cells) (by simp[rowsP,hp]);subst hAL;have HR:=Lib.hid (fun(w1:World) (hx:Ext W2 w1) (i:Nat) (v:Value) (h:[.int .i64 p.x,.int .i64 p.y,.int .i64 p.z][i]? = some v)=>(hx.cell (p:=⟨bL,oL+k * 3+i,none⟩) hbL).trans (hr i v h));have HE:=Lib.hid HS.out.ext;have HKL:=Lib.hid hkl;have HMS:=Lib.hid (show L.length - (k+1) < L.length - k by omega);have HWK:=Lib.hid (show wrap64 ((k:Int)+1)=((k+1:Nat):Int)by have:=HLN.out;unfold wrap64;omega);have H4r:=Lib.hid (H4.out.ext HE.out);have H5r:=Lib.hid (H5.out.ext HE.out);have HNW:=Lib.hid (show(x.kind≠4→newE x (matF g) p=x.cell)∧(x.kind=4→newE x (matF g) p=matF g (srcP x.turn x.box x.at_ p))from⟨fun h=>if_neg h,fun h=>if_pos h⟩);have HSRC:=Lib.hid (fun(h4:x.kind=4)=>(show ∀ W:World,Calls Tryz.prog 38 #[.agg #[.int .i64 x.box.lo.x,.int .i64 x.box.lo.y,.int .i64 x.box.lo.z,.int .i64 x.box.hi.x,.int .i64 x.box.hi.y,.int .i64 x.box.hi.z],.int .i64 x.turn,.agg #[.int .i64 x.at_.x,.int .i64 x.at_.y,.int .i64 x.at_.z],.agg #[.int .i64 p.x,.int .i64 p.y,.int .i64 p.z]] W fun e w'=>e = .returned (.tuple #[.agg #[.int .i64 (srcP x.turn x.box x.at_ p).x,.int .i64 (srcP x.turn x.box x.at_ p).y,.int .i64 (srcP x.turn x.box x.at_ p).z],.bool true])∧Ext W w' from by
         have hbx:=HCO.out.box (by rw[h4];rfl);have hs48:=HCO.out.turn;unfold isT at hs48;exact refSource20_any (of_decide_eq_true hs48) hbx.empty (hbx.inC (three_d HD.out).2) (tiny_sml (inCube_tiny HCO.out.hd (HCO.out.at_ (by rw[h4];rfl)))) (HB.out.tgt h4 (List.mem_of_getElem? hp))))
        generalize chgOf (matF g) (newE x (matF g)) (L.take k)=l at HS hst HL5;have HST:=Lib.hid (show chgOf (matF g) (newE x (matF g)) (L.take (k+1))=_ from hst);generalize newE x (matF g) p=n at HST HNW;have HG:=Lib.hid (fun(W:World) (hx:Ext wr W)=>HG0.out W hx);have HO:=Lib.hid (show matF g p=matF g p from rfl);generalize hgo:matF g p=o at HST HG;clear hgo HO HG0 hst hcl hp hr hbL
        go_upto_region 11 with fail
        have H4':=H4;have H5':=H5;replace H4:=H4r;replace H5:=H5r
        (try simp only[Act.put,List.setIfInBounds_toArray,List.set_cons_zero,List.set_cons_succ])
        refine wp_region_var_val (w:=wr) [some (.slice (some ⟨bL,oL,none⟩) L.length cL),some (.int .i64 k),some (.pointer (some ⟨bL,oL+k * 3,none⟩)),some (.agg #[.int .i64 p.x,.int .i64 p.y,.int .i64 p.z]),some (.agg #[.int .i64 g.box.lo.x,.int .i64 g.box.lo.y,.int .i64 g.box.lo.z,.int .i64 g.box.hi.x,.int .i64 g.box.hi.y,.int .i64 g.box.hi.z,.slice A g.cells.length c]),some (.slice (some ⟨bL,oL,none⟩) L.length cL),some (.int .i64 k),some (.pointer (some ⟨bL,oL+k * 3,none⟩)),some (.agg #[.int .i64 p.x,.int .i64 p.y,.int .i64 p.z]),some (.int .i64 o),some (.pointer (some ⟨w.heap.size+1,15,none⟩)),some (.int .i64 x.cell),some (.agg #[.int .i64 p.x,.int .i64 p.y,.int .i64 p.z,.int .i64 o,.int .i64 x.cell]),none,none] 13 58 15 53 12 [.int .i64 0,.int .i64 0,.int .i64 0,.int .i64 0,.int .i64 0] [.int .i64 p.x,.int .i64 p.y,.int .i64 p.z,.int .i64 o,.int .i64 x.cell] hm (info_zero (by kernel_rfl)) (by kernel_rfl) ?_ ?_ ?_
        · refine c_ s_mv ?_;refine c_ s_mv ?_;refine c_ (s_ix HKL.out Tryz.underlying62) ?_;refine c_ (s_mid (fun w1 hx i v h=>HR.out w1 (HE.out.trans hx) i v h) Tryz.underlying23) ?_;refine c_ (s_row H4 Tryz.underlying28) ?_;refine c_ s_mv ?_;refine c_ s_mv ?_;refine c_ (s_ix HKL.out Tryz.underlying62) ?_;refine c_ (s_mid (fun w1 hx i v h=>HR.out w1 (HE.out.trans hx) i v h) Tryz.underlying23) ?_;refine c_ (s_call fun w1 hx=>HG.out w1 hx) ?_;refine c_ (s_run1 5 (hr:=fun b w1 _ e=>by unfold execOp;simp[e,Act.eval,go_sem])) ?_;refine c_ (s_cell 51 (fun w1 hx=>(H5.out.ext hx).cell 15) (hr:=fun b w1 e hc=>by unfold execOp;simp[e,hc,Act.eval,go_sem])) ?_;refine c_ (s_run3 44 50 52 (hr:=fun b w1 _ e f k=>by unfold execOp;simp[e,f,k,Act.eval,go_sem])) ?_;exact trivial
        · exact trivial
        intro b15 w9 hx9 hg9 hA9;simp only[fillM,boxW,Act.put,List.getElem?_cons_zero,List.getElem?_cons_succ,Option.join_some,Option.getD_some,Option.getD_none,List.setIfInBounds_toArray,List.set_cons_zero,List.set_cons_succ,Nat.zero_add,Nat.reduceAdd,Nat.reduceEqDiff,if_true,if_false];replace H4:=aEx H4 hx9;replace H5:=aEx H5 hx9;have HX9:=Lib.hid hx9;have H15:=Lib.hid hA9;have HB15:=Lib.hid hg9;clear hx9 hA9 hg9;have HS9:=Lib.hid (HS.out.more HX9.out);have k4:=H5.out.cell 4;have l5:=H5.out.lt;simp only[List.getElem?_cons_zero,List.getElem?_cons_succ]at k4
        by_cases h4:x.kind=4
        focus
         have hq4:(x.kind == 4)=true:=by simp[h4]
         have HSO:=Lib.hid (HSRC.out h4);have HNQ:=Lib.hid (HNW.out.2 h4);clear h4 HSRC HNW;generalize srcP x.turn x.box x.at_ p=q at HSO HNQ
         go_upto_region 13 with fail
         clear k4 l5 hq4;replace HE:=Lib.hid (HE.out.trans HX9.out)
         (try simp only[Act.put,List.setIfInBounds_toArray,List.set_cons_zero,List.set_cons_succ])
         refine wp_region_var_val (w:=w9) [some (.pointer (some ⟨w.heap.size+1,5,none⟩)),some (.agg #[.int .i64 x.box.lo.x,.int .i64 x.box.lo.y,.int .i64 x.box.lo.z,.int .i64 x.box.hi.x,.int .i64 x.box.hi.y,.int .i64 x.box.hi.z]),some (.pointer (some ⟨w.heap.size+1,14,none⟩)),some (.int .i64 x.turn),some (.pointer (some ⟨w.heap.size+1,11,none⟩)),some (.agg #[.int .i64 x.at_.x,.int .i64 x.at_.y,.int .i64 x.at_.z]),some (.slice (some ⟨bL,oL,none⟩) L.length cL),some (.int .i64 k),some (.pointer (some ⟨bL,oL+k * 3,none⟩)),some (.agg #[.int .i64 p.x,.int .i64 p.y,.int .i64 p.z]),some (.tuple #[.agg #[.int .i64 q.x,.int .i64 q.y,.int .i64 q.z],.bool true]),some (.tuple #[.agg #[.int .i64 q.x,.int .i64 q.y,.int .i64 q.z],.bool true]),some (.agg #[.int .i64 q.x,.int .i64 q.y,.int .i64 q.z]),some (.bool true),none,none,some (.bool true)] 14 23 16 69 12 [.int .i64 0,.int .i64 0,.int .i64 0] [.int .i64 q.x,.int .i64 q.y,.int .i64 q.z] hm (info_zero (by kernel_rfl)) (by kernel_rfl) ?_ ?_ ?_
         · refine c_ (s_run1 5 (hr:=fun b w1 _ e=>by unfold execOp;simp[e,Act.eval,go_sem])) ?_;refine c_ (s_mid (bk:=w.heap.size+1) (off:=5) (fun w1 hx=>(H5.out.ext hx).rng 5 [.int .i64 x.box.lo.x,.int .i64 x.box.lo.y,.int .i64 x.box.lo.z,.int .i64 x.box.hi.x,.int .i64 x.box.hi.y,.int .i64 x.box.hi.z] rfl) Tryz.underlying25) ?_;refine c_ (s_run1 5 (hr:=fun b w1 _ e=>by unfold execOp;simp[e,Act.eval,go_sem])) ?_;refine c_ (s_cell 60 (fun w1 hx=>(H5.out.ext hx).cell 14) (hr:=fun b w1 e hc=>by unfold execOp;simp[e,hc,Act.eval,go_sem])) ?_;refine c_ (s_run1 5 (hr:=fun b w1 _ e=>by unfold execOp;simp[e,Act.eval,go_sem])) ?_;refine c_ (s_mid (bk:=w.heap.size+1) (off:=11) (fun w1 hx=>(H5.out.ext hx).rng 11 [.int .i64 x.at_.x,.int .i64 x.at_.y,.int .i64 x.at_.z] rfl) Tryz.underlying23) ?_;refine c_ s_mv ?_;refine c_ s_mv ?_;refine c_ (s_ix HKL.out Tryz.underlying62) ?_;refine c_ (s_mid (fun w1 hx i v h=>HR.out w1 (HE.out.trans hx) i v h) Tryz.underlying23) ?_;refine c_ (s_call fun w1 hx=>HSO.out w1) ?_;refine c_ s_mv ?_;refine c_ (s_run1 57 (hr:=fun b w1 _ e=>by unfold execOp;simp[e,Act.eval,go_sem])) ?_;refine c_ (s_run1 57 (hr:=fun b w1 _ e=>by unfold execOp;simp[e,Act.eval,go_sem])) ?_;exact trivial
         · refine c_ s_mv ?_;exact trivial
         intro b16 w10 hx10 hg10 hA10;simp only[fillM,boxW,Act.put,List.getElem?_cons_zero,List.getElem?_cons_succ,Option.join_some,Option.getD_some,Option.getD_none,List.setIfInBounds_toArray,List.set_cons_zero,List.set_cons_succ,Nat.zero_add,Nat.reduceAdd,Nat.reduceEqDiff,if_true,if_false];replace H4:=aEx H4 hx10;replace H5:=aEx H5 hx10;replace H15:=aEx H15 hx10;replace HX9:=xEx HX9 hx10;have H16:=Lib.hid hA10;clear hx10 hA10 hg10;have HGQ:=Lib.hid (fun(W:World) (hx:Ext wr W)=>HGM.out q W (HX.out.trans (HS.out.ext.trans hx)));rw[← HNQ.out]at HGQ
         go_upto_region 15 with(first
          | (refine ldB 28 4 H4.out Tryz.underlying28 ?_)
          | (refine ldB 23 16 H16.out Tryz.underlying23 ?_)
          | (go_at_call 19;refine(HGQ.out _ HX9.out).mono ?_;rintro e W11 ⟨rfl,hx⟩;replace H15:=aEx H15 hx;have HX11:=xEx HX9 hx;have c15:=H15.out.cell 4;have l15:=H15.out.lt;have f15:=H15.out.frozen;simp only[List.getElem?_cons_zero,List.getElem?_cons_succ]at c15;clear hx))
         obtain⟨W12,hW⟩:∃ W,W=W11.setCell ⟨b15,4,none⟩ (.int .i64 n):=⟨_,rfl⟩;replace H15:=Lib.hid (show Arr W12 b15 58 [.int .i64 p.x,.int .i64 p.y,.int .i64 p.z,.int .i64 o,.int .i64 n]by rw[hW];exact H15.out.set 4 _);have HX12:=Lib.hid (show Ext wr W12 by rw[hW];exact HX11.out.setCell (p:=⟨b15,4,none⟩) HB15.out _);rw[← hW];clear hW c15 l15 f15 HX11 HX9 H4 H5 H16 HGQ HS9
        rotate_left 1
        focus
         have hq4:(x.kind == 4)=false:=by simp[h4]
         have hnc:=HNW.out.1 h4;rw[← hnc]at H15;clear h4 HSRC HNW hnc
         go_upto_region 15 with fail
         have HX12:=HX9;clear HX9 k4 l5 H4 H5 HS9;generalize w9=W12 at H15 HX12 ⊢
        rotate_left 1
        all_goals
         have HS12:=Lib.hid (HS.out.more HX12.out);have m3:=H15.out.cell 3;have m4:=H15.out.cell 4;have m15:=H15.out.lt;simp only[List.getElem?_cons_zero,List.getElem?_cons_succ]at m3 m4;have HST2:=HST
         by_cases hon:o=n
         · have hne:(o != n)=false:=by simpa using hon
           rw[if_pos hon,List.append_nil]at HST2;clear hon;go_wp2
           go_roundw
           case rel=>exact⟨k+1,hkl,by rw[HWK.out],Lib.hid (by rw[HST2.out];exact HS12.out)⟩
           case measure=>rw[HWK.out];exact HMS.out
         · have hne:(o != n)=true:=by simpa using hon
           rw[if_neg hon]at HST2;clear hon
           go_upto_region 16 with fail
           clear m3 m4 m15
           go_wp2_with (first
            | (refine ldB 58 15 H15.out Tryz.underlying58 ?_)
            | (refine wpList_app1 38 58 81 80 82 [.int .i64 p.x,.int .i64 p.y,.int .i64 p.z,.int .i64 o,.int .i64 n] (rowsC l).flatten HS12.out.row infoCh Tryz.underlying38 HS12.out.base.2 HL5.out ?_;rintro v' W13 ho hg _;have HSW:=Lib.hid (HS12.out.app (x:=⟨p,o,n⟩) ho hg);clear ho hg))
           go_roundw
           case rel=>exact⟨k+1,hkl,by rw[HWK.out],Lib.hid (by rw[HST2.out];exact HSW.out)⟩
           case measure=>rw[HWK.out];exact HMS.out
      · obtain rfl:k=L.length:=by omega
        rw[List.take_length,HEQ.out]at HS;clear hk hkl;go_wp2
        go_ret2
        refine⟨_,0,_,.inr ⟨HKC.out,?_⟩,rfl,own_low_mono HX.out.size HS.out.row,HX.out.trans HS.out.ext⟩
        by_cases h5:x.kind=5
        · exact .inr ⟨h5,r,0,HY5.out h5,rfl,.inr ⟨rfl,rfl⟩⟩
        · obtain⟨_,hr⟩:=HN5.out h5;exact .inl ⟨h5,by rw[hr],rfl⟩
   · have HE:=Lib.hid he;have hne:(er != 0)=true:=by simpa using he
     clear he;go_wp2
     go_ret2
     refine⟨[],er,_,.inr ⟨HKC.out,?_⟩,rfl,OwC.nil _ _,HX.out⟩
     by_cases h5:x.kind=5
     · exact .inr ⟨h5,r,er,HY5.out h5,rfl,.inl ⟨HE.out,rfl⟩⟩
     · exact absurd (HN5.out h5).1 HE.out
 · have HKC:=Lib.hid hck;obtain⟨ce,hce⟩:∃ ce,ce=checkE x d m:=⟨_,rfl⟩;rw[← hce]at HCK hck;have HE:=Lib.hid hce;have hne:(ce != 0)=true:=by simpa using hck
   clear hce hck hs hft hv hb hln
   go_enter Tryz.func13,Tryz.ntmps13
   go_upto_region 1 with fail
   rw[← hW];clear hW
   go_wp2_with (first
    | (refine ldB 32 5 H5.out Tryz.underlying32 ?_) | (refine ldB 32 5 (H5.out.alloc _) Tryz.underlying32 ?_) | (refine ldB 32 5 ((H5.out.alloc _).alloc _) Tryz.underlying32 ?_)
    | (go_at_call 27;refine(HCK.out _).mono ?_;rintro e W1 ⟨rfl,hx⟩;replace HX:=xEx HX hx;replace H5:=aEx H5 hx;clear hx))
   go_ret2
   exact⟨[],ce,_,.inl ⟨HKC.out,rfl,HE.out⟩,rfl,OwC.nil _ _,HX.out⟩
theorem own_slc{B:Nat}{l:List Chg}{v:Value}{w:World}(h:OwC B l v w):∃ A c,v = .slice A l.length c∧Sv w w.heap.size 5 A c (rowsC l):=SlC.own h
theorem ApplyMatchesSpec_any{g:Gr}{A:Option Addr}{c:Nat}{x:Ed}{d m:Int}{p:Pt}(hft:fits x)(w:World)(hR:RowsIn w)(hA:AxesIn w)(hst:StepsIn w)(hs:Sv w w.heap.size 1 A c (rowsI g.cells)):
    Calls Tryz.prog 3 #[.agg #[.int .i64 g.box.lo.x,.int .i64 g.box.lo.y,.int .i64 g.box.lo.z,.int .i64 g.box.hi.x,.int .i64 g.box.hi.y,.int .i64 g.box.hi.z,.slice A g.cells.length c],.agg #[.int .i64 x.st.tick,.int .i64 x.st.clock,.int .i64 x.st.site,.int .i64 x.st.seq,.int .i64 x.kind,.int .i64 x.box.lo.x,.int .i64 x.box.lo.y,.int .i64 x.box.lo.z,.int .i64 x.box.hi.x,.int .i64 x.box.hi.y,.int .i64 x.box.hi.z,.int .i64 x.at_.x,.int .i64 x.at_.y,.int .i64 x.at_.z,.int .i64 x.turn,.int .i64 x.cell,.int .i64 x.size],.int .i64 d,.int .i64 m,.agg #[.int .i64 p.x,.int .i64 p.y,.int .i64 p.z]] w fun e w'=>e = .returned (.bool true)∧Ext w w':=by
 have hm:=mixed;have hG:=near_old;have HSN:=Lib.hid (fun(W:World) (hx:Ext w W)=>sanity_any W (hR.ext hx) (hA.ext hx) (hst.ext hx));have HF:=Lib.hid (fun(W:World) (hx:Ext w W)=>fits26_any (d:=d) (m:=256) W (hs.ext hx));have HOV:=Lib.hid (Over_any g A c);have HAP:=Lib.hid (fun(h:FitsP g d 256) (W:World) (hx:Ext w W)=>ApK_any (x:=x) (m:=m) (A:=A) (c:=c) (g:=g) rfl h.dd hft h.val h.len h.box W (hR.ext hx) (hA.ext hx) (hst.ext hx) (hs.ext hx));have HCH:=Lib.hid (fun(h:FitsP g d 256) (W:World) (hx:Ext w W)=>Changes_any (x:=x) (m:=m) (A:=A) (c:=c) h.dd hft h.val (by have:=h.len;omega) h.box W (hR.ext hx) (hA.ext hx) (hst.ext hx) (hs.ext hx));have HCR:=Lib.hid (fun(h:FitsP g d 256) (W:World) (hx:Ext w W)=>changes26_any (x:=x) (m:=m) (A:=A) (c:=c) h.dd hft h.val (by have:=h.len;omega) h.box W (hs.ext hx));have HFC:=Lib.hid (fun(h:FitsP g d 256) (W:World) (hx:Ext w W)=>FCell_any (g:=g) (A:=A) (c:=c) h.val (by have:=h.len;omega) p W (hs.ext hx));have HGT:=Lib.hid (fun(h:FitsP g d 256) (W:World) (hx:Ext w W)=>refGetM_any (g:=g) (A:=A) (c:=c) h.val p W (hs.ext hx));have HIN:=Lib.hid (refIn_any p g.box);obtain⟨W0,hW⟩:∃ W,W=((w.alloc (.cells #[.int .i64 g.box.lo.x,.int .i64 g.box.lo.y,.int .i64 g.box.lo.z,.int .i64 g.box.hi.x,.int .i64 g.box.hi.y,.int .i64 g.box.hi.z,.slice A g.cells.length c] 28)).alloc (.cells #[.int .i64 x.st.tick,.int .i64 x.st.clock,.int .i64 x.st.site,.int .i64 x.st.seq,.int .i64 x.kind,.int .i64 x.box.lo.x,.int .i64 x.box.lo.y,.int .i64 x.box.lo.z,.int .i64 x.box.hi.x,.int .i64 x.box.hi.y,.int .i64 x.box.hi.z,.int .i64 x.at_.x,.int .i64 x.at_.y,.int .i64 x.at_.z,.int .i64 x.turn,.int .i64 x.cell,.int .i64 x.size] 32)).alloc (.cells #[.int .i64 p.x,.int .i64 p.y,.int .i64 p.z] 23):=⟨_,rfl⟩;have HX:=Lib.hid (show Ext w W0 by rw[hW];exact(((Ext.refl w).alloc _).alloc _).alloc _);have H5:=Lib.hid (show Arr W0 w.heap.size 28 [.int .i64 g.box.lo.x,.int .i64 g.box.lo.y,.int .i64 g.box.lo.z,.int .i64 g.box.hi.x,.int .i64 g.box.hi.y,.int .i64 g.box.hi.z,.slice A g.cells.length c]by rw[hW];exact((Arr.new w _ [.int .i64 g.box.lo.x,.int .i64 g.box.lo.y,.int .i64 g.box.lo.z,.int .i64 g.box.hi.x,.int .i64 g.box.hi.y,.int .i64 g.box.hi.z,.slice A g.cells.length c]).alloc _).alloc _);have H6:=Lib.hid (show Arr W0 (w.heap.size+1) 32 [.int .i64 x.st.tick,.int .i64 x.st.clock,.int .i64 x.st.site,.int .i64 x.st.seq,.int .i64 x.kind,.int .i64 x.box.lo.x,.int .i64 x.box.lo.y,.int .i64 x.box.lo.z,.int .i64 x.box.hi.x,.int .i64 x.box.hi.y,.int .i64 x.box.hi.z,.int .i64 x.at_.x,.int .i64 x.at_.y,.int .i64 x.at_.z,.int .i64 x.turn,.int .i64 x.cell,.int .i64 x.size]by rw[hW];exact(Arr.new1 w _ _ [.int .i64 x.st.tick,.int .i64 x.st.clock,.int .i64 x.st.site,.int .i64 x.st.seq,.int .i64 x.kind,.int .i64 x.box.lo.x,.int .i64 x.box.lo.y,.int .i64 x.box.lo.z,.int .i64 x.box.hi.x,.int .i64 x.box.hi.y,.int .i64 x.box.hi.z,.int .i64 x.at_.x,.int .i64 x.at_.y,.int .i64 x.at_.z,.int .i64 x.turn,.int .i64 x.cell,.int .i64 x.size]).alloc _);have H9:=Lib.hid (show Arr W0 (w.heap.size+1+1) 23 [.int .i64 p.x,.int .i64 p.y,.int .i64 p.z]by rw[hW];have h:=Arr.new1 (w.alloc (.cells #[.int .i64 g.box.lo.x,.int .i64 g.box.lo.y,.int .i64 g.box.lo.z,.int .i64 g.box.hi.x,.int .i64 g.box.hi.y,.int .i64 g.box.hi.z,.slice A g.cells.length c] 28)) (.cells #[.int .i64 x.st.tick,.int .i64 x.st.clock,.int .i64 x.st.site,.int .i64 x.st.seq,.int .i64 x.kind,.int .i64 x.box.lo.x,.int .i64 x.box.lo.y,.int .i64 x.box.lo.z,.int .i64 x.box.hi.x,.int .i64 x.box.hi.y,.int .i64 x.box.hi.z,.int .i64 x.at_.x,.int .i64 x.at_.y,.int .i64 x.at_.z,.int .i64 x.turn,.int .i64 x.cell,.int .i64 x.size] 32) 23 [.int .i64 p.x,.int .i64 p.y,.int .i64 p.z];simp only[World.size_alloc_]at h;exact h);have HS:=Lib.hid (hs.ext HX.out);clear hR hA hst hs hft
 go_enter Tryz.func3,Tryz.ntmps3
 go_upto_region 1 with fail
 rw[← hW];clear hW
 go_upto_region 2 with(first
  | (refine ldB 28 5 H5.out Tryz.underlying28 ?_)
  | (go_at_call 9;refine(HF.out _ HX.out).mono ?_;rintro e W1 ⟨bf,rfl,hf,hx⟩;replace HX:=xEx HX hx;replace H5:=aEx H5 hx;replace H6:=aEx H6 hx;replace H9:=aEx H9 hx;replace HS:=Lib.hid (HS.out.ext hx);have HFP:=Lib.hid hf;clear hx hf))
 by_cases hok:bf=true∧1≤m∧m≤256
 rotate_left 1
 · cases bf
   · clear hok
     go_wp2_with (go_at_call 10;refine(HSN.out _ HX.out).mono ?_;rintro e Ws ⟨rfl,hx⟩;replace HX:=xEx HX hx;clear hx)
     go_ret
     exact⟨rfl,HX.out⟩
   · by_cases h1:m < 1
     · clear hok
       go_wp2_with (go_at_call 10;refine(HSN.out _ HX.out).mono ?_;rintro e Ws ⟨rfl,hx⟩;replace HX:=xEx HX hx;clear hx)
       go_ret
       exact⟨rfl,HX.out⟩
     · have h2:256 < m:=by
         by_cases h:m≤256
         · exact absurd ⟨rfl,by omega,h⟩ hok
         · omega
       clear hok
       go_wp2_with (go_at_call 10;refine(HSN.out _ HX.out).mono ?_;rintro e Ws ⟨rfl,hx⟩;replace HX:=xEx HX hx;clear hx)
       go_ret
       exact⟨rfl,HX.out⟩
 obtain⟨rfl,hm1,hm2⟩:=hok;have n1:¬ m < 1:=by omega
 have n2:¬ 256 < m:=by omega
 clear hm1 hm2;replace HFP:=Lib.hid (HFP.out rfl);replace HAP:=Lib.hid (HAP.out HFP.out);replace HCH:=Lib.hid (HCH.out HFP.out);replace HCR:=Lib.hid (HCR.out HFP.out);replace HFC:=Lib.hid (HFC.out HFP.out);replace HGT:=Lib.hid (HGT.out HFP.out);clear HF;have hmeth:∀ W,(method 308 73 (.agg #[.int .i64 g.box.lo.x,.int .i64 g.box.lo.y,.int .i64 g.box.lo.z,.int .i64 g.box.hi.x,.int .i64 g.box.hi.y,.int .i64 g.box.hi.z,.slice A g.cells.length c]) "Cell").run Tryz.prog W = .ok (207,.agg #[.int .i64 g.box.lo.x,.int .i64 g.box.lo.y,.int .i64 g.box.lo.z,.int .i64 g.box.hi.x,.int .i64 g.box.hi.y,.int .i64 g.box.hi.z,.slice A g.cells.length c]) W:=fun _=>by kernel_rfl
 have hent:∀ args W,(callFunc 207 args).run Tryz.prog W = .ok (.enter 207 args) W:=fun _ _=>by kernel_rfl
 go_upto_region 7 with(first
  | (refine ldB 28 5 H5.out Tryz.underlying28 ?_)
  | (go_at_call 11;refine(HOV.out _).mono ?_;rintro e W2 ⟨rfl,hx⟩;replace HX:=xEx HX hx;replace H5:=aEx H5 hx;replace H6:=aEx H6 hx;replace H9:=aEx H9 hx;replace HS:=Lib.hid (HS.out.ext hx);clear hx))
 go_upto_region 8 with(first
  | (refine ldB 32 6 H6.out Tryz.underlying32 ?_)
  | (go_at_call 12;refine(HCH.out _ HX.out).mono ?_;rintro e W3 ⟨l,er,va,hc,rfl,ho,hx⟩;replace HX:=xEx HX hx;replace H5:=aEx H5 hx;replace H6:=aEx H6 hx;replace H9:=aEx H9 hx;replace HS:=Lib.hid (HS.out.ext hx);have HC:=Lib.hid hc;obtain⟨Aa,ca,rfl,hsa⟩:=own_slc ho;have HVA:=Lib.hid hsa;clear hx hc ho hsa))
 go_upto_region 9 with(first
  | (refine ldB 28 5 H5.out Tryz.underlying28 ?_)
  | (refine ldB 32 6 H6.out Tryz.underlying32 ?_)
  | (go_at_call 13;refine(HCR.out _ HX.out).mono ?_;rintro e W4 ⟨l2,er2,vb,hc,rfl,ho,hx⟩;obtain⟨rfl,rfl⟩:=HC.out.uniq hc;replace HX:=xEx HX hx;replace H5:=aEx H5 hx;replace H6:=aEx H6 hx;replace H9:=aEx H9 hx;replace HS:=Lib.hid (HS.out.ext hx);replace HVA:=Lib.hid (HVA.out.ext hx);obtain⟨Ab,cb,rfl,hsb⟩:=own_slc ho;have HVB:=Lib.hid hsb;clear hx hc ho hsb))
 go_upto_region 10 with(first
  | (refine ldB 28 5 H5.out Tryz.underlying28 ?_)
  | (refine ldB 32 6 H6.out Tryz.underlying32 ?_)
  | (go_at_call 14;refine(HAP.out _ HX.out).mono ?_;rintro e W5 ⟨l3,er3,Ag,cg,Ad,cd,hc,rfl,hsg,hsd,hx⟩;obtain⟨rfl,rfl⟩:=HC.out.uniq hc;replace HX:=xEx HX hx;replace H5:=aEx H5 hx;replace H6:=aEx H6 hx;replace H9:=aEx H9 hx;replace HS:=Lib.hid (HS.out.ext hx);replace HVA:=Lib.hid (HVA.out.ext hx);replace HVB:=Lib.hid (HVB.out.ext hx);have HVD:=Lib.hid hsd;have HVG:=Lib.hid hsg;clear hx hc hsg hsd)
  | (refine wpList_store_blk2 28 (.tmp 17) (.tmp 64) rfl rfl (Arr.new W5 28 Z7) [.int .i64 g.box.lo.x,.int .i64 g.box.lo.y,.int .i64 g.box.lo.z,.int .i64 g.box.hi.x,.int .i64 g.box.hi.y,.int .i64 g.box.hi.z,.slice Ag (writeG g _).cells.length cg] rfl rfl (by kernel_rfl) rfl rfl rfl ?_;intro W6 hW;have hx:=(xNew (Lib.hid (Ext.refl W5)) hW).out;have H17:=nNew hW;replace HX:=xEx HX hx;replace H5:=aEx H5 hx;replace H6:=aEx H6 hx;replace H9:=aEx H9 hx;replace HS:=Lib.hid (HS.out.ext hx);replace HVA:=Lib.hid (HVA.out.ext hx);replace HVB:=Lib.hid (HVB.out.ext hx);replace HVD:=Lib.hid (HVD.out.ext hx);replace HVG:=Lib.hid (HVG.out.ext hx);clear hW hx))
 have HM1:=Lib.hid (fun(W:World) (hx:Ext W6 W)=>(show Calls Tryz.prog 15 #[.slice Aa l.length ca,.slice Ab l.length cb] W fun e w'=>e = .returned (.bool true)∧Ext W w' from sameC_of ⟨Aa,ca,rfl,HVA.out.ext hx⟩ ⟨Ab,cb,rfl,HVB.out.ext hx⟩));have HM2:=Lib.hid (fun(W:World) (hx:Ext W6 W)=>(show Calls Tryz.prog 15 #[.slice Aa l.length ca,.slice Ad l.length cd] W fun e w'=>e = .returned (.bool true)∧Ext W w' from sameC_of ⟨Aa,ca,rfl,HVA.out.ext hx⟩ ⟨Ad,cd,rfl,HVD.out.ext hx⟩));have HWR:=Lib.hid (fun(W:World) (hx:Ext W6 W)=>writeV_any (g:=g) (l:=l) rfl HFP.out.val HFP.out.len.2 W (HS.out.ext hx) (HVB.out.ext hx));have HEQ:=Lib.hid (fun(v2:Value) (W:World) (hx:Ext W6 W) (k2:GrV (writeG g l) g.box v2 W)=>equalV_at (g:=writeG g l) (h:=writeG g l) (b:=g.box) rfl rfl (decide_eq_true rfl) W ⟨Ag,cg,rfl,HVG.out.ext hx⟩ k2);have HXK:=HX;clear HVA HVB HVD HVG HCH HCR HAP HOV HC;replace HX:=Lib.hid (Ext.refl W6)
 go_upto_region 11 with(first
  | (refine ldB 23 9 H9.out Tryz.underlying23 ?_)
  | (go_at_fn 207;refine(HFC.out _ HXK.out).mono ?_;rintro e W7 ⟨rfl,hx⟩;replace HX:=xEx HX hx;replace HXK:=xEx HXK hx;replace H5:=aEx H5 hx;replace H9:=aEx H9 hx;replace H17:=aEx H17 hx;clear hx))
 clear hmeth hent;replace HM1:=Lib.hid (fun(W:World) (hx:Ext W7 W)=>HM1.out W (HX.out.trans hx));replace HM2:=Lib.hid (fun(W:World) (hx:Ext W7 W)=>HM2.out W (HX.out.trans hx));replace HWR:=Lib.hid (fun(W:World) (hx:Ext W7 W)=>HWR.out W (HX.out.trans hx));replace HEQ:=Lib.hid (fun(v2:Value) (W:World) (hx:Ext W7 W) k=>HEQ.out v2 W (HX.out.trans hx) k)
 (try simp only[Act.put,List.setIfInBounds_toArray,List.set_cons_zero,List.set_cons_succ])
 refine wp_region_mix [some (.slice Aa l.length ca),some (.slice Ab l.length cb),some (.bool true),some (.bool true),some (.slice Aa l.length ca),some (.slice Ad l.length cd),some (.bool true),some (.bool true),some (.bool true),some (.agg #[.int .i64 g.box.lo.x,.int .i64 g.box.lo.y,.int .i64 g.box.lo.z,.int .i64 g.box.hi.x,.int .i64 g.box.hi.y,.int .i64 g.box.hi.z,.slice Ag (writeG g l).cells.length cg]),some (.agg #[.int .i64 g.box.lo.x,.int .i64 g.box.lo.y,.int .i64 g.box.lo.z,.int .i64 g.box.hi.x,.int .i64 g.box.hi.y,.int .i64 g.box.hi.z,.slice A g.cells.length c]),some (.slice Ab l.length cb),none,some (.bool true),some (.bool true),some (.bool true)] (fun i v w'=>if i=12 then(GrV (writeG g l) g.box v w')else(True)) hm (by kernel_rfl) (by kernel_rfl) rfl ?_ ?_ ?_
 · exact g_if (fun v w1 w2 hx h=>((fun h=>h.ext hx)) h) (g_true)
 · refine c_ s_mv ?_;refine c_ s_mv ?_;refine c_ (s_call fun w1 hx=>HM1.out w1 hx) ?_;refine c_ s_mv ?_;refine c_ s_mv ?_;refine c_ s_mv ?_;refine c_ (s_call fun w1 hx=>HM2.out w1 hx) ?_;refine c_ (s_run2 76 79 (hr:=fun b w1 _ e f=>by unfold execOp;simp[e,f,Act.eval,go_sem])) ?_;refine c_ s_mv ?_;refine c_ (s_row H17 Tryz.underlying28) ?_;refine c_ (s_row H5 Tryz.underlying28) ?_;refine c_ s_mv ?_;refine c_ (s_callG fun w1 hx=>(show Calls Tryz.prog 17 _ w1 fun e w'=>∃ v,e = .returned v∧Ext w1 w'∧(GrV (writeG g l) g.box v w')from HWR.out w1 hx).mono fun e w' ⟨v,h1,h2,h3⟩=>⟨v,h1,h2,h3⟩) ?_;refine c_ (s_by (.inr ⟨_,_,_,rfl,rfl,rfl,rfl⟩) fun b w1 h K hK=>?_) ?_
   · have hx:=h.ext;replace hK:∀ v w',Ext w1 w'→(v = .bool true)→K (b.put (some 86) v) w':=fun v w' h1 h2=>(by subst h2;exact hK _ w' h1 (GdM.val rfl w'));obtain⟨v82,g82,e82⟩:=h.dep 9 rfl;have g82:v82 = .agg #[.int .i64 g.box.lo.x,.int .i64 g.box.lo.y,.int .i64 g.box.lo.z,.int .i64 g.box.hi.x,.int .i64 g.box.hi.y,.int .i64 g.box.hi.z,.slice Ag (writeG g l).cells.length cg]:=g82;subst g82;have e82:=e82 82 rfl;obtain⟨v85,g85,e85⟩:=h.dep 12 rfl;have g85:GrV (writeG g l) g.box v85 w1:=g85;have e85:=e85 85 rfl;exact op_call (G:=fun v _=>v = .bool true) rfl (by simp[eval_of e82,eval_of e85]) (fun _ _=>by kernel_rfl) ((HEQ.out _ w1 hx g85).mono fun e w2 ⟨h1,h2⟩=>⟨_,h1,h2,rfl⟩) (fun v w2 h1 h2=>hK v w2 h1 h2)
   refine c_ (s_run2 81 86 (hr:=fun b w1 _ e f=>by unfold execOp;simp[e,f,Act.eval,go_sem])) ?_;refine c_ s_mv ?_;exact trivial
 intro U w9 hx hg;have g12:GrV (writeG g l) g.box (U 12) w9:=hg 12 (by decide) rfl;simp only[fillM,Act.put,List.getElem?_cons_zero,List.getElem?_cons_succ,Option.join_some,Option.getD_some,Option.getD_none,List.setIfInBounds_toArray,List.set_cons_zero,List.set_cons_succ,Nat.zero_add,Nat.reduceAdd];clear hg;replace HXK:=xEx HXK hx;replace H5:=aEx H5 hx;replace H9:=aEx H9 hx;clear hx HX HM1 HM2 HWR HEQ H17 g12
 go_wp2_with (first
  | (refine ldB 23 9 H9.out Tryz.underlying23 ?_)
  | (refine wpList_load_part 25 (.tmp 89) rfl rfl H5.out 0 [.int .i64 g.box.lo.x,.int .i64 g.box.lo.y,.int .i64 g.box.lo.z,.int .i64 g.box.hi.x,.int .i64 g.box.hi.y,.int .i64 g.box.hi.z] rfl rfl _ Tryz.underlying25 rfl (by kernel_rfl) ?_)
  | (refine ldB 28 5 H5.out Tryz.underlying28 ?_)
  | (go_at_call 18;refine(HIN.out _).mono ?_;rintro e W8 ⟨rfl,hx⟩;replace HXK:=xEx HXK hx;replace H5:=aEx H5 hx;replace H9:=aEx H9 hx;clear hx)
  | (go_at_call 10;refine(HSN.out _ HXK.out).mono ?_;rintro e Ws ⟨rfl,hx⟩;replace HXK:=xEx HXK hx;replace H5:=aEx H5 hx;replace H9:=aEx H9 hx;clear hx)
  | (go_at_call 19;refine(HGT.out _ HXK.out).mono ?_;rintro e W9 ⟨rfl,hx⟩;replace HXK:=xEx HXK hx;clear hx))
 go_ret
 exact⟨rfl,HXK.out⟩
end Go.Proofs.YtoecbicdahbccaaGreatDoor
