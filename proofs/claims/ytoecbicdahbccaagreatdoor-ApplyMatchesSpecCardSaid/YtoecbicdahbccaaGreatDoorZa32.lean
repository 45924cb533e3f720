/- A part of the walk of the layer of apply: contracts and plain laws that a row's text leans on. -/
import Derived.Test.YtoecbicdahbccaaGreatDoorZa31
set_option maxRecDepth 100000
set_option maxHeartbeats 16000000
namespace Go.Proofs.YtoecbicdahbccaaGreatDoor
open Go Go.RowKit
theorem neqBxv_run(a b:Bx){v:Bool}(h:decide (a≠b)=v)(w:World):(binOp .neq 25 (.agg #[.int .i64 a.lo.x,.int .i64 a.lo.y,.int .i64 a.lo.z,.int .i64 a.hi.x,.int .i64 a.hi.y,.int .i64 a.hi.z]) (.agg #[.int .i64 b.lo.x,.int .i64 b.lo.y,.int .i64 b.lo.z,.int .i64 b.hi.x,.int .i64 b.hi.y,.int .i64 b.hi.z])).run Tryz.prog w = .ok (.bool v) w:=by rw[← h];exact neqBx_run a b w
theorem gr_ne{g h:Gr}(k:g.box≠h.box∨g.cells≠h.cells):decide (g=h)=false:=by
 rw[decide_eq_false_iff_not];intro e;rw[e]at k;simp at k
theorem equal07_any{g h:Gr}{A1 A2:Option Addr}{c1 c2:Nat}(w:World)(h1:Sv w w.heap.size 1 A1 c1 (rowsI g.cells))(h2:Sv w w.heap.size 1 A2 c2 (rowsI h.cells)):
    Calls Tryz.prog 16 #[.agg #[.int .i64 g.box.lo.x,.int .i64 g.box.lo.y,.int .i64 g.box.lo.z,.int .i64 g.box.hi.x,.int .i64 g.box.hi.y,.int .i64 g.box.hi.z,.slice A1 g.cells.length c1],.agg #[.int .i64 h.box.lo.x,.int .i64 h.box.lo.y,.int .i64 h.box.lo.z,.int .i64 h.box.hi.x,.int .i64 h.box.hi.y,.int .i64 h.box.hi.z,.slice A2 h.cells.length c2]] w fun e w'=>e = .returned (.bool (decide (g=h)))∧Ext w w':=by
 have hm:=mixed;have hG:=near_old;have hln:g.cells.length≤9223372036854775807:=by have h:=h1.len;rw[rowsI_length]at h;exact h
 obtain⟨W0,hW⟩:∃ W,W=(w.alloc (.cells #[.int .i64 g.box.lo.x,.int .i64 g.box.lo.y,.int .i64 g.box.lo.z,.int .i64 g.box.hi.x,.int .i64 g.box.hi.y,.int .i64 g.box.hi.z,.slice A1 g.cells.length c1] 28)).alloc (.cells #[.int .i64 h.box.lo.x,.int .i64 h.box.lo.y,.int .i64 h.box.lo.z,.int .i64 h.box.hi.x,.int .i64 h.box.hi.y,.int .i64 h.box.hi.z,.slice A2 h.cells.length c2] 28):=⟨_,rfl⟩;have hx0:Ext w W0:=by rw[hW];exact((Ext.refl w).alloc _).alloc _
 have H2:=Lib.hid (show Arr W0 w.heap.size 28 [.int .i64 g.box.lo.x,.int .i64 g.box.lo.y,.int .i64 g.box.lo.z,.int .i64 g.box.hi.x,.int .i64 g.box.hi.y,.int .i64 g.box.hi.z,.slice A1 g.cells.length c1]by rw[hW];exact(Arr.new w _ [.int .i64 g.box.lo.x,.int .i64 g.box.lo.y,.int .i64 g.box.lo.z,.int .i64 g.box.hi.x,.int .i64 g.box.hi.y,.int .i64 g.box.hi.z,.slice A1 g.cells.length c1]).alloc _);have H3:=Lib.hid (show Arr W0 (w.heap.size+1) 28 [.int .i64 h.box.lo.x,.int .i64 h.box.lo.y,.int .i64 h.box.lo.z,.int .i64 h.box.hi.x,.int .i64 h.box.hi.y,.int .i64 h.box.hi.z,.slice A2 h.cells.length c2]by rw[hW];exact Arr.new1 w _ _ [.int .i64 h.box.lo.x,.int .i64 h.box.lo.y,.int .i64 h.box.lo.z,.int .i64 h.box.hi.x,.int .i64 h.box.hi.y,.int .i64 h.box.hi.z,.slice A2 h.cells.length c2]);have HS:=Lib.hid (h1.ext hx0);have HS2:=Lib.hid (h2.ext hx0);have HX:=Lib.hid hx0;have s2:=H2.out.cell 6;have s3:=H3.out.cell 6;have l2:=H2.out.lt;have l3:=H3.out.lt;simp only[List.getElem?_cons_zero,List.getElem?_cons_succ]at s2 s3;clear h1 h2 hx0;obtain⟨bn,hbn⟩:∃ bn,decide (g.box≠h.box)=bn:=⟨_,rfl⟩;have hn:=neqBxv_run g.box h.box hbn;have HBN:=Lib.hid hbn;clear hbn
 go_enter Tryz.func16,Tryz.ntmps16
 go_upto_region 1 with fail
 rw[← hW];clear hW
 by_cases hq:bn=true∨g.cells.length≠h.cells.length
 · have HNE:=Lib.hid (show decide (g=h)=false from gr_ne (hq.imp (fun k=>by subst k;exact of_decide_eq_true HBN.out) (fun k e=>k (by rw[e]))))
   cases bn
   · have hl:((g.cells.length:Int) != (h.cells.length:Int))=true:=by rw[bne_iff_ne];simp at hq;omega
     clear hq
     go_wp2_with (first
      | (refine wpList_load_part 25 (.tmp 6) rfl rfl H2.out 0 [.int .i64 g.box.lo.x,.int .i64 g.box.lo.y,.int .i64 g.box.lo.z,.int .i64 g.box.hi.x,.int .i64 g.box.hi.y,.int .i64 g.box.hi.z] rfl rfl _ Tryz.underlying25 rfl (by kernel_rfl) ?_)
      | (refine wpList_load_part 25 (.tmp 8) rfl rfl H3.out 0 [.int .i64 h.box.lo.x,.int .i64 h.box.lo.y,.int .i64 h.box.lo.z,.int .i64 h.box.hi.x,.int .i64 h.box.hi.y,.int .i64 h.box.hi.z] rfl rfl _ Tryz.underlying25 rfl (by kernel_rfl) ?_))
     go_ret
     exact⟨ret_bool HNE.out.symm,HX.out⟩
   · clear hq
     go_wp2_with (first
      | (refine wpList_load_part 25 (.tmp 6) rfl rfl H2.out 0 [.int .i64 g.box.lo.x,.int .i64 g.box.lo.y,.int .i64 g.box.lo.z,.int .i64 g.box.hi.x,.int .i64 g.box.hi.y,.int .i64 g.box.hi.z] rfl rfl _ Tryz.underlying25 rfl (by kernel_rfl) ?_)
      | (refine wpList_load_part 25 (.tmp 8) rfl rfl H3.out 0 [.int .i64 h.box.lo.x,.int .i64 h.box.lo.y,.int .i64 h.box.lo.z,.int .i64 h.box.hi.x,.int .i64 h.box.hi.y,.int .i64 h.box.hi.z] rfl rfl _ Tryz.underlying25 rfl (by kernel_rfl) ?_))
     go_ret
     exact⟨ret_bool HNE.out.symm,HX.out⟩
 · rw[not_or]at hq;have hb:bn=false:=by simpa using hq.1
   have hl2:g.cells.length=h.cells.length:=Decidable.not_not.1 hq.2;have HL:=Lib.hid hl2;subst hb;have hl:((g.cells.length:Int) != (h.cells.length:Int))=false:=by rw[hl2];simp
   have HBX:=Lib.hid (show g.box=h.box by have:=HBN.out;simpa using this);have HY:=Lib.hid (fun hh=>same_yes (la:=g.cells) (lb:=h.cells) hl2 hh);have HNO:=Lib.hid (fun(j:Nat) (x y:Int)=>same_no (la:=g.cells) (lb:=h.cells) (j:=j) (x:=x) (y:=y));clear hq hl2
   go_upto_region 4 with(first
       | (refine wpList_load_part 25 (.tmp 6) rfl rfl H2.out 0 [.int .i64 g.box.lo.x,.int .i64 g.box.lo.y,.int .i64 g.box.lo.z,.int .i64 g.box.hi.x,.int .i64 g.box.hi.y,.int .i64 g.box.hi.z] rfl rfl _ Tryz.underlying25 rfl (by kernel_rfl) ?_)
       | (refine wpList_load_part 25 (.tmp 8) rfl rfl H3.out 0 [.int .i64 h.box.lo.x,.int .i64 h.box.lo.y,.int .i64 h.box.lo.z,.int .i64 h.box.hi.x,.int .i64 h.box.hi.y,.int .i64 h.box.hi.z] rfl rfl _ Tryz.underlying25 rfl (by kernel_rfl) ?_))
   clear s2 s3 l2 l3 hn hl
   go_loopw [5] (fun i wr=>∃ j:Nat,j≤g.cells.length∧i = .int .i64 j∧(∀ (i:Nat) (x y:Int),i < j→g.cells[i]? = some x→h.cells[i]? = some y→x=y)∧Ext W0 wr) (fun i _=>g.cells.length - (intOf i).toNat)
   case atStart=>exact⟨0,Nat.zero_le _,rfl,fun i x y hi=>by omega,Ext.refl _⟩
   case round=>
    obtain⟨j,hj,rfl,hno,hx⟩:=hrel;have HNN:=Lib.hid hno;clear hno;have HX1:=Lib.hid hx;have s2:=(H2.out.ext hx).cell 6;have s3:=(H3.out.ext hx).cell 6;have l2:=(H2.out.ext hx).lt;have l3:=(H3.out.ext hx).lt;simp only[List.getElem?_cons_zero,List.getElem?_cons_succ]at s2 s3
    by_cases hlt:j < g.cells.length
    · obtain⟨x,hxj⟩:∃ x,g.cells[j]? = some x:=⟨_,List.getElem?_eq_getElem hlt⟩;have hlt2:j < h.cells.length:=by have:=HL.out;omega
      obtain⟨y,hyj⟩:∃ y,h.cells[j]? = some y:=⟨_,List.getElem?_eq_getElem hlt2⟩;obtain⟨b',off,rfl,hbl,r0⟩:=int_row (HS.out.ext hx) hxj;obtain⟨b2,off2,rfl,hbl2,q0⟩:=int_row (HS2.out.ext hx) hyj;have HXJ:=Lib.hid hxj;have HYJ:=Lib.hid hyj;clear hxj hyj hx
      by_cases hxy:x=y
      · have hne:(x != y)=false:=by simpa using hxy
        have HXY:=Lib.hid hxy;clear hxy
        go_wp2_with fail
        refine wp_region_near (by assumption) (by kernel_rfl) ?_
        repeat (go_big_quiet_step (fail))
        refine wpQuiet_nil ?_;intro w1 hw1;have hy:=Ext.of_near hw1;clear hw1;go_wp2
        go_roundw
        case rel=>
         refine⟨j+1,by omega,by go_num,fun i x' y' hi h h'=>?_,HX1.out.trans hy⟩
         rcases Nat.lt_succ_iff_lt_or_eq.1 hi with h1 | rfl
         · exact HNN.out i x' y' h1 h h'
         · rw[HXJ.out]at h;injection h with h;rw[HYJ.out]at h';injection h' with h';subst h h';exact HXY.out
        case measure=>simp[intOf];omega
      · have hne:(x != y)=true:=by simpa using hxy
        have HXY:=Lib.hid hxy;clear hxy
        go_wp2_with fail
        refine wp_region_near (by assumption) (by kernel_rfl) ?_
        repeat (go_big_quiet_step (fail))
        refine wpQuiet_nil ?_;intro w1 hw1;have hy:=Ext.of_near hw1;clear hw1;go_wp2
        go_ret
        exact⟨ret_bool (gr_ne (.inr (of_decide_eq_false (HNO.out j x y HXJ.out HYJ.out HXY.out)))).symm,HX.out.trans (HX1.out.trans hy)⟩
    · obtain rfl:j=g.cells.length:=by omega
      go_wp2
      go_ret
      refine⟨ret_bool ?_,HX.out.trans HX1.out⟩;symm;rw[decide_eq_true_eq];have e1:=HBX.out;have e2:=of_decide_eq_true (HY.out HNN.out)
      cases g;cases h;simp only at e1 e2;rw[e1,e2]
theorem cell4{g:Gr}{A:Option Addr}{c:Nat}(hv:validG g=true)(hln:g.cells.length≤1000000){x:Ed}(hk:x.kind=4){w:World}{bx bf:Nat}(hs:0≤x.turn∧x.turn < 48)(he:emptyB x.box=false)(hl:tinyP x.box.lo)(hh:tinyP x.box.hi)(ha:tinyP x.at_)
    (hA:AxesIn w) (hsv:Sv w w.heap.size 1 A c (rowsI g.cells)) (h1:Arr w bx 32 [.int .i64 x.st.tick,.int .i64 x.st.clock,.int .i64 x.st.site,.int .i64 x.st.seq,.int .i64 x.kind,.int .i64 x.box.lo.x,.int .i64 x.box.lo.y,.int .i64 x.box.lo.z,.int .i64 x.box.hi.x,.int .i64 x.box.hi.y,.int .i64 x.box.hi.z,.int .i64 x.at_.x,.int .i64 x.at_.y,.int .i64 x.at_.z,.int .i64 x.turn,.int .i64 x.cell,.int .i64 x.size]) (h2:Arr w bf 36 [.iface 73 (.agg #[.int .i64 g.box.lo.x,.int .i64 g.box.lo.y,.int .i64 g.box.lo.z,.int .i64 g.box.hi.x,.int .i64 g.box.hi.y,.int .i64 g.box.hi.z,.slice A g.cells.length c])]) (d:Int):
    CellF 81 #[.pointer (some ⟨bx,0,none⟩),.pointer (some ⟨bf,0,none⟩)] (newE x (matF g)) ((boxL (interB (tgtB x.turn x.box x.at_) (cubeD d))).filter fun _=>true) w:=
 ⟨fun _ _=>by kernel_rfl,fun p hp w' hx=>by
   have e:newE x (matF g) p=matF g (srcP x.turn x.box x.at_ p):=if_pos hk;rw[List.mem_filter,boxL_mem,inter_iff]at hp;rw[e];exact brushed2_any hv hln x hs he hl hh ha hp.1.1 (hA.ext hx) (hsv.ext hx) (h1.ext hx) (h2.ext hx)⟩
theorem brushed_4{g:Gr}{A:Option Addr}{c:Nat}{x:Ed}{d:Int}(hd:2≤d∧d≤3)(hk:x.kind=4)(hv:validG g=true)(hln:g.cells.length≤80000)(hs:0≤x.turn∧x.turn < 48)(he:emptyB x.box=false)(hl:tinyP x.box.lo)(hh:tinyP x.box.hi)(ha:tinyP x.at_)(w:World)(hA:AxesIn w)(hsv:Sv w w.heap.size 1 A c (rowsI g.cells)):Calls Tryz.prog 36 #[(.iface 73 (.agg #[.int .i64 g.box.lo.x,.int .i64 g.box.lo.y,.int .i64 g.box.lo.z,.int .i64 g.box.hi.x,.int .i64 g.box.hi.y,.int .i64 g.box.hi.z,.slice A g.cells.length c])),.agg #[.int .i64 x.st.tick,.int .i64 x.st.clock,.int .i64 x.st.site,.int .i64 x.st.seq,.int .i64 x.kind,.int .i64 x.box.lo.x,.int .i64 x.box.lo.y,.int .i64 x.box.lo.z,.int .i64 x.box.hi.x,.int .i64 x.box.hi.y,.int .i64 x.box.hi.z,.int .i64 x.at_.x,.int .i64 x.at_.y,.int .i64 x.at_.z,.int .i64 x.turn,.int .i64 x.cell,.int .i64 x.size],.int .i64 d] w (BrOut g x d w):=by
 have hm:=mixed;have hG:=near_old;obtain⟨W0,hW⟩:∃ W,W=(w.alloc (.cells #[(.iface 73 (.agg #[.int .i64 g.box.lo.x,.int .i64 g.box.lo.y,.int .i64 g.box.lo.z,.int .i64 g.box.hi.x,.int .i64 g.box.hi.y,.int .i64 g.box.hi.z,.slice A g.cells.length c]))] 36)).alloc (.cells #[.int .i64 x.st.tick,.int .i64 x.st.clock,.int .i64 x.st.site,.int .i64 x.st.seq,.int .i64 x.kind,.int .i64 x.box.lo.x,.int .i64 x.box.lo.y,.int .i64 x.box.lo.z,.int .i64 x.box.hi.x,.int .i64 x.box.hi.y,.int .i64 x.box.hi.z,.int .i64 x.at_.x,.int .i64 x.at_.y,.int .i64 x.at_.z,.int .i64 x.turn,.int .i64 x.cell,.int .i64 x.size] 32):=⟨_,rfl⟩;have HX:=Lib.hid (show Ext w W0 by rw[hW];exact((Ext.refl w).alloc _).alloc _);have H3:=Lib.hid (show Arr W0 w.heap.size 36 [(.iface 73 (.agg #[.int .i64 g.box.lo.x,.int .i64 g.box.lo.y,.int .i64 g.box.lo.z,.int .i64 g.box.hi.x,.int .i64 g.box.hi.y,.int .i64 g.box.hi.z,.slice A g.cells.length c]))]by rw[hW];exact(Arr.new w 36 [(.iface 73 (.agg #[.int .i64 g.box.lo.x,.int .i64 g.box.lo.y,.int .i64 g.box.lo.z,.int .i64 g.box.hi.x,.int .i64 g.box.hi.y,.int .i64 g.box.hi.z,.slice A g.cells.length c]))]).alloc _);have H4:=Lib.hid (show Arr W0 (w.heap.size+1) 32 [.int .i64 x.st.tick,.int .i64 x.st.clock,.int .i64 x.st.site,.int .i64 x.st.seq,.int .i64 x.kind,.int .i64 x.box.lo.x,.int .i64 x.box.lo.y,.int .i64 x.box.lo.z,.int .i64 x.box.hi.x,.int .i64 x.box.hi.y,.int .i64 x.box.hi.z,.int .i64 x.at_.x,.int .i64 x.at_.y,.int .i64 x.at_.z,.int .i64 x.turn,.int .i64 x.cell,.int .i64 x.size]by rw[hW];have h:=Arr.new (w.alloc (.cells #[(.iface 73 (.agg #[.int .i64 g.box.lo.x,.int .i64 g.box.lo.y,.int .i64 g.box.lo.z,.int .i64 g.box.hi.x,.int .i64 g.box.hi.y,.int .i64 g.box.hi.z,.slice A g.cells.length c]))] 36)) 32 [.int .i64 x.st.tick,.int .i64 x.st.clock,.int .i64 x.st.site,.int .i64 x.st.seq,.int .i64 x.kind,.int .i64 x.box.lo.x,.int .i64 x.box.lo.y,.int .i64 x.box.lo.z,.int .i64 x.box.hi.x,.int .i64 x.box.hi.y,.int .i64 x.box.hi.z,.int .i64 x.at_.x,.int .i64 x.at_.y,.int .i64 x.at_.z,.int .i64 x.turn,.int .i64 x.cell,.int .i64 x.size];simp only[World.size_alloc_]at h;exact h);have hm:=mixed;have h3:=three_d hd;have hd14:2≤d∧d≤14:=by omega
 have hsh:=shl_run d hd14;have hw6:wrap64 ((2:Int) ^ d.toNat)=(2:Int) ^ d.toNat:=pow_w d hd14;have HC:=Lib.hid (Cube_any (2 ^ d.toNat));have HT:=Lib.hid (show ∀ W:World,Ext w W→Calls Tryz.prog 80 #[.agg #[.int .i64 x.box.lo.x,.int .i64 x.box.lo.y,.int .i64 x.box.lo.z,.int .i64 x.box.hi.x,.int .i64 x.box.hi.y,.int .i64 x.box.hi.z],.int .i64 x.turn,.agg #[.int .i64 x.at_.x,.int .i64 x.at_.y,.int .i64 x.at_.z]] W fun e w'=>e = .returned (.agg #[.int .i64 (tgtB x.turn x.box x.at_).lo.x,.int .i64 (tgtB x.turn x.box x.at_).lo.y,.int .i64 (tgtB x.turn x.box x.at_).lo.z,.int .i64 (tgtB x.turn x.box x.at_).hi.x,.int .i64 (tgtB x.turn x.box x.at_).hi.y,.int .i64 (tgtB x.turn x.box x.at_).hi.z])∧Ext W w' by
  intro W hx;rw[← tgt_size hs he ⟨tiny_sml hl,tiny_sml hh⟩ x.at_];exact Target_any hs he W (hA.ext hx))
 have HB:=Lib.hid (show ∀ W:World,Calls Tryz.prog 76 #[.agg #[.int .i64 (tgtB x.turn x.box x.at_).lo.x,.int .i64 (tgtB x.turn x.box x.at_).lo.y,.int .i64 (tgtB x.turn x.box x.at_).lo.z,.int .i64 (tgtB x.turn x.box x.at_).hi.x,.int .i64 (tgtB x.turn x.box x.at_).hi.y,.int .i64 (tgtB x.turn x.box x.at_).hi.z],.agg #[.int .i64 0,.int .i64 0,.int .i64 0,.int .i64 (2 ^ d.toNat),.int .i64 (2 ^ d.toNat),.int .i64 (2 ^ d.toNat)]] W (RetL ((boxL (interB (tgtB x.turn x.box x.at_) (cubeD d))).filter fun _=>true) W)from fun W=>Box_any (b:=tgtB x.turn x.box x.at_) (clip:=cubeD d) rfl (InC.inter _ h3) W);have HCE:=Lib.hid (fun(W:World) (hx:Ext w W) (bx bf:Nat) h1 h2=>cell4 (w:=W) (A:=A) (c:=c) hv (by omega) hk hs he hl hh ha (hA.ext hx) (hsv.ext hx) (bx:=bx) (bf:=bf) h1 h2 d);have HBR:=Lib.hid (brd4 hk d);obtain⟨L,hL⟩:∃ L,L=(boxL (interB (tgtB x.turn x.box x.at_) (cubeD d))).filter fun _=>true:=⟨_,rfl⟩;rw[← hL]at HB HCE HBR;clear hL;generalize tgtB x.turn x.box x.at_=tb at HT HB;obtain⟨S,hS⟩:∃ S:Int,(2:Int) ^ d.toNat=S:=⟨_,rfl⟩;rw[hS]at hsh HC HB;rw (occs:=.pos [2]) [hS]at hw6;have HK:=Lib.hid hk;clear hS h3 hk hv hs he hl hh ha hA hsv
 go_enter Tryz.func36,Tryz.ntmps36
 go_upto_region 1 with fail
 rw[← hW];clear hW;have hk:=HK.out
 go_upto_region 2 with(first
  | (go_at_call 69;refine(HC.out _).mono ?_;rintro e W1 ⟨rfl,hx⟩;replace HX:=xEx HX hx;replace H3:=aEx H3 hx;replace H4:=aEx H4 hx;clear hx)
  | (refine wpList_store_blk2 25 (.tmp 9) (.tmp 12) rfl rfl (Arr.new W1 25 [.int .i64 0,.int .i64 0,.int .i64 0,.int .i64 0,.int .i64 0,.int .i64 0]) [.int .i64 0,.int .i64 0,.int .i64 0,.int .i64 S,.int .i64 S,.int .i64 S] rfl rfl (by kernel_rfl) rfl rfl rfl ?_;intro W2 hW;have Q3_9:=aLt H3;have Q4_9:=aLt H4;have Qw_9:=Lib.hid HX.out.size;replace HX:=xNew HX hW;replace H3:=aNew H3 hW;replace H4:=aNew H4 hW;have H9:=nNew hW;clear hW))
 obtain⟨b9,hb9⟩:∃ n,n=W1.heap.size:=⟨_,rfl⟩;rw[← hb9]at H9 Q3_9 Q4_9 Qw_9 ⊢;clear hb9
 go_upto_region 3 with fail
 have c4:=H4.out.cell;have l4:=H4.out.lt
 go_upto_region 4 with fail
 clear c4 l4
 go_upto_region 6 with fail
 go_upto_region 8 with fail
 go_upto_region 10 with fail
 go_upto_region 12 with fail
 go_upto_region 13 with fail
 refine wp_region_mix [some (.pointer (some ⟨w.heap.size+1,5,none⟩)),some (.agg #[.int .i64 x.box.lo.x,.int .i64 x.box.lo.y,.int .i64 x.box.lo.z,.int .i64 x.box.hi.x,.int .i64 x.box.hi.y,.int .i64 x.box.hi.z]),some (.pointer (some ⟨w.heap.size+1,14,none⟩)),some (.int .i64 x.turn),some (.pointer (some ⟨w.heap.size+1,11,none⟩)),some (.agg #[.int .i64 x.at_.x,.int .i64 x.at_.y,.int .i64 x.at_.z]),some (.agg #[.int .i64 tb.lo.x,.int .i64 tb.lo.y,.int .i64 tb.lo.z,.int .i64 tb.hi.x,.int .i64 tb.hi.y,.int .i64 tb.hi.z]),some (.agg #[.int .i64 0,.int .i64 0,.int .i64 0,.int .i64 S,.int .i64 S,.int .i64 S]),none,none,none,some (.int .i64 0),none,some (.int .i64 0)] (fun i v w'=>if i=8 then(LsR w.heap.size L v w')else(if i=9 then(LsR w.heap.size L v w')else(if i=10 then(OwP w.heap.size L v w')else(if i=12 then(OwP w.heap.size L v w')else(True))))) hm (by kernel_rfl) (by kernel_rfl) rfl ?_ ?_ ?_
 · exact g_if (fun v w1 w2 hx h=>((fun⟨u,h1,h2⟩=>⟨u,h1,own_ext h2 hx⟩)) h) (g_if (fun v w1 w2 hx h=>((fun⟨u,h1,h2⟩=>⟨u,h1,own_ext h2 hx⟩)) h) (g_if (fun v w1 w2 hx h=>((fun h=>own_ext h hx)) h) (g_if (fun v w1 w2 hx h=>((fun h=>own_ext h hx)) h) (g_true))))
 · refine c_ (s_run1 4 (hr:=fun b w1 _ e=>by unfold execOp;simp[e,Act.eval,go_sem])) ?_;refine c_ (s_mid (bk:=w.heap.size+1) (off:=5) (fun w1 hx=>(H4.out.ext hx).rng 5 [.int .i64 x.box.lo.x,.int .i64 x.box.lo.y,.int .i64 x.box.lo.z,.int .i64 x.box.hi.x,.int .i64 x.box.hi.y,.int .i64 x.box.hi.z] rfl) Tryz.underlying25) ?_;refine c_ (s_run1 4 (hr:=fun b w1 _ e=>by unfold execOp;simp[e,Act.eval,go_sem])) ?_;refine c_ (s_by (.inl rfl) fun b w1 h K hK=>(by have hc:=(H4.out.ext h.ext).cell 14;have e:=h.slot (s:=63) (v:=.pointer (some ⟨w.heap.size+1,14,none⟩)) (by rfl);exact op_run (by unfold execOp;simp[e,hc,Act.eval,go_sem]) (hK _ w1 (Ext.refl _) (GdM.val rfl w1)))) ?_;refine c_ (s_run1 4 (hr:=fun b w1 _ e=>by unfold execOp;simp[e,Act.eval,go_sem])) ?_;refine c_ (s_mid (bk:=w.heap.size+1) (off:=11) (fun w1 hx=>(H4.out.ext hx).rng 11 [.int .i64 x.at_.x,.int .i64 x.at_.y,.int .i64 x.at_.z] rfl) Tryz.underlying23) ?_;refine c_ (s_call fun w1 hx=>HT.out w1 (HX.out.trans hx)) ?_;refine c_ (s_row H9 Tryz.underlying25) ?_;refine c_ (s_callG fun w1 hx=>(show Calls Tryz.prog 76 _ w1 fun e w'=>∃ v,e = .returned v∧Ext w1 w'∧(LsR w.heap.size L v w')from(HB.out w1).mono fun e w2 ⟨u,h1,h2,h3⟩=>⟨_,h1,h3,u,rfl,own_low_mono (Nat.le_trans HX.out.size hx.size) h2⟩).mono fun e w' ⟨v,h1,h2,h3⟩=>⟨v,h1,h2,h3⟩) ?_;refine c_ (s_by (.inl rfl) fun b w1 h K hK=>?_) ?_
   · have hx:=h.ext;replace hK:∀ v w',Ext w1 w'→(LsR w.heap.size L v w')→K (b.put (some 60) v) w':=fun v w' h1 h2=>hK v w' h1 (GdM.prop rfl h2);obtain⟨v69,g69,e69⟩:=h.dep 8 rfl;have g69:LsR w.heap.size L v69 w1:=g69;obtain⟨uq,rfl,hoq⟩:=g69;have e69:=e69 69 rfl;exact op_move rfl (eval_of e69) (hK _ w1 (Ext.refl _) ⟨uq,rfl,hoq⟩)
   refine c_ (s_by (.inl rfl) fun b w1 h K hK=>?_) ?_
   · have hx:=h.ext;replace hK:∀ v w',Ext w1 w'→(OwP w.heap.size L v w')→K (b.put (some 70) v) w':=fun v w' h1 h2=>hK v w' h1 (GdM.prop rfl h2);obtain⟨v60,g60,e60⟩:=h.dep 9 rfl;have g60:LsR w.heap.size L v60 w1:=g60;obtain⟨uq,rfl,hoq⟩:=g60;have e60:=e60 60 rfl;exact op_run (by unfold execOp;simp[e60,Act.eval,go_sem]) (hK _ w1 (Ext.refl _) hoq)
   refine c_ (s_by (.inl rfl) fun b w1 h K hK=>?_) ?_
   · have hx:=h.ext;replace hK:∀ v w',Ext w1 w'→(v = .int .i64 0)→K (b.put (some 71) v) w':=fun v w' h1 h2=>(by subst h2;exact hK _ w' h1 (GdM.val rfl w'));obtain⟨v60,g60,e60⟩:=h.dep 9 rfl;have g60:LsR w.heap.size L v60 w1:=g60;obtain⟨uq,rfl,hoq⟩:=g60;have e60:=e60 60 rfl;exact op_run (by unfold execOp;simp[e60,Act.eval,go_sem]) (hK _ w1 (Ext.refl _) rfl)
   refine c_ (s_by (.inl rfl) fun b w1 h K hK=>?_) ?_
   · have hx:=h.ext;replace hK:∀ v w',Ext w1 w'→(OwP w.heap.size L v w')→K (b.put (some 6) v) w':=fun v w' h1 h2=>hK v w' h1 (GdM.prop rfl h2);obtain⟨v70,g70,e70⟩:=h.dep 10 rfl;have g70:OwP w.heap.size L v70 w1:=g70;have e70:=e70 70 rfl;exact op_assign rfl (eval_of e70) (hK _ w1 (Ext.refl _) g70)
   refine c_ s_mv ?_;exact trivial
 · intro U w9 hx hg;have g8:LsR w.heap.size L (U 8) w9:=hg 8 (by decide) rfl;have g9:LsR w.heap.size L (U 9) w9:=hg 9 (by decide) rfl;have g10:OwP w.heap.size L (U 10) w9:=hg 10 (by decide) rfl;have g12:OwP w.heap.size L (U 12) w9:=hg 12 (by decide) rfl;simp only[fillM,Act.put,List.getElem?_cons_zero,List.getElem?_cons_succ,Option.join_some,Option.getD_some,Option.getD_none,List.setIfInBounds_toArray,List.set_cons_zero,List.set_cons_succ,Nat.zero_add,Nat.reduceAdd];clear hg;have HG:=Lib.hid g12;replace HX:=xEx HX hx;replace H3:=aEx H3 hx;replace H4:=aEx H4 hx;clear hx g8 g9 g10 g12;go_wp2
   go_ret3
   exact⟨_,_,_,L,[],0,rfl,HX.out,HG.out,HCE.out _ HX.out _ _ H4.out H3.out,fun _=>⟨rfl,rfl⟩,fun h=>absurd h (by omega),fun _=>HBR.out⟩
theorem boxOk_tiny{b:Bx}{s:Int}(h:BoxOk b s)(hs:s≤16384):tinyP b.lo∧tinyP b.hi:=by
 obtain⟨h1,h2,h3⟩:=h;unfold tinyP;omega
theorem brushed_any{g:Gr}{A:Option Addr}{c:Nat}{x:Ed}{d m:Int}(hd:2≤d∧d≤3)(h:ChkOk x d m)(hv:validG g=true)(hln:g.cells.length≤80000)(hb:g.box=cubeD d)(w:World)(hA:AxesIn w)(hst:StepsIn w)(hs:Sv w w.heap.size 1 A c (rowsI g.cells)):
    Calls Tryz.prog 36 #[.iface 73 (.agg #[.int .i64 g.box.lo.x,.int .i64 g.box.lo.y,.int .i64 g.box.lo.z,.int .i64 g.box.hi.x,.int .i64 g.box.hi.y,.int .i64 g.box.hi.z,.slice A g.cells.length c]),.agg #[.int .i64 x.st.tick,.int .i64 x.st.clock,.int .i64 x.st.site,.int .i64 x.st.seq,.int .i64 x.kind,.int .i64 x.box.lo.x,.int .i64 x.box.lo.y,.int .i64 x.box.lo.z,.int .i64 x.box.hi.x,.int .i64 x.box.hi.y,.int .i64 x.box.hi.z,.int .i64 x.at_.x,.int .i64 x.at_.y,.int .i64 x.at_.z,.int .i64 x.turn,.int .i64 x.cell,.int .i64 x.size],.int .i64 d] w (BrOut g x d w):=by
 have hk:=h.kind;have ht:0≤x.turn∧x.turn < 48:=by have:=h.turn;unfold isT at this;exact of_decide_eq_true this
 have hp:=(pow_le14 d h.hd).2;obtain⟨k,hkk⟩:∃ k,x.kind=k:=⟨_,rfl⟩
 rcases (show k=1∨k=2∨k=3∨k=4∨k=5∨6≤k by omega)with e | e | e | e | e | e
 · exact brushed_1 hd (hkk.trans e) w
 · have hsz:=h.size;have ha:=inCube_tiny h.hd (h.at_ (by rw[hkk,e];rfl));simp[leastE,mostE,hkk,e]at hsz;exact brushed_2 hd (hkk.trans e) ha hsz w
 · exact brushed_3 hd (hkk.trans e) ht w hA
 · have hbx:=h.box (by rw[hkk,e];rfl);have hbt:=boxOk_tiny hbx hp;exact brushed_4 hd (hkk.trans e) hv hln ht hbx.empty hbt.1 hbt.2 (inCube_tiny h.hd (h.at_ (by rw[hkk,e];rfl))) w hA hs
 · exact brushed_5 hd (hkk.trans e) hv hln hb w hst hs
 · exact brushed_0 hd (by omega) w
end Go.Proofs.YtoecbicdahbccaaGreatDoor
