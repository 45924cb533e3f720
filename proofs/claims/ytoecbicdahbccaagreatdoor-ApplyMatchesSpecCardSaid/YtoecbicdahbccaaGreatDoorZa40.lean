/- A part of the walk of the layer of apply: contracts and plain laws that a row's text leans on. -/
import Derived.Test.YtoecbicdahbccaaGreatDoorZa37
import Derived.Test.YtoecbicdahbccaaGreatDoorZa39
set_option maxRecDepth 100000
set_option maxHeartbeats 16000000
namespace Go.Proofs.YtoecbicdahbccaaGreatDoor
open Go Go.RowKit
theorem all_upto{f:Int→Bool}{l:List Int}(h:∀ (i:Nat) (y:Int),i < l.length→l[i]? = some y→f y=true):l.all f=true:=by
 rw[List.all_eq_true];intro x hx;obtain⟨i,hi⟩:=List.getElem?_of_mem hx;exact h i x (List.getElem?_eq_some_iff.1 hi).1 hi
theorem all_not{f:Int→Bool}{l:List Int}{j:Nat}{v:Int}(hv:l[j]? = some v)(hf:f v=false):l.all f=false:=by
 rw[Bool.eq_false_iff];intro h;rw[List.all_eq_true]at h;rw[h v (List.mem_of_getElem? hv)]at hf
 cases hf
theorem refValid_r1(g:Gr)(A:Option Addr)(c:Nat)(w:World)(hs:Sv w w.heap.size 1 A c (rowsI g.cells))(h1:rngP g.box.lo=false):
    Calls Tryz.prog 30 #[.agg #[.int .i64 g.box.lo.x,.int .i64 g.box.lo.y,.int .i64 g.box.lo.z,.int .i64 g.box.hi.x,.int .i64 g.box.hi.y,.int .i64 g.box.hi.z,.slice A g.cells.length c]] w fun e w'=>e = .returned (.bool false)∧Ext w w':=by
 have hln:g.cells.length≤9223372036854775807:=by have h:=hs.len;rw[rowsI_length]at h;exact h
 have HS:=Lib.hid hs;clear hs;have H1:=Lib.hid (fun w'=>h1 ▸ refRanged_any g.box.lo w');have H2:=Lib.hid (fun w'=>refRanged_any g.box.hi w');clear h1;generalize rngP g.box.hi=b2 at H2
 go_enter Tryz.func30,Tryz.ntmps30
 go_upto_region 1 with fail
 obtain⟨W0,hW⟩:∃ W,W=w.alloc (.cells #[.int .i64 g.box.lo.x,.int .i64 g.box.lo.y,.int .i64 g.box.lo.z,.int .i64 g.box.hi.x,.int .i64 g.box.hi.y,.int .i64 g.box.hi.z,.slice A g.cells.length c] 28):=⟨_,rfl⟩;have hx0:Ext w W0:=by rw[hW];exact(Ext.refl w).alloc _
 have B0:Arr W0 w.heap.size 28 [.int .i64 g.box.lo.x,.int .i64 g.box.lo.y,.int .i64 g.box.lo.z,.int .i64 g.box.hi.x,.int .i64 g.box.hi.y,.int .i64 g.box.hi.z,.slice A g.cells.length c]:=by rw[hW];exact Arr.new w _ _
 rw[← hW];clear hW;have cB0:=B0.cell;have fB0:=B0.frozen;have lB0:=B0.lt
 go_upto_region 2 with(first | (go_at_call 61;(refine(H1.out _).mono ?_);rintro e wx ⟨rfl,xx⟩;have xz:=xx.size;(try simp only[World.size_alloc_,World.size_setCell_]at xz);obtain⟨B0,cB0,fB0,lB0⟩:=Arr.look (w':=wx) B0 byX))
 go_upto_region 3 with(first | (go_at_call 61;(refine(H2.out _).mono ?_);rintro e wx ⟨rfl,xx⟩;have xz:=xx.size;(try simp only[World.size_alloc_,World.size_setCell_]at xz);obtain⟨B0,cB0,fB0,lB0⟩:=Arr.look (w':=wx) B0 byX))
 go_wp2
 go_ret
 exact⟨rfl,byX⟩
theorem refValid_r2(g:Gr)(A:Option Addr)(c:Nat)(w:World)(hs:Sv w w.heap.size 1 A c (rowsI g.cells))(h1:rngP g.box.lo=true)(h2:rngP g.box.hi=false):
    Calls Tryz.prog 30 #[.agg #[.int .i64 g.box.lo.x,.int .i64 g.box.lo.y,.int .i64 g.box.lo.z,.int .i64 g.box.hi.x,.int .i64 g.box.hi.y,.int .i64 g.box.hi.z,.slice A g.cells.length c]] w fun e w'=>e = .returned (.bool false)∧Ext w w':=by
 have hln:g.cells.length≤9223372036854775807:=by have h:=hs.len;rw[rowsI_length]at h;exact h
 have HS:=Lib.hid hs;clear hs;have H1:=Lib.hid (fun w'=>h1 ▸ refRanged_any g.box.lo w');have H2:=Lib.hid (fun w'=>h2 ▸ refRanged_any g.box.hi w');clear h1 h2
 go_enter Tryz.func30,Tryz.ntmps30
 go_upto_region 1 with fail
 obtain⟨W0,hW⟩:∃ W,W=w.alloc (.cells #[.int .i64 g.box.lo.x,.int .i64 g.box.lo.y,.int .i64 g.box.lo.z,.int .i64 g.box.hi.x,.int .i64 g.box.hi.y,.int .i64 g.box.hi.z,.slice A g.cells.length c] 28):=⟨_,rfl⟩;have hx0:Ext w W0:=by rw[hW];exact(Ext.refl w).alloc _
 have B0:Arr W0 w.heap.size 28 [.int .i64 g.box.lo.x,.int .i64 g.box.lo.y,.int .i64 g.box.lo.z,.int .i64 g.box.hi.x,.int .i64 g.box.hi.y,.int .i64 g.box.hi.z,.slice A g.cells.length c]:=by rw[hW];exact Arr.new w _ _
 rw[← hW];clear hW;have cB0:=B0.cell;have fB0:=B0.frozen;have lB0:=B0.lt
 go_upto_region 2 with(first | (go_at_call 61;(refine(H1.out _).mono ?_);rintro e wx ⟨rfl,xx⟩;have xz:=xx.size;(try simp only[World.size_alloc_,World.size_setCell_]at xz);obtain⟨B0,cB0,fB0,lB0⟩:=Arr.look (w':=wx) B0 byX))
 go_upto_region 3 with(first | (go_at_call 61;(refine(H2.out _).mono ?_);rintro e wx ⟨rfl,xx⟩;have xz:=xx.size;(try simp only[World.size_alloc_,World.size_setCell_]at xz);obtain⟨B0,cB0,fB0,lB0⟩:=Arr.look (w':=wx) B0 byX))
 go_wp2
 go_ret
 exact⟨rfl,byX⟩
theorem refValid_s(g:Gr)(A:Option Addr)(c:Nat)(w:World)(hs:Sv w w.heap.size 1 A c (rowsI g.cells))(h1:rngP g.box.lo=true)(h2:rngP g.box.hi=true)(V:Int)(hV:volP g.box=V)(nz:Bool)(hnz:decide (g.box≠zeroBx)=nz)(q0 q2 q3:Bool)(e0:(V == 0)=q0)(e2:decide (2097152 < V)=q2)(e3:((g.cells.length:Int) != V)=q3)
    (hb:(q0=true∧nz=true)∨(q0=false∧q2=true)∨(q0=true∧nz=false∧q2=false∧q3=true)∨(q0=false∧q2=false∧q3=true)):
    Calls Tryz.prog 30 #[.agg #[.int .i64 g.box.lo.x,.int .i64 g.box.lo.y,.int .i64 g.box.lo.z,.int .i64 g.box.hi.x,.int .i64 g.box.hi.y,.int .i64 g.box.hi.z,.slice A g.cells.length c]] w fun e w'=>e = .returned (.bool false)∧Ext w w':=by
 have hln:g.cells.length≤9223372036854775807:=by have h:=hs.len;rw[rowsI_length]at h;exact h
 have HS:=Lib.hid hs;clear hs;have H1:=Lib.hid (fun w'=>h1 ▸ refRanged_any g.box.lo w');have H2:=Lib.hid (fun w'=>h2 ▸ refRanged_any g.box.hi w');have HV:=Lib.hid (fun w'=>hV ▸ refVolume_any g.box w');have hnq:∀ w,(binOp .neq 25 (.agg #[.int .i64 g.box.lo.x,.int .i64 g.box.lo.y,.int .i64 g.box.lo.z,.int .i64 g.box.hi.x,.int .i64 g.box.hi.y,.int .i64 g.box.hi.z]) (.agg #[.int .i64 0,.int .i64 0,.int .i64 0,.int .i64 0,.int .i64 0,.int .i64 0])).run Tryz.prog w = .ok (.bool (decide (g.box≠zeroBx))) w:=neqBx_run g.box zeroBx;rw[hnz]at hnq;have HNQ:=Lib.hid hnq;have E0:=Lib.hid e0;have E2:=Lib.hid e2;have E3:=Lib.hid e3;clear h1 h2 hV hnz hnq e0 e2 e3
 go_enter Tryz.func30,Tryz.ntmps30
 go_upto_region 1 with fail
 obtain⟨W0,hW⟩:∃ W,W=w.alloc (.cells #[.int .i64 g.box.lo.x,.int .i64 g.box.lo.y,.int .i64 g.box.lo.z,.int .i64 g.box.hi.x,.int .i64 g.box.hi.y,.int .i64 g.box.hi.z,.slice A g.cells.length c] 28):=⟨_,rfl⟩;have hx0:Ext w W0:=by rw[hW];exact(Ext.refl w).alloc _
 have B0:Arr W0 w.heap.size 28 [.int .i64 g.box.lo.x,.int .i64 g.box.lo.y,.int .i64 g.box.lo.z,.int .i64 g.box.hi.x,.int .i64 g.box.hi.y,.int .i64 g.box.hi.z,.slice A g.cells.length c]:=by rw[hW];exact Arr.new w _ _
 rw[← hW];clear hW;have cB0:=B0.cell;have fB0:=B0.frozen;have lB0:=B0.lt
 go_upto_region 2 with(first | (go_at_call 61;(refine(H1.out _).mono ?_);rintro e wx ⟨rfl,xx⟩;have xz:=xx.size;(try simp only[World.size_alloc_,World.size_setCell_]at xz);obtain⟨B0,cB0,fB0,lB0⟩:=Arr.look (w':=wx) B0 byX))
 go_upto_region 3 with(first | (go_at_call 61;(refine(H2.out _).mono ?_);rintro e wx ⟨rfl,xx⟩;have xz:=xx.size;(try simp only[World.size_alloc_,World.size_setCell_]at xz);obtain⟨B0,cB0,fB0,lB0⟩:=Arr.look (w':=wx) B0 byX))
 go_upto_region 6 with(first | (go_at_call 62;(refine(HV.out _).mono ?_);rintro e wx ⟨rfl,xx⟩;have xz:=xx.size;(try simp only[World.size_alloc_,World.size_setCell_]at xz);obtain⟨B0,cB0,fB0,lB0⟩:=Arr.look (w':=wx) B0 byX))
 have hnq:=HNQ.out;have e0:=E0.out;have e2:=E2.out;have e3:=E3.out
 rcases hb with⟨rfl,rfl⟩ | ⟨rfl,rfl⟩ | ⟨rfl,rfl,rfl,rfl⟩ | ⟨rfl,rfl,rfl⟩
 · go_wp2
   go_ret
   exact⟨rfl,byX⟩
 · go_wp2
   go_ret
   exact⟨rfl,byX⟩
 · go_wp2
   go_ret
   exact⟨rfl,byX⟩
 · go_wp2
   go_ret
   exact⟨rfl,byX⟩
theorem refValid_l(g:Gr)(A:Option Addr)(c:Nat)(w:World)(hs:Sv w w.heap.size 1 A c (rowsI g.cells))(h1:rngP g.box.lo=true)(h2:rngP g.box.hi=true)(hV:volP g.box=g.cells.length)(nz:Bool)(hnz:decide (g.box≠zeroBx)=nz)(q0:Bool)(e0:((g.cells.length:Int) == 0)=q0)(e2:decide (2097152 < (g.cells.length:Int))=false)
    (hb:(q0=true∧nz=false)∨q0=false):
    Calls Tryz.prog 30 #[.agg #[.int .i64 g.box.lo.x,.int .i64 g.box.lo.y,.int .i64 g.box.lo.z,.int .i64 g.box.hi.x,.int .i64 g.box.hi.y,.int .i64 g.box.hi.z,.slice A g.cells.length c]] w fun e w'=>e = .returned (.bool (g.cells.all matN))∧Ext w w':=by
 have hln:g.cells.length≤9223372036854775807:=by have h:=hs.len;rw[rowsI_length]at h;exact h
 have HS:=Lib.hid hs;clear hs;have H1:=Lib.hid (fun w'=>h1 ▸ refRanged_any g.box.lo w');have H2:=Lib.hid (fun w'=>h2 ▸ refRanged_any g.box.hi w');have HV:=Lib.hid (fun w'=>hV ▸ refVolume_any g.box w');have hnq:∀ w,(binOp .neq 25 (.agg #[.int .i64 g.box.lo.x,.int .i64 g.box.lo.y,.int .i64 g.box.lo.z,.int .i64 g.box.hi.x,.int .i64 g.box.hi.y,.int .i64 g.box.hi.z]) (.agg #[.int .i64 0,.int .i64 0,.int .i64 0,.int .i64 0,.int .i64 0,.int .i64 0])).run Tryz.prog w = .ok (.bool (decide (g.box≠zeroBx))) w:=neqBx_run g.box zeroBx;rw[hnz]at hnq;have HNQ:=Lib.hid hnq;have hl2:g.cells.length≤2097152:=by simp at e2;omega
 have E0:=Lib.hid e0;have E2:=Lib.hid e2;have E3:=Lib.hid (show((g.cells.length:Int) != (g.cells.length:Int))=false by simp);clear h1 h2 hV hnz hnq e0 e2
 go_enter Tryz.func30,Tryz.ntmps30
 go_upto_region 1 with fail
 obtain⟨W0,hW⟩:∃ W,W=w.alloc (.cells #[.int .i64 g.box.lo.x,.int .i64 g.box.lo.y,.int .i64 g.box.lo.z,.int .i64 g.box.hi.x,.int .i64 g.box.hi.y,.int .i64 g.box.hi.z,.slice A g.cells.length c] 28):=⟨_,rfl⟩;have hx0:Ext w W0:=by rw[hW];exact(Ext.refl w).alloc _
 have B0:Arr W0 w.heap.size 28 [.int .i64 g.box.lo.x,.int .i64 g.box.lo.y,.int .i64 g.box.lo.z,.int .i64 g.box.hi.x,.int .i64 g.box.hi.y,.int .i64 g.box.hi.z,.slice A g.cells.length c]:=by rw[hW];exact Arr.new w _ _
 rw[← hW];clear hW;have cB0:=B0.cell;have fB0:=B0.frozen;have lB0:=B0.lt
 go_upto_region 2 with(first | (go_at_call 61;(refine(H1.out _).mono ?_);rintro e wx ⟨rfl,xx⟩;have xz:=xx.size;(try simp only[World.size_alloc_,World.size_setCell_]at xz);obtain⟨B0,cB0,fB0,lB0⟩:=Arr.look (w':=wx) B0 byX))
 go_upto_region 3 with(first | (go_at_call 61;(refine(H2.out _).mono ?_);rintro e wx ⟨rfl,xx⟩;have xz:=xx.size;(try simp only[World.size_alloc_,World.size_setCell_]at xz);obtain⟨B0,cB0,fB0,lB0⟩:=Arr.look (w':=wx) B0 byX))
 go_upto_region 6 with(first | (go_at_call 62;(refine(HV.out _).mono ?_);rintro e wx ⟨rfl,xx⟩;have xz:=xx.size;(try simp only[World.size_alloc_,World.size_setCell_]at xz);obtain⟨B0,cB0,fB0,lB0⟩:=Arr.look (w':=wx) B0 byX))
 have hnq:=HNQ.out;have e0:=E0.out;have e2:=E2.out;have e3:=E3.out
 rcases hb with⟨rfl,rfl⟩ | rfl <;>
 · go_wp2_with fail
   have hx2:Ext w wx:=byX;have HX:=Lib.hid hx2;have HB:=Lib.hid B0;clear hx2 e0 e2 e3 hnq hx0 xz cB0 fB0 lB0 B0
   go_loopw [6] (fun i wr=>∃ j:Nat,j≤g.cells.length∧i = .int .i64 j∧(∀ (i:Nat) (y:Int),i < j→g.cells[i]? = some y→matN y=true)∧Ext wx wr) (fun i _=>g.cells.length - (intOf i).toNat)
   case atStart=>exact⟨0,Nat.zero_le _,rfl,fun i y hi=>by omega,Ext.refl _⟩
   case round=>
    obtain⟨j,hj,rfl,hno,hx⟩:=hrel;have HNO:=Lib.hid hno;clear hno;have B1:=HB.out.ext hx;have cB:=B1.cell 6;have lB:=B1.lt;simp only[List.getElem?_cons_zero,List.getElem?_cons_succ]at cB;clear B1
    by_cases hlt:j < g.cells.length
    · obtain⟨v,hv⟩:∃ v,g.cells[j]? = some v:=⟨_,List.getElem?_eq_getElem hlt⟩;obtain⟨b',off,rfl,hbl,r0⟩:=int_row (HS.out.ext (HX.out.trans hx)) hv;have HM:=Lib.hid (fun w'=>refIsMaterial_any v w');have HVV:=Lib.hid hv;generalize hbe:matN v=be at HM;have HBE:=Lib.hid hbe;have HXX:=Lib.hid hx;clear hv hbe hx
      cases be
      · go_wp2_with fail
        refine(HM.out _).mono ?_;rintro e wy ⟨rfl,xx⟩;go_wp2
        go_ret
        exact⟨ret_bool (all_not HVV.out HBE.out).symm,(HX.out.trans HXX.out).trans xx⟩
      · go_wp2_with fail
        refine(HM.out _).mono ?_;rintro e wy ⟨rfl,xx⟩;go_wp2
        go_roundw
        case rel=>
         refine⟨j+1,by omega,by go_num,fun i y hi hy=>?_,HXX.out.trans xx⟩
         rcases Nat.lt_succ_iff_lt_or_eq.1 hi with h1 | rfl
         · exact HNO.out i y h1 hy
         · rw[HVV.out]at hy;injection hy with hy;subst hy;exact HBE.out
        case measure=>simp[intOf];omega
    · obtain rfl:j=g.cells.length:=by omega
      go_wp2
      go_ret
      exact⟨ret_bool (all_upto HNO.out).symm,HX.out.trans hx⟩
theorem refValid_any(g:Gr)(A:Option Addr)(c:Nat)(w:World)(hs:Sv w w.heap.size 1 A c (rowsI g.cells)):
    Calls Tryz.prog 30 #[.agg #[.int .i64 g.box.lo.x,.int .i64 g.box.lo.y,.int .i64 g.box.lo.z,.int .i64 g.box.hi.x,.int .i64 g.box.hi.y,.int .i64 g.box.hi.z,.slice A g.cells.length c]] w fun e w'=>e = .returned (.bool (validG g))∧Ext w w':=by
 unfold validG
 cases h1:rngP g.box.lo
 · exact refValid_r1 g A c w hs h1
 cases h2:rngP g.box.hi
 · exact refValid_r2 g A c w hs h1 h2
 simp only[Bool.true_and];generalize hV:volP g.box=V;generalize hnz:decide (g.box≠zeroBx)=nz;have HSH:shapeG g = !(((decide (V=0) && nz) || decide (2097152 < V)) || decide ((g.cells.length:Int)≠V)):=by unfold shapeG;rw[hV,hnz]
 have e00:(V == 0)=decide (V=0):=rfl;have e33:((g.cells.length:Int) != V)=decide ((g.cells.length:Int)≠V):=by simp[bne];rfl
 cases hsh:shapeG g
 · refine refValid_s g A c w hs h1 h2 V hV nz hnz _ _ _ e00 rfl e33 ?_;rw[hsh]at HSH
   by_cases h0:V=0
   · subst h0
     cases nz
     · refine .inr (.inr (.inl ⟨by simp,rfl,by simp,?_⟩));simpa using HSH
     · exact .inl ⟨by simp,rfl⟩
   · by_cases h2:2097152 < V
     · exact .inr (.inl ⟨by simp[h0],by simp[h2]⟩)
     · exact .inr (.inr (.inr ⟨by simp[h0],by simp[h2],by simpa[h0,h2]using HSH⟩))
 · rw[hsh]at HSH;have h3:(g.cells.length:Int)=V:=by
    by_cases h3:(g.cells.length:Int)=V
    · exact h3
    · simp[h3]at HSH
   have hlt:decide (2097152 < V)=false:=by
    cases hlt:decide (2097152 < V)
    · rfl
    · rw[hlt]at HSH;simp at HSH
   subst h3;simp only[Bool.true_and];refine refValid_l g A c w hs h1 h2 hV nz hnz _ e00 hlt ?_
   by_cases h0:(g.cells.length:Int)=0
   · refine .inl ⟨by simpa using h0,?_⟩
     cases nz
     · rfl
     · rw[h0]at HSH;simp at HSH
   · exact .inr (by simpa using h0)
theorem get_any{g:Gr}{sx sy sz:Nat}(G:GoodG g sx sy sz)(A:Option Addr)(c:Nat)(p:Pt)(w:World)(hs:Sv w w.heap.size 1 A c (rowsI g.cells)){v:Int}(h:fld g p=some v):
    Calls Tryz.prog 19 #[.agg #[.int .i64 g.box.lo.x,.int .i64 g.box.lo.y,.int .i64 g.box.lo.z,.int .i64 g.box.hi.x,.int .i64 g.box.hi.y,.int .i64 g.box.hi.z,.slice A g.cells.length c],.agg #[.int .i64 p.x,.int .i64 p.y,.int .i64 p.z]] w fun e w'=>e = .returned (.int .i64 v)∧Ext w w':=by
 have hin:=fld_some h;obtain⟨u,h1,h2⟩:=G.fld_in hin;rw[h]at h1;injection h1 with h1
 subst h1;exact refGet_in g A c p w hs hin _ _ (G.idxW hin) h2
theorem refcube_any(d:Int)(hd:2≤d∧d≤14)(w:World):
    Calls Tryz.prog 57 #[.int .i64 d] w fun e w'=>e = .returned (.agg #[.int .i64 (cubeB (2 ^ d.toNat)).lo.x,.int .i64 (cubeB (2 ^ d.toNat)).lo.y,.int .i64 (cubeB (2 ^ d.toNat)).lo.z,.int .i64 (cubeB (2 ^ d.toNat)).hi.x,.int .i64 (cubeB (2 ^ d.toNat)).hi.y,.int .i64 (cubeB (2 ^ d.toNat)).hi.z])∧Ext w w':=by
 have hsh:=shl_run d hd;generalize (2:Int) ^ d.toNat=S at hsh;simp only[cubeB];clear hd
 go_enter Tryz.func57,Tryz.ntmps57
 go_wp2_with fail
 ((refine(refCube_any _ _).mono ?_);rintro e wx ⟨rfl,xx⟩;have xz:=xx.size;(try simp only[World.size_alloc_]at xz))
 have B0:=(Arr.new w 25 [.int .i64 0,.int .i64 0,.int .i64 0,.int .i64 0,.int .i64 0,.int .i64 0]).ext xx
 go_wp2_with (first | (refine wpList_store_blk 25 (.tmp 2) (.tmp 5) rfl rfl B0 [.int .i64 0,.int .i64 0,.int .i64 0,.int .i64 S,.int .i64 S,.int .i64 S] rfl rfl (by kernel_rfl) rfl rfl ?_))
 have B1:=B0.setRow [.int .i64 0,.int .i64 0,.int .i64 0,.int .i64 S,.int .i64 S,.int .i64 S]
 (try simp only[Exit.inBlock,Exit.then])
 refine bodyPost_ret (v:=.agg #[.int .i64 0,.int .i64 0,.int .i64 0,.int .i64 S,.int .i64 S,.int .i64 S]) ?_ rfl ⟨rfl,byX⟩;exact results_cell_row Tryz.results57 _ _ _ _ _ _ _ rfl B1 Tryz.underlying25 rfl (by kernel_rfl)
theorem ref26Cube_any(d:Int)(hd:2≤d∧d≤14)(w:World):
    Calls Tryz.prog 31 #[.int .i64 d] w fun e w'=>e = .returned (.agg #[.int .i64 (cubeB (2 ^ d.toNat)).lo.x,.int .i64 (cubeB (2 ^ d.toNat)).lo.y,.int .i64 (cubeB (2 ^ d.toNat)).lo.z,.int .i64 (cubeB (2 ^ d.toNat)).hi.x,.int .i64 (cubeB (2 ^ d.toNat)).hi.y,.int .i64 (cubeB (2 ^ d.toNat)).hi.z])∧Ext w w':=by
 have hsh:=shl_run d hd;generalize (2:Int) ^ d.toNat=S at hsh;simp only[cubeB];clear hd
 go_enter Tryz.func31,Tryz.ntmps31
 go_wp2_with fail
 ((refine(refCube_any _ _).mono ?_);rintro e wx ⟨rfl,xx⟩;have xz:=xx.size;(try simp only[World.size_alloc_]at xz))
 have B0:=(Arr.new w 25 [.int .i64 0,.int .i64 0,.int .i64 0,.int .i64 0,.int .i64 0,.int .i64 0]).ext xx
 go_wp2_with (first | (refine wpList_store_blk 25 (.tmp 2) (.tmp 5) rfl rfl B0 [.int .i64 0,.int .i64 0,.int .i64 0,.int .i64 S,.int .i64 S,.int .i64 S] rfl rfl (by kernel_rfl) rfl rfl ?_))
 have B1:=B0.setRow [.int .i64 0,.int .i64 0,.int .i64 0,.int .i64 S,.int .i64 S,.int .i64 S]
 (try simp only[Exit.inBlock,Exit.then])
 refine bodyPost_ret (v:=.agg #[.int .i64 0,.int .i64 0,.int .i64 0,.int .i64 S,.int .i64 S,.int .i64 S]) ?_ rfl ⟨rfl,byX⟩;exact results_cell_row Tryz.results31 _ _ _ _ _ _ _ rfl B1 Tryz.underlying25 rfl (by kernel_rfl)
theorem eff_rng{g:Gr}{x:Ed}{d m:Int}{r:List Pt}(hft:fits x)(hc:checkE x d m=0)(hm:m≤256)(hv:validG g=true)(_hb:g.box=cubeD d):∀ p,inP p g.box=true→0≤effF x (matF g) r p∧effF x (matF g) r p < 256:=by
 intro p hp;have hk:=chk_ok hft hc;have hcell:=hk.cell;have hall:∀ q,0≤matF g q∧matF g q < 256:=fun q=>by
  cases hq:inP q g.box
  · unfold matF;rw[show fld g q=none from fld_out hq];exact⟨by decide,by decide⟩
  · exact matF_rng hv hq
 unfold effF newE
 split
 · split
   · exact hall _
   · omega
 · exact hall _
theorem ok_write{g:Gr}{x:Ed}{d m:Int}{l:List Chg}{r:List Pt}(hft:fits x)(hm:m≤256)(hv:validG g=true)(hb:g.box=cubeD d)(h:EdOk g x d m l r):
    validG (writeG g l)=true∧(∀ p,inP p (cubeD d)=true→matF (writeG g l) p=effF x (matF g) r p)∧l=diffL (cubeD d) (matF g) (matF (writeG g l)):=by
 have hr:=eff_rng (r:=r) hft h.chk hm hv hb;have hl:=h.eq;rw[← hb]at hl;subst hl;have hval:=writeG_valid hv (diffL_good (F:=matF g) hr);have hw:∀ p,inP p (cubeD d)=true→matF (writeG g (diffL g.box (matF g) (effF x (matF g) r))) p=effF x (matF g) r p:=fun p hp=>write_diff hv hr (by rw[hb];exact hp);refine⟨hval,hw,?_⟩
 conv=>lhs;rw[hb]
 exact diffL_congr (fun _ _=>rfl) (fun p hp=>(hw p hp).symm)
theorem ChgOut.next{g:Gr}{x:Ed}{d m:Int}{l:List Chg}{er:Int}(h:ChgOut g x d m l er)(hft:fits x)(hm:m≤256)(hv:validG g=true)(hb:g.box=cubeD d):validG (writeG g l)=true:=by
 rcases h.ok with⟨_,rfl⟩ | ⟨_,r,k⟩
 · exact hv
 · exact(ok_write hft hm hv hb k).1
structure FitsP (g:Gr) (d m:Int):Prop where
 val:validG g=true
 dd:2≤d∧d≤3
 box:g.box=cubeD d
 lt:∀ v,v∈g.cells→v < m
def RetF(g:Gr)(d m:Int)(w:World)(e:Ending)(w':World):Prop:=∃ b:Bool,e = .returned (.bool b)∧(b=true→FitsP g d m)∧Ext w w'
theorem fits26_any{g:Gr}{A:Option Addr}{c:Nat}{d m:Int}(w:World)(h1:Sv w w.heap.size 1 A c (rowsI g.cells)):
    Calls Tryz.prog 9 #[.agg #[.int .i64 g.box.lo.x,.int .i64 g.box.lo.y,.int .i64 g.box.lo.z,.int .i64 g.box.hi.x,.int .i64 g.box.hi.y,.int .i64 g.box.hi.z,.slice A g.cells.length c],.int .i64 d,.int .i64 m] w (RetF g d m w):=by
 have hm:=mixed;have hG:=near_old;have hln:g.cells.length≤9223372036854775807:=by have h:=h1.len;rw[rowsI_length]at h;exact h
 obtain⟨W0,hW⟩:∃ W,W=w.alloc (.cells #[.int .i64 g.box.lo.x,.int .i64 g.box.lo.y,.int .i64 g.box.lo.z,.int .i64 g.box.hi.x,.int .i64 g.box.hi.y,.int .i64 g.box.hi.z,.slice A g.cells.length c] 28):=⟨_,rfl⟩;have hx0:Ext w W0:=by rw[hW];exact(Ext.refl w).alloc _
 have H3:=Lib.hid (show Arr W0 w.heap.size 28 [.int .i64 g.box.lo.x,.int .i64 g.box.lo.y,.int .i64 g.box.lo.z,.int .i64 g.box.hi.x,.int .i64 g.box.hi.y,.int .i64 g.box.hi.z,.slice A g.cells.length c]by rw[hW];exact Arr.new w _ [.int .i64 g.box.lo.x,.int .i64 g.box.lo.y,.int .i64 g.box.lo.z,.int .i64 g.box.hi.x,.int .i64 g.box.hi.y,.int .i64 g.box.hi.z,.slice A g.cells.length c]);have HS:=Lib.hid (h1.ext hx0);have HV:=Lib.hid (fun(W:World) (hx:Ext w W)=>refValid_any g A c W (h1.ext hx));have HX:=Lib.hid hx0;clear h1 hx0;obtain⟨bv,hbv⟩:∃ bv,validG g=bv:=⟨_,rfl⟩;rw[hbv]at HV;have HBV:=Lib.hid hbv;clear hbv
 go_enter Tryz.func9,Tryz.ntmps9
 go_upto_region 1 with fail
 rw[← hW];clear hW
 go_upto_region 2 with(first
  | (refine ldB 28 3 H3.out Tryz.underlying28 ?_)
  | (go_at_call 30;refine(HV.out _ HX.out).mono ?_;rintro e W1 ⟨rfl,hx⟩;replace HX:=xEx HX hx;replace H3:=aEx H3 hx;replace HS:=Lib.hid (HS.out.ext hx);clear hx))
 cases bv
 · refine wp_region_near (by assumption) (by kernel_rfl) ?_
   repeat (go_big_quiet_step (fail))
   refine wpQuiet_nil ?_;intro w1 hw1;have hy:=Ext.of_near hw1;clear hw1;go_wp2
   go_ret
   exact⟨_,rfl,fun h=>(by cases h),HX.out.trans hy⟩
 · by_cases hd2:d < 2
   · refine wp_region_near (by assumption) (by kernel_rfl) ?_
     repeat (go_big_quiet_step (fail))
     refine wpQuiet_nil ?_;intro w1 hw1;have hy:=Ext.of_near hw1;clear hw1;go_wp2
     go_ret
     exact⟨_,rfl,fun h=>(by cases h),HX.out.trans hy⟩
   · by_cases hd3:3 < d
     · refine wp_region_near (by assumption) (by kernel_rfl) ?_
       repeat (go_big_quiet_step (fail))
       refine wpQuiet_nil ?_;intro w1 hw1;have hy:=Ext.of_near hw1;clear hw1;go_wp2
       go_ret
       exact⟨_,rfl,fun h=>(by cases h),HX.out.trans hy⟩
     · have HD:=Lib.hid (show 2≤d∧d≤3 by omega);have HCU:=Lib.hid (fun(w1:World)=>(show Calls Tryz.prog 31 #[.int .i64 d] w1 fun e w'=>e = .returned (.agg #[.int .i64 (cubeD d).lo.x,.int .i64 (cubeD d).lo.y,.int .i64 (cubeD d).lo.z,.int .i64 (cubeD d).hi.x,.int .i64 (cubeD d).hi.y,.int .i64 (cubeD d).hi.z])∧Ext w1 w' from ref26Cube_any d (by have:=HD.out;omega) w1));obtain⟨cu,hcu⟩:∃ cu,cubeD d=cu:=⟨_,rfl⟩;rw[hcu]at HCU;have HCC:=Lib.hid hcu;clear hcu;obtain⟨bn,hbn⟩:∃ bn,decide (g.box≠cu)=bn:=⟨_,rfl⟩;have hn:=neqBxv_run g.box cu hbn;have HBN:=Lib.hid hbn;clear hbn;have s0:=H3.out.cell 0;have s1:=H3.out.cell 1;have s2:=H3.out.cell 2;have s3:=H3.out.cell 3;have s4:=H3.out.cell 4;have s5:=H3.out.cell 5;have l3:=H3.out.lt;simp only[List.getElem?_cons_zero,List.getElem?_cons_succ]at s0 s1 s2 s3 s4 s5
       cases bn
       rotate_left 1
       · refine wp_region_near (by assumption) (by kernel_rfl) ?_
         repeat (go_big_quiet_step ((go_at_call 31;exact near_call (HCU.out _))))
         refine wpQuiet_nil ?_;intro w1 hw1;have hy:=Ext.of_near hw1;clear hw1;go_wp2
         go_ret
         exact⟨_,rfl,fun h=>(by cases h),HX.out.trans hy⟩
       have HBX:=Lib.hid (show g.box=cubeD d by rw[HCC.out];have:=HBN.out;simpa using this);refine wp_region_near (by assumption) (by kernel_rfl) ?_
       repeat (go_big_quiet_step ((go_at_call 31;exact near_call (HCU.out _))))
       refine wpQuiet_nil ?_;intro w1 hw1;have hy:=Ext.of_near hw1;clear hw1;replace HX:=xEx HX hy;replace H3:=aEx H3 hy;replace HS:=Lib.hid (HS.out.ext hy);clear hy s0 s1 s2 s3 s4 s5 l3 hn hd2 hd3
       go_upto_region 5 with fail
       go_loopw [8] (fun i wr=>∃ j:Nat,j≤g.cells.length∧i = .int .i64 j∧(∀ (i:Nat) (x:Int),i < j→g.cells[i]? = some x→x < m)∧Ext w1 wr) (fun i _=>g.cells.length - (intOf i).toNat)
       case atStart=>exact⟨0,Nat.zero_le _,rfl,fun i x hi=>by omega,Ext.refl _⟩
       case round=>
        obtain⟨j,hj,rfl,hno,hx⟩:=hrel;have HNN:=Lib.hid hno;clear hno;have HX1:=Lib.hid hx;have s3:=(H3.out.ext hx).cell 6;have l3:=(H3.out.ext hx).lt;simp only[List.getElem?_cons_zero,List.getElem?_cons_succ]at s3
        by_cases hlt:j < g.cells.length
        · obtain⟨x,hxj⟩:∃ x,g.cells[j]? = some x:=⟨_,List.getElem?_eq_getElem hlt⟩;obtain⟨b',off,rfl,hbl,r0⟩:=int_row (HS.out.ext hx) hxj;have HXJ:=Lib.hid hxj;clear hxj hx
          by_cases hxy:m≤x
          · go_wp2
            go_ret
            exact⟨_,rfl,fun h=>(by cases h),HX.out.trans HX1.out⟩
          · have HXY:=Lib.hid (show x < m by omega);go_wp2
            go_roundw
            case rel=>
             refine⟨j+1,by omega,by go_num,fun i x' hi h=>?_,HX1.out⟩
             rcases Nat.lt_succ_iff_lt_or_eq.1 hi with h1 | rfl
             · exact HNN.out i x' h1 h
             · rw[HXJ.out]at h;injection h with h;subst h;exact HXY.out
            case measure=>simp[intOf];omega
        · obtain rfl:j=g.cells.length:=by omega
          go_wp2
          go_ret
          refine⟨_,rfl,fun _=>⟨HBV.out,HD.out,HBX.out,fun v hv=>?_⟩,HX.out.trans HX1.out⟩;obtain⟨i,hi⟩:=List.getElem?_of_mem hv;exact HNN.out i v (List.getElem?_eq_some_iff.1 hi).1 hi
theorem tidy_at{l:List Chg}(h:tidyC l){m:Nat}{x y:Chg}(hy:l[m]? = some y)(hx:l[m+1]? = some x):befP y.at_ x.at_=true:=by
 obtain⟨h1,rfl⟩:=List.getElem?_eq_some_iff.1 hy;obtain⟨h2,rfl⟩:=List.getElem?_eq_some_iff.1 hx;exact List.pairwise_iff_getElem.1 h.1 m (m+1) h1 h2 (by omega)
theorem tidy26_any{A:Option Addr}{c:Nat}{l:List Chg}(ht:tidyC l)(w:World)(hs:Sv w w.heap.size 5 A c (rowsC l)):
    Calls Tryz.prog 25 #[.slice A l.length c] w fun e w'=>e = .returned (.bool true)∧Ext w w':=by
 have hm:=mixed;have hG:=near_old;have hln:l.length≤9223372036854775807:=by have h:=hs.len;rw[rowsC_length]at h;exact h
 have HS:=Lib.hid hs;have HT:=Lib.hid ht;clear hs ht
 go_enter Tryz.func25,Tryz.ntmps25
 go_wp2
 go_loopw [3] (fun i wr=>∃ j:Nat,j≤l.length∧i = .int .i64 j∧Ext w wr) (fun i _=>l.length - (intOf i).toNat)
 case atStart=>exact⟨0,Nat.zero_le _,rfl,Ext.refl w⟩
 case round=>
  obtain⟨j,hj,rfl,hx⟩:=hrel;have HX:=Lib.hid hx
  by_cases hlt:j < l.length
  · obtain⟨x,hxj⟩:∃ x,l[j]? = some x:=⟨_,List.getElem?_eq_getElem hlt⟩;obtain⟨b',off,rfl,hbl,r0,r1,r2,r3,r4⟩:=chg_row (HS.out.ext hx) hxj;have hne:(x.old == x.new)=false:=by simpa using HT.out.2 x (List.mem_of_getElem? hxj)
    rcases Nat.eq_zero_or_pos j with rfl | hpos
    · clear hxj hx
      go_wp2_with fail
      refine wp_region_near (by assumption) (by kernel_rfl) ?_
      repeat (go_big_quiet_step (fail))
      refine wpQuiet_nil ?_;intro w1 hw1;have hy:=Ext.of_near hw1;clear hw1;go_wp2
      go_roundw
      case rel=>exact⟨1,hlt,by go_num,HX.out.trans hy⟩
      case measure=>simp[intOf];omega
    · obtain⟨m,rfl⟩:∃ m,j=m+1:=⟨j - 1,by omega⟩;obtain⟨y,hyj⟩:∃ y,l[m]? = some y:=⟨_,List.getElem?_eq_getElem (by omega)⟩;obtain⟨b2,off2,he,_,q0,q1,q2,q3,q4⟩:=chg_row (HS.out.ext hx) hyj;injection he with he
      injection he with he1 he2
      subst he1 he2;have HB:=Lib.hid (fun w'=>before26_any y.at_ x.at_ w');rw[tidy_at HT.out hyj hxj]at HB;have hw:wrap64 ((m:Int)+1 - 1)=m:=by unfold wrap64;omega
      clear hxj hyj hx
      go_wp2_with fail
      refine wp_region_near (by assumption) (by kernel_rfl) ?_
      repeat (go_big_quiet_step ((go_at_call 51;exact near_call (HB.out _))))
      refine wpQuiet_nil ?_;intro w1 hw1;have hy:=Ext.of_near hw1;clear hw1;go_wp2
      go_roundw
      case rel=>exact⟨m+1+1,hlt,by go_num,HX.out.trans hy⟩
      case measure=>simp[intOf];omega
  · obtain rfl:j=l.length:=by omega
    go_wp2
    go_ret
    exact⟨rfl,HX.out⟩
theorem FitsP.len{g:Gr}{d m:Int}(h:FitsP g d m):0 < g.cells.length∧g.cells.length≤512:=by
 obtain⟨sx,sy,sz,G⟩:=good_of h.val;have h1:=G.size;rw[h.box]at h1;have h2:=h.dd
 rcases (show d=2∨d=3 by omega)with e | e <;> subst e
 · rw[show volP (cubeD 2)=64 by decide+kernel]at h1;omega
 · rw[show volP (cubeD 3)=512 by decide+kernel]at h1;omega
def ApK(g:Gr)(b:Bx)(x:Ed)(d m:Int)(w:World)(e:Ending)(w':World):Prop:=∃ l er A c Al cl,ChgOut g x d m l er∧e = .returned (.tuple #[.agg #[.int .i64 b.lo.x,.int .i64 b.lo.y,.int .i64 b.lo.z,.int .i64 b.hi.x,.int .i64 b.hi.y,.int .i64 b.hi.z,.slice A (writeG g l).cells.length c],.slice Al l.length cl,.int .i64 er])∧
 Sv w' w'.heap.size 1 A c (rowsI (writeG g l).cells)∧Sv w' w'.heap.size 5 Al cl (rowsC l)∧Ext w w'
theorem ApK_any{g:Gr}{b:Bx}(hbb:g.box=b){A:Option Addr}{c:Nat}{x:Ed}{d m:Int}(hd:2≤d∧d≤3)(hft:fits x)(hv:validG g=true)(hln:0 < g.cells.length∧g.cells.length≤512)(hb:b=cubeD d)(w:World)(hR:RowsIn w)(hA:AxesIn w)(hst:StepsIn w)(hs:Sv w w.heap.size 1 A c (rowsI g.cells)):
    Calls Tryz.prog 14 #[.agg #[.int .i64 b.lo.x,.int .i64 b.lo.y,.int .i64 b.lo.z,.int .i64 b.hi.x,.int .i64 b.hi.y,.int .i64 b.hi.z,.slice A g.cells.length c],.agg #[.int .i64 x.st.tick,.int .i64 x.st.clock,.int .i64 x.st.site,.int .i64 x.st.seq,.int .i64 x.kind,.int .i64 x.box.lo.x,.int .i64 x.box.lo.y,.int .i64 x.box.lo.z,.int .i64 x.box.hi.x,.int .i64 x.box.hi.y,.int .i64 x.box.hi.z,.int .i64 x.at_.x,.int .i64 x.at_.y,.int .i64 x.at_.z,.int .i64 x.turn,.int .i64 x.cell,.int .i64 x.size],.int .i64 d,.int .i64 m] w (ApK g b x d m w):=by
 subst hbb;refine(Apply_any hd hft hv (by omega) hln.1 hb w hR hA hst hs).mono ?_;rintro e w' ⟨l,er,u,v,h1,h2,h3,h4,h5⟩;obtain⟨A',c',rfl,_⟩:=own_form h3;obtain⟨Al,cl,rfl⟩:=own_len h4;exact⟨l,er,A',c',Al,cl,h1,h2,Sv.of_own h3 (rowsI_rwk _) (rowsI_length _),Sv.of_own h4 (rowsC_rwk _) (rowsC_length _),h5⟩
theorem equal_at{g h:Gr}{b:Bx}(h1:g.box=b)(h2:h.box=b){A1 A2:Option Addr}{c1 c2:Nat}{r:Bool}(hr:decide (g=h)=r)(w:World)(k1:Sv w w.heap.size 1 A1 c1 (rowsI g.cells))(k2:Sv w w.heap.size 1 A2 c2 (rowsI h.cells)):
    Calls Tryz.prog 16 #[.agg #[.int .i64 b.lo.x,.int .i64 b.lo.y,.int .i64 b.lo.z,.int .i64 b.hi.x,.int .i64 b.hi.y,.int .i64 b.hi.z,.slice A1 g.cells.length c1],.agg #[.int .i64 b.lo.x,.int .i64 b.lo.y,.int .i64 b.lo.z,.int .i64 b.hi.x,.int .i64 b.hi.y,.int .i64 b.hi.z,.slice A2 h.cells.length c2]] w fun e w'=>e = .returned (.bool r)∧Ext w w':=by
 subst h1 hr;have h:=equal07_any (g:=g) (h:=h) w k1 k2;rw[h2]at h;exact h
def GrV(h:Gr)(b:Bx)(v:Value)(w:World):Prop:=∃ A c,v = .agg #[.int .i64 b.lo.x,.int .i64 b.lo.y,.int .i64 b.lo.z,.int .i64 b.hi.x,.int .i64 b.hi.y,.int .i64 b.hi.z,.slice A h.cells.length c]∧Sv w w.heap.size 1 A c (rowsI h.cells)
theorem GrV.ext{h:Gr}{b:Bx}{v:Value}{w w':World}(k:GrV h b v w)(hx:Ext w w'):GrV h b v w':=by obtain⟨A,c,e,hs⟩:=k;exact⟨A,c,e,hs.ext hx⟩
theorem writeV_any{g:Gr}{b:Bx}(hbb:g.box=b){A Al:Option Addr}{c cl:Nat}{l:List Chg}(hv:validG g=true)(hln:g.cells.length≤512)(w:World)(hs:Sv w w.heap.size 1 A c (rowsI g.cells))(hl:Sv w w.heap.size 5 Al cl (rowsC l)):
    Calls Tryz.prog 17 #[.agg #[.int .i64 b.lo.x,.int .i64 b.lo.y,.int .i64 b.lo.z,.int .i64 b.hi.x,.int .i64 b.hi.y,.int .i64 b.hi.z,.slice A g.cells.length c],.slice Al l.length cl] w fun e w'=>∃ v,e = .returned v∧Ext w w'∧GrV (writeG g l) b v w':=by
 subst hbb;refine(Write_any g A c Al cl l w hs hl hv (by omega)).mono ?_;rintro e w' ⟨u,h1,h2,h3⟩;rw[← writeG_len g l]at h2;obtain⟨A',c',rfl,_⟩:=own_form h2;exact⟨_,h1,h3,A',c',rfl,Sv.of_own h2 (rowsI_rwk _) (rowsI_length _)⟩
theorem equalV_at{g h:Gr}{b:Bx}(h1:g.box=b)(h2:h.box=b){r:Bool}(hr:decide (g=h)=r){v1 v2:Value}(w:World)(k1:GrV g b v1 w)(k2:GrV h b v2 w):
    Calls Tryz.prog 16 #[v1,v2] w fun e w'=>e = .returned (.bool r)∧Ext w w':=by
 obtain⟨A,c,rfl,s1⟩:=k1;obtain⟨A2,c2,rfl,s2⟩:=k2;exact equal_at h1 h2 hr w s1 s2
end Go.Proofs.YtoecbicdahbccaaGreatDoor
