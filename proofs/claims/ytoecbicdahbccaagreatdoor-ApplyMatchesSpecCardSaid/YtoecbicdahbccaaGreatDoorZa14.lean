/- A part of the walk of the layer of apply: contracts and plain laws that a row's text leans on. -/
import Derived.Test.YtoecbicdahbccaaGreatDoorZa10
set_option maxRecDepth 100000
set_option maxHeartbeats 16000000
namespace Go.Proofs.YtoecbicdahbccaaGreatDoor
open Go Go.RowKit
def turnB(s:Int)(b:Bx):Bx:=if isT s then if emptyB b then zeroBx else⟨⟨min (turnP s b.lo).x (turnP s b.hi).x,min (turnP s b.lo).y (turnP s b.hi).y,min (turnP s b.lo).z (turnP s b.hi).z⟩,⟨max (turnP s b.lo).x (turnP s b.hi).x,max (turnP s b.lo).y (turnP s b.hi).y,max (turnP s b.lo).z (turnP s b.hi).z⟩⟩else b
theorem infoPtD:∃ i z,Tryz.prog.info? 23=some i∧i.zero=some z∧z.cells.toList = [.int .i64 0,.int .i64 0,.int .i64 0]:=by
 have h:((Tryz.prog.info? 23).map fun i=>i.zero.map fun z=>z.cells.toList)=some (some [.int .i64 0,.int .i64 0,.int .i64 0]):=by kernel_rfl
 cases hq:Tryz.prog.info? 23 with
 | none=>rw[hq]at h;cases h
 | some i=>
   rw[hq]at h;simp only[Option.map_some,Option.some.injEq]at h;obtain⟨z,h1,h2⟩:=Option.map_eq_some_iff.1 h;exact⟨i,z,rfl,h1,h2⟩
theorem TurnBox_any(s:Int)(b:Bx)(w:World)(hA:AxesIn w):Calls Tryz.prog 126 #[.int .i64 s,.agg #[.int .i64 b.lo.x,.int .i64 b.lo.y,.int .i64 b.lo.z,.int .i64 b.hi.x,.int .i64 b.hi.y,.int .i64 b.hi.z]] w fun e w'=>e = .returned (.agg #[.int .i64 (turnB s b).lo.x,.int .i64 (turnB s b).lo.y,.int .i64 (turnB s b).lo.z,.int .i64 (turnB s b).hi.x,.int .i64 (turnB s b).hi.y,.int .i64 (turnB s b).hi.z])∧Ext w w':=by
 have hm:=mixed;obtain⟨W0,hW⟩:∃ W,W=(w.alloc (.cells #[.int .i64 b.lo.x,.int .i64 b.lo.y,.int .i64 b.lo.z,.int .i64 b.hi.x,.int .i64 b.hi.y,.int .i64 b.hi.z] 25)).alloc (.cells #[.int .i64 0,.int .i64 0,.int .i64 0,.int .i64 0,.int .i64 0,.int .i64 0] 25):=⟨_,rfl⟩;have HX0:=Lib.hid (show Ext w W0 by rw[hW];exact((Ext.refl w).alloc _).alloc _);have HB0:=Lib.hid (show Arr W0 w.heap.size 25 [.int .i64 b.lo.x,.int .i64 b.lo.y,.int .i64 b.lo.z,.int .i64 b.hi.x,.int .i64 b.hi.y,.int .i64 b.hi.z]by rw[hW];exact(Arr.new w _ [.int .i64 b.lo.x,.int .i64 b.lo.y,.int .i64 b.lo.z,.int .i64 b.hi.x,.int .i64 b.hi.y,.int .i64 b.hi.z]).alloc _);have HR0:=Lib.hid (show Arr W0 (w.heap.size+1) 25 Z6 by rw[hW];exact Arr.new1 w _ _ Z6);have HI:=Lib.hid (isTurn_any s);unfold isT at HI;have HE:=Lib.hid (Empty_any b);have HA:=Lib.hid hA;have HT:=Lib.hid (fun(p:Pt) (W:World) (hx:Ext w W)=>Turn_any s p W (HA.out.ext hx));clear hA
 by_cases h:0≤s∧s < 48
 · rw[decide_eq_true h]at HI
   by_cases he:emptyB b=true
   · have HD:=Lib.hid (show turnB s b=zeroBx by unfold turnB isT;rw[decide_eq_true h,if_pos rfl,if_pos he]);rw[HD.out];rw[he]at HE
     go_enter Tryz.func126,Tryz.ntmps126
     go_upto_region 1 with fail
     rw[← hW];clear hW
     go_wp2_with (first
      | (go_at_call 153;refine(HI.out _).mono ?_;rintro e W1 ⟨rfl,hx⟩;have HB1:=Lib.hid (HB0.out.ext hx);have HR1:=Lib.hid (HR0.out.ext hx);have HX1:=Lib.hid (HX0.out.trans hx);clear hx)
      | (refine ldB 25 3 HB1.out Tryz.underlying25 ?_) | (refine ldB 25 3 (HB1.out.alloc _) Tryz.underlying25 ?_) | (refine ldB 25 3 ((HB1.out.alloc _).alloc _) Tryz.underlying25 ?_)
      | (go_at_call 73;refine(HE.out _).mono ?_;rintro e W2 ⟨rfl,hx⟩;have HR2:=Lib.hid (HR1.out.ext hx);have HX2:=Lib.hid (HX1.out.trans hx);clear hx)
      | (refine wpList_store_blk 25 (.tmp 4) (.tmp 15) rfl rfl HR2.out Z6 rfl rfl (by kernel_rfl) rfl rfl ?_))
     refine bodyPost_ret (v:=.agg #[.int .i64 zeroBx.lo.x,.int .i64 zeroBx.lo.y,.int .i64 zeroBx.lo.z,.int .i64 zeroBx.hi.x,.int .i64 zeroBx.hi.y,.int .i64 zeroBx.hi.z]) ?_ rfl ⟨rfl,HX2.out.setRow (by omega) _⟩;exact results_cell_row Tryz.results126 _ _ _ _ _ _ _ rfl (HR2.out.setRow Z6) Tryz.underlying25 rfl (by kernel_rfl)
   · have HD:=Lib.hid (show turnB s b=⟨⟨min (turnP s b.lo).x (turnP s b.hi).x,min (turnP s b.lo).y (turnP s b.hi).y,min (turnP s b.lo).z (turnP s b.hi).z⟩,⟨max (turnP s b.lo).x (turnP s b.hi).x,max (turnP s b.lo).y (turnP s b.hi).y,max (turnP s b.lo).z (turnP s b.hi).z⟩⟩by unfold turnB isT;rw[decide_eq_true h,if_pos rfl,if_neg he]);obtain⟨p1,h1⟩:∃ p,turnP s b.lo=p:=⟨_,rfl⟩;obtain⟨p2,h2⟩:∃ p,turnP s b.hi=p:=⟨_,rfl⟩;rw[h1,h2]at HD;rw[HD.out];have HT1:=Lib.hid (HT.out b.lo);have HT2:=Lib.hid (HT.out b.hi);rw[h1]at HT1;rw[h2]at HT2;have HJ:=Lib.hid (fun W:World=>join_any ⟨p1,p1⟩ ⟨p2,p2⟩ 144 143 min max two_lesser two_greater W);clear HT HD h1 h2;rw[Bool.not_eq_true]at he;rw[he]at HE
     go_enter Tryz.func126,Tryz.ntmps126
     go_upto_region 1 with fail
     rw[← hW];clear hW
     go_upto_region 5 with(first
      | (go_at_call 153;refine(HI.out _).mono ?_;rintro e W1 ⟨rfl,hx⟩;have HB1:=Lib.hid (HB0.out.ext hx);have HR1:=Lib.hid (HR0.out.ext hx);have HX1:=Lib.hid (HX0.out.trans hx);clear hx)
      | (refine ldB 25 3 HB1.out Tryz.underlying25 ?_) | (refine ldB 25 3 (HB1.out.alloc _) Tryz.underlying25 ?_) | (refine ldB 25 3 ((HB1.out.alloc _).alloc _) Tryz.underlying25 ?_)
      | (go_at_call 73;refine(HE.out _).mono ?_;rintro e W2 ⟨rfl,hx⟩;have HB2:=Lib.hid (HB1.out.ext hx);have HR2:=Lib.hid (HR1.out.ext hx);have HX2:=Lib.hid (HX1.out.trans hx);clear hx))
     refine wp_region_two3 (w:=W2) (fun i=>match i with | 0=>.int .i64 s | 1=>.pointer (some ⟨w.heap.size,0,none⟩) | 2=>.agg #[.int .i64 b.lo.x,.int .i64 b.lo.y,.int .i64 b.lo.z] | 3=>.agg #[.int .i64 p1.x,.int .i64 p1.y,.int .i64 p1.z] | 4=>.int .i64 s | 5=>.pointer (some ⟨w.heap.size,3,none⟩) | 6=>.agg #[.int .i64 b.hi.x,.int .i64 b.hi.y,.int .i64 b.hi.z] | 7=>.agg #[.int .i64 p2.x,.int .i64 p2.y,.int .i64 p2.z] | _=>undef) 8 23 5 6 19 23 3 7 [.int .i64 0,.int .i64 0,.int .i64 0] [.int .i64 p1.x,.int .i64 p1.y,.int .i64 p1.z] [.int .i64 p2.x,.int .i64 p2.y,.int .i64 p2.z] hm (by kernel_rfl) (by kernel_rfl) (noGuardD (by kernel_rfl)) rfl ⟨_,rfl,rfl,rfl⟩ ⟨_,rfl,rfl,rfl⟩ ⟨_,rfl,rfl,rfl,rfl,rfl⟩ ⟨_,rfl,rfl,rfl,rfl,rfl⟩ (by decide) (by decide) rfl rfl (by simp) (by simp) (by simp) (by simp) rfl rfl infoPtD (by kernel_rfl) rfl rfl rfl rfl ?_ ?_
     · intro listed w2 i o ho hin hdep hx bb K E0 E1 hK
       match i,ho with
       | 0,ho=>
         obtain rfl:=Option.some.inj ho;have e:=E0 0 (by kernel_rfl);simp only[List.getElem?_toArray,List.getElem?_cons_zero]at e;exact op_run (by unfold execOp;simp[e,Act.eval,go_sem]) (hK w2 (Ext.refl _))
       | 1,ho=>
         obtain rfl:=Option.some.inj ho;have e:=E0 3 (by kernel_rfl);simp only[List.getElem?_toArray,List.getElem?_cons_zero,List.getElem?_cons_succ]at e;exact op_run (by unfold execOp;simp[e,Act.eval,go_sem]) (hK w2 (Ext.refl _))
       | 2,ho=>
         obtain rfl:=Option.some.inj ho;have e:=E1 1 17 (by decide) (getD_up (hdep ⟨1,.data⟩ (by simp) rfl)) rfl (by simp);refine op_loadcells rfl w.heap.size 0 [.int .i64 b.lo.x,.int .i64 b.lo.y,.int .i64 b.lo.z] (eval_of e) (fun j v hv=>?_) _ Tryz.underlying23 rfl (by kernel_rfl) (hK w2 (Ext.refl _));rw[(HB2.out.ext hx).cell,Nat.zero_add]
         match j,hv with
         | 0,hv=>exact hv
         | 1,hv=>exact hv
         | 2,hv=>exact hv
       | 3,ho=>
         obtain rfl:=Option.some.inj ho;have e0:=E1 0 16 (by decide) (getD_up (hdep ⟨0,.data⟩ (by simp) rfl)) rfl (by simp);have e2:=E1 2 18 (by decide) (getD_up (hdep ⟨2,.data⟩ (by simp) rfl)) rfl (by simp);have hc:Calls Tryz.prog 154 #[.int .i64 s,.agg #[.int .i64 b.lo.x,.int .i64 b.lo.y,.int .i64 b.lo.z]] w2 fun e w'=>∃ v,e = .returned v∧Ext w2 w'∧v = .agg #[.int .i64 p1.x,.int .i64 p1.y,.int .i64 p1.z]:=(HT1.out w2 (HX2.out.trans hx)).mono fun e w' ⟨h1,h2⟩=>⟨_,h1,h2,rfl⟩;exact op_call (G:=fun v w'=>v = .agg #[.int .i64 p1.x,.int .i64 p1.y,.int .i64 p1.z]) rfl (by simp[eval_of e0,eval_of e2]) (fun _ _=>by kernel_rfl) hc (fun v w' h1 h2=>by subst h2;exact hK w' h1)
       | 4,ho=>
         obtain rfl:=Option.some.inj ho;have e:=E0 0 (by kernel_rfl);simp only[List.getElem?_toArray,List.getElem?_cons_zero]at e;exact op_run (by unfold execOp;simp[e,Act.eval,go_sem]) (hK w2 (Ext.refl _))
       | 5,ho=>
         obtain rfl:=Option.some.inj ho;have e:=E0 3 (by kernel_rfl);simp only[List.getElem?_toArray,List.getElem?_cons_zero,List.getElem?_cons_succ]at e;exact op_run (by unfold execOp;simp[e,Act.eval,go_sem]) (hK w2 (Ext.refl _))
       | 6,ho=>
         obtain rfl:=Option.some.inj ho;have e:=E1 5 21 (by decide) (getD_up (hdep ⟨5,.data⟩ (by simp) rfl)) rfl (by simp);refine op_loadcells rfl w.heap.size 3 [.int .i64 b.hi.x,.int .i64 b.hi.y,.int .i64 b.hi.z] (eval_of e) (fun j v hv=>?_) _ Tryz.underlying23 rfl (by kernel_rfl) (hK w2 (Ext.refl _));rw[(HB2.out.ext hx).cell]
         match j,hv with
         | 0,hv=>exact hv
         | 1,hv=>exact hv
         | 2,hv=>exact hv
       | 7,ho=>
         obtain rfl:=Option.some.inj ho;have e0:=E1 4 20 (by decide) (getD_up (hdep ⟨4,.data⟩ (by simp) rfl)) rfl (by simp);have e2:=E1 6 22 (by decide) (getD_up (hdep ⟨6,.data⟩ (by simp) rfl)) rfl (by simp);have hc:Calls Tryz.prog 154 #[.int .i64 s,.agg #[.int .i64 b.hi.x,.int .i64 b.hi.y,.int .i64 b.hi.z]] w2 fun e w'=>∃ v,e = .returned v∧Ext w2 w'∧v = .agg #[.int .i64 p2.x,.int .i64 p2.y,.int .i64 p2.z]:=(HT2.out w2 (HX2.out.trans hx)).mono fun e w' ⟨h1,h2⟩=>⟨_,h1,h2,rfl⟩;exact op_call (G:=fun v w'=>v = .agg #[.int .i64 p2.x,.int .i64 p2.y,.int .i64 p2.z]) rfl (by simp[eval_of e0,eval_of e2]) (fun _ _=>by kernel_rfl) hc (fun v w' h1 h2=>by subst h2;exact hK w' h1)
       | i+8,ho=>omega
     · rintro⟨g0,g1⟩ W3 hx hl0 hl1 A0 A1 hne;simp only[List.length_cons,List.length_nil,fillAllN,dstOf,Act.put,List.getElem?_toArray,List.getElem?_cons_zero,List.getElem?_cons_succ,Option.bind_some,List.setIfInBounds_toArray,List.set_cons_zero,List.set_cons_succ,box2V,Nat.lt_irrefl,if_false,if_true,Nat.reduceLT,Nat.reduceEqDiff,Nat.reduceAdd];have HR3:=Lib.hid (HR2.out.ext hx);have HX3:=Lib.hid (HX2.out.trans hx);have HA0:=Lib.hid A0;have HA1:=Lib.hid A1;clear A0 A1 hx hne hl0 hl1
       go_wp2_with (first
        | (refine ldB 23 5 HA0.out Tryz.underlying23 ?_) | (refine ldB 23 5 (HA0.out.alloc _) Tryz.underlying23 ?_) | (refine ldB 23 5 ((HA0.out.alloc _).alloc _) Tryz.underlying23 ?_)
        | (refine ldB 23 6 HA1.out Tryz.underlying23 ?_) | (refine ldB 23 6 (HA1.out.alloc _) Tryz.underlying23 ?_) | (refine ldB 23 6 ((HA1.out.alloc _).alloc _) Tryz.underlying23 ?_)
        | (go_at_call 142;refine(HJ.out _).mono ?_;rintro e W4 ⟨rfl,hx⟩;have HR4:=Lib.hid (HR3.out.ext hx);have HX4:=Lib.hid (HX3.out.trans hx);clear hx)
        | (refine wpList_store_blk 25 (.tmp 4) (.tmp 30) rfl rfl HR4.out [.int .i64 (min p1.x p2.x),.int .i64 (min p1.y p2.y),.int .i64 (min p1.z p2.z),.int .i64 (max p1.x p2.x),.int .i64 (max p1.y p2.y),.int .i64 (max p1.z p2.z)] rfl rfl (by kernel_rfl) rfl rfl ?_))
       refine bodyPost_ret (v:=.agg #[.int .i64 (min p1.x p2.x),.int .i64 (min p1.y p2.y),.int .i64 (min p1.z p2.z),.int .i64 (max p1.x p2.x),.int .i64 (max p1.y p2.y),.int .i64 (max p1.z p2.z)]) ?_ rfl ⟨rfl,HX4.out.setRow (by omega) _⟩;exact results_cell_row Tryz.results126 _ _ _ _ _ _ _ rfl (HR4.out.setRow [.int .i64 (min p1.x p2.x),.int .i64 (min p1.y p2.y),.int .i64 (min p1.z p2.z),.int .i64 (max p1.x p2.x),.int .i64 (max p1.y p2.y),.int .i64 (max p1.z p2.z)]) Tryz.underlying25 rfl (by kernel_rfl)
 · have HD:=Lib.hid (show turnB s b=b by unfold turnB isT;rw[decide_eq_false h];rfl);rw[HD.out];rw[decide_eq_false h]at HI
   go_enter Tryz.func126,Tryz.ntmps126
   go_upto_region 1 with fail
   rw[← hW];clear hW
   go_wp2_with (first
    | (go_at_call 153;refine(HI.out _).mono ?_;rintro e W1 ⟨rfl,hx⟩;have HB1:=Lib.hid (HB0.out.ext hx);have HR1:=Lib.hid (HR0.out.ext hx);have HX1:=Lib.hid (HX0.out.trans hx);clear hx)
    | (refine ldB 25 3 HB1.out Tryz.underlying25 ?_) | (refine ldB 25 3 (HB1.out.alloc _) Tryz.underlying25 ?_) | (refine ldB 25 3 ((HB1.out.alloc _).alloc _) Tryz.underlying25 ?_)
    | (refine wpList_store_blk 25 (.tmp 4) (.tmp 11) rfl rfl HR1.out [.int .i64 b.lo.x,.int .i64 b.lo.y,.int .i64 b.lo.z,.int .i64 b.hi.x,.int .i64 b.hi.y,.int .i64 b.hi.z] rfl rfl (by kernel_rfl) rfl rfl ?_))
   refine bodyPost_ret (v:=.agg #[.int .i64 b.lo.x,.int .i64 b.lo.y,.int .i64 b.lo.z,.int .i64 b.hi.x,.int .i64 b.hi.y,.int .i64 b.hi.z]) ?_ rfl ⟨rfl,HX1.out.setRow (by omega) _⟩;exact results_cell_row Tryz.results126 _ _ _ _ _ _ _ rfl (HR1.out.setRow [.int .i64 b.lo.x,.int .i64 b.lo.y,.int .i64 b.lo.z,.int .i64 b.hi.x,.int .i64 b.hi.y,.int .i64 b.hi.z]) Tryz.underlying25 rfl (by kernel_rfl)
theorem Size_any(b:Bx)(w:World):
    Calls Tryz.prog 125 #[.agg #[.int .i64 b.lo.x,.int .i64 b.lo.y,.int .i64 b.lo.z,.int .i64 b.hi.x,.int .i64 b.hi.y,.int .i64 b.hi.z]] w fun e w'=>e = .returned (.agg #[.int .i64 (if emptyB b then zeroPt else addP b.hi (scaleP b.lo (-1))).x,.int .i64 (if emptyB b then zeroPt else addP b.hi (scaleP b.lo (-1))).y,.int .i64 (if emptyB b then zeroPt else addP b.hi (scaleP b.lo (-1))).z])∧Ext w w':=by
 have hc:=fun w':World=>Empty_any b w'
 cases hq:emptyB b
 · rw[hq]at hc;have HC:=Lib.hid hc;clear hc hq;simp only[Bool.false_eq_true,if_false]
   go_enter Tryz.func125,Tryz.ntmps125
   go_wp2_with (first | (go_at_call 73;refine(HC.out _).mono ?_;rintro e wx ⟨rfl,xx⟩;obtain⟨xc,xf,xl,xe,xn,xm⟩:=xx.look;have xz:=xx.size;(try simp only[World.size_alloc_]at xz);(try (have qh:=xx.one (b:=w.heap.size) (by(try simp only[World.size_alloc_]);omega);obtain⟨qc,qf,ql,qe,qn,qm⟩:=qh));(try (have qh:=xx.one (b:=w.heap.size+1) (by(try simp only[World.size_alloc_]);omega);obtain⟨qc,qf,ql,qe,qn,qm⟩:=qh));(try (have qh:=xx.one (b:=w.heap.size+1+1) (by(try simp only[World.size_alloc_]);omega);obtain⟨qc,qf,ql,qe,qn,qm⟩:=qh));(try (have qh:=xx.one (b:=w.heap.size+1+1+1) (by(try simp only[World.size_alloc_]);omega);obtain⟨qc,qf,ql,qe,qn,qm⟩:=qh))) | (go_at_call 70;refine(Sub_any b.hi b.lo _).mono ?_;rintro e wx ⟨rfl,xx⟩;obtain⟨xc,xf,xl,xe,xn,xm⟩:=xx.look;have xz:=xx.size;(try simp only[World.size_alloc_,World.size_setCell_]at xz);(try (have qh:=xx.one (b:=w.heap.size) (by(try simp only[World.size_alloc_,World.size_setCell_]);omega);obtain⟨qc,qf,ql,qe,qn,qm⟩:=qh));(try (have qh:=xx.one (b:=w.heap.size+1) (by(try simp only[World.size_alloc_,World.size_setCell_]);omega);obtain⟨qc,qf,ql,qe,qn,qm⟩:=qh));(try (have qh:=xx.one (b:=w.heap.size+1+1) (by(try simp only[World.size_alloc_,World.size_setCell_]);omega);obtain⟨qc,qf,ql,qe,qn,qm⟩:=qh));(try (have qh:=xx.one (b:=w.heap.size+1+1+1) (by(try simp only[World.size_alloc_,World.size_setCell_]);omega);obtain⟨qc,qf,ql,qe,qn,qm⟩:=qh))))
   refine bodyPost_ret (v:=.agg #[.int .i64 (addP b.hi (scaleP b.lo (-1))).x,.int .i64 (addP b.hi (scaleP b.lo (-1))).y,.int .i64 (addP b.hi (scaleP b.lo (-1))).z]) ?_ rfl ?_
   · simp (maxDischargeDepth:=9) only [results,Tryz.results125]
     first
      | (go_simp;done)
      | (go_simp;simp;done)
      | (simp (maxDischargeDepth:=9) [go_sem, *];done)
      | (simp (maxDischargeDepth:=9) [go_sem, *];simp)
   · exact⟨rfl,byX⟩
 · rw[hq]at hc;have HC:=Lib.hid hc;clear hc hq;simp only[if_true]
   go_enter Tryz.func125,Tryz.ntmps125
   go_wp2_with (first | (go_at_call 73;refine(HC.out _).mono ?_;rintro e wx ⟨rfl,xx⟩;obtain⟨xc,xf,xl,xe,xn,xm⟩:=xx.look;have xz:=xx.size;(try simp only[World.size_alloc_]at xz);(try (have qh:=xx.one (b:=w.heap.size) (by(try simp only[World.size_alloc_]);omega);obtain⟨qc,qf,ql,qe,qn,qm⟩:=qh));(try (have qh:=xx.one (b:=w.heap.size+1) (by(try simp only[World.size_alloc_]);omega);obtain⟨qc,qf,ql,qe,qn,qm⟩:=qh));(try (have qh:=xx.one (b:=w.heap.size+1+1) (by(try simp only[World.size_alloc_]);omega);obtain⟨qc,qf,ql,qe,qn,qm⟩:=qh));(try (have qh:=xx.one (b:=w.heap.size+1+1+1) (by(try simp only[World.size_alloc_]);omega);obtain⟨qc,qf,ql,qe,qn,qm⟩:=qh))))
   refine bodyPost_ret (v:=.agg #[.int .i64 zeroPt.x,.int .i64 zeroPt.y,.int .i64 zeroPt.z]) ?_ rfl ?_
   · simp (maxDischargeDepth:=9) only [results,Tryz.results125]
     first
      | (go_simp;done)
      | (go_simp;simp[zeroPt];done)
      | (simp (maxDischargeDepth:=9) [go_sem, *];done)
      | (simp (maxDischargeDepth:=9) [go_sem, *];simp[zeroPt])
   · exact⟨rfl,byX⟩
theorem isSizeB_any(n:Int)(w:World):Calls Tryz.prog 115 #[.int .i64 n] w fun e w'=>e = .returned (.bool (decide (1≤n∧n≤4096)))∧Ext w w':=by
 by_cases h1:1≤n
 · go_enter Tryz.func115,Tryz.ntmps115
   go_wp2
   all_goals
    go_ret
    refine⟨ret_bool ?_,Ext.refl _⟩;rw[Bool.eq_iff_iff];simp
    try omega
 · go_enter Tryz.func115,Tryz.ntmps115
   go_wp2
   all_goals
    go_ret
    refine⟨ret_bool ?_,Ext.refl _⟩;rw[Bool.eq_iff_iff];simp
    try omega
def shiftB(b:Bx)(p:Pt):Bx:=⟨addP b.lo p,addP b.hi p⟩
theorem Shift_any(b:Bx)(p:Pt)(w:World):Calls Tryz.prog 164 #[.agg #[.int .i64 b.lo.x,.int .i64 b.lo.y,.int .i64 b.lo.z,.int .i64 b.hi.x,.int .i64 b.hi.y,.int .i64 b.hi.z],.agg #[.int .i64 p.x,.int .i64 p.y,.int .i64 p.z]] w fun e w'=>e = .returned (.agg #[.int .i64 (shiftB b p).lo.x,.int .i64 (shiftB b p).lo.y,.int .i64 (shiftB b p).lo.z,.int .i64 (shiftB b p).hi.x,.int .i64 (shiftB b p).hi.y,.int .i64 (shiftB b p).hi.z])∧Ext w w':=by
 have hm:=mixed;have hG:=near_old;obtain⟨W0,hW⟩:∃ W,W=((w.alloc (.cells #[.int .i64 b.lo.x,.int .i64 b.lo.y,.int .i64 b.lo.z,.int .i64 b.hi.x,.int .i64 b.hi.y,.int .i64 b.hi.z] 25)).alloc (.cells #[.int .i64 p.x,.int .i64 p.y,.int .i64 p.z] 23)).alloc (.cells #[.int .i64 0,.int .i64 0,.int .i64 0,.int .i64 0,.int .i64 0,.int .i64 0] 25):=⟨_,rfl⟩;have HX0:=Lib.hid (show Ext w W0 by rw[hW];exact(((Ext.refl w).alloc _).alloc _).alloc _);have HB0:=Lib.hid (show Arr W0 w.heap.size 25 [.int .i64 b.lo.x,.int .i64 b.lo.y,.int .i64 b.lo.z,.int .i64 b.hi.x,.int .i64 b.hi.y,.int .i64 b.hi.z]by rw[hW];exact((Arr.new w _ [.int .i64 b.lo.x,.int .i64 b.lo.y,.int .i64 b.lo.z,.int .i64 b.hi.x,.int .i64 b.hi.y,.int .i64 b.hi.z]).alloc _).alloc _);have HP0:=Lib.hid (show Arr W0 (w.heap.size+1) 23 [.int .i64 p.x,.int .i64 p.y,.int .i64 p.z]by rw[hW];exact(Arr.new1 w _ _ [.int .i64 p.x,.int .i64 p.y,.int .i64 p.z]).alloc _);have HR0:=Lib.hid (show Arr W0 (w.heap.size+1+1) 25 [.int .i64 0,.int .i64 0,.int .i64 0,.int .i64 0,.int .i64 0,.int .i64 0]by
  rw[hW];have h:=Arr.new ((w.alloc (.cells #[.int .i64 b.lo.x,.int .i64 b.lo.y,.int .i64 b.lo.z,.int .i64 b.hi.x,.int .i64 b.hi.y,.int .i64 b.hi.z] 25)).alloc (.cells #[.int .i64 p.x,.int .i64 p.y,.int .i64 p.z] 23)) 25 [.int .i64 0,.int .i64 0,.int .i64 0,.int .i64 0,.int .i64 0,.int .i64 0];simp only[World.size_alloc_]at h;exact h)
 have HA1:=Lib.hid (Add_any b.lo p);have HA2:=Lib.hid (Add_any b.hi p);have cB:=HB0.out.cell;have cP:=HP0.out.cell;have lB:=HB0.out.lt;have lP:=HP0.out.lt
 go_enter Tryz.func164,Tryz.ntmps164
 go_upto_region 1 with fail
 rw[← hW];clear hW;refine wp_region_near_tail 9 (by assumption) (by kernel_rfl) ?_;simp only[List.take_succ_cons,List.take_zero,List.drop_succ_cons,List.drop_zero]
 repeat (go_big_quiet_step ((go_at_call 109;first | (with_reducible exact near_call (HA1.out _)) | (with_reducible exact near_call (HA2.out _)))))
 refine wpQuiet_nil ?_;intro w1 hw1;have hy:=Ext.of_near hw1;clear hw1;have HR1:=Lib.hid (HR0.out.ext hy);have HX1:=Lib.hid (HX0.out.trans hy);clear hy cB cP lB lP
 go_wp2_with (refine wpList_store_blk 25 (.tmp 4) (.tmp 13) rfl rfl HR1.out [.int .i64 (shiftB b p).lo.x,.int .i64 (shiftB b p).lo.y,.int .i64 (shiftB b p).lo.z,.int .i64 (shiftB b p).hi.x,.int .i64 (shiftB b p).hi.y,.int .i64 (shiftB b p).hi.z] rfl rfl (by kernel_rfl) rfl rfl ?_)
 refine bodyPost_ret (v:=.agg #[.int .i64 (shiftB b p).lo.x,.int .i64 (shiftB b p).lo.y,.int .i64 (shiftB b p).lo.z,.int .i64 (shiftB b p).hi.x,.int .i64 (shiftB b p).hi.y,.int .i64 (shiftB b p).hi.z]) ?_ rfl ⟨rfl,HX1.out.setRow (by omega) _⟩;exact results_cell_row Tryz.results164 _ _ _ _ _ _ _ rfl (HR1.out.setRow [.int .i64 (shiftB b p).lo.x,.int .i64 (shiftB b p).lo.y,.int .i64 (shiftB b p).lo.z,.int .i64 (shiftB b p).hi.x,.int .i64 (shiftB b p).hi.y,.int .i64 (shiftB b p).hi.z]) Tryz.underlying25 rfl (by kernel_rfl)
def aroundB(p:Pt)(n:Int):Bx:=shiftB ⟨⟨-n,-n,-n⟩,⟨n+1,n+1,n+1⟩⟩ p
theorem around_any(p:Pt)(n:Int)(h0:0≤n)(h1:n≤1000000)(w:World):Calls Tryz.prog 145 #[.agg #[.int .i64 p.x,.int .i64 p.y,.int .i64 p.z],.int .i64 n] w fun e w'=>e = .returned (.agg #[.int .i64 (aroundB p n).lo.x,.int .i64 (aroundB p n).lo.y,.int .i64 (aroundB p n).lo.z,.int .i64 (aroundB p n).hi.x,.int .i64 (aroundB p n).hi.y,.int .i64 (aroundB p n).hi.z])∧Ext w w':=by
 obtain⟨W0,hW⟩:∃ W,W=(w.alloc (.cells #[.int .i64 p.x,.int .i64 p.y,.int .i64 p.z] 23)).alloc (.cells #[.int .i64 0,.int .i64 0,.int .i64 0,.int .i64 0,.int .i64 0,.int .i64 0] 25):=⟨_,rfl⟩;have HX0:=Lib.hid (show Ext w W0 by rw[hW];exact((Ext.refl w).alloc _).alloc _);have HP0:=Lib.hid (show Arr W0 w.heap.size 23 [.int .i64 p.x,.int .i64 p.y,.int .i64 p.z]by rw[hW];exact(Arr.new w _ [.int .i64 p.x,.int .i64 p.y,.int .i64 p.z]).alloc _);have HR0:=Lib.hid (show Arr W0 (w.heap.size+1) 25 Z6 by rw[hW];exact Arr.new1 w _ _ Z6);have HS:=Lib.hid (show Calls Tryz.prog 164 #[.agg #[.int .i64 (-n),.int .i64 (-n),.int .i64 (-n),.int .i64 (n+1),.int .i64 (n+1),.int .i64 (n+1)],.agg #[.int .i64 p.x,.int .i64 p.y,.int .i64 p.z]] W0 fun e w'=>e = .returned (.agg #[.int .i64 (aroundB p n).lo.x,.int .i64 (aroundB p n).lo.y,.int .i64 (aroundB p n).lo.z,.int .i64 (aroundB p n).hi.x,.int .i64 (aroundB p n).hi.y,.int .i64 (aroundB p n).hi.z])∧Ext W0 w' from Shift_any ⟨⟨-n,-n,-n⟩,⟨n+1,n+1,n+1⟩⟩ p W0)
 go_enter Tryz.func145,Tryz.ntmps145
 go_upto_region 1 with fail
 rw[← hW];clear hW
 go_wp2_with (first
  | (refine ldB 23 2 HP0.out Tryz.underlying23 ?_) | (refine ldB 23 2 (HP0.out.alloc _) Tryz.underlying23 ?_) | (refine ldB 23 2 ((HP0.out.alloc _).alloc _) Tryz.underlying23 ?_)
  | (go_at_call 164;refine HS.out.mono ?_;rintro e W1 ⟨rfl,hx1⟩;have HR1:=Lib.hid (HR0.out.ext hx1);have HX1:=Lib.hid (HX0.out.trans hx1);clear hx1)
  | (refine wpList_store_blk 25 (.tmp 4) (.tmp 21) rfl rfl HR1.out [.int .i64 (aroundB p n).lo.x,.int .i64 (aroundB p n).lo.y,.int .i64 (aroundB p n).lo.z,.int .i64 (aroundB p n).hi.x,.int .i64 (aroundB p n).hi.y,.int .i64 (aroundB p n).hi.z] rfl rfl (by kernel_rfl) rfl rfl ?_))
 refine bodyPost_ret (v:=.agg #[.int .i64 (aroundB p n).lo.x,.int .i64 (aroundB p n).lo.y,.int .i64 (aroundB p n).lo.z,.int .i64 (aroundB p n).hi.x,.int .i64 (aroundB p n).hi.y,.int .i64 (aroundB p n).hi.z]) ?_ rfl ⟨rfl,HX1.out.setRow (by omega) _⟩;exact results_cell_row Tryz.results145 _ _ _ _ _ _ _ rfl (HR1.out.setRow [.int .i64 (aroundB p n).lo.x,.int .i64 (aroundB p n).lo.y,.int .i64 (aroundB p n).lo.z,.int .i64 (aroundB p n).hi.x,.int .i64 (aroundB p n).hi.y,.int .i64 (aroundB p n).hi.z]) Tryz.underlying25 rfl (by kernel_rfl)
def ballBx(p:Pt)(n:Int):Bx:=if 1≤n∧n≤4096 then aroundB p (n / 2)else zeroBx
theorem BallBox_any(p:Pt)(n:Int)(w:World):Calls Tryz.prog 116 #[.agg #[.int .i64 p.x,.int .i64 p.y,.int .i64 p.z],.int .i64 n] w fun e w'=>e = .returned (.agg #[.int .i64 (ballBx p n).lo.x,.int .i64 (ballBx p n).lo.y,.int .i64 (ballBx p n).lo.z,.int .i64 (ballBx p n).hi.x,.int .i64 (ballBx p n).hi.y,.int .i64 (ballBx p n).hi.z])∧Ext w w':=by
 obtain⟨W0,hW⟩:∃ W,W=(w.alloc (.cells #[.int .i64 p.x,.int .i64 p.y,.int .i64 p.z] 23)).alloc (.cells #[.int .i64 0,.int .i64 0,.int .i64 0,.int .i64 0,.int .i64 0,.int .i64 0] 25):=⟨_,rfl⟩;have HX0:=Lib.hid (show Ext w W0 by rw[hW];exact((Ext.refl w).alloc _).alloc _);have HP0:=Lib.hid (show Arr W0 w.heap.size 23 [.int .i64 p.x,.int .i64 p.y,.int .i64 p.z]by rw[hW];exact(Arr.new w _ [.int .i64 p.x,.int .i64 p.y,.int .i64 p.z]).alloc _);have HR0:=Lib.hid (show Arr W0 (w.heap.size+1) 25 Z6 by rw[hW];exact Arr.new1 w _ _ Z6);have HI:=Lib.hid (isSizeB_any n W0)
 by_cases hn:1≤n∧n≤4096
 · have HD:=Lib.hid (show ballBx p n=aroundB p (n / 2)by unfold ballBx;rw[if_pos hn]);rw[decide_eq_true hn]at HI;rw[HD.out];have hq:n.tdiv 2=n / 2:=Int.tdiv_eq_ediv_of_nonneg (by omega);obtain⟨h,hh⟩:∃ h,h=n / 2:=⟨_,rfl⟩;have hh0:0≤h∧h≤2048:=by omega
   have HAR:=Lib.hid (around_any p h hh0.1 (by omega));rw[← hh]at hq ⊢;clear hh
   go_enter Tryz.func116,Tryz.ntmps116
   go_upto_region 1 with fail
   rw[← hW];clear hW
   go_wp2_with (first
    | (go_at_call 115;refine HI.out.mono ?_;rintro e W1 ⟨rfl,hx1⟩;have HR1:=Lib.hid (HR0.out.ext hx1);have HP1:=Lib.hid (HP0.out.ext hx1);have HX1:=Lib.hid (HX0.out.trans hx1);clear hx1)
    | (refine ldB 23 2 HP1.out Tryz.underlying23 ?_) | (refine ldB 23 2 (HP1.out.alloc _) Tryz.underlying23 ?_) | (refine ldB 23 2 ((HP1.out.alloc _).alloc _) Tryz.underlying23 ?_)
    | (go_at_call 145;refine(HAR.out _).mono ?_;rintro e W2 ⟨rfl,hx2⟩;have HR2:=Lib.hid (HR1.out.ext hx2);have HX2:=Lib.hid (HX1.out.trans hx2);clear hx2)
    | (refine wpList_store_blk 25 (.tmp 4) (.tmp 12) rfl rfl HR2.out [.int .i64 (aroundB p h).lo.x,.int .i64 (aroundB p h).lo.y,.int .i64 (aroundB p h).lo.z,.int .i64 (aroundB p h).hi.x,.int .i64 (aroundB p h).hi.y,.int .i64 (aroundB p h).hi.z] rfl rfl (by kernel_rfl) rfl rfl ?_))
   refine bodyPost_ret (v:=.agg #[.int .i64 (aroundB p h).lo.x,.int .i64 (aroundB p h).lo.y,.int .i64 (aroundB p h).lo.z,.int .i64 (aroundB p h).hi.x,.int .i64 (aroundB p h).hi.y,.int .i64 (aroundB p h).hi.z]) ?_ rfl ⟨rfl,HX2.out.setRow (by omega) _⟩;exact results_cell_row Tryz.results116 _ _ _ _ _ _ _ rfl (HR2.out.setRow [.int .i64 (aroundB p h).lo.x,.int .i64 (aroundB p h).lo.y,.int .i64 (aroundB p h).lo.z,.int .i64 (aroundB p h).hi.x,.int .i64 (aroundB p h).hi.y,.int .i64 (aroundB p h).hi.z]) Tryz.underlying25 rfl (by kernel_rfl)
 · have HD:=Lib.hid (show ballBx p n=zeroBx by unfold ballBx;rw[if_neg hn]);rw[decide_eq_false hn]at HI;rw[HD.out]
   go_enter Tryz.func116,Tryz.ntmps116
   go_upto_region 1 with fail
   rw[← hW];clear hW
   go_wp2_with (first
    | (go_at_call 115;refine HI.out.mono ?_;rintro e W1 ⟨rfl,hx1⟩;have HR1:=Lib.hid (HR0.out.ext hx1);have HX1:=Lib.hid (HX0.out.trans hx1);clear hx1)
    | (refine wpList_store_blk 25 (.tmp 4) (.tmp 8) rfl rfl HR1.out [.int .i64 zeroBx.lo.x,.int .i64 zeroBx.lo.y,.int .i64 zeroBx.lo.z,.int .i64 zeroBx.hi.x,.int .i64 zeroBx.hi.y,.int .i64 zeroBx.hi.z] rfl rfl (by kernel_rfl) rfl rfl ?_))
   refine bodyPost_ret (v:=.agg #[.int .i64 zeroBx.lo.x,.int .i64 zeroBx.lo.y,.int .i64 zeroBx.lo.z,.int .i64 zeroBx.hi.x,.int .i64 zeroBx.hi.y,.int .i64 zeroBx.hi.z]) ?_ rfl ⟨rfl,HX1.out.setRow (by omega) _⟩;exact results_cell_row Tryz.results116 _ _ _ _ _ _ _ rfl (HR1.out.setRow [.int .i64 zeroBx.lo.x,.int .i64 zeroBx.lo.y,.int .i64 zeroBx.lo.z,.int .i64 zeroBx.hi.x,.int .i64 zeroBx.hi.y,.int .i64 zeroBx.hi.z]) Tryz.underlying25 rfl (by kernel_rfl)
end Go.Proofs.YtoecbicdahbccaaGreatDoor
