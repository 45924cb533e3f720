/- A part of the walk of the layer of apply: contracts and plain laws that a row's text leans on. -/
import Derived.Test.YtoecbicdahbccaaGreatDoorZa45
import Derived.Test.YtoecbicdahbccaaGreatDoorZa49
set_option maxRecDepth 100000
set_option maxHeartbeats 16000000
namespace Go.Proofs.YtoecbicdahbccaaGreatDoor
open Go Go.RowKit Go.ChangeShapes Go.WideShapes Go.ChangeAt
theorem cells_Pt:Tryz.prog.cellsOf 23=3:=by kernel_rfl
theorem read_Pt{H:Type}{enc:TypeId × Value→H}{W:World}{base:Nat}{r:Go.Reach}{v:Value}{d:DataW H}{ps:List MemPlace}
    (hv:Value.okWide Tryz.prog W r base 23 v) (h:DataW.Trod enc Tryz.prog W 0 (fun _=>true) true 23 v d ps):∃ x:Pt,v = .agg (x.ints.map (Value.int .i64)).toArray∧∀ n,n∈x.ints→(Lit.int .i64 n).wf=true:=by
 obtain⟨l,rfl,hl,hw⟩:=read_struct Tryz.underlying23 ints_Pt hv h;rw[cells_Pt]at hl
 match l,hl,hw with
 | [a0,a1,a2],_,hw=>exact⟨⟨a0,a1,a2⟩,rfl,hw⟩
end Go.Proofs.YtoecbicdahbccaaGreatDoor
namespace Go.Proofs.YtoecbicdahbccaaGreatDoor
open Go Go.RowKit
theorem refInPrism_any(b:Bx)(s:Int)(p:Pt)(hs:0≤s∧s < 48)(he:emptyB b=false)(hb:smlB b)(w:World):Calls Tryz.prog 178 #[.agg #[.int .i64 b.lo.x,.int .i64 b.lo.y,.int .i64 b.lo.z,.int .i64 b.hi.x,.int .i64 b.hi.y,.int .i64 b.hi.z],.int .i64 s,.agg #[.int .i64 p.x,.int .i64 p.y,.int .i64 p.z]] w fun e w'=>e = .returned (.bool (prismR b s p))∧Ext w w':=by
 have hm:=mixed;have hG:=near_old;obtain⟨W0,hW⟩:∃ W,W=(w.alloc (.cells #[.int .i64 b.lo.x,.int .i64 b.lo.y,.int .i64 b.lo.z,.int .i64 b.hi.x,.int .i64 b.hi.y,.int .i64 b.hi.z] 25)).alloc (.cells #[.int .i64 p.x,.int .i64 p.y,.int .i64 p.z] 23):=⟨_,rfl⟩;have HX:=Lib.hid (show Ext w W0 by rw[hW];exact((Ext.refl w).alloc _).alloc _);have H3:=Lib.hid (show Arr W0 w.heap.size 25 [.int .i64 b.lo.x,.int .i64 b.lo.y,.int .i64 b.lo.z,.int .i64 b.hi.x,.int .i64 b.hi.y,.int .i64 b.hi.z]by rw[hW];exact(Arr.new w 25 [.int .i64 b.lo.x,.int .i64 b.lo.y,.int .i64 b.lo.z,.int .i64 b.hi.x,.int .i64 b.hi.y,.int .i64 b.hi.z]).alloc _);have H5:=Lib.hid (show Arr W0 (w.heap.size+1) 23 [.int .i64 p.x,.int .i64 p.y,.int .i64 p.z]by rw[hW];have h:=Arr.new (w.alloc (.cells #[.int .i64 b.lo.x,.int .i64 b.lo.y,.int .i64 b.lo.z,.int .i64 b.hi.x,.int .i64 b.hi.y,.int .i64 b.hi.z] 25)) 23 [.int .i64 p.x,.int .i64 p.y,.int .i64 p.z];simp only[World.size_alloc_]at h;exact h)
 cases hq:inP p b
 · have HI:=Lib.hid (show ∀ W:World,Calls Tryz.prog 18 #[.agg #[.int .i64 p.x,.int .i64 p.y,.int .i64 p.z],.agg #[.int .i64 b.lo.x,.int .i64 b.lo.y,.int .i64 b.lo.z,.int .i64 b.hi.x,.int .i64 b.hi.y,.int .i64 b.hi.z]] W fun e w'=>e = .returned (.bool false)∧Ext W w' by have h:=refIn_any p b;rw[hq]at h;exact h);have hd:prismR b s p=false:=by unfold prismR;rw[hq];rfl
   rw[hd];have h1:¬ s < 0:=by omega
   have h2:¬ 47 < s:=by omega
   clear hd hq hs he hb
   go_enter Tryz.func178,Tryz.ntmps178
   go_upto_region 1 with fail
   rw[← hW];clear hW
   go_upto_region 2 with(first
    | (refine ldB 23 5 H5.out Tryz.underlying23 ?_) | (refine ldB 23 5 (H5.out.alloc _) Tryz.underlying23 ?_) | (refine ldB 23 5 ((H5.out.alloc _).alloc _) Tryz.underlying23 ?_)
    | (refine ldB 25 3 H3.out Tryz.underlying25 ?_) | (refine ldB 25 3 (H3.out.alloc _) Tryz.underlying25 ?_) | (refine ldB 25 3 ((H3.out.alloc _).alloc _) Tryz.underlying25 ?_)
    | (go_at_call 18;refine(HI.out _).mono ?_;rintro e W1 ⟨rfl,hx⟩;replace HX:=xEx HX hx;replace H3:=aEx H3 hx;replace H5:=aEx H5 hx;clear hx))
   go_upto_region 3 with fail
   go_wp2_with fail
   go_ret
   exact⟨rfl,HX.out⟩
 · have HI:=Lib.hid (show ∀ W:World,Calls Tryz.prog 18 #[.agg #[.int .i64 p.x,.int .i64 p.y,.int .i64 p.z],.agg #[.int .i64 b.lo.x,.int .i64 b.lo.y,.int .i64 b.lo.z,.int .i64 b.hi.x,.int .i64 b.hi.y,.int .i64 b.hi.z]] W fun e w'=>e = .returned (.bool true)∧Ext W w' by have h:=refIn_any p b;rw[hq]at h;exact h);have hd:prismR b s p=prismQ (invI s) b p:=by unfold prismR;rw[hq];rfl
   rw[hd];have ht:=invI_rng hs;have hit:isT (invI s)=true:=by unfold isT;rw[decide_eq_true ht]
   have HV:=Lib.hid (refInvert_any s hs);have h1:¬ s < 0:=by omega
   have h2:¬ 47 < s:=by omega
   unfold prismQ;generalize invI s=t at HV hit ⊢;have HTC:=Lib.hid (refTurnCell_any t p);have HT:=refTurnBox_any t b hit he hb;generalize turnB t b=c at HT ⊢;replace HT:=Lib.hid HT;have HZ:=Lib.hid (refSize_any c);generalize sizeP c=z at HZ ⊢;generalize rturnP t 1 p=u at HTC ⊢;have HS:=Lib.hid (refSub_any u c.lo);generalize subP u c.lo=q at HS ⊢;clear hd hq he hb hit hs ht
   go_enter Tryz.func178,Tryz.ntmps178
   go_upto_region 1 with fail
   rw[← hW];clear hW
   go_upto_region 2 with(first
    | (refine ldB 23 5 H5.out Tryz.underlying23 ?_) | (refine ldB 23 5 (H5.out.alloc _) Tryz.underlying23 ?_) | (refine ldB 23 5 ((H5.out.alloc _).alloc _) Tryz.underlying23 ?_)
    | (refine ldB 25 3 H3.out Tryz.underlying25 ?_) | (refine ldB 25 3 (H3.out.alloc _) Tryz.underlying25 ?_) | (refine ldB 25 3 ((H3.out.alloc _).alloc _) Tryz.underlying25 ?_)
    | (go_at_call 18;refine(HI.out _).mono ?_;rintro e W1 ⟨rfl,hx⟩;replace HX:=xEx HX hx;replace H3:=aEx H3 hx;replace H5:=aEx H5 hx;clear hx))
   go_upto_region 4 with fail
   go_upto_region 5 with(first
    | (go_at_call 187;refine(HV.out _).mono ?_;rintro e W2 ⟨rfl,hx⟩;replace HX:=xEx HX hx;replace H3:=aEx H3 hx;replace H5:=aEx H5 hx;clear hx))
   go_upto_region 6 with(first
    | (refine ldB 25 3 H3.out Tryz.underlying25 ?_) | (refine ldB 25 3 (H3.out.alloc _) Tryz.underlying25 ?_) | (refine ldB 25 3 ((H3.out.alloc _).alloc _) Tryz.underlying25 ?_)
    | (go_at_call 99;refine(HT.out _).mono ?_;rintro e W3 ⟨rfl,hx⟩;replace HX:=xEx HX hx;replace H3:=aEx H3 hx;replace H5:=aEx H5 hx;clear hx)
    | (refine wpList_store_blk2 25 (.tmp 9) (.tmp 29) rfl rfl (Arr.new W3 25 [.int .i64 0,.int .i64 0,.int .i64 0,.int .i64 0,.int .i64 0,.int .i64 0]) [.int .i64 c.lo.x,.int .i64 c.lo.y,.int .i64 c.lo.z,.int .i64 c.hi.x,.int .i64 c.hi.y,.int .i64 c.hi.z] rfl rfl (by kernel_rfl) rfl rfl rfl ?_;intro W4 hW;have Q3_9:=aLt H3;have Q5_9:=aLt H5;have Qw_9:=Lib.hid HX.out.size;replace HX:=xNew HX hW;replace H3:=aNew H3 hW;replace H5:=aNew H5 hW;have H9:=nNew hW;clear hW))
   obtain⟨b9,hb9⟩:∃ n,n=W3.heap.size:=⟨_,rfl⟩;rw[← hb9]at H9 Q3_9 Q5_9 Qw_9 ⊢;clear hb9
   go_upto_region 7 with(first
    | (refine ldB 25 9 H9.out Tryz.underlying25 ?_) | (refine ldB 25 9 (H9.out.alloc _) Tryz.underlying25 ?_) | (refine ldB 25 9 ((H9.out.alloc _).alloc _) Tryz.underlying25 ?_)
    | (go_at_call 92;refine(HZ.out _).mono ?_;rintro e W5 ⟨rfl,hx⟩;replace HX:=xEx HX hx;replace H3:=aEx H3 hx;replace H5:=aEx H5 hx;replace H9:=aEx H9 hx;clear hx)
    | (refine wpList_store_blk2 23 (.tmp 10) (.tmp 31) rfl rfl (Arr.new W5 23 [.int .i64 0,.int .i64 0,.int .i64 0]) [.int .i64 z.x,.int .i64 z.y,.int .i64 z.z] rfl rfl (by kernel_rfl) rfl rfl rfl ?_;intro W6 hW;have Q3_10:=aLt H3;have Q5_10:=aLt H5;have Q9_10:=aLt H9;have Qw_10:=Lib.hid HX.out.size;replace HX:=xNew HX hW;replace H3:=aNew H3 hW;replace H5:=aNew H5 hW;replace H9:=aNew H9 hW;have H10:=nNew hW;clear hW))
   obtain⟨b10,hb10⟩:∃ n,n=W5.heap.size:=⟨_,rfl⟩;rw[← hb10]at H10 Q3_10 Q5_10 Q9_10 Qw_10 ⊢;clear hb10
   (try simp only[Act.put,List.setIfInBounds_toArray,List.set_cons_zero,List.set_cons_succ])
   refine wp_region_box2 (w:=W6) (fun i=>match i with
       | 0=>.int .i64 t
       | 1=>.agg #[.int .i64 p.x,.int .i64 p.y,.int .i64 p.z]
       | 2=>.agg #[.int .i64 u.x,.int .i64 u.y,.int .i64 u.z]
       | 3=>.pointer (some ⟨b9,0,none⟩)
       | 4=>.agg #[.int .i64 c.lo.x,.int .i64 c.lo.y,.int .i64 c.lo.z]
       | 5=>.agg #[.int .i64 q.x,.int .i64 q.y,.int .i64 q.z]
       | _=>undef) 6 23 11 37 5 [.int .i64 0,.int .i64 0,.int .i64 0] [.int .i64 q.x,.int .i64 q.y,.int .i64 q.z] hm (by kernel_rfl) (by kernel_rfl) (noGuardD (by kernel_rfl)) rfl ⟨_,rfl,rfl,rfl⟩ ⟨_,rfl,rfl,rfl,⟨⟨6,.data⟩,by simp,rfl,rfl⟩,⟨⟨5,.data⟩,by simp,rfl,rfl⟩⟩ (by decide) rfl (by simp) (by simp) rfl (info_zero (by kernel_rfl)) (by kernel_rfl) rfl rfl ?_ ?_
   · intro listed w1 i o ho hin hdep hx b K E0 E1 hK
     match i,ho with
     | 0,ho=>
       obtain rfl:=Option.some.inj ho;have e8:b.tmps[8]? = some (.int .i64 t):=E0 8 (by kernel_rfl);exact op_move rfl (eval_of e8) (hK w1 (Ext.refl _))
     | 1,ho=>
       obtain rfl:=Option.some.inj ho;have e5:b.tmps[5]? = some (.pointer (some ⟨(w.heap.size+1),0,none⟩)):=E0 5 (by kernel_rfl);exact op_loadrow rfl (eval_of e5) (H5.out.ext hx) _ Tryz.underlying23 rfl (by kernel_rfl) (hK w1 (Ext.refl _))
     | 2,ho=>
       obtain rfl:=Option.some.inj ho;have e32:b.tmps[32]? = some (.int .i64 t):=E1 0 32 (by decide) (getD_up (hdep ⟨0,.data⟩ (by simp) rfl)) rfl (by simp);have e33:b.tmps[33]? = some (.agg #[.int .i64 p.x,.int .i64 p.y,.int .i64 p.z]):=E1 1 33 (by decide) (getD_up (hdep ⟨1,.data⟩ (by simp) rfl)) rfl (by simp);exact op_call (G:=fun v _=>v = .agg #[.int .i64 u.x,.int .i64 u.y,.int .i64 u.z]) rfl (by simp[eval_of e32,eval_of e33]) (fun _ _=>by kernel_rfl) ((HTC.out w1).mono fun e w' ⟨h1,h2⟩=>⟨_,h1,h2,rfl⟩) (fun v w' h1 h2=>by subst h2;exact hK w' h1)
     | 3,ho=>
       obtain rfl:=Option.some.inj ho;have e9:b.tmps[9]? = some (.pointer (some ⟨b9,0,none⟩)):=E0 9 (by kernel_rfl);exact op_run (by unfold execOp;simp[e9,Act.eval,go_sem]) (hK w1 (Ext.refl _))
     | 4,ho=>
       obtain rfl:=Option.some.inj ho;have e35:b.tmps[35]? = some (.pointer (some ⟨b9,0,none⟩)):=E1 3 35 (by decide) (getD_up (hdep ⟨3,.data⟩ (by simp) rfl)) rfl (by simp);exact op_loadpart rfl b9 0 [.int .i64 c.lo.x,.int .i64 c.lo.y,.int .i64 c.lo.z] (eval_of e35) (H9.out.ext hx) rfl _ Tryz.underlying23 rfl (by kernel_rfl) (hK w1 (Ext.refl _))
     | 5,ho=>
       obtain rfl:=Option.some.inj ho;have e34:b.tmps[34]? = some (.agg #[.int .i64 u.x,.int .i64 u.y,.int .i64 u.z]):=E1 2 34 (by decide) (getD_up (hdep ⟨2,.data⟩ (by simp) rfl)) rfl (by simp);have e36:b.tmps[36]? = some (.agg #[.int .i64 c.lo.x,.int .i64 c.lo.y,.int .i64 c.lo.z]):=E1 4 36 (by decide) (getD_up (hdep ⟨4,.data⟩ (by simp) rfl)) rfl (by simp);exact op_call (G:=fun v _=>v = .agg #[.int .i64 q.x,.int .i64 q.y,.int .i64 q.z]) rfl (by simp[eval_of e34,eval_of e36]) (fun _ _=>by kernel_rfl) ((HS.out w1).mono fun e w' ⟨h1,h2⟩=>⟨_,h1,h2,rfl⟩) (fun v w' h1 h2=>by subst h2;exact hK w' h1)
     | i+6,ho=>exact absurd hin (by omega)
   intro b11 w9 hx hg hA;simp only[List.length_cons,List.length_nil,fillAllN,dstOf,Act.put,List.getElem?_toArray,List.getElem?_cons_zero,List.getElem?_cons_succ,Option.bind_some,List.setIfInBounds_toArray,List.set_cons_zero,List.set_cons_succ,boxV,Nat.lt_irrefl,if_false,if_true,Nat.reduceLT,Nat.reduceEqDiff,Nat.reduceAdd];obtain⟨W7,hW9⟩:∃ W,W=w9:=⟨_,rfl⟩;rw[← hW9]at hx hA ⊢;clear hW9;have Q3_11:=Lib.hid (show w.heap.size < b11 from Nat.lt_of_lt_of_le H3.out.lt hg);have Q5_11:=Lib.hid (show(w.heap.size+1) < b11 from Nat.lt_of_lt_of_le H5.out.lt hg);have Q9_11:=Lib.hid (show b9 < b11 from Nat.lt_of_lt_of_le H9.out.lt hg);have Q10_11:=Lib.hid (show b10 < b11 from Nat.lt_of_lt_of_le H10.out.lt hg);have Qw_11:=Lib.hid (Nat.le_trans HX.out.size hg);replace HX:=xEx HX hx;replace H3:=aEx H3 hx;replace H5:=aEx H5 hx;replace H9:=aEx H9 hx;replace H10:=aEx H10 hx;have H11:=Lib.hid hA;clear hx hg hA
   go_upto_region 8 with fail
   have c10:=H10.out.cell;have l10:=H10.out.lt;have c11:=H11.out.cell;have l11:=H11.out.lt
   go_wp2_with fail
   go_ret
   exact⟨ret_bool (by unfold rampQ wrap64;first | rfl | (rw[Bool.eq_iff_iff];simp)),HX.out⟩
theorem refInBall_any(a:Pt)(n:Int)(p:Pt)(ha:tinyP a)(hp:tinyP p)(w:World):Calls Tryz.prog 177 #[.agg #[.int .i64 a.x,.int .i64 a.y,.int .i64 a.z],.int .i64 n,.agg #[.int .i64 p.x,.int .i64 p.y,.int .i64 p.z]] w fun e w'=>e = .returned (.bool (ballQ a n p))∧Ext w w':=by
 have hm:=mixed;have hG:=near_old;obtain⟨W0,hW⟩:∃ W,W=(w.alloc (.cells #[.int .i64 a.x,.int .i64 a.y,.int .i64 a.z] 23)).alloc (.cells #[.int .i64 p.x,.int .i64 p.y,.int .i64 p.z] 23):=⟨_,rfl⟩;have HX:=Lib.hid (show Ext w W0 by rw[hW];exact((Ext.refl w).alloc _).alloc _);have H3:=Lib.hid (show Arr W0 w.heap.size 23 [.int .i64 a.x,.int .i64 a.y,.int .i64 a.z]by rw[hW];exact(Arr.new w 23 [.int .i64 a.x,.int .i64 a.y,.int .i64 a.z]).alloc _);have H5:=Lib.hid (show Arr W0 (w.heap.size+1) 23 [.int .i64 p.x,.int .i64 p.y,.int .i64 p.z]by rw[hW];have h:=Arr.new (w.alloc (.cells #[.int .i64 a.x,.int .i64 a.y,.int .i64 a.z] 23)) 23 [.int .i64 p.x,.int .i64 p.y,.int .i64 p.z];simp only[World.size_alloc_]at h;exact h)
 by_cases hn:1≤n∧n≤4096
 · have HI:=Lib.hid (show ∀ W:World,Calls Tryz.prog 98 #[.int .i64 n] W fun e w'=>e = .returned (.bool true)∧Ext W w' by intro W;have h:=refisSize_any n W;rw[show isS n=true by unfold isS;rw[decide_eq_true hn]]at h;exact h);have HS:=Lib.hid (refSub_any p a);have hd:smlD (subP p a):=subP_sml ha hp;have hb:ballQ a n p=decide (4 * ((subP p a).x * (subP p a).x+(subP p a).y * (subP p a).y+(subP p a).z * (subP p a).z)≤n * n):=by unfold ballQ isS;rw[decide_eq_true hn];rfl
   rw[hb];clear hb ha hp;generalize subP p a=d at HS hd ⊢;have q1:=sq_rng hd.1;have q2:=sq_rng hd.2.1;have q3:=sq_rng hd.2.2;have q4:0≤n * n∧n * n≤1600000000:=sq_rng (by omega);clear hd
   go_enter Tryz.func177,Tryz.ntmps177
   go_upto_region 1 with fail
   rw[← hW];clear hW
   go_upto_region 2 with(first
    | (go_at_call 98;refine(HI.out _).mono ?_;rintro e W1 ⟨rfl,hx⟩;replace HX:=xEx HX hx;replace H3:=aEx H3 hx;replace H5:=aEx H5 hx;clear hx))
   go_upto_region 4 with fail
   go_upto_region 5 with(first
    | (refine ldB 23 5 H5.out Tryz.underlying23 ?_) | (refine ldB 23 5 (H5.out.alloc _) Tryz.underlying23 ?_) | (refine ldB 23 5 ((H5.out.alloc _).alloc _) Tryz.underlying23 ?_)
    | (refine ldB 23 3 H3.out Tryz.underlying23 ?_) | (refine ldB 23 3 (H3.out.alloc _) Tryz.underlying23 ?_) | (refine ldB 23 3 ((H3.out.alloc _).alloc _) Tryz.underlying23 ?_)
    | (go_at_call 54;refine(HS.out _).mono ?_;rintro e W2 ⟨rfl,hx⟩;replace HX:=xEx HX hx;replace H3:=aEx H3 hx;replace H5:=aEx H5 hx;clear hx)
    | (refine wpList_store_blk2 23 (.tmp 8) (.tmp 15) rfl rfl (Arr.new W2 23 [.int .i64 0,.int .i64 0,.int .i64 0]) [.int .i64 d.x,.int .i64 d.y,.int .i64 d.z] rfl rfl (by kernel_rfl) rfl rfl rfl ?_;intro W3 hW;have Q3_8:=aLt H3;have Q5_8:=aLt H5;have Qw_8:=Lib.hid HX.out.size;replace HX:=xNew HX hW;replace H3:=aNew H3 hW;replace H5:=aNew H5 hW;have H8:=nNew hW;clear hW))
   obtain⟨b8,hb8⟩:∃ n,n=W2.heap.size:=⟨_,rfl⟩;rw[← hb8]at H8 Q3_8 Q5_8 Qw_8 ⊢;clear hb8;have c8:=H8.out.cell;have l8:=H8.out.lt
   go_wp2_with fail
   go_ret
   exact⟨ret_bool (by first | rfl | (rw[Bool.eq_iff_iff];simp)),HX.out⟩
 · have HI:=Lib.hid (show ∀ W:World,Calls Tryz.prog 98 #[.int .i64 n] W fun e w'=>e = .returned (.bool false)∧Ext W w' by intro W;have h:=refisSize_any n W;rw[show isS n=false by unfold isS;rw[decide_eq_false hn]]at h;exact h);have hb:ballQ a n p=false:=by unfold ballQ isS;rw[decide_eq_false hn];rfl
   rw[hb];clear hb hn ha hp
   go_enter Tryz.func177,Tryz.ntmps177
   go_upto_region 1 with fail
   rw[← hW];clear hW
   go_upto_region 2 with(first
    | (go_at_call 98;refine(HI.out _).mono ?_;rintro e W1 ⟨rfl,hx⟩;replace HX:=xEx HX hx;replace H3:=aEx H3 hx;replace H5:=aEx H5 hx;clear hx))
   go_upto_region 3 with fail
   go_wp2_with fail
   go_ret
   exact⟨rfl,HX.out⟩
theorem refturns_any(s:Int)(w:World):Calls Tryz.prog 130 #[.int .i64 s] w fun e w'=>e = .returned (.bool (isT s))∧Ext w w':=by
 rcases (show(0≤s∧s < 48)∨(0≤s∧¬ s < 48)∨¬ 0≤s by omega)with⟨h1,h2⟩ | ⟨h1,h2⟩ | h1
 all_goals
  go_enter Tryz.func130,Tryz.ntmps130
  go_wp2
  go_ret
  exact⟨ret_bool (by unfold isT;simp;omega),Ext.refl _⟩
theorem hasBox_any(b:Bx)(a:Pt)(n:Int)(p:Pt)(w:World):Calls Tryz.prog 157 #[.agg #[.int .i64 0,.int .i64 b.lo.x,.int .i64 b.lo.y,.int .i64 b.lo.z,.int .i64 b.hi.x,.int .i64 b.hi.y,.int .i64 b.hi.z,.int .i64 a.x,.int .i64 a.y,.int .i64 a.z,.int .i64 n],.agg #[.int .i64 p.x,.int .i64 p.y,.int .i64 p.z]] w fun e w'=>e = .returned (.bool (inP p b))∧Ext w w':=by
 have hm:=mixed;have hG:=near_old;obtain⟨W0,hW⟩:∃ W,W=(w.alloc (.cells #[.int .i64 0,.int .i64 b.lo.x,.int .i64 b.lo.y,.int .i64 b.lo.z,.int .i64 b.hi.x,.int .i64 b.hi.y,.int .i64 b.hi.z,.int .i64 a.x,.int .i64 a.y,.int .i64 a.z,.int .i64 n] 145)).alloc (.cells #[.int .i64 p.x,.int .i64 p.y,.int .i64 p.z] 23):=⟨_,rfl⟩;have HX:=Lib.hid (show Ext w W0 by rw[hW];exact((Ext.refl w).alloc _).alloc _);have H2:=Lib.hid (show Arr W0 w.heap.size 145 [.int .i64 0,.int .i64 b.lo.x,.int .i64 b.lo.y,.int .i64 b.lo.z,.int .i64 b.hi.x,.int .i64 b.hi.y,.int .i64 b.hi.z,.int .i64 a.x,.int .i64 a.y,.int .i64 a.z,.int .i64 n]by rw[hW];exact(Arr.new w 145 [.int .i64 0,.int .i64 b.lo.x,.int .i64 b.lo.y,.int .i64 b.lo.z,.int .i64 b.hi.x,.int .i64 b.hi.y,.int .i64 b.hi.z,.int .i64 a.x,.int .i64 a.y,.int .i64 a.z,.int .i64 n]).alloc _);have H3:=Lib.hid (show Arr W0 (w.heap.size+1) 23 [.int .i64 p.x,.int .i64 p.y,.int .i64 p.z]by rw[hW];have h:=Arr.new (w.alloc (.cells #[.int .i64 0,.int .i64 b.lo.x,.int .i64 b.lo.y,.int .i64 b.lo.z,.int .i64 b.hi.x,.int .i64 b.hi.y,.int .i64 b.hi.z,.int .i64 a.x,.int .i64 a.y,.int .i64 a.z,.int .i64 n] 145)) 23 [.int .i64 p.x,.int .i64 p.y,.int .i64 p.z];simp only[World.size_alloc_]at h;exact h);have HI:=Lib.hid (refIn_any p b);generalize inP p b=q at HI ⊢
 go_enter Tryz.func157,Tryz.ntmps157
 go_upto_region 1 with fail
 rw[← hW];clear hW;have c2:=H2.out.cell;have l2:=H2.out.lt
 go_upto_region 2 with fail
 clear c2 l2
 go_upto_region 4 with fail
 go_upto_region 6 with fail
 go_wp2_with (first
  | (refine ldB 23 3 H3.out Tryz.underlying23 ?_) | (refine ldB 23 3 (H3.out.alloc _) Tryz.underlying23 ?_) | (refine ldB 23 3 ((H3.out.alloc _).alloc _) Tryz.underlying23 ?_)
  | (refine wpList_load_part 25 (.tmp 24) rfl rfl H2.out 1 [.int .i64 b.lo.x,.int .i64 b.lo.y,.int .i64 b.lo.z,.int .i64 b.hi.x,.int .i64 b.hi.y,.int .i64 b.hi.z] rfl rfl _ Tryz.underlying25 rfl (by kernel_rfl) ?_) | (refine wpList_load_part 25 (.tmp 24) rfl rfl (H2.out.alloc _) 1 [.int .i64 b.lo.x,.int .i64 b.lo.y,.int .i64 b.lo.z,.int .i64 b.hi.x,.int .i64 b.hi.y,.int .i64 b.hi.z] rfl rfl _ Tryz.underlying25 rfl (by kernel_rfl) ?_)
  | (go_at_call 18;refine(HI.out _).mono ?_;rintro e W1 ⟨rfl,hx⟩;replace HX:=xEx HX hx;replace H2:=aEx H2 hx;replace H3:=aEx H3 hx;clear hx))
 go_ret
 exact⟨rfl,HX.out⟩
theorem hasBall_any(b:Bx)(a:Pt)(n:Int)(p:Pt)(ha:tinyP a)(hp:tinyP p)(w:World):Calls Tryz.prog 157 #[.agg #[.int .i64 1,.int .i64 b.lo.x,.int .i64 b.lo.y,.int .i64 b.lo.z,.int .i64 b.hi.x,.int .i64 b.hi.y,.int .i64 b.hi.z,.int .i64 a.x,.int .i64 a.y,.int .i64 a.z,.int .i64 n],.agg #[.int .i64 p.x,.int .i64 p.y,.int .i64 p.z]] w fun e w'=>e = .returned (.bool (ballQ a n p))∧Ext w w':=by
 have hm:=mixed;have hG:=near_old;obtain⟨W0,hW⟩:∃ W,W=(w.alloc (.cells #[.int .i64 1,.int .i64 b.lo.x,.int .i64 b.lo.y,.int .i64 b.lo.z,.int .i64 b.hi.x,.int .i64 b.hi.y,.int .i64 b.hi.z,.int .i64 a.x,.int .i64 a.y,.int .i64 a.z,.int .i64 n] 145)).alloc (.cells #[.int .i64 p.x,.int .i64 p.y,.int .i64 p.z] 23):=⟨_,rfl⟩;have HX:=Lib.hid (show Ext w W0 by rw[hW];exact((Ext.refl w).alloc _).alloc _);have H2:=Lib.hid (show Arr W0 w.heap.size 145 [.int .i64 1,.int .i64 b.lo.x,.int .i64 b.lo.y,.int .i64 b.lo.z,.int .i64 b.hi.x,.int .i64 b.hi.y,.int .i64 b.hi.z,.int .i64 a.x,.int .i64 a.y,.int .i64 a.z,.int .i64 n]by rw[hW];exact(Arr.new w 145 [.int .i64 1,.int .i64 b.lo.x,.int .i64 b.lo.y,.int .i64 b.lo.z,.int .i64 b.hi.x,.int .i64 b.hi.y,.int .i64 b.hi.z,.int .i64 a.x,.int .i64 a.y,.int .i64 a.z,.int .i64 n]).alloc _);have H3:=Lib.hid (show Arr W0 (w.heap.size+1) 23 [.int .i64 p.x,.int .i64 p.y,.int .i64 p.z]by rw[hW];have h:=Arr.new (w.alloc (.cells #[.int .i64 1,.int .i64 b.lo.x,.int .i64 b.lo.y,.int .i64 b.lo.z,.int .i64 b.hi.x,.int .i64 b.hi.y,.int .i64 b.hi.z,.int .i64 a.x,.int .i64 a.y,.int .i64 a.z,.int .i64 n] 145)) 23 [.int .i64 p.x,.int .i64 p.y,.int .i64 p.z];simp only[World.size_alloc_]at h;exact h);have HI:=Lib.hid (refInBall_any a n p ha hp);generalize ballQ a n p=q at HI ⊢;clear ha hp
 go_enter Tryz.func157,Tryz.ntmps157
 go_upto_region 1 with fail
 rw[← hW];clear hW;have c2:=H2.out.cell;have l2:=H2.out.lt
 go_upto_region 2 with fail
 clear c2 l2
 go_upto_region 3 with fail
 have c2:=H2.out.cell;have l2:=H2.out.lt
 go_wp2_with (first
  | (refine wpList_load_part 23 (.tmp 9) rfl rfl H2.out 7 [.int .i64 a.x,.int .i64 a.y,.int .i64 a.z] rfl rfl _ Tryz.underlying23 rfl (by kernel_rfl) ?_) | (refine wpList_load_part 23 (.tmp 9) rfl rfl (H2.out.alloc _) 7 [.int .i64 a.x,.int .i64 a.y,.int .i64 a.z] rfl rfl _ Tryz.underlying23 rfl (by kernel_rfl) ?_)
  | (refine ldB 23 3 H3.out Tryz.underlying23 ?_) | (refine ldB 23 3 (H3.out.alloc _) Tryz.underlying23 ?_) | (refine ldB 23 3 ((H3.out.alloc _).alloc _) Tryz.underlying23 ?_)
  | (go_at_call 177;refine(HI.out _).mono ?_;rintro e W1 ⟨rfl,hx⟩;replace HX:=xEx HX hx;replace H2:=aEx H2 hx;replace H3:=aEx H3 hx;clear hx;have c2:=H2.out.cell;have l2:=H2.out.lt))
 go_ret
 exact⟨rfl,HX.out⟩
theorem hasPrism_any(b:Bx)(a:Pt)(n:Int)(p:Pt)(hs:0≤n∧n < 48)(he:emptyB b=false)(hb:smlB b)(w:World):Calls Tryz.prog 157 #[.agg #[.int .i64 2,.int .i64 b.lo.x,.int .i64 b.lo.y,.int .i64 b.lo.z,.int .i64 b.hi.x,.int .i64 b.hi.y,.int .i64 b.hi.z,.int .i64 a.x,.int .i64 a.y,.int .i64 a.z,.int .i64 n],.agg #[.int .i64 p.x,.int .i64 p.y,.int .i64 p.z]] w fun e w'=>e = .returned (.bool (prismR b n p))∧Ext w w':=by
 have hm:=mixed;have hG:=near_old;obtain⟨W0,hW⟩:∃ W,W=(w.alloc (.cells #[.int .i64 2,.int .i64 b.lo.x,.int .i64 b.lo.y,.int .i64 b.lo.z,.int .i64 b.hi.x,.int .i64 b.hi.y,.int .i64 b.hi.z,.int .i64 a.x,.int .i64 a.y,.int .i64 a.z,.int .i64 n] 145)).alloc (.cells #[.int .i64 p.x,.int .i64 p.y,.int .i64 p.z] 23):=⟨_,rfl⟩;have HX:=Lib.hid (show Ext w W0 by rw[hW];exact((Ext.refl w).alloc _).alloc _);have H2:=Lib.hid (show Arr W0 w.heap.size 145 [.int .i64 2,.int .i64 b.lo.x,.int .i64 b.lo.y,.int .i64 b.lo.z,.int .i64 b.hi.x,.int .i64 b.hi.y,.int .i64 b.hi.z,.int .i64 a.x,.int .i64 a.y,.int .i64 a.z,.int .i64 n]by rw[hW];exact(Arr.new w 145 [.int .i64 2,.int .i64 b.lo.x,.int .i64 b.lo.y,.int .i64 b.lo.z,.int .i64 b.hi.x,.int .i64 b.hi.y,.int .i64 b.hi.z,.int .i64 a.x,.int .i64 a.y,.int .i64 a.z,.int .i64 n]).alloc _);have H3:=Lib.hid (show Arr W0 (w.heap.size+1) 23 [.int .i64 p.x,.int .i64 p.y,.int .i64 p.z]by rw[hW];have h:=Arr.new (w.alloc (.cells #[.int .i64 2,.int .i64 b.lo.x,.int .i64 b.lo.y,.int .i64 b.lo.z,.int .i64 b.hi.x,.int .i64 b.hi.y,.int .i64 b.hi.z,.int .i64 a.x,.int .i64 a.y,.int .i64 a.z,.int .i64 n] 145)) 23 [.int .i64 p.x,.int .i64 p.y,.int .i64 p.z];simp only[World.size_alloc_]at h;exact h);have HI:=Lib.hid (refInPrism_any b n p hs he hb);generalize prismR b n p=q at HI ⊢;clear hs he hb
 go_enter Tryz.func157,Tryz.ntmps157
 go_upto_region 1 with fail
 rw[← hW];clear hW;have c2:=H2.out.cell;have l2:=H2.out.lt
 go_upto_region 2 with fail
 clear c2 l2
 go_upto_region 4 with fail
 go_upto_region 5 with fail
 have c2:=H2.out.cell;have l2:=H2.out.lt
 go_wp2_with (first
  | (refine wpList_load_part 25 (.tmp 17) rfl rfl H2.out 1 [.int .i64 b.lo.x,.int .i64 b.lo.y,.int .i64 b.lo.z,.int .i64 b.hi.x,.int .i64 b.hi.y,.int .i64 b.hi.z] rfl rfl _ Tryz.underlying25 rfl (by kernel_rfl) ?_) | (refine wpList_load_part 25 (.tmp 17) rfl rfl (H2.out.alloc _) 1 [.int .i64 b.lo.x,.int .i64 b.lo.y,.int .i64 b.lo.z,.int .i64 b.hi.x,.int .i64 b.hi.y,.int .i64 b.hi.z] rfl rfl _ Tryz.underlying25 rfl (by kernel_rfl) ?_)
  | (refine ldB 23 3 H3.out Tryz.underlying23 ?_) | (refine ldB 23 3 (H3.out.alloc _) Tryz.underlying23 ?_) | (refine ldB 23 3 ((H3.out.alloc _).alloc _) Tryz.underlying23 ?_)
  | (go_at_call 178;refine(HI.out _).mono ?_;rintro e W1 ⟨rfl,hx⟩;replace HX:=xEx HX hx;replace H2:=aEx H2 hx;replace H3:=aEx H3 hx;clear hx;have c2:=H2.out.cell;have l2:=H2.out.lt))
 go_ret
 exact⟨rfl,HX.out⟩
theorem cd_in_iff(p:Pt)(b:Bx):inP p b=true↔∀ k:Int,0≤k∧k < 3→cdP b.lo k≤cdP p k∧cdP p k < cdP b.hi k:=by
 constructor
 · intro h k hk;exact cd_in h hk
 · intro h;have h0:=h 0 (by decide);have h1:=h 1 (by decide);have h2:=h 2 (by decide);simp only[cdP,if_true,show ¬ (1:Int)=0 by decide,show ¬ (2:Int)=0 by decide,show ¬ (2:Int)=1 by decide,if_false]at h0 h1 h2;rw[inP_iff];omega
theorem ax_onto:∀ s,s < 48→∀ k,k < 3→∃ j,j < 3∧axI (s:Nat) (j:Nat)=(k:Nat):=by decide+kernel
theorem ax_pair{s:Int}(hs:0≤s∧s < 48){k:Int}(hk:0≤k∧k < 3):∃ j,(0≤j∧j < 3)∧axI s j=k∧axI (invI s) k=j∧ngI (invI s) k=ngI s j:=by
 obtain⟨j,hj,e⟩:=ax_onto s.toNat (by omega) k.toNat (by omega);rw[Int.toNat_of_nonneg hs.1,Int.toNat_of_nonneg hk.1]at e;have h:=invI_rel hs (j:=(j:Int)) (by omega);rw[e]at h;exact⟨j,by omega,e,h.1,h.2⟩
section
variable {s:Int} (hs:0≤s∧s < 48) {b:Bx} (he:emptyB b=false) (hb:smlB b) {a:Pt} (ha:smlP a)
include hs he hb ha
theorem plc_in{p:Pt}(hp:inP p b=true):inP (plcP s b a p) (tgtB s b a)=true:=by
 rw[cd_in_iff];intro j hj;have h:=tgt_cd hs he hb ha hj;have h1:=cd_in hp (k:=axI s j) (by have:=axI_in s j hs hj;omega);rw[cd_plc _ _ _ _ hj,h.1,h.2];unfold plcI
 split <;> omega
theorem src_cd{q:Pt}{j:Int}(hj:0≤j∧j < 3):cdP (srcP s b a q) (axI s j)=cdP b.lo (axI s j)+if ngI s j then(cdP a j+(cdP b.hi (axI s j) - cdP b.lo (axI s j))) - 1 - cdP q j else cdP q j - cdP a j:=by
 have h:=tgt_cd hs he hb ha hj;have hk:0≤axI s j∧axI s j < 3:=by have:=axI_in s j hs hj;omega
 have hr:=invI_rel hs hj;unfold srcP;rw[cd_plc _ _ _ _ hk];unfold plcI;rw[hr.1,hr.2,h.1,h.2]
theorem src_plc(p:Pt):srcP s b a (plcP s b a p)=p:=by
 refine cd_ext fun k hk=>?_;obtain⟨j,hj,e,_,_⟩:=ax_pair hs hk;have h:=src_cd hs he hb ha (q:=plcP s b a p) hj;rw[cd_plc _ _ _ _ hj]at h;unfold plcI at h;rw[e]at h;rw[h]
 split <;> omega
theorem src_in{q:Pt}(hq:inP q (tgtB s b a)=true):inP (srcP s b a q) b=true:=by
 rw[cd_in_iff];intro k hk;obtain⟨j,hj,e,_,_⟩:=ax_pair hs hk;have h:=src_cd hs he hb ha (q:=q) hj;have ht:=tgt_cd hs he hb ha hj;have h1:=cd_in hq hj;rw[e]at h ht;rw[ht.1,ht.2]at h1;rw[h]
 split <;> omega
theorem plc_src(q:Pt):plcP s b a (srcP s b a q)=q:=by
 refine cd_ext fun j hj=>?_;have h:=src_cd hs he hb ha (q:=q) hj;rw[cd_plc _ _ _ _ hj];unfold plcI;rw[h]
 split <;> omega
end
end Go.Proofs.YtoecbicdahbccaaGreatDoor
