/- A part of the walk of the layer of apply: contracts and plain laws that a row's text leans on. -/
import Derived.Test.YtoecbicdahbccaaGreatDoorZa40
import Derived.Test.YtoecbicdahbccaaGreatDoorZa42
import Derived.Test.YtoecbicdahbccaaGreatDoorZa44
set_option maxRecDepth 100000
set_option maxHeartbeats 16000000
namespace Go.Proofs.YtoecbicdahbccaaGreatDoor
open Go Go.RowKit
theorem rAdd_any(p q:Pt)(w:World):
    Calls Tryz.prog 55 #[.agg #[.int .i64 p.x,.int .i64 p.y,.int .i64 p.z],.agg #[.int .i64 q.x,.int .i64 q.y,.int .i64 q.z]] w fun e w'=>e = .returned (.agg #[.int .i64 (addP p q).x,.int .i64 (addP p q).y,.int .i64 (addP p q).z])∧Ext w w':=by
 go_enter Tryz.func55,Tryz.ntmps55
 go_wp2
 refine bodyPost_ret (v:=.agg #[.int .i64 (addP p q).x,.int .i64 (addP p q).y,.int .i64 (addP p q).z]) ?_ rfl ?_
 · simp (maxDischargeDepth:=9) only [results,Tryz.results55]
   first
    | (go_simp;done)
    | (go_simp;simp[addP];done)
    | (simp (maxDischargeDepth:=9) [go_sem, *];done)
    | (simp (maxDischargeDepth:=9) [go_sem, *];simp[addP])
 · exact⟨rfl,byX⟩
theorem refShift_any(b:Bx)(p:Pt)(w:World):Calls Tryz.prog 100 #[.agg #[.int .i64 b.lo.x,.int .i64 b.lo.y,.int .i64 b.lo.z,.int .i64 b.hi.x,.int .i64 b.hi.y,.int .i64 b.hi.z],.agg #[.int .i64 p.x,.int .i64 p.y,.int .i64 p.z]] w fun e w'=>e = .returned (.agg #[.int .i64 (shiftB b p).lo.x,.int .i64 (shiftB b p).lo.y,.int .i64 (shiftB b p).lo.z,.int .i64 (shiftB b p).hi.x,.int .i64 (shiftB b p).hi.y,.int .i64 (shiftB b p).hi.z])∧Ext w w':=by
 have hm:=mixed;have hG:=near_old;obtain⟨W0,hW⟩:∃ W,W=((w.alloc (.cells #[.int .i64 b.lo.x,.int .i64 b.lo.y,.int .i64 b.lo.z,.int .i64 b.hi.x,.int .i64 b.hi.y,.int .i64 b.hi.z] 25)).alloc (.cells #[.int .i64 p.x,.int .i64 p.y,.int .i64 p.z] 23)).alloc (.cells #[.int .i64 0,.int .i64 0,.int .i64 0,.int .i64 0,.int .i64 0,.int .i64 0] 25):=⟨_,rfl⟩;have HX:=Lib.hid (show Ext w W0 by rw[hW];exact(((Ext.refl w).alloc _).alloc _).alloc _);have H2:=Lib.hid (show Arr W0 w.heap.size 25 [.int .i64 b.lo.x,.int .i64 b.lo.y,.int .i64 b.lo.z,.int .i64 b.hi.x,.int .i64 b.hi.y,.int .i64 b.hi.z]by rw[hW];exact((Arr.new w 25 [.int .i64 b.lo.x,.int .i64 b.lo.y,.int .i64 b.lo.z,.int .i64 b.hi.x,.int .i64 b.hi.y,.int .i64 b.hi.z]).alloc _).alloc _);have H3:=Lib.hid (show Arr W0 (w.heap.size+1) 23 [.int .i64 p.x,.int .i64 p.y,.int .i64 p.z]by rw[hW];have h:=Arr.new (w.alloc (.cells #[.int .i64 b.lo.x,.int .i64 b.lo.y,.int .i64 b.lo.z,.int .i64 b.hi.x,.int .i64 b.hi.y,.int .i64 b.hi.z] 25)) 23 [.int .i64 p.x,.int .i64 p.y,.int .i64 p.z];simp only[World.size_alloc_]at h;exact(h.alloc _));have H4:=Lib.hid (show Arr W0 (w.heap.size+1+1) 25 [.int .i64 0,.int .i64 0,.int .i64 0,.int .i64 0,.int .i64 0,.int .i64 0]by rw[hW];have h:=Arr.new ((w.alloc (.cells #[.int .i64 b.lo.x,.int .i64 b.lo.y,.int .i64 b.lo.z,.int .i64 b.hi.x,.int .i64 b.hi.y,.int .i64 b.hi.z] 25)).alloc (.cells #[.int .i64 p.x,.int .i64 p.y,.int .i64 p.z] 23)) 25 [.int .i64 0,.int .i64 0,.int .i64 0,.int .i64 0,.int .i64 0,.int .i64 0];simp only[World.size_alloc_]at h;exact h)
 go_enter Tryz.func100,Tryz.ntmps100
 go_upto_region 1 with fail
 rw[← hW];clear hW;have HN0:=Lib.hid (fun W:World=>rAdd_any b.lo p W);have HN1:=Lib.hid (fun W:World=>rAdd_any b.hi p W);have c2:=H2.out.cell;have l2:=H2.out.lt;have c3:=H3.out.cell;have l3:=H3.out.lt;refine wp_region_near_tail 9 (by assumption) (by kernel_rfl) ?_;simp only[List.take_succ_cons,List.take_zero,List.drop_succ_cons,List.drop_zero]
 repeat (go_big_quiet_step ((first | (go_at_call 55;with_reducible exact near_call (HN0.out _)) | (go_at_call 55;with_reducible exact near_call (HN1.out _)))))
 refine wpQuiet_nil ?_;intro w1 hw1;have hy:=Ext.of_near hw1;clear hw1;replace HX:=xEx HX hy;replace H2:=aEx H2 hy;replace H3:=aEx H3 hy;replace H4:=aEx H4 hy;clear hy c2 l2 c3 l3
 go_wp2_with (first
  | (refine wpList_store_blk2 25 (.tmp 4) (.tmp 13) rfl rfl H4.out [.int .i64 (addP b.lo p).x,.int .i64 (addP b.lo p).y,.int .i64 (addP b.lo p).z,.int .i64 (addP b.hi p).x,.int .i64 (addP b.hi p).y,.int .i64 (addP b.hi p).z] rfl rfl (by kernel_rfl) rfl rfl rfl ?_;intro W1 hW;replace HX:=xRow HX hW (by omega);replace H2:=aRow H2 hW (by omega);replace H3:=aRow H3 hW (by omega);replace H4:=nRow H4 hW;clear hW))
 refine bodyPost_ret (v:=.agg #[.int .i64 (addP b.lo p).x,.int .i64 (addP b.lo p).y,.int .i64 (addP b.lo p).z,.int .i64 (addP b.hi p).x,.int .i64 (addP b.hi p).y,.int .i64 (addP b.hi p).z]) ?_ rfl ⟨rfl,HX.out⟩;exact results_cell_row Tryz.results100 _ _ _ _ _ _ _ rfl H4.out Tryz.underlying25 rfl (by kernel_rfl)
theorem refTurnCell_any(s:Int)(p:Pt)(w:World):Calls Tryz.prog 131 #[.int .i64 s,.agg #[.int .i64 p.x,.int .i64 p.y,.int .i64 p.z]] w fun e w'=>e = .returned (.agg #[.int .i64 (rturnP s 1 p).x,.int .i64 (rturnP s 1 p).y,.int .i64 (rturnP s 1 p).z])∧Ext w w':=by
 have hm:=mixed;have hG:=near_old;obtain⟨W0,hW⟩:∃ W,W=(w.alloc (.cells #[.int .i64 p.x,.int .i64 p.y,.int .i64 p.z] 23)).alloc (.cells #[.int .i64 0,.int .i64 0,.int .i64 0] 23):=⟨_,rfl⟩;have HX:=Lib.hid (show Ext w W0 by rw[hW];exact((Ext.refl w).alloc _).alloc _);have H3:=Lib.hid (show Arr W0 w.heap.size 23 [.int .i64 p.x,.int .i64 p.y,.int .i64 p.z]by rw[hW];exact(Arr.new w 23 [.int .i64 p.x,.int .i64 p.y,.int .i64 p.z]).alloc _);have H4:=Lib.hid (show Arr W0 (w.heap.size+1) 23 [.int .i64 0,.int .i64 0,.int .i64 0]by rw[hW];have h:=Arr.new (w.alloc (.cells #[.int .i64 p.x,.int .i64 p.y,.int .i64 p.z] 23)) 23 [.int .i64 0,.int .i64 0,.int .i64 0];simp only[World.size_alloc_]at h;exact h)
 go_enter Tryz.func131,Tryz.ntmps131
 go_upto_region 1 with fail
 rw[← hW];clear hW
 go_wp2_with (first
  | (refine ldB 23 3 H3.out Tryz.underlying23 ?_) | (refine ldB 23 3 (H3.out.alloc _) Tryz.underlying23 ?_) | (refine ldB 23 3 ((H3.out.alloc _).alloc _) Tryz.underlying23 ?_)
  | (go_at_call 158;refine(turned_any s 1 p _).mono ?_;rintro e W1 ⟨rfl,hx⟩;replace HX:=xEx HX hx;replace H3:=aEx H3 hx;replace H4:=aEx H4 hx;clear hx)
  | (refine wpList_store_blk2 23 (.tmp 4) (.tmp 7) rfl rfl H4.out [.int .i64 (rturnP s 1 p).x,.int .i64 (rturnP s 1 p).y,.int .i64 (rturnP s 1 p).z] rfl rfl (by kernel_rfl) rfl rfl rfl ?_;intro W2 hW;replace HX:=xRow HX hW (by omega);replace H3:=aRow H3 hW (by omega);replace H4:=nRow H4 hW;clear hW))
 refine bodyPost_ret (v:=.agg #[.int .i64 (rturnP s 1 p).x,.int .i64 (rturnP s 1 p).y,.int .i64 (rturnP s 1 p).z]) ?_ rfl ⟨rfl,HX.out⟩;exact results_cell_row Tryz.results131 _ _ _ _ _ _ _ rfl H4.out Tryz.underlying23 rfl (by kernel_rfl)
theorem turn_lem{s k:Int}{lo hi:Pt}(h1:smlP lo)(h2:smlP hi)(hx:lo.x < hi.x)(hy:lo.y < hi.y)(hz:lo.z < hi.z):
    min (rtI s 1 lo k) (rtI s 1 (subP hi oneP) k)=min (tcI s lo k) (tcI s hi k)∧max (wrap64 (rtI s 1 lo k+1)) (wrap64 (rtI s 1 (subP hi oneP) k+1))=max (tcI s lo k) (tcI s hi k)∧(-2000000≤rtI s 1 lo k∧rtI s 1 lo k≤2000000)∧(-2000000≤rtI s 1 (subP hi oneP) k∧rtI s 1 (subP hi oneP) k≤2000000):=by
 unfold rtI tcI;generalize axI s k=a;obtain⟨⟨a1,a2⟩,⟨a3,a4⟩,⟨a5,a6⟩⟩:=h1;obtain⟨⟨b1,b2⟩,⟨b3,b4⟩,⟨b5,b6⟩⟩:=h2
 cases ngI s k
 · simp only[Bool.false_eq_true,if_false,cdP,subP,oneP,wrap64]
   split
   · omega
   · split <;> omega
 · simp only[if_true,cdP,subP,oneP,wrap64]
   split
   · omega
   · split <;> omega
theorem unit_ne{p:Pt}(hx:-2000000≤p.x∧p.x≤2000000)(hy:-2000000≤p.y∧p.y≤2000000)(hz:-2000000≤p.z∧p.z≤2000000):emptyB ⟨p,addP p oneP⟩=false:=by
 unfold emptyB inP addP oneP;simp only[Bool.not_eq_false',Bool.and_eq_true,decide_eq_true_eq,wrap64];omega
theorem hull_turn{s:Int}{b:Bx}(hs:isT s=true)(he:emptyB b=false)(hb:smlB b):
    hullB ⟨rturnP s 1 b.lo,addP (rturnP s 1 b.lo) oneP⟩ ⟨rturnP s 1 (subP b.hi oneP),addP (rturnP s 1 (subP b.hi oneP)) oneP⟩=turnB s b∧emptyB ⟨rturnP s 1 b.lo,addP (rturnP s 1 b.lo) oneP⟩=false∧emptyB ⟨rturnP s 1 (subP b.hi oneP),addP (rturnP s 1 (subP b.hi oneP)) oneP⟩=false:=by
 obtain⟨hx,hy,hz⟩:=notEmpty he;have k0:=turn_lem (s:=s) (k:=0) hb.1 hb.2 hx hy hz;have k1:=turn_lem (s:=s) (k:=1) hb.1 hb.2 hx hy hz;have k2:=turn_lem (s:=s) (k:=2) hb.1 hb.2 hx hy hz;have d1:∀ p,rturnP s 1 p=⟨rtI s 1 p 0,rtI s 1 p 1,rtI s 1 p 2⟩:=fun p=>by unfold rturnP;rw[hs];rfl
 have d2:∀ p,turnP s p=⟨tcI s p 0,tcI s p 1,tcI s p 2⟩:=fun p=>by unfold turnP;rw[hs];rfl
 refine⟨?_,?_,?_⟩
 · unfold turnB;rw[hs,he,if_pos rfl,if_neg (by decide)];unfold hullB;simp only[d1,d2,addP];rw[← k0.1,← k1.1,← k2.1,← k0.2.1,← k1.2.1,← k2.2.1];rfl
 · rw[d1];exact unit_ne k0.2.2.1 k1.2.2.1 k2.2.2.1
 · rw[d1];exact unit_ne k0.2.2.2 k1.2.2.2 k2.2.2.2
theorem refTurnBox_any(s:Int)(b:Bx)(hs:isT s=true)(he:emptyB b=false)(hb:smlB b)(w:World):Calls Tryz.prog 99 #[.int .i64 s,.agg #[.int .i64 b.lo.x,.int .i64 b.lo.y,.int .i64 b.lo.z,.int .i64 b.hi.x,.int .i64 b.hi.y,.int .i64 b.hi.z]] w fun e w'=>e = .returned (.agg #[.int .i64 (turnB s b).lo.x,.int .i64 (turnB s b).lo.y,.int .i64 (turnB s b).lo.z,.int .i64 (turnB s b).hi.x,.int .i64 (turnB s b).hi.y,.int .i64 (turnB s b).hi.z])∧Ext w w':=by
 have hm:=mixed;have hG:=near_old;obtain⟨W0,hW⟩:∃ W,W=(w.alloc (.cells #[.int .i64 b.lo.x,.int .i64 b.lo.y,.int .i64 b.lo.z,.int .i64 b.hi.x,.int .i64 b.hi.y,.int .i64 b.hi.z] 25)).alloc (.cells #[.int .i64 0,.int .i64 0,.int .i64 0,.int .i64 0,.int .i64 0,.int .i64 0] 25):=⟨_,rfl⟩;have HX:=Lib.hid (show Ext w W0 by rw[hW];exact((Ext.refl w).alloc _).alloc _);have H3:=Lib.hid (show Arr W0 w.heap.size 25 [.int .i64 b.lo.x,.int .i64 b.lo.y,.int .i64 b.lo.z,.int .i64 b.hi.x,.int .i64 b.hi.y,.int .i64 b.hi.z]by rw[hW];exact(Arr.new w 25 [.int .i64 b.lo.x,.int .i64 b.lo.y,.int .i64 b.lo.z,.int .i64 b.hi.x,.int .i64 b.hi.y,.int .i64 b.hi.z]).alloc _);have H4:=Lib.hid (show Arr W0 (w.heap.size+1) 25 [.int .i64 0,.int .i64 0,.int .i64 0,.int .i64 0,.int .i64 0,.int .i64 0]by rw[hW];have h:=Arr.new (w.alloc (.cells #[.int .i64 b.lo.x,.int .i64 b.lo.y,.int .i64 b.lo.z,.int .i64 b.hi.x,.int .i64 b.hi.y,.int .i64 b.hi.z] 25)) 25 [.int .i64 0,.int .i64 0,.int .i64 0,.int .i64 0,.int .i64 0,.int .i64 0];simp only[World.size_alloc_]at h;exact h);have HI:=Lib.hid (show ∀ W:World,Calls Tryz.prog 136 #[.int .i64 s] W fun e w'=>e = .returned (.bool true)∧Ext W w' by rw[← hs];exact refis_any s);have HE:=Lib.hid (show ∀ W:World,Calls Tryz.prog 59 #[.agg #[.int .i64 b.lo.x,.int .i64 b.lo.y,.int .i64 b.lo.z,.int .i64 b.hi.x,.int .i64 b.hi.y,.int .i64 b.hi.z]] W fun e w'=>e = .returned (.bool false)∧Ext W w' by rw[← he];exact refEmpty_any b);obtain⟨h1,h2,h3⟩:=hull_turn hs he hb;have HH:=rHull_any _ _ h2 h3;rw[h1]at HH;generalize turnB s b=tb at HH ⊢;have HT1:=Lib.hid (refTurnCell_any s b.lo);have HT2:=Lib.hid (refTurnCell_any s (subP b.hi oneP));have HS:=Lib.hid (refSub_any b.hi oneP);generalize rturnP s 1 b.lo=p1 at HT1 HH;generalize subP b.hi oneP=lp at HT2 HS HH;generalize rturnP s 1 lp=p2 at HT2 HH;have HA1:=Lib.hid (show ∀ W:World,Calls Tryz.prog 55 #[.agg #[.int .i64 p1.x,.int .i64 p1.y,.int .i64 p1.z],.agg #[.int .i64 1,.int .i64 1,.int .i64 1]] W fun e w'=>e = .returned (.agg #[.int .i64 (addP p1 oneP).x,.int .i64 (addP p1 oneP).y,.int .i64 (addP p1 oneP).z])∧Ext W w' from rAdd_any p1 oneP);have HA2:=Lib.hid (show ∀ W:World,Calls Tryz.prog 55 #[.agg #[.int .i64 p2.x,.int .i64 p2.y,.int .i64 p2.z],.agg #[.int .i64 1,.int .i64 1,.int .i64 1]] W fun e w'=>e = .returned (.agg #[.int .i64 (addP p2 oneP).x,.int .i64 (addP p2 oneP).y,.int .i64 (addP p2 oneP).z])∧Ext W w' from rAdd_any p2 oneP);generalize addP p1 oneP=q1 at HA1 HH;generalize addP p2 oneP=q2 at HA2 HH;replace HH:=Lib.hid HH;clear h1 h2 h3 hs he hb
 go_enter Tryz.func99,Tryz.ntmps99
 go_upto_region 1 with fail
 rw[← hW];clear hW
 go_upto_region 2 with(first
  | (go_at_call 136;refine(HI.out _).mono ?_;rintro e W1 ⟨rfl,hx⟩;replace HX:=xEx HX hx;replace H3:=aEx H3 hx;replace H4:=aEx H4 hx;clear hx))
 go_upto_region 4 with fail
 go_upto_region 5 with(first
  | (refine ldB 25 3 H3.out Tryz.underlying25 ?_) | (refine ldB 25 3 (H3.out.alloc _) Tryz.underlying25 ?_) | (refine ldB 25 3 ((H3.out.alloc _).alloc _) Tryz.underlying25 ?_)
  | (go_at_call 59;refine(HE.out _).mono ?_;rintro e W2 ⟨rfl,hx⟩;replace HX:=xEx HX hx;replace H3:=aEx H3 hx;replace H4:=aEx H4 hx;clear hx))
 go_upto_region 7 with fail
 go_upto_region 8 with(first
  | (refine wpList_store_blk2 23 (.tmp 7) (.tmp 19) rfl rfl (Arr.new W2 23 [.int .i64 0,.int .i64 0,.int .i64 0]) [.int .i64 1,.int .i64 1,.int .i64 1] rfl rfl (by kernel_rfl) rfl rfl rfl ?_;intro W3 hW;have Q3_7:=aLt H3;have Q4_7:=aLt H4;have Qw_7:=Lib.hid HX.out.size;replace HX:=xNew HX hW;replace H3:=aNew H3 hW;replace H4:=aNew H4 hW;have H7:=nNew hW;clear hW))
 obtain⟨b7,hb7⟩:∃ n,n=W2.heap.size:=⟨_,rfl⟩;rw[← hb7]at H7 Q3_7 Q4_7 Qw_7 ⊢;clear hb7
 go_upto_region 9 with(first
  | (refine wpList_load_part 23 (.tmp 21) rfl rfl H3.out 0 [.int .i64 b.lo.x,.int .i64 b.lo.y,.int .i64 b.lo.z] rfl rfl _ Tryz.underlying23 rfl (by kernel_rfl) ?_) | (refine wpList_load_part 23 (.tmp 21) rfl rfl (H3.out.alloc _) 0 [.int .i64 b.lo.x,.int .i64 b.lo.y,.int .i64 b.lo.z] rfl rfl _ Tryz.underlying23 rfl (by kernel_rfl) ?_)
  | (go_at_call 131;refine(HT1.out _).mono ?_;rintro e W4 ⟨rfl,hx⟩;replace HX:=xEx HX hx;replace H3:=aEx H3 hx;replace H4:=aEx H4 hx;replace H7:=aEx H7 hx;clear hx)
  | (refine wpList_store_blk2 23 (.tmp 8) (.tmp 23) rfl rfl (Arr.new W4 23 [.int .i64 0,.int .i64 0,.int .i64 0]) [.int .i64 p1.x,.int .i64 p1.y,.int .i64 p1.z] rfl rfl (by kernel_rfl) rfl rfl rfl ?_;intro W5 hW;have Q3_8:=aLt H3;have Q4_8:=aLt H4;have Q7_8:=aLt H7;have Qw_8:=Lib.hid HX.out.size;replace HX:=xNew HX hW;replace H3:=aNew H3 hW;replace H4:=aNew H4 hW;replace H7:=aNew H7 hW;have H8:=nNew hW;clear hW))
 obtain⟨b8,hb8⟩:∃ n,n=W4.heap.size:=⟨_,rfl⟩;rw[← hb8]at H8 Q3_8 Q4_8 Q7_8 Qw_8 ⊢;clear hb8
 go_upto_region 10 with(first
  | (refine wpList_load_part 23 (.tmp 25) rfl rfl H3.out 3 [.int .i64 b.hi.x,.int .i64 b.hi.y,.int .i64 b.hi.z] rfl rfl _ Tryz.underlying23 rfl (by kernel_rfl) ?_) | (refine wpList_load_part 23 (.tmp 25) rfl rfl (H3.out.alloc _) 3 [.int .i64 b.hi.x,.int .i64 b.hi.y,.int .i64 b.hi.z] rfl rfl _ Tryz.underlying23 rfl (by kernel_rfl) ?_)
  | (refine ldB 23 7 H7.out Tryz.underlying23 ?_) | (refine ldB 23 7 (H7.out.alloc _) Tryz.underlying23 ?_) | (refine ldB 23 7 ((H7.out.alloc _).alloc _) Tryz.underlying23 ?_)
  | (go_at_call 54;refine(HS.out _).mono ?_;rintro e W6 ⟨rfl,hx⟩;replace HX:=xEx HX hx;replace H3:=aEx H3 hx;replace H4:=aEx H4 hx;replace H7:=aEx H7 hx;replace H8:=aEx H8 hx;clear hx)
  | (go_at_call 131;refine(HT2.out _).mono ?_;rintro e W7 ⟨rfl,hx⟩;replace HX:=xEx HX hx;replace H3:=aEx H3 hx;replace H4:=aEx H4 hx;replace H7:=aEx H7 hx;replace H8:=aEx H8 hx;clear hx)
  | (refine wpList_store_blk2 23 (.tmp 9) (.tmp 29) rfl rfl (Arr.new W7 23 [.int .i64 0,.int .i64 0,.int .i64 0]) [.int .i64 p2.x,.int .i64 p2.y,.int .i64 p2.z] rfl rfl (by kernel_rfl) rfl rfl rfl ?_;intro W8 hW;have Q3_9:=aLt H3;have Q4_9:=aLt H4;have Q7_9:=aLt H7;have Q8_9:=aLt H8;have Qw_9:=Lib.hid HX.out.size;replace HX:=xNew HX hW;replace H3:=aNew H3 hW;replace H4:=aNew H4 hW;replace H7:=aNew H7 hW;replace H8:=aNew H8 hW;have H9:=nNew hW;clear hW))
 obtain⟨b9,hb9⟩:∃ n,n=W7.heap.size:=⟨_,rfl⟩;rw[← hb9]at H9 Q3_9 Q4_9 Q7_9 Q8_9 Qw_9 ⊢;clear hb9;have HN0:=Lib.hid (fun W:World=>HA1.out W);have HN1:=Lib.hid (fun W:World=>HA2.out W);have HN2:=Lib.hid (fun W:World=>HH.out W);have c7:=H7.out.cell;have l7:=H7.out.lt;have c8:=H8.out.cell;have l8:=H8.out.lt;have c9:=H9.out.cell;have l9:=H9.out.lt
 (try simp only[Act.put,List.setIfInBounds_toArray,List.set_cons_zero,List.set_cons_succ])
 refine wp_region_near_tail 11 (by assumption) (by kernel_rfl) ?_;simp only[List.take_succ_cons,List.take_zero,List.drop_succ_cons,List.drop_zero]
 repeat (go_big_quiet_step ((first | (go_at_call 55;with_reducible exact near_call (HN0.out _)) | (go_at_call 55;with_reducible exact near_call (HN1.out _)) | (go_at_call 137;with_reducible exact near_call (HN2.out _)))))
 refine wpQuiet_nil ?_;intro w1 hw1;have hy:=Ext.of_near hw1;clear hw1;replace HX:=xEx HX hy;replace H3:=aEx H3 hy;replace H4:=aEx H4 hy;replace H7:=aEx H7 hy;replace H8:=aEx H8 hy;replace H9:=aEx H9 hy;clear hy c7 l7 c8 l8 c9 l9
 go_wp2_with (first
  | (refine wpList_store_blk2 25 (.tmp 4) (.tmp 40) rfl rfl H4.out [.int .i64 tb.lo.x,.int .i64 tb.lo.y,.int .i64 tb.lo.z,.int .i64 tb.hi.x,.int .i64 tb.hi.y,.int .i64 tb.hi.z] rfl rfl (by kernel_rfl) rfl rfl rfl ?_;intro W9 hW;replace HX:=xRow HX hW (by omega);replace H3:=aRow H3 hW (by omega);replace H7:=aRow H7 hW (by have:=Q4_7.out;omega);replace H8:=aRow H8 hW (by have:=Q4_8.out;omega);replace H9:=aRow H9 hW (by have:=Q4_9.out;omega);replace H4:=nRow H4 hW;clear hW))
 refine bodyPost_ret (v:=.agg #[.int .i64 tb.lo.x,.int .i64 tb.lo.y,.int .i64 tb.lo.z,.int .i64 tb.hi.x,.int .i64 tb.hi.y,.int .i64 tb.hi.z]) ?_ rfl ⟨rfl,HX.out⟩;exact results_cell_row Tryz.results99 _ _ _ _ _ _ _ rfl H4.out Tryz.underlying25 rfl (by kernel_rfl)
theorem refGet_out(g:Gr)(A:Option Addr)(c:Nat)(p:Pt)(w:World)(hin:inP p g.box=false):
    Calls Tryz.prog 19 #[.agg #[.int .i64 g.box.lo.x,.int .i64 g.box.lo.y,.int .i64 g.box.lo.z,.int .i64 g.box.hi.x,.int .i64 g.box.hi.y,.int .i64 g.box.hi.z,.slice A g.cells.length c],.agg #[.int .i64 p.x,.int .i64 p.y,.int .i64 p.z]] w fun e w'=>e = .returned (.int .i64 0)∧Ext w w':=by
 have HI:=Lib.hid (fun w'=>refIndex_any g.box p w');rw[hin]at HI;clear hin;have B0:=Arr.new w 28 [.int .i64 g.box.lo.x,.int .i64 g.box.lo.y,.int .i64 g.box.lo.z,.int .i64 g.box.hi.x,.int .i64 g.box.hi.y,.int .i64 g.box.hi.z,.slice A g.cells.length c];have B1:=Arr.new (w.alloc (.cells #[.int .i64 g.box.lo.x,.int .i64 g.box.lo.y,.int .i64 g.box.lo.z,.int .i64 g.box.hi.x,.int .i64 g.box.hi.y,.int .i64 g.box.hi.z,.slice A g.cells.length c] 28)) 23 [.int .i64 p.x,.int .i64 p.y,.int .i64 p.z];have B0:=B0.alloc (.cells #[.int .i64 p.x,.int .i64 p.y,.int .i64 p.z] 23);simp only[World.size_alloc_]at B1;have HB0:=Lib.hid B0;have HB1:=Lib.hid B1;clear B0 B1
 go_enter Tryz.func19,Tryz.ntmps19
 go_wp2_with (first | (refine ldB 23 3 HB1.out Tryz.underlying23 ?_) | (refine ldB 23 3 (HB1.out.alloc _) Tryz.underlying23 ?_) | (refine ldB 23 3 ((HB1.out.alloc _).alloc _) Tryz.underlying23 ?_) | (refine wpList_load_part 25 (.tmp 6) rfl rfl HB0.out 0 [.int .i64 g.box.lo.x,.int .i64 g.box.lo.y,.int .i64 g.box.lo.z,.int .i64 g.box.hi.x,.int .i64 g.box.hi.y,.int .i64 g.box.hi.z] rfl rfl _ Tryz.underlying25 rfl (by kernel_rfl) ?_) | (refine wpList_load_part 25 (.tmp 6) rfl rfl (HB0.out.alloc _) 0 [.int .i64 g.box.lo.x,.int .i64 g.box.lo.y,.int .i64 g.box.lo.z,.int .i64 g.box.hi.x,.int .i64 g.box.hi.y,.int .i64 g.box.hi.z] rfl rfl _ Tryz.underlying25 rfl (by kernel_rfl) ?_) | (go_at_call 41;refine(HI.out _).mono ?_;rintro e wx ⟨rfl,xx⟩;obtain⟨xc,xf,xl,xe,xn,xm⟩:=xx.look;have xz:=xx.size;(try simp only[World.size_alloc_]at xz);(try (have qh:=xx.one (b:=w.heap.size) (by(try simp only[World.size_alloc_]);omega);obtain⟨qc,qf,ql,qe,qn,qm⟩:=qh));(try (have qh:=xx.one (b:=w.heap.size+1) (by(try simp only[World.size_alloc_]);omega);obtain⟨qc,qf,ql,qe,qn,qm⟩:=qh));(try (have qh:=xx.one (b:=w.heap.size+1+1) (by(try simp only[World.size_alloc_]);omega);obtain⟨qc,qf,ql,qe,qn,qm⟩:=qh));(try (have qh:=xx.one (b:=w.heap.size+1+1+1) (by(try simp only[World.size_alloc_]);omega);obtain⟨qc,qf,ql,qe,qn,qm⟩:=qh))))
 go_ret
 exact⟨rfl,byX⟩
theorem refGetM_any{g:Gr}{A:Option Addr}{c:Nat}(hv:validG g=true)(p:Pt)(w:World)(hs:Sv w w.heap.size 1 A c (rowsI g.cells)):
    Calls Tryz.prog 19 #[.agg #[.int .i64 g.box.lo.x,.int .i64 g.box.lo.y,.int .i64 g.box.lo.z,.int .i64 g.box.hi.x,.int .i64 g.box.hi.y,.int .i64 g.box.hi.z,.slice A g.cells.length c],.agg #[.int .i64 p.x,.int .i64 p.y,.int .i64 p.z]] w fun e w'=>e = .returned (.int .i64 (matF g p))∧Ext w w':=by
 cases hq:inP p g.box
 · have e:matF g p=0:=by unfold matF;rw[fld_out hq];rfl
   rw[e];exact refGet_out g A c p w hq
 · obtain⟨sx,sy,sz,G⟩:=good_of hv;obtain⟨v,h1,_⟩:=G.fld_in hq;have e:matF g p=v:=by unfold matF;rw[h1];rfl
   rw[e];exact get_any G A c p w hs h1
theorem refisSize_any(n:Int)(w:World):Calls Tryz.prog 98 #[.int .i64 n] w fun e w'=>e = .returned (.bool (isS n))∧Ext w w':=by
 by_cases h1:1≤n
 · go_enter Tryz.func98,Tryz.ntmps98
   go_wp2
   all_goals
    go_ret
    refine⟨ret_bool ?_,Ext.refl _⟩;rw[Bool.eq_iff_iff];simp[isS]
    try omega
 · go_enter Tryz.func98,Tryz.ntmps98
   go_wp2
   all_goals
    go_ret
    refine⟨ret_bool ?_,Ext.refl _⟩;rw[Bool.eq_iff_iff];simp[isS]
    try omega
theorem refBallBox_any(p:Pt)(n:Int)(w:World):Calls Tryz.prog 52 #[.agg #[.int .i64 p.x,.int .i64 p.y,.int .i64 p.z],.int .i64 n] w fun e w'=>e = .returned (.agg #[.int .i64 (ballBx p n).lo.x,.int .i64 (ballBx p n).lo.y,.int .i64 (ballBx p n).lo.z,.int .i64 (ballBx p n).hi.x,.int .i64 (ballBx p n).hi.y,.int .i64 (ballBx p n).hi.z])∧Ext w w':=by
 have hm:=mixed;have hG:=near_old;obtain⟨W0,hW⟩:∃ W,W=(w.alloc (.cells #[.int .i64 p.x,.int .i64 p.y,.int .i64 p.z] 23)).alloc (.cells #[.int .i64 0,.int .i64 0,.int .i64 0,.int .i64 0,.int .i64 0,.int .i64 0] 25):=⟨_,rfl⟩;have HX:=Lib.hid (show Ext w W0 by rw[hW];exact((Ext.refl w).alloc _).alloc _);have H2:=Lib.hid (show Arr W0 w.heap.size 23 [.int .i64 p.x,.int .i64 p.y,.int .i64 p.z]by rw[hW];exact(Arr.new w 23 [.int .i64 p.x,.int .i64 p.y,.int .i64 p.z]).alloc _);have H4:=Lib.hid (show Arr W0 (w.heap.size+1) 25 [.int .i64 0,.int .i64 0,.int .i64 0,.int .i64 0,.int .i64 0,.int .i64 0]by rw[hW];have h:=Arr.new (w.alloc (.cells #[.int .i64 p.x,.int .i64 p.y,.int .i64 p.z] 23)) 25 [.int .i64 0,.int .i64 0,.int .i64 0,.int .i64 0,.int .i64 0,.int .i64 0];simp only[World.size_alloc_]at h;exact h)
 by_cases hn:1≤n∧n≤4096
 · have HI:=Lib.hid (show ∀ W:World,Calls Tryz.prog 98 #[.int .i64 n] W fun e w'=>e = .returned (.bool true)∧Ext W w' by intro W;have h:=refisSize_any n W;rw[show isS n=true by unfold isS;rw[decide_eq_true hn]]at h;exact h);have hd:ballBx p n=aroundB p (n / 2):=by unfold ballBx;rw[if_pos hn]
   rw[hd,around_sub];clear hd;have hq:n.tdiv 2=n / 2:=Int.tdiv_eq_ediv_of_nonneg (by omega);have hh0:0≤n / 2∧n / 2≤2048:=by omega
   clear hn;obtain⟨h,hh⟩:∃ h,h=n / 2:=⟨_,rfl⟩;rw[← hh]at hq hh0 ⊢;clear hh;have HA1:=Lib.hid (show ∀ W:World,Calls Tryz.prog 54 #[.agg #[.int .i64 p.x,.int .i64 p.y,.int .i64 p.z],.agg #[.int .i64 h,.int .i64 h,.int .i64 h]] W fun e w'=>e = .returned (.agg #[.int .i64 (subP p ⟨h,h,h⟩).x,.int .i64 (subP p ⟨h,h,h⟩).y,.int .i64 (subP p ⟨h,h,h⟩).z])∧Ext W w' from refSub_any p ⟨h,h,h⟩);have HA2:=Lib.hid (show ∀ W:World,Calls Tryz.prog 55 #[.agg #[.int .i64 p.x,.int .i64 p.y,.int .i64 p.z],.agg #[.int .i64 (h+1),.int .i64 (h+1),.int .i64 (h+1)]] W fun e w'=>e = .returned (.agg #[.int .i64 (addP p ⟨h+1,h+1,h+1⟩).x,.int .i64 (addP p ⟨h+1,h+1,h+1⟩).y,.int .i64 (addP p ⟨h+1,h+1,h+1⟩).z])∧Ext W w' from rAdd_any p ⟨h+1,h+1,h+1⟩);generalize subP p ⟨h,h,h⟩=q1 at HA1 ⊢;generalize addP p ⟨h+1,h+1,h+1⟩=q2 at HA2 ⊢
   go_enter Tryz.func52,Tryz.ntmps52
   go_upto_region 1 with fail
   rw[← hW];clear hW
   go_upto_region 2 with(first
    | (go_at_call 98;refine(HI.out _).mono ?_;rintro e W1 ⟨rfl,hx⟩;replace HX:=xEx HX hx;replace H2:=aEx H2 hx;replace H4:=aEx H4 hx;clear hx))
   go_upto_region 4 with fail
   go_upto_region 5 with fail
   have HN0:=Lib.hid (fun W:World=>HA1.out W);have HN1:=Lib.hid (fun W:World=>HA2.out W);have c2:=H2.out.cell;have l2:=H2.out.lt
   (try simp only[Act.put,List.setIfInBounds_toArray,List.set_cons_zero,List.set_cons_succ])
   refine wp_region_near_tail 16 (by assumption) (by kernel_rfl) ?_;simp only[List.take_succ_cons,List.take_zero,List.drop_succ_cons,List.drop_zero]
   repeat (go_big_quiet_step ((first | (go_at_call 54;with_reducible exact near_call (HN0.out _)) | (go_at_call 55;with_reducible exact near_call (HN1.out _)))))
   refine wpQuiet_nil ?_;intro w1 hw1;have hy:=Ext.of_near hw1;clear hw1;replace HX:=xEx HX hy;replace H2:=aEx H2 hy;replace H4:=aEx H4 hy;clear hy c2 l2
   go_wp2_with (first
    | (refine wpList_store_blk2 25 (.tmp 4) (.tmp 29) rfl rfl H4.out [.int .i64 q1.x,.int .i64 q1.y,.int .i64 q1.z,.int .i64 q2.x,.int .i64 q2.y,.int .i64 q2.z] rfl rfl (by kernel_rfl) rfl rfl rfl ?_;intro W2 hW;replace HX:=xRow HX hW (by omega);replace H2:=aRow H2 hW (by omega);replace H4:=nRow H4 hW;clear hW))
   refine bodyPost_ret (v:=.agg #[.int .i64 q1.x,.int .i64 q1.y,.int .i64 q1.z,.int .i64 q2.x,.int .i64 q2.y,.int .i64 q2.z]) ?_ rfl ⟨rfl,HX.out⟩;exact results_cell_row Tryz.results52 _ _ _ _ _ _ _ rfl H4.out Tryz.underlying25 rfl (by kernel_rfl)
 · have HI:=Lib.hid (show ∀ W:World,Calls Tryz.prog 98 #[.int .i64 n] W fun e w'=>e = .returned (.bool false)∧Ext W w' by intro W;have h:=refisSize_any n W;rw[show isS n=false by unfold isS;rw[decide_eq_false hn]]at h;exact h);have hd:ballBx p n=zeroBx:=by unfold ballBx;rw[if_neg hn]
   rw[hd];clear hd hn
   go_enter Tryz.func52,Tryz.ntmps52
   go_upto_region 1 with fail
   rw[← hW];clear hW
   go_upto_region 2 with(first
    | (go_at_call 98;refine(HI.out _).mono ?_;rintro e W1 ⟨rfl,hx⟩;replace HX:=xEx HX hx;replace H2:=aEx H2 hx;replace H4:=aEx H4 hx;clear hx))
   go_upto_region 3 with fail
   go_wp2_with (first
    | (refine wpList_store_blk2 25 (.tmp 4) (.tmp 11) rfl rfl H4.out [.int .i64 0,.int .i64 0,.int .i64 0,.int .i64 0,.int .i64 0,.int .i64 0] rfl rfl (by kernel_rfl) rfl rfl rfl ?_;intro W2 hW;replace HX:=xRow HX hW (by omega);replace H2:=aRow H2 hW (by omega);replace H4:=nRow H4 hW;clear hW))
   refine bodyPost_ret (v:=.agg #[.int .i64 0,.int .i64 0,.int .i64 0,.int .i64 0,.int .i64 0,.int .i64 0]) ?_ rfl ⟨rfl,HX.out⟩;exact results_cell_row Tryz.results52 _ _ _ _ _ _ _ rfl H4.out Tryz.underlying25 rfl (by kernel_rfl)
def targB(x:Ed):Bx:=⟨x.at_,addP x.at_ (subP (turnB x.turn x.box).hi (turnB x.turn x.box).lo)⟩
theorem BoxOk.sml{b:Bx}{s:Int}(h:BoxOk b s)(hs:s≤16384):smlB b:=by
 obtain⟨h1,h2,h3⟩:=h;unfold smlB smlP;omega
theorem targ_eq{x:Ed}(hs:isT x.turn=true)(he:emptyB x.box=false)(hb:smlB x.box)(ha:smlP x.at_):shiftB (turnB x.turn x.box) (subP x.at_ (turnB x.turn x.box).lo)=targB x:=by
 have h:=(turnB_ne hs he hb).2;unfold targB shiftB;generalize turnB x.turn x.box=t at h;unfold smlB smlP at *;obtain⟨⟨ax,ay,az⟩,st⟩:∃ a:Pt,x.at_=a:=⟨_,rfl⟩;rw[st]at ha ⊢;unfold addP subP wrap64;simp only[Bx.mk.injEq,Pt.mk.injEq]at ha ⊢;omega
end Go.Proofs.YtoecbicdahbccaaGreatDoor
