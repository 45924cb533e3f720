/- A part of the walk of the layer of apply: contracts and plain laws that a row's text leans on. -/
import Derived.Test.YtoecbicdahbccaaGreatDoorZa19
set_option maxRecDepth 100000
set_option maxHeartbeats 16000000
namespace Go.Proofs.YtoecbicdahbccaaGreatDoor
open Go Go.RowKit
theorem InBall_any(a:Pt)(n:Int)(p:Pt)(ha:tinyP a)(hp:tinyP p)(w:World):Calls Tryz.prog 118 #[.agg #[.int .i64 a.x,.int .i64 a.y,.int .i64 a.z],.int .i64 n,.agg #[.int .i64 p.x,.int .i64 p.y,.int .i64 p.z]] w fun e w'=>e = .returned (.bool (ballQ a n p))∧Ext w w':=by
 have hm:=mixed;have hG:=near_old;obtain⟨W0,hW⟩:∃ W,W=(w.alloc (.cells #[.int .i64 a.x,.int .i64 a.y,.int .i64 a.z] 23)).alloc (.cells #[.int .i64 p.x,.int .i64 p.y,.int .i64 p.z] 23):=⟨_,rfl⟩;have HX:=Lib.hid (show Ext w W0 by rw[hW];exact((Ext.refl w).alloc _).alloc _);have H3:=Lib.hid (show Arr W0 w.heap.size 23 [.int .i64 a.x,.int .i64 a.y,.int .i64 a.z]by rw[hW];exact(Arr.new w 23 [.int .i64 a.x,.int .i64 a.y,.int .i64 a.z]).alloc _);have H5:=Lib.hid (show Arr W0 (w.heap.size+1) 23 [.int .i64 p.x,.int .i64 p.y,.int .i64 p.z]by rw[hW];have h:=Arr.new (w.alloc (.cells #[.int .i64 a.x,.int .i64 a.y,.int .i64 a.z] 23)) 23 [.int .i64 p.x,.int .i64 p.y,.int .i64 p.z];simp only[World.size_alloc_]at h;exact h)
 by_cases hn:1≤n∧n≤4096
 · have HI:=Lib.hid (show ∀ W:World,Calls Tryz.prog 115 #[.int .i64 n] W fun e w'=>e = .returned (.bool true)∧Ext W w' by intro W;have h:=isSizeB_any n W;rw[decide_eq_true hn]at h;exact h);have HS:=Lib.hid (pSub_any p a);have hd:smlD (subP p a):=subP_sml ha hp;have hb:ballQ a n p=decide (4 * ((subP p a).x * (subP p a).x+(subP p a).y * (subP p a).y+(subP p a).z * (subP p a).z)≤n * n):=by unfold ballQ isS;rw[decide_eq_true hn];rfl
   rw[hb];clear hb ha hp;generalize subP p a=d at HS hd ⊢;have q1:=sq_rng hd.1;have q2:=sq_rng hd.2.1;have q3:=sq_rng hd.2.2;have q4:0≤n * n∧n * n≤1600000000:=sq_rng (by omega);clear hd
   go_enter Tryz.func118,Tryz.ntmps118
   go_upto_region 1 with fail
   rw[← hW];clear hW
   go_upto_region 2 with(first
    | (refine ldB 23 5 H5.out Tryz.underlying23 ?_) | (refine ldB 23 5 (H5.out.alloc _) Tryz.underlying23 ?_) | (refine ldB 23 5 ((H5.out.alloc _).alloc _) Tryz.underlying23 ?_)
    | (refine ldB 23 3 H3.out Tryz.underlying23 ?_) | (refine ldB 23 3 (H3.out.alloc _) Tryz.underlying23 ?_) | (refine ldB 23 3 ((H3.out.alloc _).alloc _) Tryz.underlying23 ?_)
    | (go_at_call 70;refine(HS.out _).mono ?_;rintro e W1 ⟨rfl,hx⟩;replace HX:=xEx HX hx;replace H3:=aEx H3 hx;replace H5:=aEx H5 hx;clear hx)
    | (refine wpList_store_blk2 23 (.tmp 7) (.tmp 10) rfl rfl (Arr.new W1 23 [.int .i64 0,.int .i64 0,.int .i64 0]) [.int .i64 d.x,.int .i64 d.y,.int .i64 d.z] rfl rfl (by kernel_rfl) rfl rfl rfl ?_;intro W2 hW;have Q3_7:=aLt H3;have Q5_7:=aLt H5;have Qw_7:=Lib.hid HX.out.size;replace HX:=xNew HX hW;replace H3:=aNew H3 hW;replace H5:=aNew H5 hW;have H7:=nNew hW;clear hW))
   obtain⟨b7,hb7⟩:∃ n,n=W1.heap.size:=⟨_,rfl⟩;rw[← hb7]at H7 Q3_7 Q5_7 Qw_7 ⊢;clear hb7;have c7:=H7.out.cell;have l7:=H7.out.lt
   go_wp2_with (first
    | (go_at_call 115;refine(HI.out _).mono ?_;rintro e W3 ⟨rfl,hx⟩;replace HX:=xEx HX hx;replace H3:=aEx H3 hx;replace H5:=aEx H5 hx;replace H7:=aEx H7 hx;clear hx;have c7:=H7.out.cell;have l7:=H7.out.lt))
   go_ret
   exact⟨ret_bool (by first | rfl | (rw[Bool.eq_iff_iff];simp)),HX.out⟩
 · have HI:=Lib.hid (show ∀ W:World,Calls Tryz.prog 115 #[.int .i64 n] W fun e w'=>e = .returned (.bool false)∧Ext W w' by intro W;have h:=isSizeB_any n W;rw[decide_eq_false hn]at h;exact h);have HS:=Lib.hid (pSub_any p a);have hd:smlD (subP p a):=subP_sml ha hp;have hb:ballQ a n p=false:=by unfold ballQ isS;rw[decide_eq_false hn];rfl
   rw[hb];clear hb hn ha hp hd;generalize subP p a=d at HS ⊢
   go_enter Tryz.func118,Tryz.ntmps118
   go_upto_region 1 with fail
   rw[← hW];clear hW
   go_upto_region 2 with(first
    | (refine ldB 23 5 H5.out Tryz.underlying23 ?_) | (refine ldB 23 5 (H5.out.alloc _) Tryz.underlying23 ?_) | (refine ldB 23 5 ((H5.out.alloc _).alloc _) Tryz.underlying23 ?_)
    | (refine ldB 23 3 H3.out Tryz.underlying23 ?_) | (refine ldB 23 3 (H3.out.alloc _) Tryz.underlying23 ?_) | (refine ldB 23 3 ((H3.out.alloc _).alloc _) Tryz.underlying23 ?_)
    | (go_at_call 70;refine(HS.out _).mono ?_;rintro e W1 ⟨rfl,hx⟩;replace HX:=xEx HX hx;replace H3:=aEx H3 hx;replace H5:=aEx H5 hx;clear hx)
    | (refine wpList_store_blk2 23 (.tmp 7) (.tmp 10) rfl rfl (Arr.new W1 23 [.int .i64 0,.int .i64 0,.int .i64 0]) [.int .i64 d.x,.int .i64 d.y,.int .i64 d.z] rfl rfl (by kernel_rfl) rfl rfl rfl ?_;intro W2 hW;have Q3_7:=aLt H3;have Q5_7:=aLt H5;have Qw_7:=Lib.hid HX.out.size;replace HX:=xNew HX hW;replace H3:=aNew H3 hW;replace H5:=aNew H5 hW;have H7:=nNew hW;clear hW))
   obtain⟨b7,hb7⟩:∃ n,n=W1.heap.size:=⟨_,rfl⟩;rw[← hb7]at H7 Q3_7 Q5_7 Qw_7 ⊢;clear hb7;have c7:=H7.out.cell;have l7:=H7.out.lt
   go_wp2_with (first
    | (go_at_call 115;refine(HI.out _).mono ?_;rintro e W3 ⟨rfl,hx⟩;replace HX:=xEx HX hx;replace H3:=aEx H3 hx;replace H5:=aEx H5 hx;replace H7:=aEx H7 hx;clear hx;have c7:=H7.out.cell;have l7:=H7.out.lt))
   go_ret
   exact⟨rfl,HX.out⟩
theorem Ball1_any(a:Pt)(n:Int)(p:Pt)(b1 b2:Nat)(ha:tinyP a)(hp:tinyP p){w:World}(h1:Arr w b1 23 [.int .i64 a.x,.int .i64 a.y,.int .i64 a.z])(h2:Arr w b2 3 [.int .i64 n]):Calls Tryz.prog 117 #[.agg #[.int .i64 p.x,.int .i64 p.y,.int .i64 p.z],(.pointer (some ⟨b1,0,none⟩)),(.pointer (some ⟨b2,0,none⟩))] w fun e w'=>e = .returned (.bool (ballQ a n p))∧Ext w w':=by
 have hm:=mixed;have hG:=near_old;obtain⟨W0,hW⟩:∃ W,W=w.alloc (.cells #[.int .i64 p.x,.int .i64 p.y,.int .i64 p.z] 23):=⟨_,rfl⟩;have HX:=Lib.hid (show Ext w W0 by rw[hW];exact(Ext.refl w).alloc _);have H3:=Lib.hid (show Arr W0 w.heap.size 23 [.int .i64 p.x,.int .i64 p.y,.int .i64 p.z]by rw[hW];exact Arr.new w 23 [.int .i64 p.x,.int .i64 p.y,.int .i64 p.z]);have l1_:=h1.lt;have H1:=Lib.hid (h1.ext HX.out);clear h1;have l2_:=h2.lt;have H2:=Lib.hid (h2.ext HX.out);clear h2;have HB:=Lib.hid (InBall_any a n p ha hp);clear ha hp;generalize ballQ a n p=r at HB ⊢
 go_enter Tryz.func117,Tryz.ntmps117
 go_upto_region 1 with fail
 rw[← hW];clear hW;have c2:=H2.out.cell;have l2:=H2.out.lt
 go_wp2_with (first
  | (refine ldB 23 1 H1.out Tryz.underlying23 ?_) | (refine ldB 23 1 (H1.out.alloc _) Tryz.underlying23 ?_) | (refine ldB 23 1 ((H1.out.alloc _).alloc _) Tryz.underlying23 ?_)
  | (refine ldB 23 3 H3.out Tryz.underlying23 ?_) | (refine ldB 23 3 (H3.out.alloc _) Tryz.underlying23 ?_) | (refine ldB 23 3 ((H3.out.alloc _).alloc _) Tryz.underlying23 ?_)
  | (go_at_call 118;refine(HB.out _).mono ?_;rintro e W1 ⟨rfl,hx⟩;replace HX:=xEx HX hx;replace H1:=aEx H1 hx;replace H2:=aEx H2 hx;replace H3:=aEx H3 hx;clear hx;have c2:=H2.out.cell;have l2:=H2.out.lt))
 go_ret
 exact⟨rfl,HX.out⟩
def tcellP(s:Int)(p:Pt):Pt:=⟨min (turnP s p).x (turnP s (addP p oneP)).x,min (turnP s p).y (turnP s (addP p oneP)).y,min (turnP s p).z (turnP s (addP p oneP)).z⟩
theorem tcell_r{s:Int}(hs:isT s=true){p:Pt}(hp:smlP p):tcellP s p=rturnP s 1 p:=by
 have h:∀ k:Int,min (tcI s p k) (tcI s (addP p oneP) k)=rtI s 1 p k:=fun k=>by
  obtain⟨⟨a1,a2⟩,⟨a3,a4⟩,a5,a6⟩:=hp;unfold rtI tcI;generalize axI s k=a
  cases ngI s k
  · simp only[Bool.false_eq_true,if_false,cdP,addP,oneP,wrap64]
    split
    · omega
    · split <;> omega
  · simp only[if_true,cdP,addP,oneP,wrap64]
    split
    · omega
    · split <;> omega
 unfold tcellP turnP rturnP;rw[hs];simp only[if_true,Pt.mk.injEq];exact⟨h 0,h 1,h 2⟩
theorem tc1_any(k:Int)(hk:0≤k∧k < 3)(u v:Pt)(b1 b2:Nat)(w:World)(e1:Arr w b1 125 [.int .i64 u.x,.int .i64 u.y,.int .i64 u.z])(e2:Arr w b2 125 [.int .i64 v.x,.int .i64 v.y,.int .i64 v.z]):
    Calls Tryz.prog 165 #[.int .i64 k,.pointer (some ⟨b1,0,none⟩),.pointer (some ⟨b2,0,none⟩)] w fun e w'=>e = .returned (.int .i64 (min (cdP u k) (cdP v k)))∧Ext w w':=by
 have hm:=mixed;have hG:=near_old;have c1:=e1.cell;have l1:=e1.lt;have c2:=e2.cell;have l2:=e2.lt;clear e1 e2;obtain rfl | rfl | rfl:k=0∨k=1∨k=2:=by omega
 all_goals
  go_enter Tryz.func165,Tryz.ntmps165
  go_upto_region 1 with fail
  refine wp_region_near (by assumption) (by kernel_rfl) ?_
  repeat (go_big_quiet_step (fail))
  refine wpQuiet_nil ?_;intro w1 hw1;have hy:=Ext.of_near hw1;clear hw1;go_wp2
  go_ret
  exact⟨ret_int (by simp[cdP]),hy⟩
theorem TurnCell_any(s:Int)(p:Pt)(hs:isT s=true)(w:World)(hA:AxesIn w):Calls Tryz.prog 147 #[.int .i64 s,.agg #[.int .i64 p.x,.int .i64 p.y,.int .i64 p.z]] w fun e w'=>e = .returned (.agg #[.int .i64 (tcellP s p).x,.int .i64 (tcellP s p).y,.int .i64 (tcellP s p).z])∧Ext w w':=by
 have hm:=mixed;have hG:=near_old;obtain⟨W0,hW⟩:∃ W,W=(w.alloc (.cells #[.int .i64 p.x,.int .i64 p.y,.int .i64 p.z] 23)).alloc (.cells #[.int .i64 0,.int .i64 0,.int .i64 0] 23):=⟨_,rfl⟩;have HX:=Lib.hid (show Ext w W0 by rw[hW];exact((Ext.refl w).alloc _).alloc _);have H3:=Lib.hid (show Arr W0 w.heap.size 23 [.int .i64 p.x,.int .i64 p.y,.int .i64 p.z]by rw[hW];exact(Arr.new w 23 [.int .i64 p.x,.int .i64 p.y,.int .i64 p.z]).alloc _);have H4:=Lib.hid (show Arr W0 (w.heap.size+1) 23 [.int .i64 0,.int .i64 0,.int .i64 0]by rw[hW];have h:=Arr.new (w.alloc (.cells #[.int .i64 p.x,.int .i64 p.y,.int .i64 p.z] 23)) 23 [.int .i64 0,.int .i64 0,.int .i64 0];simp only[World.size_alloc_]at h;exact h);have HT1:=Lib.hid (fun(W:World) (hx:Ext w W)=>Turn_any s p W (hA.ext hx));have HT2:=Lib.hid (fun(W:World) (hx:Ext w W)=>Turn_any s (addP p oneP) W (hA.ext hx));have HD:=Lib.hid (show ∀ W:World,Calls Tryz.prog 109 #[.agg #[.int .i64 p.x,.int .i64 p.y,.int .i64 p.z],.agg #[.int .i64 1,.int .i64 1,.int .i64 1]] W fun e w'=>e = .returned (.agg #[.int .i64 (addP p oneP).x,.int .i64 (addP p oneP).y,.int .i64 (addP p oneP).z])∧Ext W w' from Add_any p oneP);have HI:=Lib.hid (show ∀ W:World,Calls Tryz.prog 153 #[.int .i64 s] W fun e w'=>e = .returned (.bool true)∧Ext W w' by rw[← hs];exact isTurn_any s);unfold tcellP;generalize addP p oneP=p1 at HT2 HD ⊢;generalize turnP s p=u at HT1 ⊢;generalize turnP s p1=v at HT2 ⊢;clear hA hs
 go_enter Tryz.func147,Tryz.ntmps147
 go_upto_region 1 with fail
 rw[← hW];clear hW
 go_upto_region 3 with(first
  | (go_at_call 153;refine(HI.out _).mono ?_;rintro e W1 ⟨rfl,hx⟩;replace HX:=xEx HX hx;replace H3:=aEx H3 hx;replace H4:=aEx H4 hx;clear hx))
 (try simp only[Act.put,List.setIfInBounds_toArray,List.set_cons_zero,List.set_cons_succ])
 refine wp_region_two_val (w:=W1) [some (.int .i64 s),some (.agg #[.int .i64 p.x,.int .i64 p.y,.int .i64 p.z]),some (.agg #[.int .i64 u.x,.int .i64 u.y,.int .i64 u.z]),some (.agg #[.int .i64 u.x,.int .i64 u.y,.int .i64 u.z]),some (.int .i64 s),some (.agg #[.int .i64 p.x,.int .i64 p.y,.int .i64 p.z]),some (.agg #[.int .i64 1,.int .i64 1,.int .i64 1]),some (.agg #[.int .i64 p1.x,.int .i64 p1.y,.int .i64 p1.z]),some (.agg #[.int .i64 v.x,.int .i64 v.y,.int .i64 v.z]),some (.agg #[.int .i64 v.x,.int .i64 v.y,.int .i64 v.z])] 10 125 5 6 14 20 3 9 [.int .i64 0,.int .i64 0,.int .i64 0] [.int .i64 u.x,.int .i64 u.y,.int .i64 u.z] [.int .i64 v.x,.int .i64 v.y,.int .i64 v.z] hm (info_zero (by kernel_rfl)) (by kernel_rfl) ?_ ?_
 · refine c_ s_mv ?_;refine c_ (s_row H3 Tryz.underlying23) ?_;refine c_ (s_call fun w1 hx=>HT1.out w1 (HX.out.trans hx)) ?_;refine c_ (s_call fun w1 hx=>list_any u.x u.y u.z w1) ?_;refine c_ s_mv ?_;refine c_ (s_row H3 Tryz.underlying23) ?_;refine c_ (s_run0 (hr:=fun b w1 _=>by unfold execOp;simp[Act.eval,go_sem])) ?_;refine c_ (s_call fun w1 hx=>HD.out w1) ?_;refine c_ (s_call fun w1 hx=>HT2.out w1 (HX.out.trans hx)) ?_;refine c_ (s_call fun w1 hx=>list_any v.x v.y v.z w1) ?_;exact trivial
 intro b5 b6 w9 hx hg0 hg1 hA0 hA1 hne;simp only[List.length_cons,List.length_nil,fillAllN,dstOf,Act.put,List.getElem?_toArray,List.getElem?_cons_zero,List.getElem?_cons_succ,Option.bind_some,List.setIfInBounds_toArray,List.set_cons_zero,List.set_cons_succ,box2V,Option.join_some,Option.getD_some,Nat.lt_irrefl,if_false,if_true,Nat.reduceLT,Nat.reduceEqDiff,Nat.reduceAdd];obtain⟨W2,hW9⟩:∃ W,W=w9:=⟨_,rfl⟩;rw[← hW9]at hx hA0 hA1 ⊢;clear hW9;have Q3_5:=Lib.hid (show w.heap.size < b5 from Nat.lt_of_lt_of_le H3.out.lt hg0);have Q4_5:=Lib.hid (show(w.heap.size+1) < b5 from Nat.lt_of_lt_of_le H4.out.lt hg0);have Qw_5:=Lib.hid (Nat.le_trans HX.out.size hg0);have Q3_6:=Lib.hid (show w.heap.size < b6 from Nat.lt_of_lt_of_le H3.out.lt hg1);have Q4_6:=Lib.hid (show(w.heap.size+1) < b6 from Nat.lt_of_lt_of_le H4.out.lt hg1);have Qw_6:=Lib.hid (Nat.le_trans HX.out.size hg1);replace HX:=xEx HX hx;replace H3:=aEx H3 hx;replace H4:=aEx H4 hx;have H5:=Lib.hid hA0;have H6:=Lib.hid hA1;have Q5_6:=Lib.hid hne;clear hx hg0 hg1 hA0 hA1 hne
 go_upto_region 4 with fail
 go_wp2_with (first
  | (go_at_call 161;refine(each_any 165 #[.pointer (some ⟨b5,0,none⟩),.pointer (some ⟨b6,0,none⟩)] (min u.x v.x) (min u.y v.y) (min u.z v.z) _ (fun _ _=>by kernel_rfl) (fun w' hx=>tc1_any 0 (by decide) u v b5 b6 w' (H5.out.ext hx) (H6.out.ext hx)) (fun w' hx=>tc1_any 1 (by decide) u v b5 b6 w' (H5.out.ext hx) (H6.out.ext hx)) (fun w' hx=>tc1_any 2 (by decide) u v b5 b6 w' (H5.out.ext hx) (H6.out.ext hx))).mono ?_;rintro e W3 ⟨rfl,hx⟩;replace HX:=xEx HX hx;replace H3:=aEx H3 hx;replace H4:=aEx H4 hx;replace H5:=aEx H5 hx;replace H6:=aEx H6 hx;clear hx)
  | (refine wpList_store_blk2 23 (.tmp 4) (.tmp 22) rfl rfl H4.out [.int .i64 (min u.x v.x),.int .i64 (min u.y v.y),.int .i64 (min u.z v.z)] rfl rfl (by kernel_rfl) rfl rfl rfl ?_;intro W4 hW;replace HX:=xRow HX hW (by omega);replace H3:=aRow H3 hW (by omega);replace H5:=aRow H5 hW (by have:=Q4_5.out;omega);replace H6:=aRow H6 hW (by have:=Q4_6.out;omega);replace H4:=nRow H4 hW;clear hW))
 refine bodyPost_ret (v:=.agg #[.int .i64 (min u.x v.x),.int .i64 (min u.y v.y),.int .i64 (min u.z v.z)]) ?_ rfl ⟨rfl,HX.out⟩;exact results_cell_row Tryz.results147 _ _ _ _ _ _ _ rfl H4.out Tryz.underlying23 rfl (by kernel_rfl)
theorem ramp1_any(s:Int)(c:Bx)(z p:Pt)(b1 b2 b3:Nat)(hs:isT s=true){w:World}(hA:AxesIn w)(h1:Arr w b1 3 [.int .i64 s])(h2:Arr w b2 25 [.int .i64 c.lo.x,.int .i64 c.lo.y,.int .i64 c.lo.z,.int .i64 c.hi.x,.int .i64 c.hi.y,.int .i64 c.hi.z])(h3:Arr w b3 23 [.int .i64 z.x,.int .i64 z.y,.int .i64 z.z]):Calls Tryz.prog 146 #[.agg #[.int .i64 p.x,.int .i64 p.y,.int .i64 p.z],(.pointer (some ⟨b1,0,none⟩)),(.pointer (some ⟨b2,0,none⟩)),(.pointer (some ⟨b3,0,none⟩))] w fun e w'=>e = .returned (.bool (rampQ c z (subP (tcellP s p) c.lo)))∧Ext w w':=by
 have hm:=mixed;have hG:=near_old;obtain⟨W0,hW⟩:∃ W,W=w.alloc (.cells #[.int .i64 p.x,.int .i64 p.y,.int .i64 p.z] 23):=⟨_,rfl⟩;have HX:=Lib.hid (show Ext w W0 by rw[hW];exact(Ext.refl w).alloc _);have H4:=Lib.hid (show Arr W0 w.heap.size 23 [.int .i64 p.x,.int .i64 p.y,.int .i64 p.z]by rw[hW];exact Arr.new w 23 [.int .i64 p.x,.int .i64 p.y,.int .i64 p.z]);have l1_:=h1.lt;have H1:=Lib.hid (h1.ext HX.out);clear h1;have l2_:=h2.lt;have H2:=Lib.hid (h2.ext HX.out);clear h2;have l3_:=h3.lt;have H3:=Lib.hid (h3.ext HX.out);clear h3;have HT:=Lib.hid (fun(W:World) (hx:Ext w W)=>TurnCell_any s p hs W (hA.ext hx));generalize tcellP s p=u at HT ⊢;have HS:=Lib.hid (pSub_any u c.lo);generalize subP u c.lo=q at HS ⊢;clear hA hs
 go_enter Tryz.func146,Tryz.ntmps146
 go_upto_region 1 with fail
 rw[← hW];clear hW
 (try simp only[Act.put,List.setIfInBounds_toArray,List.set_cons_zero,List.set_cons_succ])
 refine wp_region_box2 (w:=W0) (fun i=>match i with
     | 0=>.int .i64 s
     | 1=>.agg #[.int .i64 p.x,.int .i64 p.y,.int .i64 p.z]
     | 2=>.agg #[.int .i64 u.x,.int .i64 u.y,.int .i64 u.z]
     | 3=>.pointer (some ⟨b2,0,none⟩)
     | 4=>.agg #[.int .i64 c.lo.x,.int .i64 c.lo.y,.int .i64 c.lo.z]
     | 5=>.agg #[.int .i64 q.x,.int .i64 q.y,.int .i64 q.z]
     | _=>undef) 6 23 6 12 5 [.int .i64 0,.int .i64 0,.int .i64 0] [.int .i64 q.x,.int .i64 q.y,.int .i64 q.z] hm (by kernel_rfl) (by kernel_rfl) (noGuardD (by kernel_rfl)) rfl ⟨_,rfl,rfl,rfl⟩ ⟨_,rfl,rfl,rfl,⟨⟨6,.data⟩,by simp,rfl,rfl⟩,⟨⟨5,.data⟩,by simp,rfl,rfl⟩⟩ (by decide) rfl (by simp) (by simp) rfl (info_zero (by kernel_rfl)) (by kernel_rfl) rfl rfl ?_ ?_
 · intro listed w1 i o ho hin hdep hx b K E0 E1 hK
   match i,ho with
   | 0,ho=>
     obtain rfl:=Option.some.inj ho;have e1:b.tmps[1]? = some (.pointer (some ⟨b1,0,none⟩)):=E0 1 (by kernel_rfl);have hc:=(H1.out.ext hx).cell 0;exact op_run (by unfold execOp;simp[e1,hc,Act.eval,go_sem]) (hK w1 (Ext.refl _))
   | 1,ho=>
     obtain rfl:=Option.some.inj ho;have e4:b.tmps[4]? = some (.pointer (some ⟨w.heap.size,0,none⟩)):=E0 4 (by kernel_rfl);exact op_loadrow rfl (eval_of e4) (H4.out.ext hx) _ Tryz.underlying23 rfl (by kernel_rfl) (hK w1 (Ext.refl _))
   | 2,ho=>
     obtain rfl:=Option.some.inj ho;have e7:b.tmps[7]? = some (.int .i64 s):=E1 0 7 (by decide) (getD_up (hdep ⟨0,.data⟩ (by simp) rfl)) rfl (by simp);have e8:b.tmps[8]? = some (.agg #[.int .i64 p.x,.int .i64 p.y,.int .i64 p.z]):=E1 1 8 (by decide) (getD_up (hdep ⟨1,.data⟩ (by simp) rfl)) rfl (by simp);exact op_call (G:=fun v _=>v = .agg #[.int .i64 u.x,.int .i64 u.y,.int .i64 u.z]) rfl (by simp[eval_of e7,eval_of e8]) (fun _ _=>by kernel_rfl) ((HT.out w1 (HX.out.trans hx)).mono fun e w' ⟨h1,h2⟩=>⟨_,h1,h2,rfl⟩) (fun v w' h1 h2=>by subst h2;exact hK w' h1)
   | 3,ho=>
     obtain rfl:=Option.some.inj ho;have e2:b.tmps[2]? = some (.pointer (some ⟨b2,0,none⟩)):=E0 2 (by kernel_rfl);exact op_run (by unfold execOp;simp[e2,Act.eval,go_sem]) (hK w1 (Ext.refl _))
   | 4,ho=>
     obtain rfl:=Option.some.inj ho;have e10:b.tmps[10]? = some (.pointer (some ⟨b2,0,none⟩)):=E1 3 10 (by decide) (getD_up (hdep ⟨3,.data⟩ (by simp) rfl)) rfl (by simp);exact op_loadpart rfl b2 0 [.int .i64 c.lo.x,.int .i64 c.lo.y,.int .i64 c.lo.z] (eval_of e10) (H2.out.ext hx) rfl _ Tryz.underlying23 rfl (by kernel_rfl) (hK w1 (Ext.refl _))
   | 5,ho=>
     obtain rfl:=Option.some.inj ho;have e9:b.tmps[9]? = some (.agg #[.int .i64 u.x,.int .i64 u.y,.int .i64 u.z]):=E1 2 9 (by decide) (getD_up (hdep ⟨2,.data⟩ (by simp) rfl)) rfl (by simp);have e11:b.tmps[11]? = some (.agg #[.int .i64 c.lo.x,.int .i64 c.lo.y,.int .i64 c.lo.z]):=E1 4 11 (by decide) (getD_up (hdep ⟨4,.data⟩ (by simp) rfl)) rfl (by simp);exact op_call (G:=fun v _=>v = .agg #[.int .i64 q.x,.int .i64 q.y,.int .i64 q.z]) rfl (by simp[eval_of e9,eval_of e11]) (fun _ _=>by kernel_rfl) ((HS.out w1).mono fun e w' ⟨h1,h2⟩=>⟨_,h1,h2,rfl⟩) (fun v w' h1 h2=>by subst h2;exact hK w' h1)
   | i+6,ho=>exact absurd hin (by omega)
 intro b6 w9 hx hg hA;simp only[List.length_cons,List.length_nil,fillAllN,dstOf,Act.put,List.getElem?_toArray,List.getElem?_cons_zero,List.getElem?_cons_succ,Option.bind_some,List.setIfInBounds_toArray,List.set_cons_zero,List.set_cons_succ,boxV,Nat.lt_irrefl,if_false,if_true,Nat.reduceLT,Nat.reduceEqDiff,Nat.reduceAdd];obtain⟨W1,hW9⟩:∃ W,W=w9:=⟨_,rfl⟩;rw[← hW9]at hx hA ⊢;clear hW9;have Q1_6:=Lib.hid (show b1 < b6 from Nat.lt_of_lt_of_le H1.out.lt hg);have Q2_6:=Lib.hid (show b2 < b6 from Nat.lt_of_lt_of_le H2.out.lt hg);have Q3_6:=Lib.hid (show b3 < b6 from Nat.lt_of_lt_of_le H3.out.lt hg);have Q4_6:=Lib.hid (show w.heap.size < b6 from Nat.lt_of_lt_of_le H4.out.lt hg);have Qw_6:=Lib.hid (Nat.le_trans HX.out.size hg);replace HX:=xEx HX hx;replace H1:=aEx H1 hx;replace H2:=aEx H2 hx;replace H3:=aEx H3 hx;replace H4:=aEx H4 hx;have H6:=Lib.hid hA;clear hx hg hA
 go_upto_region 2 with fail
 have c3:=H3.out.cell;have l3:=H3.out.lt;have c6:=H6.out.cell;have l6:=H6.out.lt
 go_wp2_with fail
 go_ret
 exact⟨ret_bool (by unfold rampQ wrap64;first | rfl | (rw[Bool.eq_iff_iff];simp)),HX.out⟩
end Go.Proofs.YtoecbicdahbccaaGreatDoor
