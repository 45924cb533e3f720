/- A part of the walk of the layer of apply: contracts and plain laws that a row's text leans on. -/
import Derived.Test.YtoecbicdahbccaaGreatDoorZa28
set_option maxRecDepth 100000
set_option maxHeartbeats 16000000
namespace Go.Proofs.YtoecbicdahbccaaGreatDoor
open Go Go.RowKit
theorem refAtC_any{c:Bx}(hin:InC c){i:Nat}(hi:i < volN c)(W:World):Calls Tryz.prog 87 #[.agg #[.int .i64 c.lo.x,.int .i64 c.lo.y,.int .i64 c.lo.z,.int .i64 c.hi.x,.int .i64 c.hi.y,.int .i64 c.hi.z],.int .i64 i] W fun e w'=>e = .returned (.tuple #[.agg #[.int .i64 (atB c i).x,.int .i64 (atB c i).y,.int .i64 (atB c i).z],.bool true])∧Ext W w':=by
 have hx:=hin.x;have hy:=hin.y;have hz:=hin.z;have hpos:0 < (c.hi.x - c.lo.x).toNat∧0 < (c.hi.y - c.lo.y).toNat∧0 < (c.hi.z - c.lo.z).toNat:=by
  unfold volN at hi;refine⟨?_,?_,?_⟩ <;> (apply Nat.pos_of_ne_zero;intro h;rw[h]at hi;simp at hi)
 have hS:sizeP c=⟨((c.hi.x - c.lo.x).toNat:Int),((c.hi.y - c.lo.y).toNat:Int),((c.hi.z - c.lo.z).toNat:Int)⟩:=by
  have he:emptyB c=false:=by
   have:inP c.lo c=true:=by rw[inP_iff];omega
   unfold emptyB;rw[this];rfl
  unfold sizeP;rw[he];simp only[Bool.false_eq_true,if_false,subP,wrap64,Pt.mk.injEq];omega
 have h:=refAt_any c i (volN c) _ _ _ W hin.volP hi hS hpos.1 hpos.2.1 (by omega) (by omega) (by have:=hin.vol;omega);have hm:=(boxL_mem c (atB c i)).1 (List.mem_of_getElem? (boxL_get c hi));rw[inP_iff]at hm;have e:addP c.lo ⟨(i:Int) % ((c.hi.x - c.lo.x).toNat:Int),(i:Int) / ((c.hi.x - c.lo.x).toNat:Int) % ((c.hi.y - c.lo.y).toNat:Int),(i:Int) / ((c.hi.x - c.lo.x).toNat:Int) / ((c.hi.y - c.lo.y).toNat:Int)⟩=atB c i:=by
  show addP c.lo ⟨((i % (c.hi.x - c.lo.x).toNat:Nat):Int),((i / (c.hi.x - c.lo.x).toNat % (c.hi.y - c.lo.y).toNat:Nat):Int),((i / (c.hi.x - c.lo.x).toNat / (c.hi.y - c.lo.y).toNat:Nat):Int)⟩=atB c i;unfold atB at hm ⊢
  (try simp only at hm)
  generalize i % (c.hi.x - c.lo.x).toNat=u at hm ⊢;generalize i / (c.hi.x - c.lo.x).toNat % (c.hi.y - c.lo.y).toNat=v at hm ⊢;generalize i / (c.hi.x - c.lo.x).toNat / (c.hi.y - c.lo.y).toNat=z at hm ⊢;unfold addP wrap64;simp only[Pt.mk.injEq];omega
 rw[e]at h;exact h
structure L2S (w:World) (B bs bc:Nat) (S:List Value) (c:Bx) (l:List Pt) (v:Value) (wr:World):Prop where
 ls:LsS w B bc c l v wr
 sh:Arr wr bs 145 S
 lo:bs < B
theorem L2S.more{w:World}{B bs bc:Nat}{S:List Value}{c:Bx}{l:List Pt}{v:Value}{wr wx:World}(h:L2S w B bs bc S c l v wr)(hx:Ext wr wx):L2S w B bs bc S c l v wx:=⟨h.ls.more hx,h.sh.ext hx,h.lo⟩
theorem L2S.app{w:World}{B bs bc:Nat}{S:List Value}{c:Bx}{l:List Pt}{v v':Value}{wr wx:World}{p:Pt}(h:L2S w B bs bc S c l v wr)(ho:wx.ownsRow B 23 3 v' (l.length+1) ((rowsP l).flatten++p.cells))(hg:wr.grownBy wx v.ownBlock):L2S w B bs bc S c (l++[p]) v' wx:=
 ⟨h.ls.app ho hg,h.sh.kept hg (fun e=>by have:=own_low h.ls.row _ e;have:=h.lo;omega),h.lo⟩
theorem Target_any{b:Bx}{s:Int}{a:Pt}(hs:0≤s∧s < 48)(he:emptyB b=false)(w:World)(hA:AxesIn w):Calls Tryz.prog 80 #[.agg #[.int .i64 b.lo.x,.int .i64 b.lo.y,.int .i64 b.lo.z,.int .i64 b.hi.x,.int .i64 b.hi.y,.int .i64 b.hi.z],.int .i64 s,.agg #[.int .i64 a.x,.int .i64 a.y,.int .i64 a.z]] w fun e w'=>e = .returned (.agg #[.int .i64 a.x,.int .i64 a.y,.int .i64 a.z,.int .i64 (addP a (sizeP (turnB s b))).x,.int .i64 (addP a (sizeP (turnB s b))).y,.int .i64 (addP a (sizeP (turnB s b))).z])∧Ext w w':=by
 have hm:=mixed;have hG:=near_old;obtain⟨W0,hW⟩:∃ W,W=((w.alloc (.cells #[.int .i64 b.lo.x,.int .i64 b.lo.y,.int .i64 b.lo.z,.int .i64 b.hi.x,.int .i64 b.hi.y,.int .i64 b.hi.z] 25)).alloc (.cells #[.int .i64 a.x,.int .i64 a.y,.int .i64 a.z] 23)).alloc (.cells #[.int .i64 0,.int .i64 0,.int .i64 0,.int .i64 0,.int .i64 0,.int .i64 0] 25):=⟨_,rfl⟩;have HX:=Lib.hid (show Ext w W0 by rw[hW];exact(((Ext.refl w).alloc _).alloc _).alloc _);have H3:=Lib.hid (show Arr W0 w.heap.size 25 [.int .i64 b.lo.x,.int .i64 b.lo.y,.int .i64 b.lo.z,.int .i64 b.hi.x,.int .i64 b.hi.y,.int .i64 b.hi.z]by rw[hW];exact((Arr.new w 25 [.int .i64 b.lo.x,.int .i64 b.lo.y,.int .i64 b.lo.z,.int .i64 b.hi.x,.int .i64 b.hi.y,.int .i64 b.hi.z]).alloc _).alloc _);have H5:=Lib.hid (show Arr W0 (w.heap.size+1) 23 [.int .i64 a.x,.int .i64 a.y,.int .i64 a.z]by rw[hW];have h:=Arr.new (w.alloc (.cells #[.int .i64 b.lo.x,.int .i64 b.lo.y,.int .i64 b.lo.z,.int .i64 b.hi.x,.int .i64 b.hi.y,.int .i64 b.hi.z] 25)) 23 [.int .i64 a.x,.int .i64 a.y,.int .i64 a.z];simp only[World.size_alloc_]at h;exact(h.alloc _));have H6:=Lib.hid (show Arr W0 (w.heap.size+1+1) 25 [.int .i64 0,.int .i64 0,.int .i64 0,.int .i64 0,.int .i64 0,.int .i64 0]by rw[hW];have h:=Arr.new ((w.alloc (.cells #[.int .i64 b.lo.x,.int .i64 b.lo.y,.int .i64 b.lo.z,.int .i64 b.hi.x,.int .i64 b.hi.y,.int .i64 b.hi.z] 25)).alloc (.cells #[.int .i64 a.x,.int .i64 a.y,.int .i64 a.z] 23)) 25 [.int .i64 0,.int .i64 0,.int .i64 0,.int .i64 0,.int .i64 0,.int .i64 0];simp only[World.size_alloc_]at h;exact h);have HI:=Lib.hid (symmetry_any s hs);have HE:=Lib.hid (show ∀ W:World,Calls Tryz.prog 73 #[.agg #[.int .i64 b.lo.x,.int .i64 b.lo.y,.int .i64 b.lo.z,.int .i64 b.hi.x,.int .i64 b.hi.y,.int .i64 b.hi.z]] W fun e w'=>e = .returned (.bool false)∧Ext W w' by intro W;have h:=Empty_any b W;rw[he]at h;exact h);have HT:=Lib.hid (fun(W:World) (hx:Ext w W)=>TurnBox_any s b W (hA.ext hx));generalize turnB s b=tb at HT ⊢;have HZ:=Lib.hid (pSize_any tb);generalize sizeP tb=z at HZ ⊢;have HAD:=Lib.hid (Add_any a z);generalize addP a z=q at HAD ⊢;clear hA hs he
 go_enter Tryz.func80,Tryz.ntmps80
 go_upto_region 1 with fail
 rw[← hW];clear hW
 go_upto_region 3 with(first
  | (go_at_call 124;refine(HI.out _).mono ?_;rintro e W1 ⟨rfl,hx⟩;replace HX:=xEx HX hx;replace H3:=aEx H3 hx;replace H5:=aEx H5 hx;replace H6:=aEx H6 hx;clear hx)
  | (refine ldB 25 3 H3.out Tryz.underlying25 ?_) | (refine ldB 25 3 (H3.out.alloc _) Tryz.underlying25 ?_) | (refine ldB 25 3 ((H3.out.alloc _).alloc _) Tryz.underlying25 ?_)
  | (go_at_call 73;refine(HE.out _).mono ?_;rintro e W2 ⟨rfl,hx⟩;replace HX:=xEx HX hx;replace H3:=aEx H3 hx;replace H5:=aEx H5 hx;replace H6:=aEx H6 hx;clear hx))
 have HN0:=Lib.hid (fun(W:World) (hx:Ext W2 W)=>HT.out W (HX.out.trans hx));have HN1:=Lib.hid (fun W:World=>HZ.out W);have HN2:=Lib.hid (fun W:World=>HAD.out W);have c3:=H3.out.cell;have l3:=H3.out.lt;have c5:=H5.out.cell;have l5:=H5.out.lt
 (try simp only[Act.put,List.setIfInBounds_toArray,List.set_cons_zero,List.set_cons_succ])
 refine wp_region_near_tail 8 (by assumption) (by kernel_rfl) ?_;simp only[List.take_succ_cons,List.take_zero,List.drop_succ_cons,List.drop_zero]
 repeat (go_big_quiet_step ((first | (go_at_call 126;with_reducible exact near_call (HN0.out _ (Ext.of_near ⟨⟨_,_⟩,rfl⟩))) | (go_at_call 125;with_reducible exact near_call (HN1.out _)) | (go_at_call 109;with_reducible exact near_call (HN2.out _)))))
 refine wpQuiet_nil ?_;intro w1 hw1;have hy:=Ext.of_near hw1;clear hw1;replace HX:=xEx HX hy;replace H3:=aEx H3 hy;replace H5:=aEx H5 hy;replace H6:=aEx H6 hy;clear hy c3 l3 c5 l5
 go_wp2_with (first
  | (refine wpList_store_blk2 25 (.tmp 6) (.tmp 22) rfl rfl H6.out [.int .i64 a.x,.int .i64 a.y,.int .i64 a.z,.int .i64 q.x,.int .i64 q.y,.int .i64 q.z] rfl rfl (by kernel_rfl) rfl rfl rfl ?_;intro W3 hW;replace HX:=xRow HX hW (by omega);replace H3:=aRow H3 hW (by omega);replace H5:=aRow H5 hW (by omega);replace H6:=nRow H6 hW;clear hW))
 refine bodyPost_ret (v:=.agg #[.int .i64 a.x,.int .i64 a.y,.int .i64 a.z,.int .i64 q.x,.int .i64 q.y,.int .i64 q.z]) ?_ rfl ⟨rfl,HX.out⟩;exact results_cell_row Tryz.results80 _ _ _ _ _ _ _ rfl H6.out Tryz.underlying25 rfl (by kernel_rfl)
theorem Place_any{b:Bx}{s:Int}{a p:Pt}(hs:0≤s∧s < 48)(hp:inP p b=true)(w:World)(hA:AxesIn w):Calls Tryz.prog 127 #[.agg #[.int .i64 b.lo.x,.int .i64 b.lo.y,.int .i64 b.lo.z,.int .i64 b.hi.x,.int .i64 b.hi.y,.int .i64 b.hi.z],.int .i64 s,.agg #[.int .i64 a.x,.int .i64 a.y,.int .i64 a.z],.agg #[.int .i64 p.x,.int .i64 p.y,.int .i64 p.z]] w fun e w'=>e = .returned (.tuple #[.agg #[.int .i64 (addP a (subP (tcellP s p) (turnB s b).lo)).x,.int .i64 (addP a (subP (tcellP s p) (turnB s b).lo)).y,.int .i64 (addP a (subP (tcellP s p) (turnB s b).lo)).z],.bool true])∧Ext w w':=by
 have hm:=mixed;have hG:=near_old;obtain⟨W0,hW⟩:∃ W,W=(((w.alloc (.cells #[.int .i64 b.lo.x,.int .i64 b.lo.y,.int .i64 b.lo.z,.int .i64 b.hi.x,.int .i64 b.hi.y,.int .i64 b.hi.z] 25)).alloc (.cells #[.int .i64 a.x,.int .i64 a.y,.int .i64 a.z] 23)).alloc (.cells #[.int .i64 p.x,.int .i64 p.y,.int .i64 p.z] 23)).alloc (.cells #[.int .i64 0,.int .i64 0,.int .i64 0] 23):=⟨_,rfl⟩;have HX:=Lib.hid (show Ext w W0 by rw[hW];exact((((Ext.refl w).alloc _).alloc _).alloc _).alloc _);have H4:=Lib.hid (show Arr W0 w.heap.size 25 [.int .i64 b.lo.x,.int .i64 b.lo.y,.int .i64 b.lo.z,.int .i64 b.hi.x,.int .i64 b.hi.y,.int .i64 b.hi.z]by rw[hW];exact(((Arr.new w 25 [.int .i64 b.lo.x,.int .i64 b.lo.y,.int .i64 b.lo.z,.int .i64 b.hi.x,.int .i64 b.hi.y,.int .i64 b.hi.z]).alloc _).alloc _).alloc _);have H6:=Lib.hid (show Arr W0 (w.heap.size+1) 23 [.int .i64 a.x,.int .i64 a.y,.int .i64 a.z]by rw[hW];have h:=Arr.new (w.alloc (.cells #[.int .i64 b.lo.x,.int .i64 b.lo.y,.int .i64 b.lo.z,.int .i64 b.hi.x,.int .i64 b.hi.y,.int .i64 b.hi.z] 25)) 23 [.int .i64 a.x,.int .i64 a.y,.int .i64 a.z];simp only[World.size_alloc_]at h;exact((h.alloc _).alloc _));have H7:=Lib.hid (show Arr W0 (w.heap.size+1+1) 23 [.int .i64 p.x,.int .i64 p.y,.int .i64 p.z]by rw[hW];have h:=Arr.new ((w.alloc (.cells #[.int .i64 b.lo.x,.int .i64 b.lo.y,.int .i64 b.lo.z,.int .i64 b.hi.x,.int .i64 b.hi.y,.int .i64 b.hi.z] 25)).alloc (.cells #[.int .i64 a.x,.int .i64 a.y,.int .i64 a.z] 23)) 23 [.int .i64 p.x,.int .i64 p.y,.int .i64 p.z];simp only[World.size_alloc_]at h;exact(h.alloc _));have H8:=Lib.hid (show Arr W0 (w.heap.size+1+1+1) 23 [.int .i64 0,.int .i64 0,.int .i64 0]by rw[hW];have h:=Arr.new (((w.alloc (.cells #[.int .i64 b.lo.x,.int .i64 b.lo.y,.int .i64 b.lo.z,.int .i64 b.hi.x,.int .i64 b.hi.y,.int .i64 b.hi.z] 25)).alloc (.cells #[.int .i64 a.x,.int .i64 a.y,.int .i64 a.z] 23)).alloc (.cells #[.int .i64 p.x,.int .i64 p.y,.int .i64 p.z] 23)) 23 [.int .i64 0,.int .i64 0,.int .i64 0];simp only[World.size_alloc_]at h;exact h);have HI:=Lib.hid (symmetry_any s hs);have HN:=Lib.hid (show ∀ W:World,Calls Tryz.prog 74 #[.agg #[.int .i64 p.x,.int .i64 p.y,.int .i64 p.z],.agg #[.int .i64 b.lo.x,.int .i64 b.lo.y,.int .i64 b.lo.z,.int .i64 b.hi.x,.int .i64 b.hi.y,.int .i64 b.hi.z]] W fun e w'=>e = .returned (.bool true)∧Ext W w' by intro W;have h:=In_any p b W;rw[hp]at h;exact h);have hit:isT s=true:=by unfold isT;rw[decide_eq_true hs]
 have HC:=Lib.hid (fun(W:World) (hx:Ext w W)=>TurnCell_any s p hit W (hA.ext hx));generalize tcellP s p=u at HC ⊢;have HT:=Lib.hid (fun(W:World) (hx:Ext w W)=>TurnBox_any s b W (hA.ext hx));generalize turnB s b=tb at HT ⊢;have HS:=Lib.hid (pSub_any u tb.lo);generalize subP u tb.lo=v at HS ⊢;have HAD:=Lib.hid (Add_any a v);generalize addP a v=q at HAD ⊢;clear hA hs hp hit
 go_enter Tryz.func127,Tryz.ntmps127
 go_upto_region 1 with fail
 rw[← hW];clear hW
 go_upto_region 3 with(first
  | (go_at_call 124;refine(HI.out _).mono ?_;rintro e W1 ⟨rfl,hx⟩;replace HX:=xEx HX hx;replace H4:=aEx H4 hx;replace H6:=aEx H6 hx;replace H7:=aEx H7 hx;replace H8:=aEx H8 hx;clear hx)
  | (refine ldB 23 7 H7.out Tryz.underlying23 ?_) | (refine ldB 23 7 (H7.out.alloc _) Tryz.underlying23 ?_) | (refine ldB 23 7 ((H7.out.alloc _).alloc _) Tryz.underlying23 ?_)
  | (refine ldB 25 4 H4.out Tryz.underlying25 ?_) | (refine ldB 25 4 (H4.out.alloc _) Tryz.underlying25 ?_) | (refine ldB 25 4 ((H4.out.alloc _).alloc _) Tryz.underlying25 ?_)
  | (go_at_call 74;refine(HN.out _).mono ?_;rintro e W2 ⟨rfl,hx⟩;replace HX:=xEx HX hx;replace H4:=aEx H4 hx;replace H6:=aEx H6 hx;replace H7:=aEx H7 hx;replace H8:=aEx H8 hx;clear hx))
 have HN0:=Lib.hid (fun(W:World) (hx:Ext W2 W)=>HC.out W (HX.out.trans hx));have HN1:=Lib.hid (fun(W:World) (hx:Ext W2 W)=>HT.out W (HX.out.trans hx));have HN2:=Lib.hid (fun W:World=>HS.out W);have HN3:=Lib.hid (fun W:World=>HAD.out W);have c4:=H4.out.cell;have l4:=H4.out.lt;have c6:=H6.out.cell;have l6:=H6.out.lt;have c7:=H7.out.cell;have l7:=H7.out.lt
 (try simp only[Act.put,List.setIfInBounds_toArray,List.set_cons_zero,List.set_cons_succ])
 refine wp_region_near_tail 10 (by assumption) (by kernel_rfl) ?_;simp only[List.take_succ_cons,List.take_zero,List.drop_succ_cons,List.drop_zero]
 repeat (first | go_big_quiet_step ((first | (go_at_call 147;with_reducible exact near_call (HN0.out _ (Ext.of_near ⟨⟨_,_⟩,rfl⟩))) | (go_at_call 126;with_reducible exact near_call (HN1.out _ (Ext.of_near ⟨⟨_,_⟩,rfl⟩))) | (go_at_call 70;with_reducible exact near_call (HN2.out _)) | (go_at_call 109;with_reducible exact near_call (HN3.out _)))) | (first | (refine wpQuiet_fld 25 26 0 (.agg #[.int .i64 tb.lo.x,.int .i64 tb.lo.y,.int .i64 tb.lo.z]) rfl rfl (fun w=>by unfold execOp;simp[Act.eval];kernel_rfl) ?_;simp only[Act.put,List.setIfInBounds_toArray,List.set_cons_zero,List.set_cons_succ])))
 refine wpQuiet_nil ?_;intro w1 hw1;have hy:=Ext.of_near hw1;clear hw1;replace HX:=xEx HX hy;replace H4:=aEx H4 hy;replace H6:=aEx H6 hy;replace H7:=aEx H7 hy;replace H8:=aEx H8 hy;clear hy c4 l4 c6 l6 c7 l7
 go_wp2_with (first
  | (refine wpList_store_blk2 23 (.tmp 8) (.tmp 29) rfl rfl H8.out [.int .i64 q.x,.int .i64 q.y,.int .i64 q.z] rfl rfl (by kernel_rfl) rfl rfl rfl ?_;intro W3 hW;replace HX:=xRow HX hW (by omega);replace H4:=aRow H4 hW (by omega);replace H6:=aRow H6 hW (by omega);replace H7:=aRow H7 hW (by omega);replace H8:=nRow H8 hW;clear hW))
 refine bodyPost_ret (v:=.tuple #[.agg #[.int .i64 q.x,.int .i64 q.y,.int .i64 q.z],.bool true]) ?_ rfl ⟨rfl,HX.out⟩;exact results_cell_row2 Tryz.results127 _ _ _ _ _ _ _ rfl H8.out Tryz.underlying23 rfl (by kernel_rfl)
theorem add_sub_swap(a u m:Pt):addP a (subP u m)=addP u (subP a m):=by
 unfold addP subP wrap64;simp only[Pt.mk.injEq];omega
theorem tgt_size{s:Int}{b:Bx}(hs:0≤s∧s < 48)(he:emptyB b=false)(hb:smlB b)(a:Pt):(⟨a,addP a (sizeP (turnB s b))⟩:Bx)=tgtB s b a:=by
 have h:=(turnB_ne (s:=s) (by unfold isT;rw[decide_eq_true hs]) he hb).1;unfold tgtB sizeP;rw[h];rfl
theorem tgt_ne{s:Int}{b:Bx}(hs:0≤s∧s < 48)(he:emptyB b=false)(hb:smlB b){a:Pt}(ha:smlP a):emptyB (tgtB s b a)=false∧∀ j:Int,0≤j∧j < 3→(-3000000≤cdP (tgtB s b a).hi j∧cdP (tgtB s b a).hi j≤3000000):=by
 have h:∀ j:Int,0≤j∧j < 3→cdP (tgtB s b a).lo j < cdP (tgtB s b a).hi j∧(-3000000≤cdP (tgtB s b a).hi j∧cdP (tgtB s b a).hi j≤3000000):=fun j hj=>by
  have h1:=tgt_cd hs he hb ha hj;rw[h1.1,h1.2];have hlt:=notEmpty he;have hl:=cd_sml hb.1 (axI s j);have hh:=cd_sml hb.2 (axI s j);have h3:=cd_sml ha j;have hlh:cdP b.lo (axI s j) < cdP b.hi (axI s j):=by
   unfold cdP
   split
   · omega
   · split <;> omega
  omega
 refine⟨?_,fun j hj=>(h j hj).2⟩;have h0:=(h 0 (by decide)).1;have h1:=(h 1 (by decide)).1;have h2:=(h 2 (by decide)).1;simp only[cdP,if_true,show ¬ (1:Int)=0 by decide,show ¬ (2:Int)=0 by decide,show ¬ (2:Int)=1 by decide,if_false]at h0 h1 h2;unfold emptyB inP;simp only[Bool.not_eq_false',Bool.and_eq_true,decide_eq_true_eq];omega
theorem tiny_sml{p:Pt}(h:tinyP p):smlP p:=by unfold tinyP at h;unfold smlP;omega
theorem tgt_sml{s:Int}{b:Bx}(hs:0≤s∧s < 48)(he:emptyB b=false)(hl:tinyP b.lo)(hh:tinyP b.hi){a:Pt}(ha:tinyP a):smlB (tgtB s b a):=by
 have key:∀ j:Int,0≤j∧j < 3→0≤cdP (tgtB s b a).hi j∧cdP (tgtB s b a).hi j≤40000:=fun j hj=>by
  have h1:=tgt_cd hs he ⟨tiny_sml hl,tiny_sml hh⟩ (tiny_sml ha) hj;rw[h1.2];have hlt:=notEmpty he;have h2:∀ p:Pt,tinyP p→∀ k,0≤cdP p k∧cdP p k≤16384:=fun p hp k=>by
   unfold tinyP at hp;unfold cdP
   split
   · omega
   · split <;> omega
  have h3:=h2 _ hl (axI s j);have h4:=h2 _ hh (axI s j);have h5:=h2 _ ha j;have hlh:cdP b.lo (axI s j) < cdP b.hi (axI s j):=by
   unfold cdP
   split
   · omega
   · split <;> omega
  omega
 refine⟨tiny_sml ha,?_⟩;have h0:=key 0 (by decide);have h1:=key 1 (by decide);have h2:=key 2 (by decide);simp only[cdP,if_true,show ¬ (1:Int)=0 by decide,show ¬ (2:Int)=0 by decide,show ¬ (2:Int)=1 by decide,if_false]at h0 h1 h2;unfold smlP;omega
theorem src_prog{s:Int}{b:Bx}(hs:0≤s∧s < 48)(he:emptyB b=false)(hl:tinyP b.lo)(hh:tinyP b.hi){a:Pt}(ha:tinyP a){q:Pt}(hq:inP q (tgtB s b a)=true):addP b.lo (subP (tcellP (invI s) q) (turnB (invI s) (tgtB s b a)).lo)=srcP s b a q:=by
 have ht:=invI_rng hs;have hit:isT (invI s)=true:=by unfold isT;rw[decide_eq_true ht]
 have hts:=tgt_sml hs he hl hh ha;have hqs:smlP q:=by
  rw[inP_iff]at hq;have h1:=hts.1;have h2:=hts.2;unfold smlP at *;omega
 rw[tcell_r hit hqs,add_sub_swap];exact plc_ref ht (tgt_ne hs he ⟨tiny_sml hl,tiny_sml hh⟩ (tiny_sml ha)).1 hts (tiny_sml hl) hqs
theorem Source_any{b:Bx}{s:Int}{a q:Pt}(hs:0≤s∧s < 48)(he:emptyB b=false)(hl:tinyP b.lo)(hh:tinyP b.hi)(ha:tinyP a)(hq:inP q (tgtB s b a)=true)(w:World)(hA:AxesIn w):Calls Tryz.prog 82 #[.agg #[.int .i64 b.lo.x,.int .i64 b.lo.y,.int .i64 b.lo.z,.int .i64 b.hi.x,.int .i64 b.hi.y,.int .i64 b.hi.z],.int .i64 s,.agg #[.int .i64 a.x,.int .i64 a.y,.int .i64 a.z],.agg #[.int .i64 q.x,.int .i64 q.y,.int .i64 q.z]] w fun e w'=>e = .returned (.tuple #[.agg #[.int .i64 (srcP s b a q).x,.int .i64 (srcP s b a q).y,.int .i64 (srcP s b a q).z],.bool true])∧Ext w w':=by
 have hm:=mixed;have hG:=near_old;obtain⟨W0,hW⟩:∃ W,W=(((w.alloc (.cells #[.int .i64 b.lo.x,.int .i64 b.lo.y,.int .i64 b.lo.z,.int .i64 b.hi.x,.int .i64 b.hi.y,.int .i64 b.hi.z] 25)).alloc (.cells #[.int .i64 a.x,.int .i64 a.y,.int .i64 a.z] 23)).alloc (.cells #[.int .i64 q.x,.int .i64 q.y,.int .i64 q.z] 23)).alloc (.cells #[.int .i64 0,.int .i64 0,.int .i64 0] 23):=⟨_,rfl⟩;have HX:=Lib.hid (show Ext w W0 by rw[hW];exact((((Ext.refl w).alloc _).alloc _).alloc _).alloc _);have H4:=Lib.hid (show Arr W0 w.heap.size 25 [.int .i64 b.lo.x,.int .i64 b.lo.y,.int .i64 b.lo.z,.int .i64 b.hi.x,.int .i64 b.hi.y,.int .i64 b.hi.z]by rw[hW];exact(((Arr.new w 25 [.int .i64 b.lo.x,.int .i64 b.lo.y,.int .i64 b.lo.z,.int .i64 b.hi.x,.int .i64 b.hi.y,.int .i64 b.hi.z]).alloc _).alloc _).alloc _);have H6:=Lib.hid (show Arr W0 (w.heap.size+1) 23 [.int .i64 a.x,.int .i64 a.y,.int .i64 a.z]by rw[hW];have h:=Arr.new (w.alloc (.cells #[.int .i64 b.lo.x,.int .i64 b.lo.y,.int .i64 b.lo.z,.int .i64 b.hi.x,.int .i64 b.hi.y,.int .i64 b.hi.z] 25)) 23 [.int .i64 a.x,.int .i64 a.y,.int .i64 a.z];simp only[World.size_alloc_]at h;exact((h.alloc _).alloc _));have H7:=Lib.hid (show Arr W0 (w.heap.size+1+1) 23 [.int .i64 q.x,.int .i64 q.y,.int .i64 q.z]by rw[hW];have h:=Arr.new ((w.alloc (.cells #[.int .i64 b.lo.x,.int .i64 b.lo.y,.int .i64 b.lo.z,.int .i64 b.hi.x,.int .i64 b.hi.y,.int .i64 b.hi.z] 25)).alloc (.cells #[.int .i64 a.x,.int .i64 a.y,.int .i64 a.z] 23)) 23 [.int .i64 q.x,.int .i64 q.y,.int .i64 q.z];simp only[World.size_alloc_]at h;exact(h.alloc _));have H8:=Lib.hid (show Arr W0 (w.heap.size+1+1+1) 23 [.int .i64 0,.int .i64 0,.int .i64 0]by rw[hW];have h:=Arr.new (((w.alloc (.cells #[.int .i64 b.lo.x,.int .i64 b.lo.y,.int .i64 b.lo.z,.int .i64 b.hi.x,.int .i64 b.hi.y,.int .i64 b.hi.z] 25)).alloc (.cells #[.int .i64 a.x,.int .i64 a.y,.int .i64 a.z] 23)).alloc (.cells #[.int .i64 q.x,.int .i64 q.y,.int .i64 q.z] 23)) 23 [.int .i64 0,.int .i64 0,.int .i64 0];simp only[World.size_alloc_]at h;exact h);have HI:=Lib.hid (symmetry_any s hs);have HT:=Lib.hid (show ∀ W:World,Ext w W→Calls Tryz.prog 80 #[.agg #[.int .i64 b.lo.x,.int .i64 b.lo.y,.int .i64 b.lo.z,.int .i64 b.hi.x,.int .i64 b.hi.y,.int .i64 b.hi.z],.int .i64 s,.agg #[.int .i64 a.x,.int .i64 a.y,.int .i64 a.z]] W fun e w'=>e = .returned (.agg #[.int .i64 (tgtB s b a).lo.x,.int .i64 (tgtB s b a).lo.y,.int .i64 (tgtB s b a).lo.z,.int .i64 (tgtB s b a).hi.x,.int .i64 (tgtB s b a).hi.y,.int .i64 (tgtB s b a).hi.z])∧Ext W w' by
  intro W hx;rw[← tgt_size hs he ⟨tiny_sml hl,tiny_sml hh⟩ a];exact Target_any hs he W (hA.ext hx))
 have HV:=Lib.hid (fun(W:World) (hx:Ext w W)=>Invert_any s hs W (hA.ext hx));have HP:=Lib.hid (show ∀ W:World,Ext w W→Calls Tryz.prog 127 #[.agg #[.int .i64 (tgtB s b a).lo.x,.int .i64 (tgtB s b a).lo.y,.int .i64 (tgtB s b a).lo.z,.int .i64 (tgtB s b a).hi.x,.int .i64 (tgtB s b a).hi.y,.int .i64 (tgtB s b a).hi.z],.int .i64 (invI s),.agg #[.int .i64 b.lo.x,.int .i64 b.lo.y,.int .i64 b.lo.z],.agg #[.int .i64 q.x,.int .i64 q.y,.int .i64 q.z]] W fun e w'=>e = .returned (.tuple #[.agg #[.int .i64 (srcP s b a q).x,.int .i64 (srcP s b a q).y,.int .i64 (srcP s b a q).z],.bool true])∧Ext W w' by
  intro W hx;rw[← src_prog hs he hl hh ha hq];exact Place_any (invI_rng hs) hq W (hA.ext hx))
 generalize tgtB s b a=tb at HT HP;generalize invI s=t at HV HP;generalize srcP s b a q=r at HP ⊢;clear hA hs he hl hh ha hq
 go_enter Tryz.func82,Tryz.ntmps82
 go_upto_region 1 with fail
 rw[← hW];clear hW
 go_upto_region 3 with(first
  | (go_at_call 124;refine(HI.out _).mono ?_;rintro e W1 ⟨rfl,hx⟩;replace HX:=xEx HX hx;replace H4:=aEx H4 hx;replace H6:=aEx H6 hx;replace H7:=aEx H7 hx;replace H8:=aEx H8 hx;clear hx))
 have HN0:=Lib.hid (fun(W:World) (hx:Ext W1 W)=>HT.out W (HX.out.trans hx));have HN1:=Lib.hid (fun(W:World) (hx:Ext W1 W)=>HV.out W (HX.out.trans hx));have HN2:=Lib.hid (fun(W:World) (hx:Ext W1 W)=>HP.out W (HX.out.trans hx));have c4:=H4.out.cell;have l4:=H4.out.lt;have c6:=H6.out.cell;have l6:=H6.out.lt;have c7:=H7.out.cell;have l7:=H7.out.lt
 (try simp only[Act.put,List.setIfInBounds_toArray,List.set_cons_zero,List.set_cons_succ])
 refine wp_region_near_tail 12 (by assumption) (by kernel_rfl) ?_;simp only[List.take_succ_cons,List.take_zero,List.drop_succ_cons,List.drop_zero]
 repeat (go_big_quiet_step ((first | (go_at_call 80;with_reducible exact near_call (HN0.out _ (Ext.of_near ⟨⟨_,_⟩,rfl⟩))) | (go_at_call 128;with_reducible exact near_call (HN1.out _ (Ext.of_near ⟨⟨_,_⟩,rfl⟩))) | (go_at_call 127;with_reducible exact near_call (HN2.out _ (Ext.of_near ⟨⟨_,_⟩,rfl⟩))))))
 refine wpQuiet_nil ?_;intro w1 hw1;have hy:=Ext.of_near hw1;clear hw1;replace HX:=xEx HX hy;replace H4:=aEx H4 hy;replace H6:=aEx H6 hy;replace H7:=aEx H7 hy;replace H8:=aEx H8 hy;clear hy c4 l4 c6 l6 c7 l7
 go_wp2_with (first
  | (refine wpList_store_blk2 23 (.tmp 8) (.tmp 24) rfl rfl H8.out [.int .i64 r.x,.int .i64 r.y,.int .i64 r.z] rfl rfl (by kernel_rfl) rfl rfl rfl ?_;intro W2 hW;replace HX:=xRow HX hW (by omega);replace H4:=aRow H4 hW (by omega);replace H6:=aRow H6 hW (by omega);replace H7:=aRow H7 hW (by omega);replace H8:=nRow H8 hW;clear hW))
 refine bodyPost_ret (v:=.tuple #[.agg #[.int .i64 r.x,.int .i64 r.y,.int .i64 r.z],.bool true]) ?_ rfl ⟨rfl,HX.out⟩;exact results_cell_row2 Tryz.results82 _ _ _ _ _ _ _ rfl H8.out Tryz.underlying23 rfl (by kernel_rfl)
end Go.Proofs.YtoecbicdahbccaaGreatDoor
