/- A part of the walk of the layer of apply: contracts and plain laws that a row's text leans on. -/
import Derived.Test.YtoecbicdahbccaaGreatDoorZa57
set_option maxRecDepth 100000
set_option maxHeartbeats 16000000
namespace Go.Proofs.YtoecbicdahbccaaGreatDoor
open Go Go.RowKit
theorem refBounds_n(x:Ed)(n d:Int)(hd:2≤d∧d≤14)(hn:¬ n=1∧¬ n=2∧¬ n=3∧¬ n=4∧¬ n=5)(w:World):Calls Tryz.prog 26 #[.agg #[.int .i64 x.st.tick,.int .i64 x.st.clock,.int .i64 x.st.site,.int .i64 x.st.seq,.int .i64 n,.int .i64 x.box.lo.x,.int .i64 x.box.lo.y,.int .i64 x.box.lo.z,.int .i64 x.box.hi.x,.int .i64 x.box.hi.y,.int .i64 x.box.hi.z,.int .i64 x.at_.x,.int .i64 x.at_.y,.int .i64 x.at_.z,.int .i64 x.turn,.int .i64 x.cell,.int .i64 x.size],.int .i64 d] w fun e w'=>e = .returned (.agg #[.int .i64 (interB zeroBx (cubeD d)).lo.x,.int .i64 (interB zeroBx (cubeD d)).lo.y,.int .i64 (interB zeroBx (cubeD d)).lo.z,.int .i64 (interB zeroBx (cubeD d)).hi.x,.int .i64 (interB zeroBx (cubeD d)).hi.y,.int .i64 (interB zeroBx (cubeD d)).hi.z])∧Ext w w':=by
 have hm:=mixed;have hG:=near_old;obtain⟨W0,hW⟩:∃ W,W=(w.alloc (.cells #[.int .i64 x.st.tick,.int .i64 x.st.clock,.int .i64 x.st.site,.int .i64 x.st.seq,.int .i64 n,.int .i64 x.box.lo.x,.int .i64 x.box.lo.y,.int .i64 x.box.lo.z,.int .i64 x.box.hi.x,.int .i64 x.box.hi.y,.int .i64 x.box.hi.z,.int .i64 x.at_.x,.int .i64 x.at_.y,.int .i64 x.at_.z,.int .i64 x.turn,.int .i64 x.cell,.int .i64 x.size] 32)).alloc (.cells #[.int .i64 0,.int .i64 0,.int .i64 0,.int .i64 0,.int .i64 0,.int .i64 0] 25):=⟨_,rfl⟩;have HX:=Lib.hid (show Ext w W0 by rw[hW];exact((Ext.refl w).alloc _).alloc _);have H2:=Lib.hid (show Arr W0 w.heap.size 32 [.int .i64 x.st.tick,.int .i64 x.st.clock,.int .i64 x.st.site,.int .i64 x.st.seq,.int .i64 n,.int .i64 x.box.lo.x,.int .i64 x.box.lo.y,.int .i64 x.box.lo.z,.int .i64 x.box.hi.x,.int .i64 x.box.hi.y,.int .i64 x.box.hi.z,.int .i64 x.at_.x,.int .i64 x.at_.y,.int .i64 x.at_.z,.int .i64 x.turn,.int .i64 x.cell,.int .i64 x.size]by rw[hW];exact(Arr.new w 32 [.int .i64 x.st.tick,.int .i64 x.st.clock,.int .i64 x.st.site,.int .i64 x.st.seq,.int .i64 n,.int .i64 x.box.lo.x,.int .i64 x.box.lo.y,.int .i64 x.box.lo.z,.int .i64 x.box.hi.x,.int .i64 x.box.hi.y,.int .i64 x.box.hi.z,.int .i64 x.at_.x,.int .i64 x.at_.y,.int .i64 x.at_.z,.int .i64 x.turn,.int .i64 x.cell,.int .i64 x.size]).alloc _);have H4:=Lib.hid (show Arr W0 (w.heap.size+1) 25 [.int .i64 0,.int .i64 0,.int .i64 0,.int .i64 0,.int .i64 0,.int .i64 0]by rw[hW];have h:=Arr.new (w.alloc (.cells #[.int .i64 x.st.tick,.int .i64 x.st.clock,.int .i64 x.st.site,.int .i64 x.st.seq,.int .i64 n,.int .i64 x.box.lo.x,.int .i64 x.box.lo.y,.int .i64 x.box.lo.z,.int .i64 x.box.hi.x,.int .i64 x.box.hi.y,.int .i64 x.box.hi.z,.int .i64 x.at_.x,.int .i64 x.at_.y,.int .i64 x.at_.z,.int .i64 x.turn,.int .i64 x.cell,.int .i64 x.size] 32)) 25 [.int .i64 0,.int .i64 0,.int .i64 0,.int .i64 0,.int .i64 0,.int .i64 0];simp only[World.size_alloc_]at h;exact h);obtain⟨n1,n2,n3,n4,n5⟩:=hn;have HCC:=refcube_any d hd;unfold cubeD at HCC;have hsh:=shl_run d hd;unfold cubeD;obtain⟨S,hS⟩:∃ S:Int,(2:Int) ^ d.toNat=S:=⟨_,rfl⟩;have hw6:wrap64 ((2:Int) ^ d.toNat)=(2:Int) ^ d.toNat:=pow_w d hd;rw[hS]at hsh HCC ⊢;rw (occs:=.pos [2]) [hS]at hw6;clear hS;have HI:=Lib.hid (show ∀ W:World,Calls Tryz.prog 56 #[.agg #[.int .i64 0,.int .i64 0,.int .i64 0,.int .i64 0,.int .i64 0,.int .i64 0],.agg #[.int .i64 (cubeB S).lo.x,.int .i64 (cubeB S).lo.y,.int .i64 (cubeB S).lo.z,.int .i64 (cubeB S).hi.x,.int .i64 (cubeB S).hi.y,.int .i64 (cubeB S).hi.z]] W fun e w'=>e = .returned (.agg #[.int .i64 (interB zeroBx (cubeB S)).lo.x,.int .i64 (interB zeroBx (cubeB S)).lo.y,.int .i64 (interB zeroBx (cubeB S)).lo.z,.int .i64 (interB zeroBx (cubeB S)).hi.x,.int .i64 (interB zeroBx (cubeB S)).hi.y,.int .i64 (interB zeroBx (cubeB S)).hi.z])∧Ext W w' from refIntersect_any zeroBx (cubeB S));generalize interB zeroBx (cubeB S)=rb at HI ⊢;have HCU:=Lib.hid (show ∀ W:World,Calls Tryz.prog 57 #[.int .i64 d] W fun e w'=>e = .returned (.agg #[.int .i64 (cubeB S).lo.x,.int .i64 (cubeB S).lo.y,.int .i64 (cubeB S).lo.z,.int .i64 (cubeB S).hi.x,.int .i64 (cubeB S).hi.y,.int .i64 (cubeB S).hi.z])∧Ext W w' from HCC);clear HCC
 go_enter Tryz.func26,Tryz.ntmps26
 go_upto_region 1 with fail
 rw[← hW];clear hW
 go_upto_region 2 with(first
  | (refine wpList_store_blk2 25 (.tmp 5) (.tmp 7) rfl rfl (Arr.new W0 25 [.int .i64 0,.int .i64 0,.int .i64 0,.int .i64 0,.int .i64 0,.int .i64 0]) [.int .i64 0,.int .i64 0,.int .i64 0,.int .i64 0,.int .i64 0,.int .i64 0] rfl rfl (by kernel_rfl) rfl rfl rfl ?_;intro W1 hW;have Q2_5:=aLt H2;have Q4_5:=aLt H4;have Qw_5:=Lib.hid HX.out.size;replace HX:=xNew HX hW;replace H2:=aNew H2 hW;replace H4:=aNew H4 hW;have H5:=nNew hW;clear hW))
 obtain⟨b5,hb5⟩:∃ n,n=W0.heap.size:=⟨_,rfl⟩;rw[← hb5]at H5 Q2_5 Q4_5 Qw_5 ⊢;clear hb5;have c2:=H2.out.cell;have l2:=H2.out.lt
 go_upto_region 3 with fail
 clear c2 l2
 go_upto_region 4 with fail
 go_upto_region 6 with fail
 go_upto_region 8 with fail
 go_upto_region 10 with fail
 go_upto_region 13 with fail
 have HN0:=Lib.hid (fun W:World=>HCU.out W);have HN1:=Lib.hid (fun W:World=>HI.out W);have c5:=H5.out.cell;have l5:=H5.out.lt
 (try simp only[Act.put,List.setIfInBounds_toArray,List.set_cons_zero,List.set_cons_succ])
 refine wp_region_near_tail 4 (by assumption) (by kernel_rfl) ?_;simp only[List.take_succ_cons,List.take_zero,List.drop_succ_cons,List.drop_zero]
 repeat (go_big_quiet_step ((first | (go_at_call 57;with_reducible exact near_call (HN0.out _)) | (go_at_call 56;with_reducible exact near_call (HN1.out _)))))
 refine wpQuiet_nil ?_;intro w1 hw1;have hy:=Ext.of_near hw1;clear hw1;replace HX:=xEx HX hy;replace H2:=aEx H2 hy;replace H4:=aEx H4 hy;replace H5:=aEx H5 hy;clear hy c5 l5
 go_wp2_with (first
  | (refine wpList_store_blk2 25 (.tmp 4) (.tmp 51) rfl rfl H4.out [.int .i64 rb.lo.x,.int .i64 rb.lo.y,.int .i64 rb.lo.z,.int .i64 rb.hi.x,.int .i64 rb.hi.y,.int .i64 rb.hi.z] rfl rfl (by kernel_rfl) rfl rfl rfl ?_;intro W2 hW;replace HX:=xRow HX hW (by omega);replace H2:=aRow H2 hW (by omega);replace H5:=aRow H5 hW (by have:=Q4_5.out;omega);replace H4:=nRow H4 hW;clear hW))
 refine bodyPost_ret (v:=.agg #[.int .i64 rb.lo.x,.int .i64 rb.lo.y,.int .i64 rb.lo.z,.int .i64 rb.hi.x,.int .i64 rb.hi.y,.int .i64 rb.hi.z]) ?_ rfl ⟨rfl,HX.out⟩;exact results_cell_row Tryz.results26 _ _ _ _ _ _ _ rfl H4.out Tryz.underlying25 rfl (by kernel_rfl)
theorem inCube_sml{p:Pt}{d:Int}(hd:2≤d∧d≤14)(h:inP p (cubeB (2 ^ d.toNat))=true):smlP p:=by
 have hw:=pow_le14 d hd;generalize (2:Int) ^ d.toNat=S at h hw;unfold inP cubeB at h;simp only[Bool.and_eq_true,decide_eq_true_eq]at h;unfold smlP;omega
theorem ChkOk.fill{x:Ed}{d m:Int}(h:ChkOk x d m)(hk:x.kind=5):1≤x.size∧x.size≤32768:=by
 have h1:=h.size;unfold leastE mostE at h1;rw[hk]at h1;exact h1
def changedE(x:Ed)(p:Pt):Bool:=
 if x.kind=1 then inP p x.box else if x.kind=2 then ballQ x.at_ x.size p else if x.kind=3 then prismR x.box x.turn p
 else if x.kind=4 then inP (rturnP (invI x.turn) 1 (addP (subP p x.at_) (turnB x.turn x.box).lo)) x.box else if x.kind=5 then decide (p=x.at_)else false
def smlQ(a:Int):Prop:=-3000000≤a∧a≤3000000
theorem back_cd{s:Int}(hs:0≤s∧s < 48){b:Bx}(hb:smlB b)(hlt:b.lo.x < b.hi.x∧b.lo.y < b.hi.y∧b.lo.z < b.hi.z){q:Pt}(hq:smlQ q.x∧smlQ q.y∧smlQ q.z)
    (h:inP (rturnP (invI s) 1 q) b=true) {j:Int} (hj:0≤j∧j < 3):min (tcI s b.lo j) (tcI s b.hi j)≤cdP q j∧cdP q j < max (tcI s b.lo j) (tcI s b.hi j):=by
 have ha:=axI_in s j hs hj;have h1:=cd_in h (k:=axI s j) (by omega);have hit:isT (invI s)=true:=by unfold isT;rw[decide_eq_true (invI_rng hs)]
 rw[cd_r hit q (by omega)]at h1;have hr:=invI_rel hs hj;unfold rtI at h1;rw[hr.1,hr.2]at h1;have hl:=cd_sml hb.1 (axI s j);have hh:=cd_sml hb.2 (axI s j);have hlh:cdP b.lo (axI s j) < cdP b.hi (axI s j):=by
  unfold cdP
  split
  · omega
  · split <;> omega
 have hqq:-3000000≤cdP q j∧cdP q j≤3000000:=by
  unfold smlQ at hq;unfold cdP
  split
  · omega
  · split <;> omega
 unfold tcI;generalize cdP b.lo (axI s j)=u at *;generalize cdP b.hi (axI s j)=v at *;generalize cdP q j=z at *
 cases hn:ngI s j
 · rw[hn]at h1;simp only[Bool.false_eq_true,if_false]at h1 ⊢;omega
 · rw[hn]at h1;simp only[if_true]at h1 ⊢;unfold wrap64 at h1 ⊢;omega
theorem copy_in{s:Int}(hs:0≤s∧s < 48){b:Bx}(he:emptyB b=false)(hb:smlB b){a p:Pt}(ha:tinyP a)(hp:tinyP p)
    (h:inP (rturnP (invI s) 1 (addP (subP p a) (turnB s b).lo)) b=true):inP p ⟨a,addP a (subP (turnB s b).hi (turnB s b).lo)⟩=true:=by
 have hit:isT s=true:=by unfold isT;rw[decide_eq_true hs]
 have hsm:=(turnB_ne hit he hb).2;have hlt:=notEmpty he;have hq:smlQ (addP (subP p a) (turnB s b).lo).x∧smlQ (addP (subP p a) (turnB s b).lo).y∧smlQ (addP (subP p a) (turnB s b).lo).z:=by
  generalize (turnB s b)=c at hsm ⊢;unfold smlB smlP at hsm;unfold tinyP at ha hp;unfold addP subP wrap64 smlQ;simp only;omega
 have h0:=back_cd hs hb hlt hq h (j:=0) (by decide);have h1:=back_cd hs hb hlt hq h (j:=1) (by decide);have h2:=back_cd hs hb hlt hq h (j:=2) (by decide);have e:=turnB_def hit he;obtain⟨⟨⟨l0,l1,l2⟩,⟨u0,u1,u2⟩⟩,hc⟩:∃ c,turnB s b=c:=⟨_,rfl⟩;rw[hc]at h0 h1 h2 hsm e ⊢;simp only[Bx.mk.injEq,Pt.mk.injEq]at e;obtain⟨⟨e0,e1,e2⟩,e3,e4,e5⟩:=e;rw[← e0,← e3]at h0;rw[← e1,← e4]at h1;rw[← e2,← e5]at h2;rw[inP_iff];clear e0 e1 e2 e3 e4 e5 hc hq h;unfold smlB smlP at hsm;unfold tinyP at ha hp;unfold addP subP cdP wrap64 at *;simp only[if_pos,show ¬ (1:Int)=0 by decide,show ¬ (2:Int)=0 by decide,show ¬ (2:Int)=1 by decide,if_false]at *;omega
theorem changed_in{x:Ed}{d:Int}(h:ChkOk x d 256){p:Pt}(hp:inP p (cubeD d)=true)(hc:changedE x p=true):inP p (boundsE x d)=true:=by
 have hd:=h.hd;have hpw:=pow_le14 d hd;have hpt:=inCube_tiny hd hp;refine in_inter ?_ hp;obtain⟨k,hk⟩:∃ k,x.kind=k:=⟨_,rfl⟩;have hkr:=h.kind;unfold changedE at hc;unfold rawB;rw[hk]at hc hkr ⊢
 rcases (show k=1∨k=2∨k=3∨k=4∨k=5∨k=6∨k=7∨k=8 by omega)with e | e | e | e | e | e | e | e <;> subst e
 · exact hc
 · exact ball_in (inCube_tiny hd (h.at_ (by rw[hk];rfl))) hpt hc
 · have h1:prismR x.box x.turn p=true:=hc;unfold prismR at h1;rw[Bool.and_eq_true]at h1;exact h1.1
 · have hb:=h.box (by rw[hk];rfl);have ht:=h.turn;unfold isT at ht;rw[decide_eq_true_eq]at ht;exact copy_in ht hb.empty (hb.sml hpw.2) (inCube_tiny hd (h.at_ (by rw[hk];rfl))) hpt hc
 · have h1:decide (p=x.at_)=true:=hc;rw[decide_eq_true_eq]at h1;subst h1;have hz:=h.fill hk;show inP x.at_ (⟨subP x.at_ ⟨x.size - 1,x.size - 1,x.size - 1⟩,addP x.at_ ⟨x.size,x.size,x.size⟩⟩:Bx)=true;rw[inP_iff];unfold tinyP at hpt;unfold subP addP wrap64;simp only;omega
 · cases hc
 · cases hc
 · cases hc
theorem refBounds_4(x:Ed)(d:Int)(hd:2≤d∧d≤14)(hs:isT x.turn=true)(he:emptyB x.box=false)(hb:smlB x.box)(ha:smlP x.at_)(w:World):Calls Tryz.prog 26 #[.agg #[.int .i64 x.st.tick,.int .i64 x.st.clock,.int .i64 x.st.site,.int .i64 x.st.seq,.int .i64 4,.int .i64 x.box.lo.x,.int .i64 x.box.lo.y,.int .i64 x.box.lo.z,.int .i64 x.box.hi.x,.int .i64 x.box.hi.y,.int .i64 x.box.hi.z,.int .i64 x.at_.x,.int .i64 x.at_.y,.int .i64 x.at_.z,.int .i64 x.turn,.int .i64 x.cell,.int .i64 x.size],.int .i64 d] w fun e w'=>e = .returned (.agg #[.int .i64 (interB (targB x) (cubeD d)).lo.x,.int .i64 (interB (targB x) (cubeD d)).lo.y,.int .i64 (interB (targB x) (cubeD d)).lo.z,.int .i64 (interB (targB x) (cubeD d)).hi.x,.int .i64 (interB (targB x) (cubeD d)).hi.y,.int .i64 (interB (targB x) (cubeD d)).hi.z])∧Ext w w':=by
 have hm:=mixed;have hG:=near_old;obtain⟨W0,hW⟩:∃ W,W=(w.alloc (.cells #[.int .i64 x.st.tick,.int .i64 x.st.clock,.int .i64 x.st.site,.int .i64 x.st.seq,.int .i64 4,.int .i64 x.box.lo.x,.int .i64 x.box.lo.y,.int .i64 x.box.lo.z,.int .i64 x.box.hi.x,.int .i64 x.box.hi.y,.int .i64 x.box.hi.z,.int .i64 x.at_.x,.int .i64 x.at_.y,.int .i64 x.at_.z,.int .i64 x.turn,.int .i64 x.cell,.int .i64 x.size] 32)).alloc (.cells #[.int .i64 0,.int .i64 0,.int .i64 0,.int .i64 0,.int .i64 0,.int .i64 0] 25):=⟨_,rfl⟩;have HX:=Lib.hid (show Ext w W0 by rw[hW];exact((Ext.refl w).alloc _).alloc _);have H2:=Lib.hid (show Arr W0 w.heap.size 32 [.int .i64 x.st.tick,.int .i64 x.st.clock,.int .i64 x.st.site,.int .i64 x.st.seq,.int .i64 4,.int .i64 x.box.lo.x,.int .i64 x.box.lo.y,.int .i64 x.box.lo.z,.int .i64 x.box.hi.x,.int .i64 x.box.hi.y,.int .i64 x.box.hi.z,.int .i64 x.at_.x,.int .i64 x.at_.y,.int .i64 x.at_.z,.int .i64 x.turn,.int .i64 x.cell,.int .i64 x.size]by rw[hW];exact(Arr.new w 32 [.int .i64 x.st.tick,.int .i64 x.st.clock,.int .i64 x.st.site,.int .i64 x.st.seq,.int .i64 4,.int .i64 x.box.lo.x,.int .i64 x.box.lo.y,.int .i64 x.box.lo.z,.int .i64 x.box.hi.x,.int .i64 x.box.hi.y,.int .i64 x.box.hi.z,.int .i64 x.at_.x,.int .i64 x.at_.y,.int .i64 x.at_.z,.int .i64 x.turn,.int .i64 x.cell,.int .i64 x.size]).alloc _);have H4:=Lib.hid (show Arr W0 (w.heap.size+1) 25 [.int .i64 0,.int .i64 0,.int .i64 0,.int .i64 0,.int .i64 0,.int .i64 0]by rw[hW];have h:=Arr.new (w.alloc (.cells #[.int .i64 x.st.tick,.int .i64 x.st.clock,.int .i64 x.st.site,.int .i64 x.st.seq,.int .i64 4,.int .i64 x.box.lo.x,.int .i64 x.box.lo.y,.int .i64 x.box.lo.z,.int .i64 x.box.hi.x,.int .i64 x.box.hi.y,.int .i64 x.box.hi.z,.int .i64 x.at_.x,.int .i64 x.at_.y,.int .i64 x.at_.z,.int .i64 x.turn,.int .i64 x.cell,.int .i64 x.size] 32)) 25 [.int .i64 0,.int .i64 0,.int .i64 0,.int .i64 0,.int .i64 0,.int .i64 0];simp only[World.size_alloc_]at h;exact h);have HCC:=refcube_any d hd;unfold cubeD at HCC;have hsh:=shl_run d hd;unfold cubeD;obtain⟨S,hS⟩:∃ S:Int,(2:Int) ^ d.toNat=S:=⟨_,rfl⟩;have hw6:wrap64 ((2:Int) ^ d.toNat)=(2:Int) ^ d.toNat:=pow_w d hd;rw[hS]at hsh HCC ⊢;rw (occs:=.pos [2]) [hS]at hw6;clear hS;have HB:=Lib.hid (show ∀ W:World,Calls Tryz.prog 53 #[.agg #[.int .i64 x.st.tick,.int .i64 x.st.clock,.int .i64 x.st.site,.int .i64 x.st.seq,.int .i64 4,.int .i64 x.box.lo.x,.int .i64 x.box.lo.y,.int .i64 x.box.lo.z,.int .i64 x.box.hi.x,.int .i64 x.box.hi.y,.int .i64 x.box.hi.z,.int .i64 x.at_.x,.int .i64 x.at_.y,.int .i64 x.at_.z,.int .i64 x.turn,.int .i64 x.cell,.int .i64 x.size]] W fun e w'=>e = .returned (.agg #[.int .i64 (targB x).lo.x,.int .i64 (targB x).lo.y,.int .i64 (targB x).lo.z,.int .i64 (targB x).hi.x,.int .i64 (targB x).hi.y,.int .i64 (targB x).hi.z])∧Ext W w' from refTarget_any (⟨x.st,4,x.box,x.at_,x.turn,x.cell,x.size⟩:Ed) hs he hb ha);generalize targB x=r1 at HB ⊢;clear hs he hb ha;have HI:=Lib.hid (show ∀ W:World,Calls Tryz.prog 56 #[.agg #[.int .i64 r1.lo.x,.int .i64 r1.lo.y,.int .i64 r1.lo.z,.int .i64 r1.hi.x,.int .i64 r1.hi.y,.int .i64 r1.hi.z],.agg #[.int .i64 (cubeB S).lo.x,.int .i64 (cubeB S).lo.y,.int .i64 (cubeB S).lo.z,.int .i64 (cubeB S).hi.x,.int .i64 (cubeB S).hi.y,.int .i64 (cubeB S).hi.z]] W fun e w'=>e = .returned (.agg #[.int .i64 (interB r1 (cubeB S)).lo.x,.int .i64 (interB r1 (cubeB S)).lo.y,.int .i64 (interB r1 (cubeB S)).lo.z,.int .i64 (interB r1 (cubeB S)).hi.x,.int .i64 (interB r1 (cubeB S)).hi.y,.int .i64 (interB r1 (cubeB S)).hi.z])∧Ext W w' from refIntersect_any r1 (cubeB S));generalize interB r1 (cubeB S)=rb at HI ⊢;have HCU:=Lib.hid (show ∀ W:World,Calls Tryz.prog 57 #[.int .i64 d] W fun e w'=>e = .returned (.agg #[.int .i64 (cubeB S).lo.x,.int .i64 (cubeB S).lo.y,.int .i64 (cubeB S).lo.z,.int .i64 (cubeB S).hi.x,.int .i64 (cubeB S).hi.y,.int .i64 (cubeB S).hi.z])∧Ext W w' from HCC);clear HCC
 go_enter Tryz.func26,Tryz.ntmps26
 go_upto_region 1 with fail
 rw[← hW];clear hW
 go_upto_region 2 with(first
  | (refine wpList_store_blk2 25 (.tmp 5) (.tmp 7) rfl rfl (Arr.new W0 25 [.int .i64 0,.int .i64 0,.int .i64 0,.int .i64 0,.int .i64 0,.int .i64 0]) [.int .i64 0,.int .i64 0,.int .i64 0,.int .i64 0,.int .i64 0,.int .i64 0] rfl rfl (by kernel_rfl) rfl rfl rfl ?_;intro W1 hW;have Q2_5:=aLt H2;have Q4_5:=aLt H4;have Qw_5:=Lib.hid HX.out.size;replace HX:=xNew HX hW;replace H2:=aNew H2 hW;replace H4:=aNew H4 hW;have H5:=nNew hW;clear hW))
 obtain⟨b5,hb5⟩:∃ n,n=W0.heap.size:=⟨_,rfl⟩;rw[← hb5]at H5 Q2_5 Q4_5 Qw_5 ⊢;clear hb5;have c2:=H2.out.cell;have l2:=H2.out.lt
 go_upto_region 3 with fail
 clear c2 l2
 go_upto_region 4 with fail
 go_upto_region 6 with fail
 go_upto_region 8 with fail
 go_upto_region 9 with fail
 go_upto_region 13 with(first
  | (refine ldB 32 2 H2.out Tryz.underlying32 ?_) | (refine ldB 32 2 (H2.out.alloc _) Tryz.underlying32 ?_) | (refine ldB 32 2 ((H2.out.alloc _).alloc _) Tryz.underlying32 ?_)
  | (go_at_call 53;refine(HB.out _).mono ?_;rintro e W2 ⟨rfl,hx⟩;replace HX:=xEx HX hx;replace H2:=aEx H2 hx;replace H4:=aEx H4 hx;replace H5:=aEx H5 hx;clear hx)
  | (refine wpList_store_blk2 25 (.tmp 5) (.tmp 25) rfl rfl H5.out [.int .i64 r1.lo.x,.int .i64 r1.lo.y,.int .i64 r1.lo.z,.int .i64 r1.hi.x,.int .i64 r1.hi.y,.int .i64 r1.hi.z] rfl rfl (by kernel_rfl) rfl rfl rfl ?_;intro W3 hW;replace HX:=xRow HX hW (by have:=Qw_5.out;omega);replace H2:=aRow H2 hW (by have:=Q2_5.out;omega);replace H4:=aRow H4 hW (by have:=Q4_5.out;omega);replace H5:=nRow H5 hW;clear hW))
 have HN0:=Lib.hid (fun W:World=>HCU.out W);have HN1:=Lib.hid (fun W:World=>HI.out W);have c5:=H5.out.cell;have l5:=H5.out.lt
 (try simp only[Act.put,List.setIfInBounds_toArray,List.set_cons_zero,List.set_cons_succ])
 refine wp_region_near_tail 4 (by assumption) (by kernel_rfl) ?_;simp only[List.take_succ_cons,List.take_zero,List.drop_succ_cons,List.drop_zero]
 repeat (go_big_quiet_step ((first | (go_at_call 57;with_reducible exact near_call (HN0.out _)) | (go_at_call 56;with_reducible exact near_call (HN1.out _)))))
 refine wpQuiet_nil ?_;intro w1 hw1;have hy:=Ext.of_near hw1;clear hw1;replace HX:=xEx HX hy;replace H2:=aEx H2 hy;replace H4:=aEx H4 hy;replace H5:=aEx H5 hy;clear hy c5 l5
 go_wp2_with (first
  | (refine wpList_store_blk2 25 (.tmp 4) (.tmp 51) rfl rfl H4.out [.int .i64 rb.lo.x,.int .i64 rb.lo.y,.int .i64 rb.lo.z,.int .i64 rb.hi.x,.int .i64 rb.hi.y,.int .i64 rb.hi.z] rfl rfl (by kernel_rfl) rfl rfl rfl ?_;intro W4 hW;replace HX:=xRow HX hW (by omega);replace H2:=aRow H2 hW (by omega);replace H5:=aRow H5 hW (by have:=Q4_5.out;omega);replace H4:=nRow H4 hW;clear hW))
 refine bodyPost_ret (v:=.agg #[.int .i64 rb.lo.x,.int .i64 rb.lo.y,.int .i64 rb.lo.z,.int .i64 rb.hi.x,.int .i64 rb.hi.y,.int .i64 rb.hi.z]) ?_ rfl ⟨rfl,HX.out⟩;exact results_cell_row Tryz.results26 _ _ _ _ _ _ _ rfl H4.out Tryz.underlying25 rfl (by kernel_rfl)
theorem refBounds_5(x:Ed)(d:Int)(hd:2≤d∧d≤14)(hz:1≤x.size∧x.size≤32768)(w:World):Calls Tryz.prog 26 #[.agg #[.int .i64 x.st.tick,.int .i64 x.st.clock,.int .i64 x.st.site,.int .i64 x.st.seq,.int .i64 5,.int .i64 x.box.lo.x,.int .i64 x.box.lo.y,.int .i64 x.box.lo.z,.int .i64 x.box.hi.x,.int .i64 x.box.hi.y,.int .i64 x.box.hi.z,.int .i64 x.at_.x,.int .i64 x.at_.y,.int .i64 x.at_.z,.int .i64 x.turn,.int .i64 x.cell,.int .i64 x.size],.int .i64 d] w fun e w'=>e = .returned (.agg #[.int .i64 (interB (⟨subP x.at_ ⟨x.size - 1,x.size - 1,x.size - 1⟩,addP x.at_ ⟨x.size,x.size,x.size⟩⟩:Bx) (cubeD d)).lo.x,.int .i64 (interB (⟨subP x.at_ ⟨x.size - 1,x.size - 1,x.size - 1⟩,addP x.at_ ⟨x.size,x.size,x.size⟩⟩:Bx) (cubeD d)).lo.y,.int .i64 (interB (⟨subP x.at_ ⟨x.size - 1,x.size - 1,x.size - 1⟩,addP x.at_ ⟨x.size,x.size,x.size⟩⟩:Bx) (cubeD d)).lo.z,.int .i64 (interB (⟨subP x.at_ ⟨x.size - 1,x.size - 1,x.size - 1⟩,addP x.at_ ⟨x.size,x.size,x.size⟩⟩:Bx) (cubeD d)).hi.x,.int .i64 (interB (⟨subP x.at_ ⟨x.size - 1,x.size - 1,x.size - 1⟩,addP x.at_ ⟨x.size,x.size,x.size⟩⟩:Bx) (cubeD d)).hi.y,.int .i64 (interB (⟨subP x.at_ ⟨x.size - 1,x.size - 1,x.size - 1⟩,addP x.at_ ⟨x.size,x.size,x.size⟩⟩:Bx) (cubeD d)).hi.z])∧Ext w w':=by
 have hm:=mixed;have hG:=near_old;obtain⟨W0,hW⟩:∃ W,W=(w.alloc (.cells #[.int .i64 x.st.tick,.int .i64 x.st.clock,.int .i64 x.st.site,.int .i64 x.st.seq,.int .i64 5,.int .i64 x.box.lo.x,.int .i64 x.box.lo.y,.int .i64 x.box.lo.z,.int .i64 x.box.hi.x,.int .i64 x.box.hi.y,.int .i64 x.box.hi.z,.int .i64 x.at_.x,.int .i64 x.at_.y,.int .i64 x.at_.z,.int .i64 x.turn,.int .i64 x.cell,.int .i64 x.size] 32)).alloc (.cells #[.int .i64 0,.int .i64 0,.int .i64 0,.int .i64 0,.int .i64 0,.int .i64 0] 25):=⟨_,rfl⟩;have HX:=Lib.hid (show Ext w W0 by rw[hW];exact((Ext.refl w).alloc _).alloc _);have H2:=Lib.hid (show Arr W0 w.heap.size 32 [.int .i64 x.st.tick,.int .i64 x.st.clock,.int .i64 x.st.site,.int .i64 x.st.seq,.int .i64 5,.int .i64 x.box.lo.x,.int .i64 x.box.lo.y,.int .i64 x.box.lo.z,.int .i64 x.box.hi.x,.int .i64 x.box.hi.y,.int .i64 x.box.hi.z,.int .i64 x.at_.x,.int .i64 x.at_.y,.int .i64 x.at_.z,.int .i64 x.turn,.int .i64 x.cell,.int .i64 x.size]by rw[hW];exact(Arr.new w 32 [.int .i64 x.st.tick,.int .i64 x.st.clock,.int .i64 x.st.site,.int .i64 x.st.seq,.int .i64 5,.int .i64 x.box.lo.x,.int .i64 x.box.lo.y,.int .i64 x.box.lo.z,.int .i64 x.box.hi.x,.int .i64 x.box.hi.y,.int .i64 x.box.hi.z,.int .i64 x.at_.x,.int .i64 x.at_.y,.int .i64 x.at_.z,.int .i64 x.turn,.int .i64 x.cell,.int .i64 x.size]).alloc _);have H4:=Lib.hid (show Arr W0 (w.heap.size+1) 25 [.int .i64 0,.int .i64 0,.int .i64 0,.int .i64 0,.int .i64 0,.int .i64 0]by rw[hW];have h:=Arr.new (w.alloc (.cells #[.int .i64 x.st.tick,.int .i64 x.st.clock,.int .i64 x.st.site,.int .i64 x.st.seq,.int .i64 5,.int .i64 x.box.lo.x,.int .i64 x.box.lo.y,.int .i64 x.box.lo.z,.int .i64 x.box.hi.x,.int .i64 x.box.hi.y,.int .i64 x.box.hi.z,.int .i64 x.at_.x,.int .i64 x.at_.y,.int .i64 x.at_.z,.int .i64 x.turn,.int .i64 x.cell,.int .i64 x.size] 32)) 25 [.int .i64 0,.int .i64 0,.int .i64 0,.int .i64 0,.int .i64 0,.int .i64 0];simp only[World.size_alloc_]at h;exact h);have HCC:=refcube_any d hd;unfold cubeD at HCC;have hsh:=shl_run d hd;unfold cubeD;obtain⟨S,hS⟩:∃ S:Int,(2:Int) ^ d.toNat=S:=⟨_,rfl⟩;have hw6:wrap64 ((2:Int) ^ d.toNat)=(2:Int) ^ d.toNat:=pow_w d hd;rw[hS]at hsh HCC ⊢;rw (occs:=.pos [2]) [hS]at hw6;clear hS;have HS:=Lib.hid (show ∀ W:World,Calls Tryz.prog 54 #[.agg #[.int .i64 x.at_.x,.int .i64 x.at_.y,.int .i64 x.at_.z],.agg #[.int .i64 (x.size - 1),.int .i64 (x.size - 1),.int .i64 (x.size - 1)]] W fun e w'=>e = .returned (.agg #[.int .i64 (subP x.at_ ⟨x.size - 1,x.size - 1,x.size - 1⟩).x,.int .i64 (subP x.at_ ⟨x.size - 1,x.size - 1,x.size - 1⟩).y,.int .i64 (subP x.at_ ⟨x.size - 1,x.size - 1,x.size - 1⟩).z])∧Ext W w' from refSub_any x.at_ ⟨x.size - 1,x.size - 1,x.size - 1⟩);have HA:=Lib.hid (show ∀ W:World,Calls Tryz.prog 55 #[.agg #[.int .i64 x.at_.x,.int .i64 x.at_.y,.int .i64 x.at_.z],.agg #[.int .i64 x.size,.int .i64 x.size,.int .i64 x.size]] W fun e w'=>e = .returned (.agg #[.int .i64 (addP x.at_ ⟨x.size,x.size,x.size⟩).x,.int .i64 (addP x.at_ ⟨x.size,x.size,x.size⟩).y,.int .i64 (addP x.at_ ⟨x.size,x.size,x.size⟩).z])∧Ext W w' from rAdd_any x.at_ ⟨x.size,x.size,x.size⟩);generalize subP x.at_ ⟨x.size - 1,x.size - 1,x.size - 1⟩=q1 at HS ⊢;generalize addP x.at_ ⟨x.size,x.size,x.size⟩=q2 at HA ⊢;have HI:=Lib.hid (show ∀ W:World,Calls Tryz.prog 56 #[.agg #[.int .i64 q1.x,.int .i64 q1.y,.int .i64 q1.z,.int .i64 q2.x,.int .i64 q2.y,.int .i64 q2.z],.agg #[.int .i64 (cubeB S).lo.x,.int .i64 (cubeB S).lo.y,.int .i64 (cubeB S).lo.z,.int .i64 (cubeB S).hi.x,.int .i64 (cubeB S).hi.y,.int .i64 (cubeB S).hi.z]] W fun e w'=>e = .returned (.agg #[.int .i64 (interB (⟨q1,q2⟩:Bx) (cubeB S)).lo.x,.int .i64 (interB (⟨q1,q2⟩:Bx) (cubeB S)).lo.y,.int .i64 (interB (⟨q1,q2⟩:Bx) (cubeB S)).lo.z,.int .i64 (interB (⟨q1,q2⟩:Bx) (cubeB S)).hi.x,.int .i64 (interB (⟨q1,q2⟩:Bx) (cubeB S)).hi.y,.int .i64 (interB (⟨q1,q2⟩:Bx) (cubeB S)).hi.z])∧Ext W w' from refIntersect_any (⟨q1,q2⟩:Bx) (cubeB S));generalize interB (⟨q1,q2⟩:Bx) (cubeB S)=rb at HI ⊢;have HCU:=Lib.hid (show ∀ W:World,Calls Tryz.prog 57 #[.int .i64 d] W fun e w'=>e = .returned (.agg #[.int .i64 (cubeB S).lo.x,.int .i64 (cubeB S).lo.y,.int .i64 (cubeB S).lo.z,.int .i64 (cubeB S).hi.x,.int .i64 (cubeB S).hi.y,.int .i64 (cubeB S).hi.z])∧Ext W w' from HCC);clear HCC
 go_enter Tryz.func26,Tryz.ntmps26
 go_upto_region 1 with fail
 rw[← hW];clear hW
 go_upto_region 2 with(first
  | (refine wpList_store_blk2 25 (.tmp 5) (.tmp 7) rfl rfl (Arr.new W0 25 [.int .i64 0,.int .i64 0,.int .i64 0,.int .i64 0,.int .i64 0,.int .i64 0]) [.int .i64 0,.int .i64 0,.int .i64 0,.int .i64 0,.int .i64 0,.int .i64 0] rfl rfl (by kernel_rfl) rfl rfl rfl ?_;intro W1 hW;have Q2_5:=aLt H2;have Q4_5:=aLt H4;have Qw_5:=Lib.hid HX.out.size;replace HX:=xNew HX hW;replace H2:=aNew H2 hW;replace H4:=aNew H4 hW;have H5:=nNew hW;clear hW))
 obtain⟨b5,hb5⟩:∃ n,n=W0.heap.size:=⟨_,rfl⟩;rw[← hb5]at H5 Q2_5 Q4_5 Qw_5 ⊢;clear hb5;have c2:=H2.out.cell;have l2:=H2.out.lt
 go_upto_region 3 with fail
 clear c2 l2
 go_upto_region 4 with fail
 go_upto_region 6 with fail
 go_upto_region 8 with fail
 go_upto_region 10 with fail
 go_upto_region 11 with fail
 have c2:=H2.out.cell;have l2:=H2.out.lt
 go_upto_region 12 with fail
 clear c2 l2;have HN0:=Lib.hid (fun W:World=>HS.out W);have HN1:=Lib.hid (fun W:World=>HA.out W);have c2:=H2.out.cell;have l2:=H2.out.lt
 (try simp only[Act.put,List.setIfInBounds_toArray,List.set_cons_zero,List.set_cons_succ])
 refine wp_region_near_tail 18 (by assumption) (by kernel_rfl) ?_;simp only[List.take_succ_cons,List.take_zero,List.drop_succ_cons,List.drop_zero]
 repeat (go_big_quiet_step ((first | (go_at_call 54;with_reducible exact near_call (HN0.out _)) | (go_at_call 55;with_reducible exact near_call (HN1.out _)))))
 refine wpQuiet_nil ?_;intro w1 hw1;have hy:=Ext.of_near hw1;clear hw1;replace HX:=xEx HX hy;replace H2:=aEx H2 hy;replace H4:=aEx H4 hy;replace H5:=aEx H5 hy;clear hy c2 l2
 go_upto_region 13 with(first
  | (refine wpList_store_blk2 25 (.tmp 5) (.tmp 47) rfl rfl H5.out [.int .i64 q1.x,.int .i64 q1.y,.int .i64 q1.z,.int .i64 q2.x,.int .i64 q2.y,.int .i64 q2.z] rfl rfl (by kernel_rfl) rfl rfl rfl ?_;intro W2 hW;replace HX:=xRow HX hW (by have:=Qw_5.out;omega);replace H2:=aRow H2 hW (by have:=Q2_5.out;omega);replace H4:=aRow H4 hW (by have:=Q4_5.out;omega);replace H5:=nRow H5 hW;clear hW))
 have HN0:=Lib.hid (fun W:World=>HCU.out W);have HN1:=Lib.hid (fun W:World=>HI.out W);have c5:=H5.out.cell;have l5:=H5.out.lt
 (try simp only[Act.put,List.setIfInBounds_toArray,List.set_cons_zero,List.set_cons_succ])
 refine wp_region_near_tail 4 (by assumption) (by kernel_rfl) ?_;simp only[List.take_succ_cons,List.take_zero,List.drop_succ_cons,List.drop_zero]
 repeat (go_big_quiet_step ((first | (go_at_call 57;with_reducible exact near_call (HN0.out _)) | (go_at_call 56;with_reducible exact near_call (HN1.out _)))))
 refine wpQuiet_nil ?_;intro w1 hw1;have hy:=Ext.of_near hw1;clear hw1;replace HX:=xEx HX hy;replace H2:=aEx H2 hy;replace H4:=aEx H4 hy;replace H5:=aEx H5 hy;clear hy c5 l5
 go_wp2_with (first
  | (refine wpList_store_blk2 25 (.tmp 4) (.tmp 51) rfl rfl H4.out [.int .i64 rb.lo.x,.int .i64 rb.lo.y,.int .i64 rb.lo.z,.int .i64 rb.hi.x,.int .i64 rb.hi.y,.int .i64 rb.hi.z] rfl rfl (by kernel_rfl) rfl rfl rfl ?_;intro W3 hW;replace HX:=xRow HX hW (by omega);replace H2:=aRow H2 hW (by omega);replace H5:=aRow H5 hW (by have:=Q4_5.out;omega);replace H4:=nRow H4 hW;clear hW))
 refine bodyPost_ret (v:=.agg #[.int .i64 rb.lo.x,.int .i64 rb.lo.y,.int .i64 rb.lo.z,.int .i64 rb.hi.x,.int .i64 rb.hi.y,.int .i64 rb.hi.z]) ?_ rfl ⟨rfl,HX.out⟩;exact results_cell_row Tryz.results26 _ _ _ _ _ _ _ rfl H4.out Tryz.underlying25 rfl (by kernel_rfl)
theorem eff_lt{g:Gr}{x:Ed}{d m:Int}{r:List Pt}(hft:fits x)(hc:checkE x d m=0)(hm:1≤m)(hg:∀ v,v∈g.cells→v < m)(hv:validG g=true):∀ p,0≤effF x (matF g) r p∧effF x (matF g) r p < m:=by
 intro p;have hk:=chk_ok hft hc;have hcell:=hk.cell;have hall:∀ q,0≤matF g q∧matF g q < m:=fun q=>by
  cases hq:inP q g.box
  · unfold matF;rw[show fld g q=none from fld_out hq];exact⟨by decide,by show(0:Int) < m;omega⟩
  · refine⟨(matF_rng hv hq).1,?_⟩;obtain⟨sx,sy,sz,G⟩:=good_of hv;obtain⟨v,h1,h2⟩:=G.fld_in hq;unfold matF;rw[h1];exact hg v (List.mem_of_getElem? h2)
 unfold effF newE
 split
 · split
   · exact hall _
   · omega
 · exact hall _
theorem hit_in{x:Ed}{d:Int}(h:ChkOk x d 256){F:Pt→Option Int}{c:Int}{r:List Pt}(hr:x.kind=5→IsReg F c x.at_ r∧(r.length:Int)≤x.size){p:Pt}(hp:inP p (cubeD d)=true)(hc:hitE x r p=true):inP p (boundsE x d)=true:=by
 have hpt:=inCube_tiny h.hd hp;obtain⟨k,hk⟩:∃ k,x.kind=k:=⟨_,rfl⟩;have hkr:=h.kind
 by_cases h4:x.kind=4∨x.kind=5
 · refine in_inter ?_ hp
   rcases h4 with h4 | h4
   · have h1:inP p (tgtB x.turn x.box x.at_)=true:=by unfold hitE at hc;rw[h4]at hc;exact hc
     unfold rawB;rw[h4];exact h1
   · have h1:decide (p∈r)=true:=by unfold hitE at hc;rw[h4]at hc;exact hc
     rw[decide_eq_true_eq]at h1;have hat:inP x.at_ (cubeB (2 ^ d.toNat))=true:=h.at_ (by rw[h4];rfl);have hta:=inCube_tiny h.hd hat;obtain⟨hr1,hr2⟩:=hr h4;have hn:=reg_near hr1 h1 hr2;have hz:=h.fill h4;unfold rawB;rw[h4];show inP p (⟨subP x.at_ ⟨x.size - 1,x.size - 1,x.size - 1⟩,addP x.at_ ⟨x.size,x.size,x.size⟩⟩:Bx)=true;rw[inP_iff];unfold tinyP at hta;unfold subP addP wrap64;simp only;omega
 · refine changed_in h hp ?_;unfold hitE at hc;unfold changedE;rw[hk]at hc hkr h4 ⊢
   rcases (show k=1∨k=2∨k=3∨k=6∨k=7∨k=8 by omega)with e | e | e | e | e | e <;> subst e <;> exact hc
theorem diff_in{x:Ed}{d:Int}(h:ChkOk x d 256){F:Pt→Option Int}{c:Int}{r:List Pt}(hr:x.kind=5→IsReg F c x.at_ r∧(r.length:Int)≤x.size){f:Pt→Int}{y:Chg}(hy:y∈diffL (cubeD d) f (effF x f r)):inP y.at_ (boundsE x d)=true:=by
 obtain⟨h1,h2,h3,h4⟩:=diffL_mem.1 hy;refine hit_in h hr h1 ?_
 cases hq:hitE x r y.at_
 · unfold effF at h4;rw[hq]at h4;exact absurd rfl h4
 · rfl
theorem ChkOk.wide{x:Ed}{d m:Int}(h:ChkOk x d m):ChkOk x d 256:=⟨h.hd,by decide,h.formed,h.kind,h.box,h.at_,h.turn,by have:=h.cell;have:=h.hm;omega,h.size⟩
theorem ok_in{g:Gr}{x:Ed}{d m:Int}{l:List Chg}{r:List Pt}(hft:fits x)(h:EdOk g x d m l r){y:Chg}(hy:y∈l):inP y.at_ (boundsE x d)=true:=by
 rw[h.eq]at hy
 by_cases h5:x.kind=5
 · obtain⟨v,_,h1,h2⟩:=h.reg h5;exact diff_in (chk_ok hft h.chk).wide (fun _=>⟨h1,h2⟩) hy
 · exact diff_in (F:=fld g) (c:=0) (chk_ok hft h.chk).wide (fun e=>absurd e h5) hy
theorem ok_facts{g:Gr}{x:Ed}{d m:Int}{l:List Chg}{r:List Pt}(hft:fits x)(hm:1≤m)(hg:∀ v,v∈g.cells→v < m)(hv:validG g=true)(h:EdOk g x d m l r){y:Chg}(hy:y∈l):inP y.at_ (cubeD d)=true∧y.old=matF g y.at_∧0≤y.new∧y.new < m:=by
 rw[h.eq]at hy;obtain⟨h1,h2,h3,_⟩:=diffL_mem.1 hy;have:=eff_lt (r:=r) hft h.chk hm hg hv y.at_;rw[← h3]at this;exact⟨h1,h2,this⟩
theorem EdOk.tidy{g:Gr}{x:Ed}{d m:Int}{l:List Chg}{r:List Pt}(h:EdOk g x d m l r):tidyC l:=by rw[h.eq];exact diffL_tidy ..
theorem refBounds_any(x:Ed)(d:Int)(h:ChkOk x d 256)(w:World):Calls Tryz.prog 26 #[.agg #[.int .i64 x.st.tick,.int .i64 x.st.clock,.int .i64 x.st.site,.int .i64 x.st.seq,.int .i64 x.kind,.int .i64 x.box.lo.x,.int .i64 x.box.lo.y,.int .i64 x.box.lo.z,.int .i64 x.box.hi.x,.int .i64 x.box.hi.y,.int .i64 x.box.hi.z,.int .i64 x.at_.x,.int .i64 x.at_.y,.int .i64 x.at_.z,.int .i64 x.turn,.int .i64 x.cell,.int .i64 x.size],.int .i64 d] w fun e w'=>e = .returned (.agg #[.int .i64 (boundsE x d).lo.x,.int .i64 (boundsE x d).lo.y,.int .i64 (boundsE x d).lo.z,.int .i64 (boundsE x d).hi.x,.int .i64 (boundsE x d).hi.y,.int .i64 (boundsE x d).hi.z])∧Ext w w':=by
 have hd:=h.hd;have hk:=h.kind;obtain⟨k,hkk⟩:∃ k,x.kind=k:=⟨_,rfl⟩;rw[hkk]at hk;have hpw:=pow_le14 d hd
 rcases (show k=1∨k=2∨k=3∨k=4∨k=5∨k=6∨k=7∨k=8 by omega)with e | e | e | e | e | e | e | e <;> subst e <;> unfold boundsE rawB <;> rw[hkk]
 · exact refBounds_1 x d hd w
 · exact refBounds_2 x d hd w
 · exact refBounds_3 x d hd w
 · have hb:=h.box (by rw[hkk];rfl);exact refBounds_4 x d hd h.turn hb.empty (hb.sml hpw.2) (inCube_sml hd (h.at_ (by rw[hkk];rfl))) w
 · exact refBounds_5 x d hd (h.fill hkk) w
 · exact refBounds_n x 6 d hd (by decide) w
 · exact refBounds_n x 7 d hd (by decide) w
 · exact refBounds_n x 8 d hd (by decide) w
end Go.Proofs.YtoecbicdahbccaaGreatDoor
