/- A part of the walk of the layer of apply: contracts and plain laws that a row's text leans on. -/
import Derived.Test.YtoecbicdahbccaaGreatDoorZa16
set_option maxRecDepth 100000
set_option maxHeartbeats 16000000
namespace Go.Proofs.YtoecbicdahbccaaGreatDoor
open Go Go.RowKit
def leastE(x:Ed):Int:=if x.kind=2∨x.kind=5∨x.kind=6∨x.kind=8 then 1 else if x.kind=7 then x.st.tick else 0
def mostE(x:Ed):Int:=if x.kind=2 then 4096 else if x.kind=5 then 32768 else if x.kind=6∨x.kind=8 then x.st.seq - 1 else if x.kind=7 then 4000 else 0
theorem ret2_int{a b c d:Int}(h:a=c)(k:b=d):Ending.returned (.tuple #[.int .i64 a,.int .i64 b]) = .returned (.tuple #[.int .i64 c,.int .i64 d]):=by rw[h,k]
theorem sizes_any(x:Ed)(w:World)(h1:1≤x.st.seq)(h2:x.st.seq≤1000):
    Calls Tryz.prog 71 #[.agg #[.int .i64 x.st.tick,.int .i64 x.st.clock,.int .i64 x.st.site,.int .i64 x.st.seq,.int .i64 x.kind,.int .i64 x.box.lo.x,.int .i64 x.box.lo.y,.int .i64 x.box.lo.z,.int .i64 x.box.hi.x,.int .i64 x.box.hi.y,.int .i64 x.box.hi.z,.int .i64 x.at_.x,.int .i64 x.at_.y,.int .i64 x.at_.z,.int .i64 x.turn,.int .i64 x.cell,.int .i64 x.size]] w fun e w'=>e = .returned (.tuple #[.int .i64 (leastE x),.int .i64 (mostE x)])∧Ext w w':=by
 have hm:=mixed;have hG:=near_old;obtain⟨st,kind,box,at_,turn,cell,size⟩:=x
 by_cases hk:kind=2∨kind=5∨kind=6∨kind=8∨kind=7
 · rcases hk with rfl | rfl | rfl | rfl | rfl
   all_goals
    go_enter Tryz.func71,Tryz.ntmps71
    go_wp2
    first
     | (go_ret2
        exact⟨ret2_int (by simp[leastE]) (by simp[mostE]),byX⟩)
     | (refine wp_region_near (by assumption) (by kernel_rfl) ?_
        repeat (go_big_quiet_step (fail))
        refine wpQuiet_nil ?_;intro w1 hw1;have hy:=Ext.of_near hw1;clear hw1;obtain⟨xc,xf,xl,xe,xn,xm⟩:=hy.look;go_wp2
        go_ret2
        exact⟨ret2_int (by simp[leastE]) (by simp[mostE]),byX⟩)
 · have HK:=Lib.hid hk;have k2:(kind == 2)=false:=beq_eq_false_iff_ne.2 (by omega);have k5:(kind == 5)=false:=beq_eq_false_iff_ne.2 (by omega);have k6:(kind == 6)=false:=beq_eq_false_iff_ne.2 (by omega);have k8:(kind == 8)=false:=beq_eq_false_iff_ne.2 (by omega);have k7:(kind == 7)=false:=beq_eq_false_iff_ne.2 (by omega);clear hk
   go_enter Tryz.func71,Tryz.ntmps71
   go_wp2
   go_ret2
   have hk:=HK.out;exact⟨ret2_int (by unfold leastE;rw[if_neg (by simp only;omega),if_neg (by simp only;omega)]) (by unfold mostE;rw[if_neg (by simp only;omega),if_neg (by simp only;omega),if_neg (by simp only;omega),if_neg (by simp only;omega)]),byX⟩
def cubeB(s:Int):Bx:=⟨⟨0,0,0⟩,⟨s,s,s⟩⟩
def lastP(b:Bx):Pt:=addP b.hi (scaleP ⟨1,1,1⟩ (-1))
def badE(x:Ed)(s m:Int):Bool:=(usesF x.kind 1 && (emptyB x.box || (!inP x.box.lo (cubeB s) || !inP (lastP x.box) (cubeB s)))) || ((usesF x.kind 2 && !inP x.at_ (cubeB s)) || (!decide (0≤x.turn∧x.turn≤47) || (!decide (0≤x.cell∧x.cell≤m - 1) || !decide (leastE x≤x.size∧x.size≤mostE x))))
def checkE(x:Ed)(d m:Int):Int:=if decide (2≤d∧d≤14)then(if decide (1≤m∧m≤256) && formedE x then(if badE x (2 ^ d.toNat) m then 1 else 0)else 1)else 13
theorem shl_run(d:Int)(h:2≤d∧d≤14)(w:World):(Op.shift .shl .i64 1 .i64 d).run Tryz.prog w = .ok (.int .i64 (2 ^ d.toNat)) w:=by
 obtain rfl | rfl | rfl | rfl | rfl | rfl | rfl | rfl | rfl | rfl | rfl | rfl | rfl:d=2∨d=3∨d=4∨d=5∨d=6∨d=7∨d=8∨d=9∨d=10∨d=11∨d=12∨d=13∨d=14:=by omega
 all_goals kernel_rfl
theorem badE_def(x:Ed)(s m:Int):badE x s m=((usesF x.kind 1 && (emptyB x.box || (!inP x.box.lo (cubeB s) || !inP (lastP x.box) (cubeB s)))) || ((usesF x.kind 2 && !inP x.at_ (cubeB s)) || (!decide (0≤x.turn∧x.turn≤47) || (!decide (0≤x.cell∧x.cell≤m - 1) || !decide (leastE x≤x.size∧x.size≤mostE x))))):=rfl
theorem Check_out(x:Ed)(d m:Int)(w:World)(hR:RowsIn w)(h:¬ (2≤d∧d≤14)∨¬ (1≤m∧m≤256)∨formedE x=false):
    Calls Tryz.prog 35 #[.agg #[.int .i64 x.st.tick,.int .i64 x.st.clock,.int .i64 x.st.site,.int .i64 x.st.seq,.int .i64 x.kind,.int .i64 x.box.lo.x,.int .i64 x.box.lo.y,.int .i64 x.box.lo.z,.int .i64 x.box.hi.x,.int .i64 x.box.hi.y,.int .i64 x.box.hi.z,.int .i64 x.at_.x,.int .i64 x.at_.y,.int .i64 x.at_.z,.int .i64 x.turn,.int .i64 x.cell,.int .i64 x.size],.int .i64 d,.int .i64 m] w fun e w'=>e = .returned (.int .i64 (checkE x d m))∧Ext w w':=by
 have hF:=fun(w':World) (hx:Ext w w')=>Formed_any x w' (hR.ext hx);have HD:=Lib.hid (withinE_is d 2 14 _ rfl);have HM:=Lib.hid (withinE_is m 1 256 _ rfl);have HC:checkE x d m=if decide (2≤d∧d≤14)then(if decide (1≤m∧m≤256) && formedE x then(if badE x (2 ^ d.toNat) m then 1 else 0)else 1)else 13:=rfl
 rw[HC];clear HC
 cases hd:decide (2≤d∧d≤14)
 · rw[hd]at HD;clear h hd hF HM
   go_enter Tryz.func35,Tryz.ntmps35
   go_wp2_with (first | (go_at_call 67;refine(HD.out _).mono ?_;rintro e wx ⟨rfl,xx⟩;obtain⟨xc,xf,xl,xe,xn,xm⟩:=xx.look;have xz:=xx.size;(try simp only[World.size_alloc_]at xz);(try (have qh:=xx.one (b:=w.heap.size) (by(try simp only[World.size_alloc_]);omega);obtain⟨qc,qf,ql,qe,qn,qm⟩:=qh));(try (have qh:=xx.one (b:=w.heap.size+1) (by(try simp only[World.size_alloc_]);omega);obtain⟨qc,qf,ql,qe,qn,qm⟩:=qh));(try (have qh:=xx.one (b:=w.heap.size+1+1) (by(try simp only[World.size_alloc_]);omega);obtain⟨qc,qf,ql,qe,qn,qm⟩:=qh));(try (have qh:=xx.one (b:=w.heap.size+1+1+1) (by(try simp only[World.size_alloc_]);omega);obtain⟨qc,qf,ql,qe,qn,qm⟩:=qh))))
   go_ret
   exact⟨ret_int rfl,byX⟩
 · cases hm:decide (1≤m∧m≤256)
   · rw[hd]at HD;rw[hm]at HM;clear h hd hF hm
     go_enter Tryz.func35,Tryz.ntmps35
     go_wp2_with fail
     ((refine(HD.out _).mono ?_);rintro e wx ⟨rfl,xx⟩;obtain⟨xc,xf,xl,xe,xn,xm⟩:=xx.look;have xz:=xx.size;(try simp only[World.size_alloc_]at xz);(try (have qh:=xx.one (b:=w.heap.size) (by(try simp only[World.size_alloc_]);omega);obtain⟨qc,qf,ql,qe,qn,qm⟩:=qh));(try (have qh:=xx.one (b:=w.heap.size+1) (by(try simp only[World.size_alloc_]);omega);obtain⟨qc,qf,ql,qe,qn,qm⟩:=qh));(try (have qh:=xx.one (b:=w.heap.size+1+1) (by(try simp only[World.size_alloc_]);omega);obtain⟨qc,qf,ql,qe,qn,qm⟩:=qh));(try (have qh:=xx.one (b:=w.heap.size+1+1+1) (by(try simp only[World.size_alloc_]);omega);obtain⟨qc,qf,ql,qe,qn,qm⟩:=qh)))
     go_wp2_with fail
     ((refine(HM.out _).mono ?_);rintro e wx ⟨rfl,xx⟩;obtain⟨xc,xf,xl,xe,xn,xm⟩:=xx.look;have xz:=xx.size;(try simp only[World.size_alloc_,World.size_setCell_]at xz);(try (have qh:=xx.one (b:=w.heap.size) (by(try simp only[World.size_alloc_,World.size_setCell_]);omega);obtain⟨qc,qf,ql,qe,qn,qm⟩:=qh));(try (have qh:=xx.one (b:=w.heap.size+1) (by(try simp only[World.size_alloc_,World.size_setCell_]);omega);obtain⟨qc,qf,ql,qe,qn,qm⟩:=qh));(try (have qh:=xx.one (b:=w.heap.size+1+1) (by(try simp only[World.size_alloc_,World.size_setCell_]);omega);obtain⟨qc,qf,ql,qe,qn,qm⟩:=qh));(try (have qh:=xx.one (b:=w.heap.size+1+1+1) (by(try simp only[World.size_alloc_,World.size_setCell_]);omega);obtain⟨qc,qf,ql,qe,qn,qm⟩:=qh)))
     go_wp2
     go_ret
     exact⟨ret_int (by simp),byX⟩
   · have hf:formedE x=false:=by
       rcases h with h | h | h
       · exact absurd (of_decide_eq_true hd) h
       · exact absurd (of_decide_eq_true hm) h
       · exact h
     rw[hd]at HD;rw[hm]at HM;rw[hf]at hF;have HF:=Lib.hid hF;rw[hf];clear h hd hF hm hf
     go_enter Tryz.func35,Tryz.ntmps35
     go_upto_region 1 with fail
     obtain⟨W0,hW⟩:∃ W,W=w.alloc (.cells #[.int .i64 x.st.tick,.int .i64 x.st.clock,.int .i64 x.st.site,.int .i64 x.st.seq,.int .i64 x.kind,.int .i64 x.box.lo.x,.int .i64 x.box.lo.y,.int .i64 x.box.lo.z,.int .i64 x.box.hi.x,.int .i64 x.box.hi.y,.int .i64 x.box.hi.z,.int .i64 x.at_.x,.int .i64 x.at_.y,.int .i64 x.at_.z,.int .i64 x.turn,.int .i64 x.cell,.int .i64 x.size] 32):=⟨_,rfl⟩;have hx0:Ext w W0:=by rw[hW];exact(Ext.refl w).alloc _
     have B0:Arr W0 w.heap.size 32 [.int .i64 x.st.tick,.int .i64 x.st.clock,.int .i64 x.st.site,.int .i64 x.st.seq,.int .i64 x.kind,.int .i64 x.box.lo.x,.int .i64 x.box.lo.y,.int .i64 x.box.lo.z,.int .i64 x.box.hi.x,.int .i64 x.box.hi.y,.int .i64 x.box.hi.z,.int .i64 x.at_.x,.int .i64 x.at_.y,.int .i64 x.at_.z,.int .i64 x.turn,.int .i64 x.cell,.int .i64 x.size]:=by rw[hW];exact Arr.new w _ _
     rw[← hW];clear hW;have cB0:=B0.cell;have fB0:=B0.frozen;have lB0:=B0.lt
     go_wp2_with fail
     ((refine(HD.out _).mono ?_);rintro e wx ⟨rfl,xx⟩;have xz:=xx.size;(try simp only[World.size_alloc_,World.size_setCell_]at xz);obtain⟨B0,cB0,fB0,lB0⟩:=Arr.look (w':=wx) B0 byX)
     go_wp2_with fail
     ((refine(HM.out _).mono ?_);rintro e wx ⟨rfl,xx⟩;have xz:=xx.size;(try simp only[World.size_alloc_,World.size_setCell_]at xz);obtain⟨B0,cB0,fB0,lB0⟩:=Arr.look (w':=wx) B0 byX)
     go_wp2_with (first | (refine ldB 32 3 B0 Tryz.underlying32 ?_) | (refine ldB 32 3 (B0.alloc _) Tryz.underlying32 ?_) | (refine ldB 32 3 ((B0.alloc _).alloc _) Tryz.underlying32 ?_))
     ((refine(HF.out _ ?_).mono ?_);(exact byX);rintro e wx ⟨rfl,xx⟩;have xz:=xx.size;(try simp only[World.size_alloc_,World.size_setCell_]at xz);obtain⟨B0,cB0,fB0,lB0⟩:=Arr.look (w':=wx) B0 byX)
     go_wp2
     go_ret
     exact⟨ret_int (by simp),byX⟩
theorem Check_1(x:Ed)(d m:Int)(w:World)(hR:RowsIn w)(hd:2≤d∧d≤14)(hm:1≤m∧m≤256)(hf:formedE x=true)(e1:usesF x.kind 1=true)(e2:usesF x.kind 2=false)(hk:1≤x.kind∧x.kind≤8):
    Calls Tryz.prog 35 #[.agg #[.int .i64 x.st.tick,.int .i64 x.st.clock,.int .i64 x.st.site,.int .i64 x.st.seq,.int .i64 x.kind,.int .i64 x.box.lo.x,.int .i64 x.box.lo.y,.int .i64 x.box.lo.z,.int .i64 x.box.hi.x,.int .i64 x.box.hi.y,.int .i64 x.box.hi.z,.int .i64 x.at_.x,.int .i64 x.at_.y,.int .i64 x.at_.z,.int .i64 x.turn,.int .i64 x.cell,.int .i64 x.size],.int .i64 d,.int .i64 m] w fun e w'=>e = .returned (.int .i64 (checkE x d m))∧Ext w w':=by
 have HF:=Lib.hid (fun(w':World) (hx:Ext w w')=>hf ▸ Formed_any x w' (hR.ext hx));have HD:=Lib.hid (withinE_is d 2 14 true (decide_eq_true hd));have HM:=Lib.hid (withinE_is m 1 256 true (decide_eq_true hm));have hv:validS x.st=true:=by
  have h:=formedE_def x;rw[hf]at h
  cases hq:validS x.st
  · rw[hq]at h;cases h
  · rfl
 obtain⟨_,_,_,hs1,hs2⟩:=(validS_iff x.st).1 hv;have HZ:=Lib.hid (fun w':World=>sizes_any x w' hs1 hs2);have HC:checkE x d m=if badE x (2 ^ d.toNat) m then 1 else 0:=by
  unfold checkE;rw[decide_eq_true hd,decide_eq_true hm,hf];rfl
 have hb:=badE_def x (2 ^ d.toNat) m;have hsh:=shl_run d hd;obtain⟨S,hS⟩:∃ S:Int,(2:Int) ^ d.toNat=S:=⟨_,rfl⟩;rw[hS]at HC hb hsh;obtain⟨R,hRR⟩:∃ R:Int,R=(if badE x S m then 1 else 0):=⟨_,rfl⟩;rw[HC,← hRR];have HE:=Lib.hid (fun w':World=>Empty_any x.box w');have HL:=Lib.hid (fun w':World=>In_any x.box.lo (cubeB S) w');have HA:=Lib.hid (fun w':World=>In_any x.at_ (cubeB S) w');have HX:=Lib.hid (fun w':World=>In_any (lastP x.box) (cubeB S) w');have HW:=Lib.hid (fun w':World=>Sub_any x.box.hi ⟨1,1,1⟩ w');have HU:=Lib.hid (fun(f:Int) (b:Bool) (hf:f=1∨f=2∨f=4∨f=8∨f=16) (hb:usesF x.kind f=b) (w':World) (hx:Ext w w')=>uses_is x.kind f b (by omega) hf hb w' (hR.ext hx));generalize emptyB x.box=be at hb HE;generalize inP x.box.lo (cubeB S)=bl at hb HL;generalize inP x.at_ (cubeB S)=ba at hb HA;generalize inP (lastP x.box) (cubeB S)=bx at hb HX;have HT:=Lib.hid (withinE_is x.turn 0 47 _ rfl);have HG:=Lib.hid (withinE_is x.cell 0 (m - 1) _ rfl);have HS:=Lib.hid (withinE_is x.size (leastE x) (mostE x) _ rfl);generalize decide (0≤x.turn∧x.turn≤47)=bt at hb HT;generalize decide (0≤x.cell∧x.cell≤m - 1)=bc at hb HG;generalize decide (leastE x≤x.size∧x.size≤mostE x)=bs at hb HS;rw[e1,e2]at hb;rw[hb]at hRR;have HB:=Lib.hid hRR;have HE1:=Lib.hid e1;have HE2:=Lib.hid e2;have hm1:0≤m - 1:=by omega
 clear hb hRR e1 e2 hv HC hS hf hk hs1 hs2 hd;simp only[cubeB]at HL HA HX;simp only[lastP]at HX
 go_enter Tryz.func35,Tryz.ntmps35
 go_upto_region 1 with fail
 obtain⟨W0,hW⟩:∃ W,W=w.alloc (.cells #[.int .i64 x.st.tick,.int .i64 x.st.clock,.int .i64 x.st.site,.int .i64 x.st.seq,.int .i64 x.kind,.int .i64 x.box.lo.x,.int .i64 x.box.lo.y,.int .i64 x.box.lo.z,.int .i64 x.box.hi.x,.int .i64 x.box.hi.y,.int .i64 x.box.hi.z,.int .i64 x.at_.x,.int .i64 x.at_.y,.int .i64 x.at_.z,.int .i64 x.turn,.int .i64 x.cell,.int .i64 x.size] 32):=⟨_,rfl⟩;have hx0:Ext w W0:=by rw[hW];exact(Ext.refl w).alloc _
 have B0:Arr W0 w.heap.size 32 [.int .i64 x.st.tick,.int .i64 x.st.clock,.int .i64 x.st.site,.int .i64 x.st.seq,.int .i64 x.kind,.int .i64 x.box.lo.x,.int .i64 x.box.lo.y,.int .i64 x.box.lo.z,.int .i64 x.box.hi.x,.int .i64 x.box.hi.y,.int .i64 x.box.hi.z,.int .i64 x.at_.x,.int .i64 x.at_.y,.int .i64 x.at_.z,.int .i64 x.turn,.int .i64 x.cell,.int .i64 x.size]:=by rw[hW];exact Arr.new w _ _
 rw[← hW];clear hW;have cB0:=B0.cell;have fB0:=B0.frozen;have lB0:=B0.lt;generalize (.agg #[.int .i64 x.st.tick,.int .i64 x.st.clock,.int .i64 x.st.site,.int .i64 x.st.seq,.int .i64 x.kind,.int .i64 x.box.lo.x,.int .i64 x.box.lo.y,.int .i64 x.box.lo.z,.int .i64 x.box.hi.x,.int .i64 x.box.hi.y,.int .i64 x.box.hi.z,.int .i64 x.at_.x,.int .i64 x.at_.y,.int .i64 x.at_.z,.int .i64 x.turn,.int .i64 x.cell,.int .i64 x.size]:Value)=V0
 go_wp2_with fail
 ((refine(HD.out _).mono ?_);rintro e wx ⟨rfl,xx⟩;have xz:=xx.size;(try simp only[World.size_alloc_,World.size_setCell_]at xz);obtain⟨B0,cB0,fB0,lB0⟩:=Arr.look (w':=wx) B0 byX)
 go_wp2_with fail
 ((refine(HM.out _).mono ?_);rintro e wx ⟨rfl,xx⟩;have xz:=xx.size;(try simp only[World.size_alloc_,World.size_setCell_]at xz);obtain⟨B0,cB0,fB0,lB0⟩:=Arr.look (w':=wx) B0 byX)
 go_wp2_with (first | (refine ldB 32 3 B0 Tryz.underlying32 ?_) | (refine ldB 32 3 (B0.alloc _) Tryz.underlying32 ?_) | (refine ldB 32 3 ((B0.alloc _).alloc _) Tryz.underlying32 ?_))
 ((refine(HF.out _ ?_).mono ?_);(exact byX);rintro e wx ⟨rfl,xx⟩;have xz:=xx.size;(try simp only[World.size_alloc_,World.size_setCell_]at xz);obtain⟨B0,cB0,fB0,lB0⟩:=Arr.look (w':=wx) B0 byX)
 go_wp2_with fail
 ((refine(Cube_any _ _).mono ?_);rintro e wa ⟨rfl,xx⟩;have xz:=xx.size;(try simp only[World.size_alloc_,World.size_setCell_]at xz);obtain⟨B0,cB0,fB0,lB0⟩:=Arr.look (w':=wa) B0 byX)
 go_wp2_with fail
 ((refine(HW.out _).mono ?_);rintro e wb ⟨rfl,xx⟩;have xz:=xx.size;(try simp only[World.size_alloc_]at xz);obtain⟨B0,cB0,fB0,lB0⟩:=Arr.look (w':=wb) B0 byX)
 have B1:=(Arr.new wa 25 [.int .i64 (cubeB S).lo.x,.int .i64 (cubeB S).lo.y,.int .i64 (cubeB S).lo.z,.int .i64 (cubeB S).hi.x,.int .i64 (cubeB S).hi.y,.int .i64 (cubeB S).hi.z]).ext xx;simp only[cubeB]at B1;have cB1:=B1.cell;have fB1:=B1.frozen;have lB1:=B1.lt
 go_wp2_with (first | (refine ldB 32 3 B0 Tryz.underlying32 ?_) | (refine ldB 32 3 (B0.alloc _) Tryz.underlying32 ?_) | (refine ldB 32 3 ((B0.alloc _).alloc _) Tryz.underlying32 ?_))
 ((refine(HZ.out _).mono ?_);rintro e wx ⟨rfl,xx⟩;have xz:=xx.size;(try simp only[World.size_alloc_]at xz);obtain⟨B0,cB0,fB0,lB0⟩:=Arr.look (w':=wx) B0 byX;obtain⟨B1,cB1,fB1,lB1⟩:=Arr.look (w':=wx) B1 byX)
 have B2:=(Arr.new wb 23 [.int .i64 (addP x.box.hi (scaleP ⟨1,1,1⟩ (-1))).x,.int .i64 (addP x.box.hi (scaleP ⟨1,1,1⟩ (-1))).y,.int .i64 (addP x.box.hi (scaleP ⟨1,1,1⟩ (-1))).z]).ext xx;have cB2:=B2.cell;have fB2:=B2.frozen;have lB2:=B2.lt
 go_wp2_with fail
 ((refine(HU.out 1 _ (by omega) HE1.out _ ?_).mono ?_);(exact byX);rintro e wx ⟨rfl,xx⟩;have xz:=xx.size;(try simp only[World.size_alloc_,World.size_setCell_]at xz);obtain⟨B0,cB0,fB0,lB0⟩:=Arr.look (w':=wx) B0 byX;obtain⟨B1,cB1,fB1,lB1⟩:=Arr.look (w':=wx) B1 byX;obtain⟨B2,cB2,fB2,lB2⟩:=Arr.look (w':=wx) B2 byX)
 go_wp2_with fail
 ((refine(HE.out _).mono ?_);rintro e wx ⟨rfl,xx⟩;have xz:=xx.size;(try simp only[World.size_alloc_,World.size_setCell_]at xz);obtain⟨B0,cB0,fB0,lB0⟩:=Arr.look (w':=wx) B0 byX;obtain⟨B1,cB1,fB1,lB1⟩:=Arr.look (w':=wx) B1 byX;obtain⟨B2,cB2,fB2,lB2⟩:=Arr.look (w':=wx) B2 byX)
 cases be
 case true=>
  go_wp2
  go_ret
  exact⟨ret_int (by rw[HB.out];simp),byX⟩
 go_wp2_with (first | (refine ldB 25 7 B1 Tryz.underlying25 ?_) | (refine ldB 25 7 (B1.alloc _) Tryz.underlying25 ?_) | (refine ldB 25 7 ((B1.alloc _).alloc _) Tryz.underlying25 ?_))
 ((refine(HL.out _).mono ?_);rintro e wx ⟨rfl,xx⟩;have xz:=xx.size;(try simp only[World.size_alloc_,World.size_setCell_]at xz);obtain⟨B0,cB0,fB0,lB0⟩:=Arr.look (w':=wx) B0 byX;obtain⟨B1,cB1,fB1,lB1⟩:=Arr.look (w':=wx) B1 byX;obtain⟨B2,cB2,fB2,lB2⟩:=Arr.look (w':=wx) B2 byX)
 cases bl
 case false=>
  go_wp2
  go_ret
  exact⟨ret_int (by rw[HB.out];simp),byX⟩
 go_wp2_with (first | (refine ldB 25 7 B1 Tryz.underlying25 ?_) | (refine ldB 25 7 (B1.alloc _) Tryz.underlying25 ?_) | (refine ldB 25 7 ((B1.alloc _).alloc _) Tryz.underlying25 ?_))
 ((refine(HX.out _).mono ?_);rintro e wx ⟨rfl,xx⟩;have xz:=xx.size;(try simp only[World.size_alloc_,World.size_setCell_]at xz);obtain⟨B0,cB0,fB0,lB0⟩:=Arr.look (w':=wx) B0 byX;obtain⟨B1,cB1,fB1,lB1⟩:=Arr.look (w':=wx) B1 byX;obtain⟨B2,cB2,fB2,lB2⟩:=Arr.look (w':=wx) B2 byX)
 cases bx
 case false=>
  go_wp2
  go_ret
  exact⟨ret_int (by rw[HB.out];simp),byX⟩
 go_wp2_with fail
 ((refine(HU.out 2 _ (by omega) HE2.out _ ?_).mono ?_);(exact byX);rintro e wx ⟨rfl,xx⟩;have xz:=xx.size;(try simp only[World.size_alloc_,World.size_setCell_]at xz);obtain⟨B0,cB0,fB0,lB0⟩:=Arr.look (w':=wx) B0 byX;obtain⟨B1,cB1,fB1,lB1⟩:=Arr.look (w':=wx) B1 byX;obtain⟨B2,cB2,fB2,lB2⟩:=Arr.look (w':=wx) B2 byX)
 go_wp2_with fail
 ((refine(HT.out _).mono ?_);rintro e wx ⟨rfl,xx⟩;have xz:=xx.size;(try simp only[World.size_alloc_,World.size_setCell_]at xz);obtain⟨B0,cB0,fB0,lB0⟩:=Arr.look (w':=wx) B0 byX;obtain⟨B1,cB1,fB1,lB1⟩:=Arr.look (w':=wx) B1 byX;obtain⟨B2,cB2,fB2,lB2⟩:=Arr.look (w':=wx) B2 byX)
 cases bt
 case false=>
  go_wp2
  go_ret
  exact⟨ret_int (by rw[HB.out];simp),byX⟩
 go_wp2_with fail
 ((refine(HG.out _).mono ?_);rintro e wx ⟨rfl,xx⟩;have xz:=xx.size;(try simp only[World.size_alloc_,World.size_setCell_]at xz);obtain⟨B0,cB0,fB0,lB0⟩:=Arr.look (w':=wx) B0 byX;obtain⟨B1,cB1,fB1,lB1⟩:=Arr.look (w':=wx) B1 byX;obtain⟨B2,cB2,fB2,lB2⟩:=Arr.look (w':=wx) B2 byX)
 cases bc
 case false=>
  go_wp2
  go_ret
  exact⟨ret_int (by rw[HB.out];simp),byX⟩
 go_wp2_with fail
 ((refine(HS.out _).mono ?_);rintro e wx ⟨rfl,xx⟩;have xz:=xx.size;(try simp only[World.size_alloc_,World.size_setCell_]at xz);obtain⟨B0,cB0,fB0,lB0⟩:=Arr.look (w':=wx) B0 byX;obtain⟨B1,cB1,fB1,lB1⟩:=Arr.look (w':=wx) B1 byX;obtain⟨B2,cB2,fB2,lB2⟩:=Arr.look (w':=wx) B2 byX)
 cases bs
 case false=>
  go_wp2
  go_ret
  exact⟨ret_int (by rw[HB.out];simp),byX⟩
 go_wp2
 go_ret
 exact⟨ret_int (by rw[HB.out];simp),byX⟩
theorem Check_2(x:Ed)(d m:Int)(w:World)(hR:RowsIn w)(hd:2≤d∧d≤14)(hm:1≤m∧m≤256)(hf:formedE x=true)(e1:usesF x.kind 1=false)(e2:usesF x.kind 2=true)(hk:1≤x.kind∧x.kind≤8):
    Calls Tryz.prog 35 #[.agg #[.int .i64 x.st.tick,.int .i64 x.st.clock,.int .i64 x.st.site,.int .i64 x.st.seq,.int .i64 x.kind,.int .i64 x.box.lo.x,.int .i64 x.box.lo.y,.int .i64 x.box.lo.z,.int .i64 x.box.hi.x,.int .i64 x.box.hi.y,.int .i64 x.box.hi.z,.int .i64 x.at_.x,.int .i64 x.at_.y,.int .i64 x.at_.z,.int .i64 x.turn,.int .i64 x.cell,.int .i64 x.size],.int .i64 d,.int .i64 m] w fun e w'=>e = .returned (.int .i64 (checkE x d m))∧Ext w w':=by
 have HF:=Lib.hid (fun(w':World) (hx:Ext w w')=>hf ▸ Formed_any x w' (hR.ext hx));have HD:=Lib.hid (withinE_is d 2 14 true (decide_eq_true hd));have HM:=Lib.hid (withinE_is m 1 256 true (decide_eq_true hm));have hv:validS x.st=true:=by
  have h:=formedE_def x;rw[hf]at h
  cases hq:validS x.st
  · rw[hq]at h;cases h
  · rfl
 obtain⟨_,_,_,hs1,hs2⟩:=(validS_iff x.st).1 hv;have HZ:=Lib.hid (fun w':World=>sizes_any x w' hs1 hs2);have HC:checkE x d m=if badE x (2 ^ d.toNat) m then 1 else 0:=by
  unfold checkE;rw[decide_eq_true hd,decide_eq_true hm,hf];rfl
 have hb:=badE_def x (2 ^ d.toNat) m;have hsh:=shl_run d hd;obtain⟨S,hS⟩:∃ S:Int,(2:Int) ^ d.toNat=S:=⟨_,rfl⟩;rw[hS]at HC hb hsh;obtain⟨R,hRR⟩:∃ R:Int,R=(if badE x S m then 1 else 0):=⟨_,rfl⟩;rw[HC,← hRR];have HE:=Lib.hid (fun w':World=>Empty_any x.box w');have HL:=Lib.hid (fun w':World=>In_any x.box.lo (cubeB S) w');have HA:=Lib.hid (fun w':World=>In_any x.at_ (cubeB S) w');have HX:=Lib.hid (fun w':World=>In_any (lastP x.box) (cubeB S) w');have HW:=Lib.hid (fun w':World=>Sub_any x.box.hi ⟨1,1,1⟩ w');have HU:=Lib.hid (fun(f:Int) (b:Bool) (hf:f=1∨f=2∨f=4∨f=8∨f=16) (hb:usesF x.kind f=b) (w':World) (hx:Ext w w')=>uses_is x.kind f b (by omega) hf hb w' (hR.ext hx));generalize emptyB x.box=be at hb HE;generalize inP x.box.lo (cubeB S)=bl at hb HL;generalize inP x.at_ (cubeB S)=ba at hb HA;generalize inP (lastP x.box) (cubeB S)=bx at hb HX;have HT:=Lib.hid (withinE_is x.turn 0 47 _ rfl);have HG:=Lib.hid (withinE_is x.cell 0 (m - 1) _ rfl);have HS:=Lib.hid (withinE_is x.size (leastE x) (mostE x) _ rfl);generalize decide (0≤x.turn∧x.turn≤47)=bt at hb HT;generalize decide (0≤x.cell∧x.cell≤m - 1)=bc at hb HG;generalize decide (leastE x≤x.size∧x.size≤mostE x)=bs at hb HS;rw[e1,e2]at hb;rw[hb]at hRR;have HB:=Lib.hid hRR;have HE1:=Lib.hid e1;have HE2:=Lib.hid e2;have hm1:0≤m - 1:=by omega
 clear hb hRR e1 e2 hv HC hS hf hk hs1 hs2 hd;simp only[cubeB]at HL HA HX;simp only[lastP]at HX
 go_enter Tryz.func35,Tryz.ntmps35
 go_upto_region 1 with fail
 obtain⟨W0,hW⟩:∃ W,W=w.alloc (.cells #[.int .i64 x.st.tick,.int .i64 x.st.clock,.int .i64 x.st.site,.int .i64 x.st.seq,.int .i64 x.kind,.int .i64 x.box.lo.x,.int .i64 x.box.lo.y,.int .i64 x.box.lo.z,.int .i64 x.box.hi.x,.int .i64 x.box.hi.y,.int .i64 x.box.hi.z,.int .i64 x.at_.x,.int .i64 x.at_.y,.int .i64 x.at_.z,.int .i64 x.turn,.int .i64 x.cell,.int .i64 x.size] 32):=⟨_,rfl⟩;have hx0:Ext w W0:=by rw[hW];exact(Ext.refl w).alloc _
 have B0:Arr W0 w.heap.size 32 [.int .i64 x.st.tick,.int .i64 x.st.clock,.int .i64 x.st.site,.int .i64 x.st.seq,.int .i64 x.kind,.int .i64 x.box.lo.x,.int .i64 x.box.lo.y,.int .i64 x.box.lo.z,.int .i64 x.box.hi.x,.int .i64 x.box.hi.y,.int .i64 x.box.hi.z,.int .i64 x.at_.x,.int .i64 x.at_.y,.int .i64 x.at_.z,.int .i64 x.turn,.int .i64 x.cell,.int .i64 x.size]:=by rw[hW];exact Arr.new w _ _
 rw[← hW];clear hW;have cB0:=B0.cell;have fB0:=B0.frozen;have lB0:=B0.lt;generalize (.agg #[.int .i64 x.st.tick,.int .i64 x.st.clock,.int .i64 x.st.site,.int .i64 x.st.seq,.int .i64 x.kind,.int .i64 x.box.lo.x,.int .i64 x.box.lo.y,.int .i64 x.box.lo.z,.int .i64 x.box.hi.x,.int .i64 x.box.hi.y,.int .i64 x.box.hi.z,.int .i64 x.at_.x,.int .i64 x.at_.y,.int .i64 x.at_.z,.int .i64 x.turn,.int .i64 x.cell,.int .i64 x.size]:Value)=V0
 go_wp2_with fail
 ((refine(HD.out _).mono ?_);rintro e wx ⟨rfl,xx⟩;have xz:=xx.size;(try simp only[World.size_alloc_,World.size_setCell_]at xz);obtain⟨B0,cB0,fB0,lB0⟩:=Arr.look (w':=wx) B0 byX)
 go_wp2_with fail
 ((refine(HM.out _).mono ?_);rintro e wx ⟨rfl,xx⟩;have xz:=xx.size;(try simp only[World.size_alloc_,World.size_setCell_]at xz);obtain⟨B0,cB0,fB0,lB0⟩:=Arr.look (w':=wx) B0 byX)
 go_wp2_with (first | (refine ldB 32 3 B0 Tryz.underlying32 ?_) | (refine ldB 32 3 (B0.alloc _) Tryz.underlying32 ?_) | (refine ldB 32 3 ((B0.alloc _).alloc _) Tryz.underlying32 ?_))
 ((refine(HF.out _ ?_).mono ?_);(exact byX);rintro e wx ⟨rfl,xx⟩;have xz:=xx.size;(try simp only[World.size_alloc_,World.size_setCell_]at xz);obtain⟨B0,cB0,fB0,lB0⟩:=Arr.look (w':=wx) B0 byX)
 go_wp2_with fail
 ((refine(Cube_any _ _).mono ?_);rintro e wa ⟨rfl,xx⟩;have xz:=xx.size;(try simp only[World.size_alloc_,World.size_setCell_]at xz);obtain⟨B0,cB0,fB0,lB0⟩:=Arr.look (w':=wa) B0 byX)
 go_wp2_with fail
 ((refine(HW.out _).mono ?_);rintro e wb ⟨rfl,xx⟩;have xz:=xx.size;(try simp only[World.size_alloc_]at xz);obtain⟨B0,cB0,fB0,lB0⟩:=Arr.look (w':=wb) B0 byX)
 have B1:=(Arr.new wa 25 [.int .i64 (cubeB S).lo.x,.int .i64 (cubeB S).lo.y,.int .i64 (cubeB S).lo.z,.int .i64 (cubeB S).hi.x,.int .i64 (cubeB S).hi.y,.int .i64 (cubeB S).hi.z]).ext xx;simp only[cubeB]at B1;have cB1:=B1.cell;have fB1:=B1.frozen;have lB1:=B1.lt
 go_wp2_with (first | (refine ldB 32 3 B0 Tryz.underlying32 ?_) | (refine ldB 32 3 (B0.alloc _) Tryz.underlying32 ?_) | (refine ldB 32 3 ((B0.alloc _).alloc _) Tryz.underlying32 ?_))
 ((refine(HZ.out _).mono ?_);rintro e wx ⟨rfl,xx⟩;have xz:=xx.size;(try simp only[World.size_alloc_]at xz);obtain⟨B0,cB0,fB0,lB0⟩:=Arr.look (w':=wx) B0 byX;obtain⟨B1,cB1,fB1,lB1⟩:=Arr.look (w':=wx) B1 byX)
 have B2:=(Arr.new wb 23 [.int .i64 (addP x.box.hi (scaleP ⟨1,1,1⟩ (-1))).x,.int .i64 (addP x.box.hi (scaleP ⟨1,1,1⟩ (-1))).y,.int .i64 (addP x.box.hi (scaleP ⟨1,1,1⟩ (-1))).z]).ext xx;have cB2:=B2.cell;have fB2:=B2.frozen;have lB2:=B2.lt
 go_wp2_with fail
 ((refine(HU.out 1 _ (by omega) HE1.out _ ?_).mono ?_);(exact byX);rintro e wx ⟨rfl,xx⟩;have xz:=xx.size;(try simp only[World.size_alloc_,World.size_setCell_]at xz);obtain⟨B0,cB0,fB0,lB0⟩:=Arr.look (w':=wx) B0 byX;obtain⟨B1,cB1,fB1,lB1⟩:=Arr.look (w':=wx) B1 byX;obtain⟨B2,cB2,fB2,lB2⟩:=Arr.look (w':=wx) B2 byX)
 go_wp2_with fail
 ((refine(HU.out 2 _ (by omega) HE2.out _ ?_).mono ?_);(exact byX);rintro e wx ⟨rfl,xx⟩;have xz:=xx.size;(try simp only[World.size_alloc_,World.size_setCell_]at xz);obtain⟨B0,cB0,fB0,lB0⟩:=Arr.look (w':=wx) B0 byX;obtain⟨B1,cB1,fB1,lB1⟩:=Arr.look (w':=wx) B1 byX;obtain⟨B2,cB2,fB2,lB2⟩:=Arr.look (w':=wx) B2 byX)
 go_wp2_with (first | (refine ldB 25 7 B1 Tryz.underlying25 ?_) | (refine ldB 25 7 (B1.alloc _) Tryz.underlying25 ?_) | (refine ldB 25 7 ((B1.alloc _).alloc _) Tryz.underlying25 ?_))
 ((refine(HA.out _).mono ?_);rintro e wx ⟨rfl,xx⟩;have xz:=xx.size;(try simp only[World.size_alloc_,World.size_setCell_]at xz);obtain⟨B0,cB0,fB0,lB0⟩:=Arr.look (w':=wx) B0 byX;obtain⟨B1,cB1,fB1,lB1⟩:=Arr.look (w':=wx) B1 byX;obtain⟨B2,cB2,fB2,lB2⟩:=Arr.look (w':=wx) B2 byX)
 cases ba
 case false=>
  go_wp2
  go_ret
  exact⟨ret_int (by rw[HB.out];simp),byX⟩
 go_wp2_with fail
 ((refine(HT.out _).mono ?_);rintro e wx ⟨rfl,xx⟩;have xz:=xx.size;(try simp only[World.size_alloc_,World.size_setCell_]at xz);obtain⟨B0,cB0,fB0,lB0⟩:=Arr.look (w':=wx) B0 byX;obtain⟨B1,cB1,fB1,lB1⟩:=Arr.look (w':=wx) B1 byX;obtain⟨B2,cB2,fB2,lB2⟩:=Arr.look (w':=wx) B2 byX)
 cases bt
 case false=>
  go_wp2
  go_ret
  exact⟨ret_int (by rw[HB.out];simp),byX⟩
 go_wp2_with fail
 ((refine(HG.out _).mono ?_);rintro e wx ⟨rfl,xx⟩;have xz:=xx.size;(try simp only[World.size_alloc_,World.size_setCell_]at xz);obtain⟨B0,cB0,fB0,lB0⟩:=Arr.look (w':=wx) B0 byX;obtain⟨B1,cB1,fB1,lB1⟩:=Arr.look (w':=wx) B1 byX;obtain⟨B2,cB2,fB2,lB2⟩:=Arr.look (w':=wx) B2 byX)
 cases bc
 case false=>
  go_wp2
  go_ret
  exact⟨ret_int (by rw[HB.out];simp),byX⟩
 go_wp2_with fail
 ((refine(HS.out _).mono ?_);rintro e wx ⟨rfl,xx⟩;have xz:=xx.size;(try simp only[World.size_alloc_,World.size_setCell_]at xz);obtain⟨B0,cB0,fB0,lB0⟩:=Arr.look (w':=wx) B0 byX;obtain⟨B1,cB1,fB1,lB1⟩:=Arr.look (w':=wx) B1 byX;obtain⟨B2,cB2,fB2,lB2⟩:=Arr.look (w':=wx) B2 byX)
 cases bs
 case false=>
  go_wp2
  go_ret
  exact⟨ret_int (by rw[HB.out];simp),byX⟩
 go_wp2
 go_ret
 exact⟨ret_int (by rw[HB.out];simp),byX⟩
theorem Check_4(x:Ed)(d m:Int)(w:World)(hR:RowsIn w)(hd:2≤d∧d≤14)(hm:1≤m∧m≤256)(hf:formedE x=true)(e1:usesF x.kind 1=true)(e2:usesF x.kind 2=true)(hk:1≤x.kind∧x.kind≤8):
    Calls Tryz.prog 35 #[.agg #[.int .i64 x.st.tick,.int .i64 x.st.clock,.int .i64 x.st.site,.int .i64 x.st.seq,.int .i64 x.kind,.int .i64 x.box.lo.x,.int .i64 x.box.lo.y,.int .i64 x.box.lo.z,.int .i64 x.box.hi.x,.int .i64 x.box.hi.y,.int .i64 x.box.hi.z,.int .i64 x.at_.x,.int .i64 x.at_.y,.int .i64 x.at_.z,.int .i64 x.turn,.int .i64 x.cell,.int .i64 x.size],.int .i64 d,.int .i64 m] w fun e w'=>e = .returned (.int .i64 (checkE x d m))∧Ext w w':=by
 have HF:=Lib.hid (fun(w':World) (hx:Ext w w')=>hf ▸ Formed_any x w' (hR.ext hx));have HD:=Lib.hid (withinE_is d 2 14 true (decide_eq_true hd));have HM:=Lib.hid (withinE_is m 1 256 true (decide_eq_true hm));have hv:validS x.st=true:=by
  have h:=formedE_def x;rw[hf]at h
  cases hq:validS x.st
  · rw[hq]at h;cases h
  · rfl
 obtain⟨_,_,_,hs1,hs2⟩:=(validS_iff x.st).1 hv;have HZ:=Lib.hid (fun w':World=>sizes_any x w' hs1 hs2);have HC:checkE x d m=if badE x (2 ^ d.toNat) m then 1 else 0:=by
  unfold checkE;rw[decide_eq_true hd,decide_eq_true hm,hf];rfl
 have hb:=badE_def x (2 ^ d.toNat) m;have hsh:=shl_run d hd;obtain⟨S,hS⟩:∃ S:Int,(2:Int) ^ d.toNat=S:=⟨_,rfl⟩;rw[hS]at HC hb hsh;obtain⟨R,hRR⟩:∃ R:Int,R=(if badE x S m then 1 else 0):=⟨_,rfl⟩;rw[HC,← hRR];have HE:=Lib.hid (fun w':World=>Empty_any x.box w');have HL:=Lib.hid (fun w':World=>In_any x.box.lo (cubeB S) w');have HA:=Lib.hid (fun w':World=>In_any x.at_ (cubeB S) w');have HX:=Lib.hid (fun w':World=>In_any (lastP x.box) (cubeB S) w');have HW:=Lib.hid (fun w':World=>Sub_any x.box.hi ⟨1,1,1⟩ w');have HU:=Lib.hid (fun(f:Int) (b:Bool) (hf:f=1∨f=2∨f=4∨f=8∨f=16) (hb:usesF x.kind f=b) (w':World) (hx:Ext w w')=>uses_is x.kind f b (by omega) hf hb w' (hR.ext hx));generalize emptyB x.box=be at hb HE;generalize inP x.box.lo (cubeB S)=bl at hb HL;generalize inP x.at_ (cubeB S)=ba at hb HA;generalize inP (lastP x.box) (cubeB S)=bx at hb HX;have HT:=Lib.hid (withinE_is x.turn 0 47 _ rfl);have HG:=Lib.hid (withinE_is x.cell 0 (m - 1) _ rfl);have HS:=Lib.hid (withinE_is x.size (leastE x) (mostE x) _ rfl);generalize decide (0≤x.turn∧x.turn≤47)=bt at hb HT;generalize decide (0≤x.cell∧x.cell≤m - 1)=bc at hb HG;generalize decide (leastE x≤x.size∧x.size≤mostE x)=bs at hb HS;rw[e1,e2]at hb;rw[hb]at hRR;have HB:=Lib.hid hRR;have HE1:=Lib.hid e1;have HE2:=Lib.hid e2;have hm1:0≤m - 1:=by omega
 clear hb hRR e1 e2 hv HC hS hf hk hs1 hs2 hd;simp only[cubeB]at HL HA HX;simp only[lastP]at HX
 go_enter Tryz.func35,Tryz.ntmps35
 go_upto_region 1 with fail
 obtain⟨W0,hW⟩:∃ W,W=w.alloc (.cells #[.int .i64 x.st.tick,.int .i64 x.st.clock,.int .i64 x.st.site,.int .i64 x.st.seq,.int .i64 x.kind,.int .i64 x.box.lo.x,.int .i64 x.box.lo.y,.int .i64 x.box.lo.z,.int .i64 x.box.hi.x,.int .i64 x.box.hi.y,.int .i64 x.box.hi.z,.int .i64 x.at_.x,.int .i64 x.at_.y,.int .i64 x.at_.z,.int .i64 x.turn,.int .i64 x.cell,.int .i64 x.size] 32):=⟨_,rfl⟩;have hx0:Ext w W0:=by rw[hW];exact(Ext.refl w).alloc _
 have B0:Arr W0 w.heap.size 32 [.int .i64 x.st.tick,.int .i64 x.st.clock,.int .i64 x.st.site,.int .i64 x.st.seq,.int .i64 x.kind,.int .i64 x.box.lo.x,.int .i64 x.box.lo.y,.int .i64 x.box.lo.z,.int .i64 x.box.hi.x,.int .i64 x.box.hi.y,.int .i64 x.box.hi.z,.int .i64 x.at_.x,.int .i64 x.at_.y,.int .i64 x.at_.z,.int .i64 x.turn,.int .i64 x.cell,.int .i64 x.size]:=by rw[hW];exact Arr.new w _ _
 rw[← hW];clear hW;have cB0:=B0.cell;have fB0:=B0.frozen;have lB0:=B0.lt;generalize (.agg #[.int .i64 x.st.tick,.int .i64 x.st.clock,.int .i64 x.st.site,.int .i64 x.st.seq,.int .i64 x.kind,.int .i64 x.box.lo.x,.int .i64 x.box.lo.y,.int .i64 x.box.lo.z,.int .i64 x.box.hi.x,.int .i64 x.box.hi.y,.int .i64 x.box.hi.z,.int .i64 x.at_.x,.int .i64 x.at_.y,.int .i64 x.at_.z,.int .i64 x.turn,.int .i64 x.cell,.int .i64 x.size]:Value)=V0
 go_wp2_with fail
 ((refine(HD.out _).mono ?_);rintro e wx ⟨rfl,xx⟩;have xz:=xx.size;(try simp only[World.size_alloc_,World.size_setCell_]at xz);obtain⟨B0,cB0,fB0,lB0⟩:=Arr.look (w':=wx) B0 byX)
 go_wp2_with fail
 ((refine(HM.out _).mono ?_);rintro e wx ⟨rfl,xx⟩;have xz:=xx.size;(try simp only[World.size_alloc_,World.size_setCell_]at xz);obtain⟨B0,cB0,fB0,lB0⟩:=Arr.look (w':=wx) B0 byX)
 go_wp2_with (first | (refine ldB 32 3 B0 Tryz.underlying32 ?_) | (refine ldB 32 3 (B0.alloc _) Tryz.underlying32 ?_) | (refine ldB 32 3 ((B0.alloc _).alloc _) Tryz.underlying32 ?_))
 ((refine(HF.out _ ?_).mono ?_);(exact byX);rintro e wx ⟨rfl,xx⟩;have xz:=xx.size;(try simp only[World.size_alloc_,World.size_setCell_]at xz);obtain⟨B0,cB0,fB0,lB0⟩:=Arr.look (w':=wx) B0 byX)
 go_wp2_with fail
 ((refine(Cube_any _ _).mono ?_);rintro e wa ⟨rfl,xx⟩;have xz:=xx.size;(try simp only[World.size_alloc_,World.size_setCell_]at xz);obtain⟨B0,cB0,fB0,lB0⟩:=Arr.look (w':=wa) B0 byX)
 go_wp2_with fail
 ((refine(HW.out _).mono ?_);rintro e wb ⟨rfl,xx⟩;have xz:=xx.size;(try simp only[World.size_alloc_]at xz);obtain⟨B0,cB0,fB0,lB0⟩:=Arr.look (w':=wb) B0 byX)
 have B1:=(Arr.new wa 25 [.int .i64 (cubeB S).lo.x,.int .i64 (cubeB S).lo.y,.int .i64 (cubeB S).lo.z,.int .i64 (cubeB S).hi.x,.int .i64 (cubeB S).hi.y,.int .i64 (cubeB S).hi.z]).ext xx;simp only[cubeB]at B1;have cB1:=B1.cell;have fB1:=B1.frozen;have lB1:=B1.lt
 go_wp2_with (first | (refine ldB 32 3 B0 Tryz.underlying32 ?_) | (refine ldB 32 3 (B0.alloc _) Tryz.underlying32 ?_) | (refine ldB 32 3 ((B0.alloc _).alloc _) Tryz.underlying32 ?_))
 ((refine(HZ.out _).mono ?_);rintro e wx ⟨rfl,xx⟩;have xz:=xx.size;(try simp only[World.size_alloc_]at xz);obtain⟨B0,cB0,fB0,lB0⟩:=Arr.look (w':=wx) B0 byX;obtain⟨B1,cB1,fB1,lB1⟩:=Arr.look (w':=wx) B1 byX)
 have B2:=(Arr.new wb 23 [.int .i64 (addP x.box.hi (scaleP ⟨1,1,1⟩ (-1))).x,.int .i64 (addP x.box.hi (scaleP ⟨1,1,1⟩ (-1))).y,.int .i64 (addP x.box.hi (scaleP ⟨1,1,1⟩ (-1))).z]).ext xx;have cB2:=B2.cell;have fB2:=B2.frozen;have lB2:=B2.lt
 go_wp2_with fail
 ((refine(HU.out 1 _ (by omega) HE1.out _ ?_).mono ?_);(exact byX);rintro e wx ⟨rfl,xx⟩;have xz:=xx.size;(try simp only[World.size_alloc_,World.size_setCell_]at xz);obtain⟨B0,cB0,fB0,lB0⟩:=Arr.look (w':=wx) B0 byX;obtain⟨B1,cB1,fB1,lB1⟩:=Arr.look (w':=wx) B1 byX;obtain⟨B2,cB2,fB2,lB2⟩:=Arr.look (w':=wx) B2 byX)
 go_wp2_with fail
 ((refine(HE.out _).mono ?_);rintro e wx ⟨rfl,xx⟩;have xz:=xx.size;(try simp only[World.size_alloc_,World.size_setCell_]at xz);obtain⟨B0,cB0,fB0,lB0⟩:=Arr.look (w':=wx) B0 byX;obtain⟨B1,cB1,fB1,lB1⟩:=Arr.look (w':=wx) B1 byX;obtain⟨B2,cB2,fB2,lB2⟩:=Arr.look (w':=wx) B2 byX)
 cases be
 case true=>
  go_wp2
  go_ret
  exact⟨ret_int (by rw[HB.out];simp),byX⟩
 go_wp2_with (first | (refine ldB 25 7 B1 Tryz.underlying25 ?_) | (refine ldB 25 7 (B1.alloc _) Tryz.underlying25 ?_) | (refine ldB 25 7 ((B1.alloc _).alloc _) Tryz.underlying25 ?_))
 ((refine(HL.out _).mono ?_);rintro e wx ⟨rfl,xx⟩;have xz:=xx.size;(try simp only[World.size_alloc_,World.size_setCell_]at xz);obtain⟨B0,cB0,fB0,lB0⟩:=Arr.look (w':=wx) B0 byX;obtain⟨B1,cB1,fB1,lB1⟩:=Arr.look (w':=wx) B1 byX;obtain⟨B2,cB2,fB2,lB2⟩:=Arr.look (w':=wx) B2 byX)
 cases bl
 case false=>
  go_wp2
  go_ret
  exact⟨ret_int (by rw[HB.out];simp),byX⟩
 go_wp2_with (first | (refine ldB 25 7 B1 Tryz.underlying25 ?_) | (refine ldB 25 7 (B1.alloc _) Tryz.underlying25 ?_) | (refine ldB 25 7 ((B1.alloc _).alloc _) Tryz.underlying25 ?_))
 ((refine(HX.out _).mono ?_);rintro e wx ⟨rfl,xx⟩;have xz:=xx.size;(try simp only[World.size_alloc_,World.size_setCell_]at xz);obtain⟨B0,cB0,fB0,lB0⟩:=Arr.look (w':=wx) B0 byX;obtain⟨B1,cB1,fB1,lB1⟩:=Arr.look (w':=wx) B1 byX;obtain⟨B2,cB2,fB2,lB2⟩:=Arr.look (w':=wx) B2 byX)
 cases bx
 case false=>
  go_wp2
  go_ret
  exact⟨ret_int (by rw[HB.out];simp),byX⟩
 go_wp2_with fail
 ((refine(HU.out 2 _ (by omega) HE2.out _ ?_).mono ?_);(exact byX);rintro e wx ⟨rfl,xx⟩;have xz:=xx.size;(try simp only[World.size_alloc_,World.size_setCell_]at xz);obtain⟨B0,cB0,fB0,lB0⟩:=Arr.look (w':=wx) B0 byX;obtain⟨B1,cB1,fB1,lB1⟩:=Arr.look (w':=wx) B1 byX;obtain⟨B2,cB2,fB2,lB2⟩:=Arr.look (w':=wx) B2 byX)
 go_wp2_with (first | (refine ldB 25 7 B1 Tryz.underlying25 ?_) | (refine ldB 25 7 (B1.alloc _) Tryz.underlying25 ?_) | (refine ldB 25 7 ((B1.alloc _).alloc _) Tryz.underlying25 ?_))
 ((refine(HA.out _).mono ?_);rintro e wx ⟨rfl,xx⟩;have xz:=xx.size;(try simp only[World.size_alloc_,World.size_setCell_]at xz);obtain⟨B0,cB0,fB0,lB0⟩:=Arr.look (w':=wx) B0 byX;obtain⟨B1,cB1,fB1,lB1⟩:=Arr.look (w':=wx) B1 byX;obtain⟨B2,cB2,fB2,lB2⟩:=Arr.look (w':=wx) B2 byX)
 cases ba
 case false=>
  go_wp2
  go_ret
  exact⟨ret_int (by rw[HB.out];simp),byX⟩
 go_wp2_with fail
 ((refine(HT.out _).mono ?_);rintro e wx ⟨rfl,xx⟩;have xz:=xx.size;(try simp only[World.size_alloc_,World.size_setCell_]at xz);obtain⟨B0,cB0,fB0,lB0⟩:=Arr.look (w':=wx) B0 byX;obtain⟨B1,cB1,fB1,lB1⟩:=Arr.look (w':=wx) B1 byX;obtain⟨B2,cB2,fB2,lB2⟩:=Arr.look (w':=wx) B2 byX)
 cases bt
 case false=>
  go_wp2
  go_ret
  exact⟨ret_int (by rw[HB.out];simp),byX⟩
 go_wp2_with fail
 ((refine(HG.out _).mono ?_);rintro e wx ⟨rfl,xx⟩;have xz:=xx.size;(try simp only[World.size_alloc_,World.size_setCell_]at xz);obtain⟨B0,cB0,fB0,lB0⟩:=Arr.look (w':=wx) B0 byX;obtain⟨B1,cB1,fB1,lB1⟩:=Arr.look (w':=wx) B1 byX;obtain⟨B2,cB2,fB2,lB2⟩:=Arr.look (w':=wx) B2 byX)
 cases bc
 case false=>
  go_wp2
  go_ret
  exact⟨ret_int (by rw[HB.out];simp),byX⟩
 go_wp2_with fail
 ((refine(HS.out _).mono ?_);rintro e wx ⟨rfl,xx⟩;have xz:=xx.size;(try simp only[World.size_alloc_,World.size_setCell_]at xz);obtain⟨B0,cB0,fB0,lB0⟩:=Arr.look (w':=wx) B0 byX;obtain⟨B1,cB1,fB1,lB1⟩:=Arr.look (w':=wx) B1 byX;obtain⟨B2,cB2,fB2,lB2⟩:=Arr.look (w':=wx) B2 byX)
 cases bs
 case false=>
  go_wp2
  go_ret
  exact⟨ret_int (by rw[HB.out];simp),byX⟩
 go_wp2
 go_ret
 exact⟨ret_int (by rw[HB.out];simp),byX⟩
theorem Check_6(x:Ed)(d m:Int)(w:World)(hR:RowsIn w)(hd:2≤d∧d≤14)(hm:1≤m∧m≤256)(hf:formedE x=true)(e1:usesF x.kind 1=false)(e2:usesF x.kind 2=false)(hk:1≤x.kind∧x.kind≤8):
    Calls Tryz.prog 35 #[.agg #[.int .i64 x.st.tick,.int .i64 x.st.clock,.int .i64 x.st.site,.int .i64 x.st.seq,.int .i64 x.kind,.int .i64 x.box.lo.x,.int .i64 x.box.lo.y,.int .i64 x.box.lo.z,.int .i64 x.box.hi.x,.int .i64 x.box.hi.y,.int .i64 x.box.hi.z,.int .i64 x.at_.x,.int .i64 x.at_.y,.int .i64 x.at_.z,.int .i64 x.turn,.int .i64 x.cell,.int .i64 x.size],.int .i64 d,.int .i64 m] w fun e w'=>e = .returned (.int .i64 (checkE x d m))∧Ext w w':=by
 have HF:=Lib.hid (fun(w':World) (hx:Ext w w')=>hf ▸ Formed_any x w' (hR.ext hx));have HD:=Lib.hid (withinE_is d 2 14 true (decide_eq_true hd));have HM:=Lib.hid (withinE_is m 1 256 true (decide_eq_true hm));have hv:validS x.st=true:=by
  have h:=formedE_def x;rw[hf]at h
  cases hq:validS x.st
  · rw[hq]at h;cases h
  · rfl
 obtain⟨_,_,_,hs1,hs2⟩:=(validS_iff x.st).1 hv;have HZ:=Lib.hid (fun w':World=>sizes_any x w' hs1 hs2);have HC:checkE x d m=if badE x (2 ^ d.toNat) m then 1 else 0:=by
  unfold checkE;rw[decide_eq_true hd,decide_eq_true hm,hf];rfl
 have hb:=badE_def x (2 ^ d.toNat) m;have hsh:=shl_run d hd;obtain⟨S,hS⟩:∃ S:Int,(2:Int) ^ d.toNat=S:=⟨_,rfl⟩;rw[hS]at HC hb hsh;obtain⟨R,hRR⟩:∃ R:Int,R=(if badE x S m then 1 else 0):=⟨_,rfl⟩;rw[HC,← hRR];have HE:=Lib.hid (fun w':World=>Empty_any x.box w');have HL:=Lib.hid (fun w':World=>In_any x.box.lo (cubeB S) w');have HA:=Lib.hid (fun w':World=>In_any x.at_ (cubeB S) w');have HX:=Lib.hid (fun w':World=>In_any (lastP x.box) (cubeB S) w');have HW:=Lib.hid (fun w':World=>Sub_any x.box.hi ⟨1,1,1⟩ w');have HU:=Lib.hid (fun(f:Int) (b:Bool) (hf:f=1∨f=2∨f=4∨f=8∨f=16) (hb:usesF x.kind f=b) (w':World) (hx:Ext w w')=>uses_is x.kind f b (by omega) hf hb w' (hR.ext hx));generalize emptyB x.box=be at hb HE;generalize inP x.box.lo (cubeB S)=bl at hb HL;generalize inP x.at_ (cubeB S)=ba at hb HA;generalize inP (lastP x.box) (cubeB S)=bx at hb HX;have HT:=Lib.hid (withinE_is x.turn 0 47 _ rfl);have HG:=Lib.hid (withinE_is x.cell 0 (m - 1) _ rfl);have HS:=Lib.hid (withinE_is x.size (leastE x) (mostE x) _ rfl);generalize decide (0≤x.turn∧x.turn≤47)=bt at hb HT;generalize decide (0≤x.cell∧x.cell≤m - 1)=bc at hb HG;generalize decide (leastE x≤x.size∧x.size≤mostE x)=bs at hb HS;rw[e1,e2]at hb;rw[hb]at hRR;have HB:=Lib.hid hRR;have HE1:=Lib.hid e1;have HE2:=Lib.hid e2;have hm1:0≤m - 1:=by omega
 clear hb hRR e1 e2 hv HC hS hf hk hs1 hs2 hd;simp only[cubeB]at HL HA HX;simp only[lastP]at HX
 go_enter Tryz.func35,Tryz.ntmps35
 go_upto_region 1 with fail
 obtain⟨W0,hW⟩:∃ W,W=w.alloc (.cells #[.int .i64 x.st.tick,.int .i64 x.st.clock,.int .i64 x.st.site,.int .i64 x.st.seq,.int .i64 x.kind,.int .i64 x.box.lo.x,.int .i64 x.box.lo.y,.int .i64 x.box.lo.z,.int .i64 x.box.hi.x,.int .i64 x.box.hi.y,.int .i64 x.box.hi.z,.int .i64 x.at_.x,.int .i64 x.at_.y,.int .i64 x.at_.z,.int .i64 x.turn,.int .i64 x.cell,.int .i64 x.size] 32):=⟨_,rfl⟩;have hx0:Ext w W0:=by rw[hW];exact(Ext.refl w).alloc _
 have B0:Arr W0 w.heap.size 32 [.int .i64 x.st.tick,.int .i64 x.st.clock,.int .i64 x.st.site,.int .i64 x.st.seq,.int .i64 x.kind,.int .i64 x.box.lo.x,.int .i64 x.box.lo.y,.int .i64 x.box.lo.z,.int .i64 x.box.hi.x,.int .i64 x.box.hi.y,.int .i64 x.box.hi.z,.int .i64 x.at_.x,.int .i64 x.at_.y,.int .i64 x.at_.z,.int .i64 x.turn,.int .i64 x.cell,.int .i64 x.size]:=by rw[hW];exact Arr.new w _ _
 rw[← hW];clear hW;have cB0:=B0.cell;have fB0:=B0.frozen;have lB0:=B0.lt;generalize (.agg #[.int .i64 x.st.tick,.int .i64 x.st.clock,.int .i64 x.st.site,.int .i64 x.st.seq,.int .i64 x.kind,.int .i64 x.box.lo.x,.int .i64 x.box.lo.y,.int .i64 x.box.lo.z,.int .i64 x.box.hi.x,.int .i64 x.box.hi.y,.int .i64 x.box.hi.z,.int .i64 x.at_.x,.int .i64 x.at_.y,.int .i64 x.at_.z,.int .i64 x.turn,.int .i64 x.cell,.int .i64 x.size]:Value)=V0
 go_wp2_with fail
 ((refine(HD.out _).mono ?_);rintro e wx ⟨rfl,xx⟩;have xz:=xx.size;(try simp only[World.size_alloc_,World.size_setCell_]at xz);obtain⟨B0,cB0,fB0,lB0⟩:=Arr.look (w':=wx) B0 byX)
 go_wp2_with fail
 ((refine(HM.out _).mono ?_);rintro e wx ⟨rfl,xx⟩;have xz:=xx.size;(try simp only[World.size_alloc_,World.size_setCell_]at xz);obtain⟨B0,cB0,fB0,lB0⟩:=Arr.look (w':=wx) B0 byX)
 go_wp2_with (first | (refine ldB 32 3 B0 Tryz.underlying32 ?_) | (refine ldB 32 3 (B0.alloc _) Tryz.underlying32 ?_) | (refine ldB 32 3 ((B0.alloc _).alloc _) Tryz.underlying32 ?_))
 ((refine(HF.out _ ?_).mono ?_);(exact byX);rintro e wx ⟨rfl,xx⟩;have xz:=xx.size;(try simp only[World.size_alloc_,World.size_setCell_]at xz);obtain⟨B0,cB0,fB0,lB0⟩:=Arr.look (w':=wx) B0 byX)
 go_wp2_with fail
 ((refine(Cube_any _ _).mono ?_);rintro e wa ⟨rfl,xx⟩;have xz:=xx.size;(try simp only[World.size_alloc_,World.size_setCell_]at xz);obtain⟨B0,cB0,fB0,lB0⟩:=Arr.look (w':=wa) B0 byX)
 go_wp2_with fail
 ((refine(HW.out _).mono ?_);rintro e wb ⟨rfl,xx⟩;have xz:=xx.size;(try simp only[World.size_alloc_]at xz);obtain⟨B0,cB0,fB0,lB0⟩:=Arr.look (w':=wb) B0 byX)
 have B1:=(Arr.new wa 25 [.int .i64 (cubeB S).lo.x,.int .i64 (cubeB S).lo.y,.int .i64 (cubeB S).lo.z,.int .i64 (cubeB S).hi.x,.int .i64 (cubeB S).hi.y,.int .i64 (cubeB S).hi.z]).ext xx;simp only[cubeB]at B1;have cB1:=B1.cell;have fB1:=B1.frozen;have lB1:=B1.lt
 go_wp2_with (first | (refine ldB 32 3 B0 Tryz.underlying32 ?_) | (refine ldB 32 3 (B0.alloc _) Tryz.underlying32 ?_) | (refine ldB 32 3 ((B0.alloc _).alloc _) Tryz.underlying32 ?_))
 ((refine(HZ.out _).mono ?_);rintro e wx ⟨rfl,xx⟩;have xz:=xx.size;(try simp only[World.size_alloc_]at xz);obtain⟨B0,cB0,fB0,lB0⟩:=Arr.look (w':=wx) B0 byX;obtain⟨B1,cB1,fB1,lB1⟩:=Arr.look (w':=wx) B1 byX)
 have B2:=(Arr.new wb 23 [.int .i64 (addP x.box.hi (scaleP ⟨1,1,1⟩ (-1))).x,.int .i64 (addP x.box.hi (scaleP ⟨1,1,1⟩ (-1))).y,.int .i64 (addP x.box.hi (scaleP ⟨1,1,1⟩ (-1))).z]).ext xx;have cB2:=B2.cell;have fB2:=B2.frozen;have lB2:=B2.lt
 go_wp2_with fail
 ((refine(HU.out 1 _ (by omega) HE1.out _ ?_).mono ?_);(exact byX);rintro e wx ⟨rfl,xx⟩;have xz:=xx.size;(try simp only[World.size_alloc_,World.size_setCell_]at xz);obtain⟨B0,cB0,fB0,lB0⟩:=Arr.look (w':=wx) B0 byX;obtain⟨B1,cB1,fB1,lB1⟩:=Arr.look (w':=wx) B1 byX;obtain⟨B2,cB2,fB2,lB2⟩:=Arr.look (w':=wx) B2 byX)
 go_wp2_with fail
 ((refine(HU.out 2 _ (by omega) HE2.out _ ?_).mono ?_);(exact byX);rintro e wx ⟨rfl,xx⟩;have xz:=xx.size;(try simp only[World.size_alloc_,World.size_setCell_]at xz);obtain⟨B0,cB0,fB0,lB0⟩:=Arr.look (w':=wx) B0 byX;obtain⟨B1,cB1,fB1,lB1⟩:=Arr.look (w':=wx) B1 byX;obtain⟨B2,cB2,fB2,lB2⟩:=Arr.look (w':=wx) B2 byX)
 go_wp2_with fail
 ((refine(HT.out _).mono ?_);rintro e wx ⟨rfl,xx⟩;have xz:=xx.size;(try simp only[World.size_alloc_,World.size_setCell_]at xz);obtain⟨B0,cB0,fB0,lB0⟩:=Arr.look (w':=wx) B0 byX;obtain⟨B1,cB1,fB1,lB1⟩:=Arr.look (w':=wx) B1 byX;obtain⟨B2,cB2,fB2,lB2⟩:=Arr.look (w':=wx) B2 byX)
 cases bt
 case false=>
  go_wp2
  go_ret
  exact⟨ret_int (by rw[HB.out];simp),byX⟩
 go_wp2_with fail
 ((refine(HG.out _).mono ?_);rintro e wx ⟨rfl,xx⟩;have xz:=xx.size;(try simp only[World.size_alloc_,World.size_setCell_]at xz);obtain⟨B0,cB0,fB0,lB0⟩:=Arr.look (w':=wx) B0 byX;obtain⟨B1,cB1,fB1,lB1⟩:=Arr.look (w':=wx) B1 byX;obtain⟨B2,cB2,fB2,lB2⟩:=Arr.look (w':=wx) B2 byX)
 cases bc
 case false=>
  go_wp2
  go_ret
  exact⟨ret_int (by rw[HB.out];simp),byX⟩
 go_wp2_with fail
 ((refine(HS.out _).mono ?_);rintro e wx ⟨rfl,xx⟩;have xz:=xx.size;(try simp only[World.size_alloc_,World.size_setCell_]at xz);obtain⟨B0,cB0,fB0,lB0⟩:=Arr.look (w':=wx) B0 byX;obtain⟨B1,cB1,fB1,lB1⟩:=Arr.look (w':=wx) B1 byX;obtain⟨B2,cB2,fB2,lB2⟩:=Arr.look (w':=wx) B2 byX)
 cases bs
 case false=>
  go_wp2
  go_ret
  exact⟨ret_int (by rw[HB.out];simp),byX⟩
 go_wp2
 go_ret
 exact⟨ret_int (by rw[HB.out];simp),byX⟩
theorem Check_any(x:Ed)(d m:Int)(w:World)(hR:RowsIn w):
    Calls Tryz.prog 35 #[.agg #[.int .i64 x.st.tick,.int .i64 x.st.clock,.int .i64 x.st.site,.int .i64 x.st.seq,.int .i64 x.kind,.int .i64 x.box.lo.x,.int .i64 x.box.lo.y,.int .i64 x.box.lo.z,.int .i64 x.box.hi.x,.int .i64 x.box.hi.y,.int .i64 x.box.hi.z,.int .i64 x.at_.x,.int .i64 x.at_.y,.int .i64 x.at_.z,.int .i64 x.turn,.int .i64 x.cell,.int .i64 x.size],.int .i64 d,.int .i64 m] w fun e w'=>e = .returned (.int .i64 (checkE x d m))∧Ext w w':=by
 by_cases h:¬ (2≤d∧d≤14)∨¬ (1≤m∧m≤256)∨formedE x=false
 · exact Check_out x d m w hR h
 · have hd:2≤d∧d≤14:=Classical.byContradiction fun hh=>h (.inl hh);have hm:1≤m∧m≤256:=Classical.byContradiction fun hh=>h (.inr (.inl hh));have hf:formedE x=true:=by
    cases hq:formedE x
    · exact absurd (.inr (.inr hq)) h
    · rfl
   have hk:1≤x.kind∧x.kind≤8:=by
    have h:=formedE_def x;rw[hf]at h
    cases hq:decide (1≤x.kind∧x.kind≤8)
    · rw[hq]at h;simp at h
    · exact of_decide_eq_true hq
   cases e1:usesF x.kind 1
   · cases e2:usesF x.kind 2
     · exact Check_6 x d m w hR hd hm hf e1 e2 hk
     · exact Check_2 x d m w hR hd hm hf e1 e2 hk
   · cases e2:usesF x.kind 2
     · exact Check_1 x d m w hR hd hm hf e1 e2 hk
     · exact Check_4 x d m w hR hd hm hf e1 e2 hk
end Go.Proofs.YtoecbicdahbccaaGreatDoor
