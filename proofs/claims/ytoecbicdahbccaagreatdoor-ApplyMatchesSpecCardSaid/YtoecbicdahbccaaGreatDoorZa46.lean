/- A part of the walk of the layer of apply: contracts and plain laws that a row's text leans on. -/
import Derived.Test.YtoecbicdahbccaaGreatDoorZa13
set_option maxRecDepth 100000
set_option maxHeartbeats 16000000
namespace Go.Proofs.YtoecbicdahbccaaGreatDoor
open Go Go.RowKit
theorem putK_at{l:List Pt}{p:Pt}{j:Nat}(h:∀ (i:Nat) (y:Pt),i < j→l[i]? = some y→befP y p=true)(hj:j≤l.length)(he:∀ y,l[j]? = some y→befP y p=false):putK l p=j:=by
 unfold putK
 induction l generalizing j with
 | nil=>simp at hj;simp[hj]
 | cons x xs ih=>
   rcases j with _ | j
   · have:=he x rfl;simp[this]
   · have h0:=h 0 x (by omega) rfl;simp only[List.takeWhile_cons,h0,if_true,List.length_cons];rw[ih (j:=j) (fun i y hi hy=>h (i+1) y (by omega) (by simpa using hy)) (by simpa using hj) (fun y hy=>he y (by simpa using hy))]
theorem within24_any(n lo hi:Int)(w:World):
    Calls Tryz.prog 138 #[.int .i64 n,.int .i64 lo,.int .i64 hi] w fun e w'=>e = .returned (.bool (decide (lo≤n∧n≤hi)))∧Ext w w':=by
 go_enter Tryz.func138,Tryz.ntmps138
 go_wp2
 all_goals
  go_ret
  refine⟨ret_bool ?_,byX⟩;rw[Bool.eq_iff_iff];simp
  try omega
theorem validS_and(s:Sp):(decide (0≤s.tick∧s.tick≤4000) && (decide (1≤s.clock∧s.clock≤1000000) && (decide (1≤s.site∧s.site≤8) && decide (1≤s.seq∧s.seq≤1000))))=validS s:=by
 rw[Bool.eq_iff_iff];simp[validS]
theorem refValid24_any(s:Sp)(w:World):
    Calls Tryz.prog 103 #[.agg #[.int .i64 s.tick,.int .i64 s.clock,.int .i64 s.site,.int .i64 s.seq]] w fun e w'=>e = .returned (.bool (validS s))∧Ext w w':=by
 rw[← validS_and];generalize h0:decide (0≤s.tick∧s.tick≤4000)=b0;generalize h1:decide (1≤s.clock∧s.clock≤1000000)=b1;generalize h2:decide (1≤s.site∧s.site≤8)=b2;generalize h3:decide (1≤s.seq∧s.seq≤1000)=b3;have c0:=fun w=>within24_any s.tick 0 4000 w;have c1:=fun w=>within24_any s.clock 1 1000000 w;have c2:=fun w=>within24_any s.site 1 8 w;have c3:=fun w=>within24_any s.seq 1 1000 w;rw[h0]at c0;rw[h1]at c1;rw[h2]at c2;rw[h3]at c3;have C0:=Lib.hid c0;have C1:=Lib.hid c1;have C2:=Lib.hid c2;have C3:=Lib.hid c3;clear c0 c1 c2 c3 h0 h1 h2 h3
 go_enter Tryz.func103,Tryz.ntmps103
 go_wp2_with fail
 refine(C0.out _).mono ?_;rintro e wx ⟨rfl,xx⟩;obtain⟨xc,xf,xl,xe,xn,xm⟩:=xx.look;have xz:=xx.size;(try simp only[World.size_alloc_]at xz);(try (have qh:=xx.one (b:=w.heap.size) (by(try simp only[World.size_alloc_]);omega);obtain⟨qc,qf,ql,qe,qn,qm⟩:=qh));(try (have qh:=xx.one (b:=w.heap.size+1) (by(try simp only[World.size_alloc_]);omega);obtain⟨qc,qf,ql,qe,qn,qm⟩:=qh));(try (have qh:=xx.one (b:=w.heap.size+1+1) (by(try simp only[World.size_alloc_]);omega);obtain⟨qc,qf,ql,qe,qn,qm⟩:=qh));(try (have qh:=xx.one (b:=w.heap.size+1+1+1) (by(try simp only[World.size_alloc_]);omega);obtain⟨qc,qf,ql,qe,qn,qm⟩:=qh))
 cases b0
 · go_wp2
   go_ret
   exact⟨rfl,byX⟩
 go_wp2_with fail
 refine(C1.out _).mono ?_;rintro e wx ⟨rfl,xx⟩;obtain⟨xc,xf,xl,xe,xn,xm⟩:=xx.look;have xz:=xx.size;(try simp only[World.size_alloc_,World.size_setCell_]at xz);(try (have qh:=xx.one (b:=w.heap.size) (by(try simp only[World.size_alloc_,World.size_setCell_]);omega);obtain⟨qc,qf,ql,qe,qn,qm⟩:=qh));(try (have qh:=xx.one (b:=w.heap.size+1) (by(try simp only[World.size_alloc_,World.size_setCell_]);omega);obtain⟨qc,qf,ql,qe,qn,qm⟩:=qh));(try (have qh:=xx.one (b:=w.heap.size+1+1) (by(try simp only[World.size_alloc_,World.size_setCell_]);omega);obtain⟨qc,qf,ql,qe,qn,qm⟩:=qh));(try (have qh:=xx.one (b:=w.heap.size+1+1+1) (by(try simp only[World.size_alloc_,World.size_setCell_]);omega);obtain⟨qc,qf,ql,qe,qn,qm⟩:=qh))
 cases b1
 · go_wp2
   go_ret
   exact⟨rfl,byX⟩
 go_wp2_with fail
 refine(C2.out _).mono ?_;rintro e wx ⟨rfl,xx⟩;obtain⟨xc,xf,xl,xe,xn,xm⟩:=xx.look;have xz:=xx.size;(try simp only[World.size_alloc_,World.size_setCell_]at xz);(try (have qh:=xx.one (b:=w.heap.size) (by(try simp only[World.size_alloc_,World.size_setCell_]);omega);obtain⟨qc,qf,ql,qe,qn,qm⟩:=qh));(try (have qh:=xx.one (b:=w.heap.size+1) (by(try simp only[World.size_alloc_,World.size_setCell_]);omega);obtain⟨qc,qf,ql,qe,qn,qm⟩:=qh));(try (have qh:=xx.one (b:=w.heap.size+1+1) (by(try simp only[World.size_alloc_,World.size_setCell_]);omega);obtain⟨qc,qf,ql,qe,qn,qm⟩:=qh));(try (have qh:=xx.one (b:=w.heap.size+1+1+1) (by(try simp only[World.size_alloc_,World.size_setCell_]);omega);obtain⟨qc,qf,ql,qe,qn,qm⟩:=qh))
 cases b2
 · go_wp2
   go_ret
   exact⟨rfl,byX⟩
 go_wp2_with fail
 refine(C3.out _).mono ?_;rintro e wx ⟨rfl,xx⟩;obtain⟨xc,xf,xl,xe,xn,xm⟩:=xx.look;have xz:=xx.size;(try simp only[World.size_alloc_,World.size_setCell_]at xz);(try (have qh:=xx.one (b:=w.heap.size) (by(try simp only[World.size_alloc_,World.size_setCell_]);omega);obtain⟨qc,qf,ql,qe,qn,qm⟩:=qh));(try (have qh:=xx.one (b:=w.heap.size+1) (by(try simp only[World.size_alloc_,World.size_setCell_]);omega);obtain⟨qc,qf,ql,qe,qn,qm⟩:=qh));(try (have qh:=xx.one (b:=w.heap.size+1+1) (by(try simp only[World.size_alloc_,World.size_setCell_]);omega);obtain⟨qc,qf,ql,qe,qn,qm⟩:=qh));(try (have qh:=xx.one (b:=w.heap.size+1+1+1) (by(try simp only[World.size_alloc_,World.size_setCell_]);omega);obtain⟨qc,qf,ql,qe,qn,qm⟩:=qh));go_wp2
 go_ret
 exact⟨by simp,byX⟩
theorem rowsP_take(l:List Pt)(i:Nat):rowsP (l.take i)=(rowsP l).take i:=by simp[rowsP,List.map_take]
theorem rowsP_drop(l:List Pt)(i:Nat):rowsP (l.drop i)=(rowsP l).drop i:=by simp[rowsP,List.map_drop]
theorem refFormed_out(x:Ed)(w:World)(hk:¬ (1≤x.kind∧x.kind≤8)):
    Calls Tryz.prog 58 #[.agg #[.int .i64 x.st.tick,.int .i64 x.st.clock,.int .i64 x.st.site,.int .i64 x.st.seq,.int .i64 x.kind,.int .i64 x.box.lo.x,.int .i64 x.box.lo.y,.int .i64 x.box.lo.z,.int .i64 x.box.hi.x,.int .i64 x.box.hi.y,.int .i64 x.box.hi.z,.int .i64 x.at_.x,.int .i64 x.at_.y,.int .i64 x.at_.z,.int .i64 x.turn,.int .i64 x.cell,.int .i64 x.size]] w fun e w'=>e = .returned (.bool false)∧Ext w w':=by
 have HV:=Lib.hid (fun w=>refValid24_any x.st w);obtain⟨st,kind,box,at_,turn,cell,size⟩:=x;simp only at hk HV;have hqb:=eqBx_run box zeroBx;have hqp:=eqPt_run at_ zeroPt;simp only[zeroBx,zeroPt]at hqb hqp;generalize decide (box=⟨⟨0,0,0⟩,⟨0,0,0⟩⟩)=eb at hqb;generalize decide (at_=⟨0,0,0⟩)=ep at hqp;have k1:(kind == 1)=false:=beq_eq_false_iff_ne.2 (by omega);have k2:(kind == 2)=false:=beq_eq_false_iff_ne.2 (by omega);have k3:(kind == 3)=false:=beq_eq_false_iff_ne.2 (by omega);have k4:(kind == 4)=false:=beq_eq_false_iff_ne.2 (by omega);have k5:(kind == 5)=false:=beq_eq_false_iff_ne.2 (by omega);have k6:(kind == 6)=false:=beq_eq_false_iff_ne.2 (by omega);have k7:(kind == 7)=false:=beq_eq_false_iff_ne.2 (by omega);have k8:(kind == 8)=false:=beq_eq_false_iff_ne.2 (by omega);clear hk
 go_enter Tryz.func58,Tryz.ntmps58
 go_wp2_with (first | (go_at_call 103;refine(HV.out _).mono ?_;rintro e wx ⟨rfl,xx⟩;obtain⟨xc,xf,xl,xe,xn,xm⟩:=xx.look;have xz:=xx.size;(try simp only[World.size_alloc_]at xz);(try (have qh:=xx.one (b:=w.heap.size) (by(try simp only[World.size_alloc_]);omega);obtain⟨qc,qf,ql,qe,qn,qm⟩:=qh));(try (have qh:=xx.one (b:=w.heap.size+1) (by(try simp only[World.size_alloc_]);omega);obtain⟨qc,qf,ql,qe,qn,qm⟩:=qh));(try (have qh:=xx.one (b:=w.heap.size+1+1) (by(try simp only[World.size_alloc_]);omega);obtain⟨qc,qf,ql,qe,qn,qm⟩:=qh));(try (have qh:=xx.one (b:=w.heap.size+1+1+1) (by(try simp only[World.size_alloc_]);omega);obtain⟨qc,qf,ql,qe,qn,qm⟩:=qh))))
 go_ret
 exact⟨rfl,byX⟩
theorem refFormed_1(x:Ed)(w:World)(hk:x.kind=1):
    Calls Tryz.prog 58 #[.agg #[.int .i64 x.st.tick,.int .i64 x.st.clock,.int .i64 x.st.site,.int .i64 x.st.seq,.int .i64 x.kind,.int .i64 x.box.lo.x,.int .i64 x.box.lo.y,.int .i64 x.box.lo.z,.int .i64 x.box.hi.x,.int .i64 x.box.hi.y,.int .i64 x.box.hi.z,.int .i64 x.at_.x,.int .i64 x.at_.y,.int .i64 x.at_.z,.int .i64 x.turn,.int .i64 x.cell,.int .i64 x.size]] w fun e w'=>e = .returned (.bool (formedE x))∧Ext w w':=by
 have HF:=Lib.hid (formedE_def x);have HV:=Lib.hid (fun w=>refValid24_any x.st w);obtain⟨st,kind,box,at_,turn,cell,size⟩:=x;simp only at hk;subst hk;have hqb:=eqBx_run box zeroBx;have hqp:=eqPt_run at_ zeroPt;simp only[zeroBx,zeroPt]at hqb hqp HF HV;have hu1:usesF 1 1=true:=rfl;have hu2:usesF 1 2=false:=rfl;have hu4:usesF 1 4=false:=rfl;have hu8:usesF 1 8=true:=rfl;have hu16:usesF 1 16=false:=rfl;generalize validS st=bv at HF HV;simp only[hu1,hu2,hu4,hu8,hu16]at HF
 go_enter Tryz.func58,Tryz.ntmps58
 go_wp2_with (first | (go_at_call 103;refine(HV.out _).mono ?_;rintro e wx ⟨rfl,xx⟩;obtain⟨xc,xf,xl,xe,xn,xm⟩:=xx.look;have xz:=xx.size;(try simp only[World.size_alloc_]at xz);(try (have qh:=xx.one (b:=w.heap.size) (by(try simp only[World.size_alloc_]);omega);obtain⟨qc,qf,ql,qe,qn,qm⟩:=qh));(try (have qh:=xx.one (b:=w.heap.size+1) (by(try simp only[World.size_alloc_]);omega);obtain⟨qc,qf,ql,qe,qn,qm⟩:=qh));(try (have qh:=xx.one (b:=w.heap.size+1+1) (by(try simp only[World.size_alloc_]);omega);obtain⟨qc,qf,ql,qe,qn,qm⟩:=qh));(try (have qh:=xx.one (b:=w.heap.size+1+1+1) (by(try simp only[World.size_alloc_]);omega);obtain⟨qc,qf,ql,qe,qn,qm⟩:=qh))))
 all_goals
  go_ret
  rw[HF.out];exact⟨ret_bool (by first | rfl | (simp[*];done) | (rw[Bool.eq_iff_iff];simp[*];done)),byX⟩
theorem refFormed_2(x:Ed)(w:World)(hk:x.kind=2):
    Calls Tryz.prog 58 #[.agg #[.int .i64 x.st.tick,.int .i64 x.st.clock,.int .i64 x.st.site,.int .i64 x.st.seq,.int .i64 x.kind,.int .i64 x.box.lo.x,.int .i64 x.box.lo.y,.int .i64 x.box.lo.z,.int .i64 x.box.hi.x,.int .i64 x.box.hi.y,.int .i64 x.box.hi.z,.int .i64 x.at_.x,.int .i64 x.at_.y,.int .i64 x.at_.z,.int .i64 x.turn,.int .i64 x.cell,.int .i64 x.size]] w fun e w'=>e = .returned (.bool (formedE x))∧Ext w w':=by
 have HF:=Lib.hid (formedE_def x);have HV:=Lib.hid (fun w=>refValid24_any x.st w);obtain⟨st,kind,box,at_,turn,cell,size⟩:=x;simp only at hk;subst hk;have hqb:=eqBx_run box zeroBx;have hqp:=eqPt_run at_ zeroPt;simp only[zeroBx,zeroPt]at hqb hqp HF HV;have hu1:usesF 2 1=false:=rfl;have hu2:usesF 2 2=true:=rfl;have hu4:usesF 2 4=false:=rfl;have hu8:usesF 2 8=true:=rfl;have hu16:usesF 2 16=true:=rfl;generalize validS st=bv at HF HV;simp only[hu1,hu2,hu4,hu8,hu16]at HF
 go_enter Tryz.func58,Tryz.ntmps58
 go_wp2_with (first | (go_at_call 103;refine(HV.out _).mono ?_;rintro e wx ⟨rfl,xx⟩;obtain⟨xc,xf,xl,xe,xn,xm⟩:=xx.look;have xz:=xx.size;(try simp only[World.size_alloc_]at xz);(try (have qh:=xx.one (b:=w.heap.size) (by(try simp only[World.size_alloc_]);omega);obtain⟨qc,qf,ql,qe,qn,qm⟩:=qh));(try (have qh:=xx.one (b:=w.heap.size+1) (by(try simp only[World.size_alloc_]);omega);obtain⟨qc,qf,ql,qe,qn,qm⟩:=qh));(try (have qh:=xx.one (b:=w.heap.size+1+1) (by(try simp only[World.size_alloc_]);omega);obtain⟨qc,qf,ql,qe,qn,qm⟩:=qh));(try (have qh:=xx.one (b:=w.heap.size+1+1+1) (by(try simp only[World.size_alloc_]);omega);obtain⟨qc,qf,ql,qe,qn,qm⟩:=qh))))
 all_goals
  go_ret
  rw[HF.out];exact⟨ret_bool (by first | rfl | (simp[*];done) | (rw[Bool.eq_iff_iff];simp[*];done)),byX⟩
theorem refFormed_3(x:Ed)(w:World)(hk:x.kind=3):
    Calls Tryz.prog 58 #[.agg #[.int .i64 x.st.tick,.int .i64 x.st.clock,.int .i64 x.st.site,.int .i64 x.st.seq,.int .i64 x.kind,.int .i64 x.box.lo.x,.int .i64 x.box.lo.y,.int .i64 x.box.lo.z,.int .i64 x.box.hi.x,.int .i64 x.box.hi.y,.int .i64 x.box.hi.z,.int .i64 x.at_.x,.int .i64 x.at_.y,.int .i64 x.at_.z,.int .i64 x.turn,.int .i64 x.cell,.int .i64 x.size]] w fun e w'=>e = .returned (.bool (formedE x))∧Ext w w':=by
 have HF:=Lib.hid (formedE_def x);have HV:=Lib.hid (fun w=>refValid24_any x.st w);obtain⟨st,kind,box,at_,turn,cell,size⟩:=x;simp only at hk;subst hk;have hqb:=eqBx_run box zeroBx;have hqp:=eqPt_run at_ zeroPt;simp only[zeroBx,zeroPt]at hqb hqp HF HV;have hu1:usesF 3 1=true:=rfl;have hu2:usesF 3 2=false:=rfl;have hu4:usesF 3 4=true:=rfl;have hu8:usesF 3 8=true:=rfl;have hu16:usesF 3 16=false:=rfl;generalize validS st=bv at HF HV;simp only[hu1,hu2,hu4,hu8,hu16]at HF
 go_enter Tryz.func58,Tryz.ntmps58
 go_wp2_with (first | (go_at_call 103;refine(HV.out _).mono ?_;rintro e wx ⟨rfl,xx⟩;obtain⟨xc,xf,xl,xe,xn,xm⟩:=xx.look;have xz:=xx.size;(try simp only[World.size_alloc_]at xz);(try (have qh:=xx.one (b:=w.heap.size) (by(try simp only[World.size_alloc_]);omega);obtain⟨qc,qf,ql,qe,qn,qm⟩:=qh));(try (have qh:=xx.one (b:=w.heap.size+1) (by(try simp only[World.size_alloc_]);omega);obtain⟨qc,qf,ql,qe,qn,qm⟩:=qh));(try (have qh:=xx.one (b:=w.heap.size+1+1) (by(try simp only[World.size_alloc_]);omega);obtain⟨qc,qf,ql,qe,qn,qm⟩:=qh));(try (have qh:=xx.one (b:=w.heap.size+1+1+1) (by(try simp only[World.size_alloc_]);omega);obtain⟨qc,qf,ql,qe,qn,qm⟩:=qh))))
 all_goals
  go_ret
  rw[HF.out];exact⟨ret_bool (by first | rfl | (simp[*];done) | (rw[Bool.eq_iff_iff];simp[*];done)),byX⟩
theorem refFormed_4(x:Ed)(w:World)(hk:x.kind=4):
    Calls Tryz.prog 58 #[.agg #[.int .i64 x.st.tick,.int .i64 x.st.clock,.int .i64 x.st.site,.int .i64 x.st.seq,.int .i64 x.kind,.int .i64 x.box.lo.x,.int .i64 x.box.lo.y,.int .i64 x.box.lo.z,.int .i64 x.box.hi.x,.int .i64 x.box.hi.y,.int .i64 x.box.hi.z,.int .i64 x.at_.x,.int .i64 x.at_.y,.int .i64 x.at_.z,.int .i64 x.turn,.int .i64 x.cell,.int .i64 x.size]] w fun e w'=>e = .returned (.bool (formedE x))∧Ext w w':=by
 have HF:=Lib.hid (formedE_def x);have HV:=Lib.hid (fun w=>refValid24_any x.st w);obtain⟨st,kind,box,at_,turn,cell,size⟩:=x;simp only at hk;subst hk;have hqb:=eqBx_run box zeroBx;have hqp:=eqPt_run at_ zeroPt;simp only[zeroBx,zeroPt]at hqb hqp HF HV;have hu1:usesF 4 1=true:=rfl;have hu2:usesF 4 2=true:=rfl;have hu4:usesF 4 4=true:=rfl;have hu8:usesF 4 8=false:=rfl;have hu16:usesF 4 16=false:=rfl;generalize validS st=bv at HF HV;simp only[hu1,hu2,hu4,hu8,hu16]at HF
 go_enter Tryz.func58,Tryz.ntmps58
 go_wp2_with (first | (go_at_call 103;refine(HV.out _).mono ?_;rintro e wx ⟨rfl,xx⟩;obtain⟨xc,xf,xl,xe,xn,xm⟩:=xx.look;have xz:=xx.size;(try simp only[World.size_alloc_]at xz);(try (have qh:=xx.one (b:=w.heap.size) (by(try simp only[World.size_alloc_]);omega);obtain⟨qc,qf,ql,qe,qn,qm⟩:=qh));(try (have qh:=xx.one (b:=w.heap.size+1) (by(try simp only[World.size_alloc_]);omega);obtain⟨qc,qf,ql,qe,qn,qm⟩:=qh));(try (have qh:=xx.one (b:=w.heap.size+1+1) (by(try simp only[World.size_alloc_]);omega);obtain⟨qc,qf,ql,qe,qn,qm⟩:=qh));(try (have qh:=xx.one (b:=w.heap.size+1+1+1) (by(try simp only[World.size_alloc_]);omega);obtain⟨qc,qf,ql,qe,qn,qm⟩:=qh))))
 all_goals
  go_ret
  rw[HF.out];exact⟨ret_bool (by first | rfl | (simp[*];done) | (rw[Bool.eq_iff_iff];simp[*];done)),byX⟩
theorem refFormed_5(x:Ed)(w:World)(hk:x.kind=5):
    Calls Tryz.prog 58 #[.agg #[.int .i64 x.st.tick,.int .i64 x.st.clock,.int .i64 x.st.site,.int .i64 x.st.seq,.int .i64 x.kind,.int .i64 x.box.lo.x,.int .i64 x.box.lo.y,.int .i64 x.box.lo.z,.int .i64 x.box.hi.x,.int .i64 x.box.hi.y,.int .i64 x.box.hi.z,.int .i64 x.at_.x,.int .i64 x.at_.y,.int .i64 x.at_.z,.int .i64 x.turn,.int .i64 x.cell,.int .i64 x.size]] w fun e w'=>e = .returned (.bool (formedE x))∧Ext w w':=by
 have HF:=Lib.hid (formedE_def x);have HV:=Lib.hid (fun w=>refValid24_any x.st w);obtain⟨st,kind,box,at_,turn,cell,size⟩:=x;simp only at hk;subst hk;have hqb:=eqBx_run box zeroBx;have hqp:=eqPt_run at_ zeroPt;simp only[zeroBx,zeroPt]at hqb hqp HF HV;have hu1:usesF 5 1=false:=rfl;have hu2:usesF 5 2=true:=rfl;have hu4:usesF 5 4=false:=rfl;have hu8:usesF 5 8=true:=rfl;have hu16:usesF 5 16=true:=rfl;generalize validS st=bv at HF HV;simp only[hu1,hu2,hu4,hu8,hu16]at HF
 go_enter Tryz.func58,Tryz.ntmps58
 go_wp2_with (first | (go_at_call 103;refine(HV.out _).mono ?_;rintro e wx ⟨rfl,xx⟩;obtain⟨xc,xf,xl,xe,xn,xm⟩:=xx.look;have xz:=xx.size;(try simp only[World.size_alloc_]at xz);(try (have qh:=xx.one (b:=w.heap.size) (by(try simp only[World.size_alloc_]);omega);obtain⟨qc,qf,ql,qe,qn,qm⟩:=qh));(try (have qh:=xx.one (b:=w.heap.size+1) (by(try simp only[World.size_alloc_]);omega);obtain⟨qc,qf,ql,qe,qn,qm⟩:=qh));(try (have qh:=xx.one (b:=w.heap.size+1+1) (by(try simp only[World.size_alloc_]);omega);obtain⟨qc,qf,ql,qe,qn,qm⟩:=qh));(try (have qh:=xx.one (b:=w.heap.size+1+1+1) (by(try simp only[World.size_alloc_]);omega);obtain⟨qc,qf,ql,qe,qn,qm⟩:=qh))))
 all_goals
  go_ret
  rw[HF.out];exact⟨ret_bool (by first | rfl | (simp[*];done) | (rw[Bool.eq_iff_iff];simp[*];done)),byX⟩
theorem refFormed_6(x:Ed)(w:World)(hk:x.kind=6):
    Calls Tryz.prog 58 #[.agg #[.int .i64 x.st.tick,.int .i64 x.st.clock,.int .i64 x.st.site,.int .i64 x.st.seq,.int .i64 x.kind,.int .i64 x.box.lo.x,.int .i64 x.box.lo.y,.int .i64 x.box.lo.z,.int .i64 x.box.hi.x,.int .i64 x.box.hi.y,.int .i64 x.box.hi.z,.int .i64 x.at_.x,.int .i64 x.at_.y,.int .i64 x.at_.z,.int .i64 x.turn,.int .i64 x.cell,.int .i64 x.size]] w fun e w'=>e = .returned (.bool (formedE x))∧Ext w w':=by
 have HF:=Lib.hid (formedE_def x);have HV:=Lib.hid (fun w=>refValid24_any x.st w);obtain⟨st,kind,box,at_,turn,cell,size⟩:=x;simp only at hk;subst hk;have hqb:=eqBx_run box zeroBx;have hqp:=eqPt_run at_ zeroPt;simp only[zeroBx,zeroPt]at hqb hqp HF HV;have hu1:usesF 6 1=false:=rfl;have hu2:usesF 6 2=false:=rfl;have hu4:usesF 6 4=false:=rfl;have hu8:usesF 6 8=false:=rfl;have hu16:usesF 6 16=true:=rfl;generalize validS st=bv at HF HV;simp only[hu1,hu2,hu4,hu8,hu16]at HF
 go_enter Tryz.func58,Tryz.ntmps58
 go_wp2_with (first | (go_at_call 103;refine(HV.out _).mono ?_;rintro e wx ⟨rfl,xx⟩;obtain⟨xc,xf,xl,xe,xn,xm⟩:=xx.look;have xz:=xx.size;(try simp only[World.size_alloc_]at xz);(try (have qh:=xx.one (b:=w.heap.size) (by(try simp only[World.size_alloc_]);omega);obtain⟨qc,qf,ql,qe,qn,qm⟩:=qh));(try (have qh:=xx.one (b:=w.heap.size+1) (by(try simp only[World.size_alloc_]);omega);obtain⟨qc,qf,ql,qe,qn,qm⟩:=qh));(try (have qh:=xx.one (b:=w.heap.size+1+1) (by(try simp only[World.size_alloc_]);omega);obtain⟨qc,qf,ql,qe,qn,qm⟩:=qh));(try (have qh:=xx.one (b:=w.heap.size+1+1+1) (by(try simp only[World.size_alloc_]);omega);obtain⟨qc,qf,ql,qe,qn,qm⟩:=qh))))
 all_goals
  go_ret
  rw[HF.out];exact⟨ret_bool (by first | rfl | (simp[*];done) | (rw[Bool.eq_iff_iff];simp[*];done)),byX⟩
theorem refFormed_7(x:Ed)(w:World)(hk:x.kind=7):
    Calls Tryz.prog 58 #[.agg #[.int .i64 x.st.tick,.int .i64 x.st.clock,.int .i64 x.st.site,.int .i64 x.st.seq,.int .i64 x.kind,.int .i64 x.box.lo.x,.int .i64 x.box.lo.y,.int .i64 x.box.lo.z,.int .i64 x.box.hi.x,.int .i64 x.box.hi.y,.int .i64 x.box.hi.z,.int .i64 x.at_.x,.int .i64 x.at_.y,.int .i64 x.at_.z,.int .i64 x.turn,.int .i64 x.cell,.int .i64 x.size]] w fun e w'=>e = .returned (.bool (formedE x))∧Ext w w':=by
 have HF:=Lib.hid (formedE_def x);have HV:=Lib.hid (fun w=>refValid24_any x.st w);obtain⟨st,kind,box,at_,turn,cell,size⟩:=x;simp only at hk;subst hk;have hqb:=eqBx_run box zeroBx;have hqp:=eqPt_run at_ zeroPt;simp only[zeroBx,zeroPt]at hqb hqp HF HV;have hu1:usesF 7 1=true:=rfl;have hu2:usesF 7 2=false:=rfl;have hu4:usesF 7 4=false:=rfl;have hu8:usesF 7 8=false:=rfl;have hu16:usesF 7 16=true:=rfl;generalize validS st=bv at HF HV;simp only[hu1,hu2,hu4,hu8,hu16]at HF
 go_enter Tryz.func58,Tryz.ntmps58
 go_wp2_with (first | (go_at_call 103;refine(HV.out _).mono ?_;rintro e wx ⟨rfl,xx⟩;obtain⟨xc,xf,xl,xe,xn,xm⟩:=xx.look;have xz:=xx.size;(try simp only[World.size_alloc_]at xz);(try (have qh:=xx.one (b:=w.heap.size) (by(try simp only[World.size_alloc_]);omega);obtain⟨qc,qf,ql,qe,qn,qm⟩:=qh));(try (have qh:=xx.one (b:=w.heap.size+1) (by(try simp only[World.size_alloc_]);omega);obtain⟨qc,qf,ql,qe,qn,qm⟩:=qh));(try (have qh:=xx.one (b:=w.heap.size+1+1) (by(try simp only[World.size_alloc_]);omega);obtain⟨qc,qf,ql,qe,qn,qm⟩:=qh));(try (have qh:=xx.one (b:=w.heap.size+1+1+1) (by(try simp only[World.size_alloc_]);omega);obtain⟨qc,qf,ql,qe,qn,qm⟩:=qh))))
 all_goals
  go_ret
  rw[HF.out];exact⟨ret_bool (by first | rfl | (simp[*];done) | (rw[Bool.eq_iff_iff];simp[*];done)),byX⟩
theorem refFormed_8(x:Ed)(w:World)(hk:x.kind=8):
    Calls Tryz.prog 58 #[.agg #[.int .i64 x.st.tick,.int .i64 x.st.clock,.int .i64 x.st.site,.int .i64 x.st.seq,.int .i64 x.kind,.int .i64 x.box.lo.x,.int .i64 x.box.lo.y,.int .i64 x.box.lo.z,.int .i64 x.box.hi.x,.int .i64 x.box.hi.y,.int .i64 x.box.hi.z,.int .i64 x.at_.x,.int .i64 x.at_.y,.int .i64 x.at_.z,.int .i64 x.turn,.int .i64 x.cell,.int .i64 x.size]] w fun e w'=>e = .returned (.bool (formedE x))∧Ext w w':=by
 have HF:=Lib.hid (formedE_def x);have HV:=Lib.hid (fun w=>refValid24_any x.st w);obtain⟨st,kind,box,at_,turn,cell,size⟩:=x;simp only at hk;subst hk;have hqb:=eqBx_run box zeroBx;have hqp:=eqPt_run at_ zeroPt;simp only[zeroBx,zeroPt]at hqb hqp HF HV;have hu1:usesF 8 1=false:=rfl;have hu2:usesF 8 2=false:=rfl;have hu4:usesF 8 4=false:=rfl;have hu8:usesF 8 8=false:=rfl;have hu16:usesF 8 16=true:=rfl;generalize validS st=bv at HF HV;simp only[hu1,hu2,hu4,hu8,hu16]at HF
 go_enter Tryz.func58,Tryz.ntmps58
 go_wp2_with (first | (go_at_call 103;refine(HV.out _).mono ?_;rintro e wx ⟨rfl,xx⟩;obtain⟨xc,xf,xl,xe,xn,xm⟩:=xx.look;have xz:=xx.size;(try simp only[World.size_alloc_]at xz);(try (have qh:=xx.one (b:=w.heap.size) (by(try simp only[World.size_alloc_]);omega);obtain⟨qc,qf,ql,qe,qn,qm⟩:=qh));(try (have qh:=xx.one (b:=w.heap.size+1) (by(try simp only[World.size_alloc_]);omega);obtain⟨qc,qf,ql,qe,qn,qm⟩:=qh));(try (have qh:=xx.one (b:=w.heap.size+1+1) (by(try simp only[World.size_alloc_]);omega);obtain⟨qc,qf,ql,qe,qn,qm⟩:=qh));(try (have qh:=xx.one (b:=w.heap.size+1+1+1) (by(try simp only[World.size_alloc_]);omega);obtain⟨qc,qf,ql,qe,qn,qm⟩:=qh))))
 all_goals
  go_ret
  rw[HF.out];exact⟨ret_bool (by first | rfl | (simp[*];done) | (rw[Bool.eq_iff_iff];simp[*];done)),byX⟩
theorem refFormed_any(x:Ed)(w:World):
    Calls Tryz.prog 58 #[.agg #[.int .i64 x.st.tick,.int .i64 x.st.clock,.int .i64 x.st.site,.int .i64 x.st.seq,.int .i64 x.kind,.int .i64 x.box.lo.x,.int .i64 x.box.lo.y,.int .i64 x.box.lo.z,.int .i64 x.box.hi.x,.int .i64 x.box.hi.y,.int .i64 x.box.hi.z,.int .i64 x.at_.x,.int .i64 x.at_.y,.int .i64 x.at_.z,.int .i64 x.turn,.int .i64 x.cell,.int .i64 x.size]] w fun e w'=>e = .returned (.bool (formedE x))∧Ext w w':=by
 by_cases hk:1≤x.kind∧x.kind≤8
 · obtain hk | hk | hk | hk | hk | hk | hk | hk:x.kind=1∨x.kind=2∨x.kind=3∨x.kind=4∨x.kind=5∨x.kind=6∨x.kind=7∨x.kind=8:=by omega
   · exact refFormed_1 x w hk
   · exact refFormed_2 x w hk
   · exact refFormed_3 x w hk
   · exact refFormed_4 x w hk
   · exact refFormed_5 x w hk
   · exact refFormed_6 x w hk
   · exact refFormed_7 x w hk
   · exact refFormed_8 x w hk
 · have hf:formedE x=false:=by
     rw[formedE_def,decide_eq_false hk];simp
   rw[hf];exact refFormed_out x w hk
section
variable {g:Gr} {sx sy sz:Nat}
theorem GoodG.atW(G:GoodG g sx sy sz){i:Nat}(h:i < g.cells.length):addP g.box.lo ⟨(i:Int) % sx,(i:Int) / sx % sy,(i:Int) / sx / sy⟩=atG g sx sy i:=by
 have hi:=(G.at_ h).1;rw[inP_iff]at hi;have h1:=G.hx;have h2:=G.hy;have h3:=G.hz;have b1:=G.bx;have b2:=G.by_;have b3:=G.bz;have l1:=G.lx;have l2:=G.ly;have l3:=G.lz;unfold addP;have e1:(i:Int) % (sx:Int)=((i % sx:Nat):Int):=by simp
 have e2:(i:Int) / (sx:Int) % (sy:Int)=((i / sx % sy:Nat):Int):=by simp
 have e3:(i:Int) / (sx:Int) / (sy:Int)=((i / sx / sy:Nat):Int):=by simp
 unfold atG at hi ⊢;simp only at hi ⊢;rw[e1,e2,e3];generalize i % sx=u at *;generalize i / sx % sy=v at *;generalize i / sx / sy=t at *;rw[wrap_small (by omega),wrap_small (by omega),wrap_small (by omega)]
end
theorem beforeP_any(a b:Pt)(w:World):
    Calls Tryz.prog 140 #[.agg #[.int .i64 a.x,.int .i64 a.y,.int .i64 a.z],.agg #[.int .i64 b.x,.int .i64 b.y,.int .i64 b.z]] w fun e w'=>e = .returned (.bool (befP a b))∧Ext w w':=by
 go_enter Tryz.func140,Tryz.ntmps140
 go_wp2
 all_goals
  go_ret
  refine⟨ret_bool ?_,byX⟩;rw[Bool.eq_iff_iff]
  simp_all [befP]
  try omega
theorem NearP_any(a b:Pt)(w:World):
    Calls Tryz.prog 139 #[.agg #[.int .i64 a.x,.int .i64 a.y,.int .i64 a.z],.agg #[.int .i64 b.x,.int .i64 b.y,.int .i64 b.z]] w fun e w'=>e = .returned (.bool (nearW a b))∧Ext w w':=by
 go_enter Tryz.func139,Tryz.ntmps139
 go_wp2
 go_ret
 exact⟨ret_bool (by unfold nearW;rw[Bool.eq_iff_iff];simp),byX⟩
theorem no_snoc{f:Pt→Bool}{l:List Pt}{j:Nat}{p:Pt}(h:∀ (i:Nat) (y:Pt),i < j→l[i]? = some y→f y=false)(hp:l[j]? = some p)(hf:f p=false):∀ (i:Nat) (y:Pt),i < j+1→l[i]? = some y→f y=false:=fun i y hi hy=>by
 rcases Nat.lt_succ_iff_lt_or_eq.1 hi with h1 | rfl
 · exact h i y h1 hy
 · rw[hp]at hy;injection hy with hy;subst hy;exact hf
theorem any_no{f:Pt→Bool}{l:List Pt}(h:∀ (i:Nat) (y:Pt),i < l.length→l[i]? = some y→f y=false):l.any f=false:=by
 rw[List.any_eq_false];intro x hx;obtain⟨i,hi⟩:=List.getElem?_of_mem hx;simp[h i x (List.getElem?_eq_some_iff.1 hi).1 hi]
theorem any_at{f:Pt→Bool}{l:List Pt}{j:Nat}{p:Pt}(hp:l[j]? = some p)(hf:f p=true):l.any f=true:=by
 rw[List.any_eq_true];exact⟨p,List.mem_of_getElem? hp,hf⟩
theorem has_any_eq(l:List Pt)(p:Pt):l.any (fun y=>decide (y=p))=decide (p∈l):=by
 rw[Bool.eq_iff_iff];simp
theorem Has_any(A:Option Addr)(c:Nat)(l:List Pt)(p:Pt)(w:World)(hs:Sv w w.heap.size 3 A c (rowsP l)):
    Calls Tryz.prog 104 #[.slice A l.length c,.agg #[.int .i64 p.x,.int .i64 p.y,.int .i64 p.z]] w fun e w'=>e = .returned (.bool (decide (p∈l)))∧Ext w w':=by
 have hm:=mixed;have hG:=near_old;have hln:l.length≤9223372036854775807:=by have h:=hs.len;rw[rowsP_length]at h;exact h
 rw[← has_any_eq];have HS:=Lib.hid hs;clear hs
 go_enter Tryz.func104,Tryz.ntmps104
 go_wp2
 go_loopw [5] (fun i wr=>∃ j:Nat,j≤l.length∧i = .int .i64 j∧(∀ (i:Nat) (y:Pt),i < j→l[i]? = some y→decide (y=p)=false)∧Arr wr w.heap.size 23 [.int .i64 p.x,.int .i64 p.y,.int .i64 p.z]∧Ext w wr) (fun i _=>l.length - (intOf i).toNat)
 case atStart=>exact⟨0,Nat.zero_le _,rfl,fun i y hi=>by omega,Arr.new w _ _,(Ext.refl w).alloc _⟩
 case round=>
  obtain⟨j,hj,rfl,hno,hB,hx⟩:=hrel;have HNO:=Lib.hid hno;clear hno
  by_cases hlt:j < l.length
  · obtain⟨q,hq⟩:∃ q,l[j]? = some q:=⟨_,List.getElem?_eq_getElem hlt⟩;obtain⟨b',off,rfl,hbl,r0,r1,r2⟩:=pt_row (HS.out.ext hx) hq;have p0:=hB.cell 0;have p1:=hB.cell 1;have p2:=hB.cell 2;simp only[List.getElem?_cons_zero,List.getElem?_cons_succ]at p0 p1 p2;have lB:=hB.lt;have hn:=eqPt_run q p;have HQ:=Lib.hid hq;have HB:=Lib.hid hB;generalize hbe:decide (q=p)=be at hn;have HBE:=Lib.hid hbe;clear hq hbe hB
    cases be
    · go_wp2_with fail
      refine wp_region_near (by assumption) (by kernel_rfl) ?_
      repeat (go_big_quiet_step (fail))
      refine wpQuiet_nil ?_;intro w1 hw1;have hy:=Ext.of_near hw1;clear hw1;have hB2:=HB.out.ext hy;go_wp2
      go_roundw
      case rel=>exact⟨j+1,by omega,by go_num,no_snoc HNO.out HQ.out HBE.out,hB2,hx.trans hy⟩
      case measure=>simp[intOf];omega
    · go_wp2_with fail
      refine wp_region_near (by assumption) (by kernel_rfl) ?_
      repeat (go_big_quiet_step (fail))
      refine wpQuiet_nil ?_;intro w1 hw1;have hy:=Ext.of_near hw1;clear hw1;go_wp2
      go_ret
      exact⟨ret_bool (any_at HQ.out HBE.out).symm,hx.trans hy⟩
  · obtain rfl:j=l.length:=by omega
    clear hB;go_wp2
    go_ret
    exact⟨ret_bool (any_no HNO.out).symm,hx⟩
theorem touches_any(A:Option Addr)(c:Nat)(l:List Pt)(p:Pt)(w:World)(hs:Sv w w.heap.size 3 A c (rowsP l)):
    Calls Tryz.prog 105 #[.slice A l.length c,.agg #[.int .i64 p.x,.int .i64 p.y,.int .i64 p.z]] w fun e w'=>e = .returned (.bool (l.any fun y=>nearW y p))∧Ext w w':=by
 have hm:=mixed;have hG:=near_old;have hln:l.length≤9223372036854775807:=by have h:=hs.len;rw[rowsP_length]at h;exact h
 have HS:=Lib.hid hs;clear hs
 go_enter Tryz.func105,Tryz.ntmps105
 go_wp2
 go_loopw [5] (fun i wr=>∃ j:Nat,j≤l.length∧i = .int .i64 j∧(∀ (i:Nat) (y:Pt),i < j→l[i]? = some y→nearW y p=false)∧Arr wr w.heap.size 23 [.int .i64 p.x,.int .i64 p.y,.int .i64 p.z]∧Ext w wr) (fun i _=>l.length - (intOf i).toNat)
 case atStart=>exact⟨0,Nat.zero_le _,rfl,fun i y hi=>by omega,Arr.new w _ _,(Ext.refl w).alloc _⟩
 case round=>
  obtain⟨j,hj,rfl,hno,hB,hx⟩:=hrel;have HNO:=Lib.hid hno;clear hno
  by_cases hlt:j < l.length
  · obtain⟨q,hq⟩:∃ q,l[j]? = some q:=⟨_,List.getElem?_eq_getElem hlt⟩;obtain⟨b',off,rfl,hbl,r0,r1,r2⟩:=pt_row (HS.out.ext hx) hq;have p0:=hB.cell 0;have p1:=hB.cell 1;have p2:=hB.cell 2;simp only[List.getElem?_cons_zero,List.getElem?_cons_succ]at p0 p1 p2;have lB:=hB.lt;have HN:=Lib.hid (fun w'=>NearP_any q p w');have HQ:=Lib.hid hq;have HB:=Lib.hid hB;generalize hbe:nearW q p=be at HN;have HBE:=Lib.hid hbe;clear hq hbe hB
    cases be
    · go_wp2_with fail
      refine wp_region_near (by assumption) (by kernel_rfl) ?_
      repeat (go_big_quiet_step ((go_at_call 139;exact near_call (HN.out _))))
      refine wpQuiet_nil ?_;intro w1 hw1;have hy:=Ext.of_near hw1;clear hw1;have hB2:=HB.out.ext hy;go_wp2
      go_roundw
      case rel=>exact⟨j+1,by omega,by go_num,no_snoc HNO.out HQ.out HBE.out,hB2,hx.trans hy⟩
      case measure=>simp[intOf];omega
    · go_wp2_with fail
      refine wp_region_near (by assumption) (by kernel_rfl) ?_
      repeat (go_big_quiet_step ((go_at_call 139;exact near_call (HN.out _))))
      refine wpQuiet_nil ?_;intro w1 hw1;have hy:=Ext.of_near hw1;clear hw1;go_wp2
      go_ret
      exact⟨ret_bool (any_at (f:=fun y=>nearW y p) HQ.out HBE.out).symm,hx.trans hy⟩
  · obtain rfl:j=l.length:=by omega
    clear hB;go_wp2
    go_ret
    exact⟨ret_bool (any_no HNO.out).symm,hx⟩
end Go.Proofs.YtoecbicdahbccaaGreatDoor
