/- A part of the walk of the layer of apply: contracts and plain laws that a row's text leans on. -/
import Derived.Test.YtoecbicdahbccaaGreatDoorZa9
set_option maxRecDepth 100000
set_option maxHeartbeats 16000000
namespace Go.Proofs.YtoecbicdahbccaaGreatDoor
open Go Go.RowKit
def zeroPt:Pt:=⟨0,0,0⟩
def zeroBx:Bx:=⟨⟨0,0,0⟩,⟨0,0,0⟩⟩
def meetB(a b:Bx):Bx:=⟨⟨max a.lo.x b.lo.x,max a.lo.y b.lo.y,max a.lo.z b.lo.z⟩,⟨min a.hi.x b.hi.x,min a.hi.y b.hi.y,min a.hi.z b.hi.z⟩⟩
def interB(a b:Bx):Bx:=if emptyB (meetB a b)then zeroBx else meetB a b
theorem Intersect_any(a b:Bx)(w:World):
    Calls Tryz.prog 112 #[.agg #[.int .i64 a.lo.x,.int .i64 a.lo.y,.int .i64 a.lo.z,.int .i64 a.hi.x,.int .i64 a.hi.y,.int .i64 a.hi.z],.agg #[.int .i64 b.lo.x,.int .i64 b.lo.y,.int .i64 b.lo.z,.int .i64 b.hi.x,.int .i64 b.hi.y,.int .i64 b.hi.z]] w fun e w'=>e = .returned (.agg #[.int .i64 (interB a b).lo.x,.int .i64 (interB a b).lo.y,.int .i64 (interB a b).lo.z,.int .i64 (interB a b).hi.x,.int .i64 (interB a b).hi.y,.int .i64 (interB a b).hi.z])∧Ext w w':=by
 have hc:=fun w':World=>Empty_any (meetB a b) w';unfold interB
 cases hq:emptyB (meetB a b)
 · rw[hq]at hc;have HC:=Lib.hid hc;clear hc hq;simp only[Bool.false_eq_true,if_false]
   go_enter Tryz.func112,Tryz.ntmps112
   go_wp2_with (first | (go_at_call 142;refine(join_any a b _ _ max min two_greater two_lesser _).mono ?_;rintro e wx ⟨rfl,xx⟩;obtain⟨xc,xf,xl,xe,xn,xm⟩:=xx.look;have xz:=xx.size;(try simp only[World.size_alloc_]at xz);(try (have qh:=xx.one (b:=w.heap.size) (by(try simp only[World.size_alloc_]);omega);obtain⟨qc,qf,ql,qe,qn,qm⟩:=qh));(try (have qh:=xx.one (b:=w.heap.size+1) (by(try simp only[World.size_alloc_]);omega);obtain⟨qc,qf,ql,qe,qn,qm⟩:=qh));(try (have qh:=xx.one (b:=w.heap.size+1+1) (by(try simp only[World.size_alloc_]);omega);obtain⟨qc,qf,ql,qe,qn,qm⟩:=qh));(try (have qh:=xx.one (b:=w.heap.size+1+1+1) (by(try simp only[World.size_alloc_]);omega);obtain⟨qc,qf,ql,qe,qn,qm⟩:=qh))) | (go_at_call 73;refine(HC.out _).mono ?_;rintro e wx ⟨rfl,xx⟩;obtain⟨xc,xf,xl,xe,xn,xm⟩:=xx.look;have xz:=xx.size;(try simp only[World.size_alloc_]at xz);(try (have qh:=xx.one (b:=w.heap.size) (by(try simp only[World.size_alloc_]);omega);obtain⟨qc,qf,ql,qe,qn,qm⟩:=qh));(try (have qh:=xx.one (b:=w.heap.size+1) (by(try simp only[World.size_alloc_]);omega);obtain⟨qc,qf,ql,qe,qn,qm⟩:=qh));(try (have qh:=xx.one (b:=w.heap.size+1+1) (by(try simp only[World.size_alloc_]);omega);obtain⟨qc,qf,ql,qe,qn,qm⟩:=qh));(try (have qh:=xx.one (b:=w.heap.size+1+1+1) (by(try simp only[World.size_alloc_]);omega);obtain⟨qc,qf,ql,qe,qn,qm⟩:=qh))))
   refine bodyPost_ret (v:=.agg #[.int .i64 (meetB a b).lo.x,.int .i64 (meetB a b).lo.y,.int .i64 (meetB a b).lo.z,.int .i64 (meetB a b).hi.x,.int .i64 (meetB a b).hi.y,.int .i64 (meetB a b).hi.z]) ?_ rfl ?_
   · simp (maxDischargeDepth:=9) only [results,Tryz.results112]
     first
      | (go_simp;done)
      | (go_simp;simp[meetB];done)
      | (simp (maxDischargeDepth:=9) [go_sem, *];done)
      | (simp (maxDischargeDepth:=9) [go_sem, *];simp[meetB])
   · exact⟨rfl,byX⟩
 · rw[hq]at hc;have HC:=Lib.hid hc;clear hc hq;simp only[if_true]
   go_enter Tryz.func112,Tryz.ntmps112
   go_wp2_with (first | (go_at_call 142;refine(join_any a b _ _ max min two_greater two_lesser _).mono ?_;rintro e wx ⟨rfl,xx⟩;obtain⟨xc,xf,xl,xe,xn,xm⟩:=xx.look;have xz:=xx.size;(try simp only[World.size_alloc_]at xz);(try (have qh:=xx.one (b:=w.heap.size) (by(try simp only[World.size_alloc_]);omega);obtain⟨qc,qf,ql,qe,qn,qm⟩:=qh));(try (have qh:=xx.one (b:=w.heap.size+1) (by(try simp only[World.size_alloc_]);omega);obtain⟨qc,qf,ql,qe,qn,qm⟩:=qh));(try (have qh:=xx.one (b:=w.heap.size+1+1) (by(try simp only[World.size_alloc_]);omega);obtain⟨qc,qf,ql,qe,qn,qm⟩:=qh));(try (have qh:=xx.one (b:=w.heap.size+1+1+1) (by(try simp only[World.size_alloc_]);omega);obtain⟨qc,qf,ql,qe,qn,qm⟩:=qh))) | (go_at_call 73;refine(HC.out _).mono ?_;rintro e wx ⟨rfl,xx⟩;obtain⟨xc,xf,xl,xe,xn,xm⟩:=xx.look;have xz:=xx.size;(try simp only[World.size_alloc_]at xz);(try (have qh:=xx.one (b:=w.heap.size) (by(try simp only[World.size_alloc_]);omega);obtain⟨qc,qf,ql,qe,qn,qm⟩:=qh));(try (have qh:=xx.one (b:=w.heap.size+1) (by(try simp only[World.size_alloc_]);omega);obtain⟨qc,qf,ql,qe,qn,qm⟩:=qh));(try (have qh:=xx.one (b:=w.heap.size+1+1) (by(try simp only[World.size_alloc_]);omega);obtain⟨qc,qf,ql,qe,qn,qm⟩:=qh));(try (have qh:=xx.one (b:=w.heap.size+1+1+1) (by(try simp only[World.size_alloc_]);omega);obtain⟨qc,qf,ql,qe,qn,qm⟩:=qh))))
   refine bodyPost_ret (v:=.agg #[.int .i64 zeroBx.lo.x,.int .i64 zeroBx.lo.y,.int .i64 zeroBx.lo.z,.int .i64 zeroBx.hi.x,.int .i64 zeroBx.hi.y,.int .i64 zeroBx.hi.z]) ?_ rfl ?_
   · simp (maxDischargeDepth:=9) only [results,Tryz.results112]
     first
      | (go_simp;done)
      | (go_simp;simp[zeroBx];done)
      | (simp (maxDischargeDepth:=9) [go_sem, *];done)
      | (simp (maxDischargeDepth:=9) [go_sem, *];simp[zeroBx])
   · exact⟨rfl,byX⟩
def addP(p q:Pt):Pt:=⟨wrap64 (p.x+q.x),wrap64 (p.y+q.y),wrap64 (p.z+q.z)⟩
def subP(p q:Pt):Pt:=⟨wrap64 (p.x - q.x),wrap64 (p.y - q.y),wrap64 (p.z - q.z)⟩
def scaleP(p:Pt)(n:Int):Pt:=⟨wrap64 (n * p.x),wrap64 (n * p.y),wrap64 (n * p.z)⟩
theorem Add_any(p q:Pt)(w:World):
    Calls Tryz.prog 109 #[.agg #[.int .i64 p.x,.int .i64 p.y,.int .i64 p.z],.agg #[.int .i64 q.x,.int .i64 q.y,.int .i64 q.z]] w fun e w'=>e = .returned (.agg #[.int .i64 (addP p q).x,.int .i64 (addP p q).y,.int .i64 (addP p q).z])∧Ext w w':=by
 go_enter Tryz.func109,Tryz.ntmps109
 go_wp2
 refine bodyPost_ret (v:=.agg #[.int .i64 (addP p q).x,.int .i64 (addP p q).y,.int .i64 (addP p q).z]) ?_ rfl ?_
 · simp (maxDischargeDepth:=9) only [results,Tryz.results109]
   first
    | (go_simp;done)
    | (go_simp;simp[addP];done)
    | (simp (maxDischargeDepth:=9) [go_sem, *];done)
    | (simp (maxDischargeDepth:=9) [go_sem, *];simp[addP])
 · exact⟨rfl,byX⟩
theorem Scale_any(p:Pt)(n:Int)(w:World):
    Calls Tryz.prog 110 #[.agg #[.int .i64 p.x,.int .i64 p.y,.int .i64 p.z],.int .i64 n] w fun e w'=>e = .returned (.agg #[.int .i64 (scaleP p n).x,.int .i64 (scaleP p n).y,.int .i64 (scaleP p n).z])∧Ext w w':=by
 go_enter Tryz.func110,Tryz.ntmps110
 go_wp2
 refine bodyPost_ret (v:=.agg #[.int .i64 (scaleP p n).x,.int .i64 (scaleP p n).y,.int .i64 (scaleP p n).z]) ?_ rfl ?_
 · simp (maxDischargeDepth:=9) only [results,Tryz.results110]
   first
    | (go_simp;done)
    | (go_simp;simp[scaleP];done)
    | (simp (maxDischargeDepth:=9) [go_sem, *];done)
    | (simp (maxDischargeDepth:=9) [go_sem, *];simp[scaleP])
 · exact⟨rfl,byX⟩
theorem Sub_any(p q:Pt)(w:World):
    Calls Tryz.prog 70 #[.agg #[.int .i64 p.x,.int .i64 p.y,.int .i64 p.z],.agg #[.int .i64 q.x,.int .i64 q.y,.int .i64 q.z]] w fun e w'=>e = .returned (.agg #[.int .i64 (addP p (scaleP q (-1))).x,.int .i64 (addP p (scaleP q (-1))).y,.int .i64 (addP p (scaleP q (-1))).z])∧Ext w w':=by
 have hm:=mixed;have hG:=near_old
 go_enter Tryz.func70,Tryz.ntmps70
 go_wp2
 refine wp_region_near_tail 4 (by assumption) (by kernel_rfl) ?_;simp only[List.take_succ_cons,List.take_zero,List.drop_succ_cons,List.drop_zero]
 repeat (go_big_quiet_step ((first | (go_at_call 110;exact near_call (Scale_any q (-1) _)) | (go_at_call 109;exact near_call (Add_any p (scaleP q (-1)) _)))))
 refine wpQuiet_nil ?_;intro w1 hw1;have hy:=Ext.of_near hw1;clear hw1;obtain⟨xc,xf,xl,xe,xn,xm⟩:=hy.look;go_wp2
 refine bodyPost_ret (v:=.agg #[.int .i64 (addP p (scaleP q (-1))).x,.int .i64 (addP p (scaleP q (-1))).y,.int .i64 (addP p (scaleP q (-1))).z]) ?_ rfl ?_
 · simp (maxDischargeDepth:=9) only [results,Tryz.results70]
   first
    | (go_simp;done)
    | (go_simp;simp;done)
    | (simp (maxDischargeDepth:=9) [go_sem, *];done)
    | (simp (maxDischargeDepth:=9) [go_sem, *];simp)
 · exact⟨rfl,byX⟩
theorem refSub_any(p q:Pt)(w:World):
    Calls Tryz.prog 54 #[.agg #[.int .i64 p.x,.int .i64 p.y,.int .i64 p.z],.agg #[.int .i64 q.x,.int .i64 q.y,.int .i64 q.z]] w fun e w'=>e = .returned (.agg #[.int .i64 (subP p q).x,.int .i64 (subP p q).y,.int .i64 (subP p q).z])∧Ext w w':=by
 go_enter Tryz.func54,Tryz.ntmps54
 go_wp2
 refine bodyPost_ret (v:=.agg #[.int .i64 (subP p q).x,.int .i64 (subP p q).y,.int .i64 (subP p q).z]) ?_ rfl ?_
 · simp (maxDischargeDepth:=9) only [results,Tryz.results54]
   first
    | (go_simp;done)
    | (go_simp;simp[subP];done)
    | (simp (maxDischargeDepth:=9) [go_sem, *];done)
    | (simp (maxDischargeDepth:=9) [go_sem, *];simp[subP])
 · exact⟨rfl,byX⟩
theorem refCube_any(n:Int)(w:World):
    Calls Tryz.prog 64 #[.int .i64 n] w fun e w'=>e = .returned (.agg #[.int .i64 0,.int .i64 0,.int .i64 0,.int .i64 n,.int .i64 n,.int .i64 n])∧Ext w w':=by
 go_enter Tryz.func64,Tryz.ntmps64
 go_wp2
 refine bodyPost_ret (v:=.agg #[.int .i64 0,.int .i64 0,.int .i64 0,.int .i64 n,.int .i64 n,.int .i64 n]) ?_ rfl ?_
 · simp (maxDischargeDepth:=9) only [results,Tryz.results64]
   first
    | (go_simp;done)
    | (go_simp;simp;done)
    | (simp (maxDischargeDepth:=9) [go_sem, *];done)
    | (simp (maxDischargeDepth:=9) [go_sem, *];simp)
 · exact⟨rfl,byX⟩
def emptyR(b:Bx):Bool:=decide (b.lo.x≥b.hi.x) || (decide (b.lo.y≥b.hi.y) || decide (b.lo.z≥b.hi.z))
theorem emptyR_eq(b:Bx):emptyR b=emptyB b:=by
 rw[Bool.eq_iff_iff];simp[emptyR,emptyB,inP]
theorem refEmpty_any(b:Bx)(w:World):
    Calls Tryz.prog 59 #[.agg #[.int .i64 b.lo.x,.int .i64 b.lo.y,.int .i64 b.lo.z,.int .i64 b.hi.x,.int .i64 b.hi.y,.int .i64 b.hi.z]] w fun e w'=>e = .returned (.bool (emptyB b))∧Ext w w':=by
 rw[← emptyR_eq]
 go_enter Tryz.func59,Tryz.ntmps59
 go_wp2
 all_goals
  go_ret
  refine⟨ret_bool ?_,byX⟩;rw[Bool.eq_iff_iff];simp[emptyR]
  try omega
theorem refIn_any(p:Pt)(b:Bx)(w:World):
    Calls Tryz.prog 18 #[.agg #[.int .i64 p.x,.int .i64 p.y,.int .i64 p.z],.agg #[.int .i64 b.lo.x,.int .i64 b.lo.y,.int .i64 b.lo.z,.int .i64 b.hi.x,.int .i64 b.hi.y,.int .i64 b.hi.z]] w fun e w'=>e = .returned (.bool (inP p b))∧Ext w w':=by
 go_enter Tryz.func18,Tryz.ntmps18
 go_wp2
 all_goals
  go_ret
  refine⟨ret_bool ?_,byX⟩;rw[Bool.eq_iff_iff];simp[inP]
  try omega
def sizeP(b:Bx):Pt:=if emptyB b then zeroPt else subP b.hi b.lo
def volP(b:Bx):Int:=wrap64 (wrap64 ((sizeP b).x * (sizeP b).y) * (sizeP b).z)
theorem refSize_any(b:Bx)(w:World):
    Calls Tryz.prog 92 #[.agg #[.int .i64 b.lo.x,.int .i64 b.lo.y,.int .i64 b.lo.z,.int .i64 b.hi.x,.int .i64 b.hi.y,.int .i64 b.hi.z]] w fun e w'=>e = .returned (.agg #[.int .i64 (sizeP b).x,.int .i64 (sizeP b).y,.int .i64 (sizeP b).z])∧Ext w w':=by
 have hc:=fun w':World=>refEmpty_any b w';unfold sizeP
 cases hq:emptyB b
 · rw[hq]at hc;have HC:=Lib.hid hc;clear hc hq;simp only[Bool.false_eq_true,if_false]
   go_enter Tryz.func92,Tryz.ntmps92
   go_wp2_with (first | (go_at_call 59;refine(HC.out _).mono ?_;rintro e wx ⟨rfl,xx⟩;obtain⟨xc,xf,xl,xe,xn,xm⟩:=xx.look;have xz:=xx.size;(try simp only[World.size_alloc_]at xz);(try (have qh:=xx.one (b:=w.heap.size) (by(try simp only[World.size_alloc_]);omega);obtain⟨qc,qf,ql,qe,qn,qm⟩:=qh));(try (have qh:=xx.one (b:=w.heap.size+1) (by(try simp only[World.size_alloc_]);omega);obtain⟨qc,qf,ql,qe,qn,qm⟩:=qh));(try (have qh:=xx.one (b:=w.heap.size+1+1) (by(try simp only[World.size_alloc_]);omega);obtain⟨qc,qf,ql,qe,qn,qm⟩:=qh));(try (have qh:=xx.one (b:=w.heap.size+1+1+1) (by(try simp only[World.size_alloc_]);omega);obtain⟨qc,qf,ql,qe,qn,qm⟩:=qh))) | (go_at_call 54;refine(refSub_any b.hi b.lo _).mono ?_;rintro e wx ⟨rfl,xx⟩;obtain⟨xc,xf,xl,xe,xn,xm⟩:=xx.look;have xz:=xx.size;(try simp only[World.size_alloc_,World.size_setCell_]at xz);(try (have qh:=xx.one (b:=w.heap.size) (by(try simp only[World.size_alloc_,World.size_setCell_]);omega);obtain⟨qc,qf,ql,qe,qn,qm⟩:=qh));(try (have qh:=xx.one (b:=w.heap.size+1) (by(try simp only[World.size_alloc_,World.size_setCell_]);omega);obtain⟨qc,qf,ql,qe,qn,qm⟩:=qh));(try (have qh:=xx.one (b:=w.heap.size+1+1) (by(try simp only[World.size_alloc_,World.size_setCell_]);omega);obtain⟨qc,qf,ql,qe,qn,qm⟩:=qh));(try (have qh:=xx.one (b:=w.heap.size+1+1+1) (by(try simp only[World.size_alloc_,World.size_setCell_]);omega);obtain⟨qc,qf,ql,qe,qn,qm⟩:=qh))))
   refine bodyPost_ret (v:=.agg #[.int .i64 (subP b.hi b.lo).x,.int .i64 (subP b.hi b.lo).y,.int .i64 (subP b.hi b.lo).z]) ?_ rfl ?_
   · simp (maxDischargeDepth:=9) only [results,Tryz.results92]
     first
      | (go_simp;done)
      | (go_simp;simp;done)
      | (simp (maxDischargeDepth:=9) [go_sem, *];done)
      | (simp (maxDischargeDepth:=9) [go_sem, *];simp)
   · exact⟨rfl,byX⟩
 · rw[hq]at hc;have HC:=Lib.hid hc;clear hc hq;simp only[if_true]
   go_enter Tryz.func92,Tryz.ntmps92
   go_wp2_with (first | (go_at_call 59;refine(HC.out _).mono ?_;rintro e wx ⟨rfl,xx⟩;obtain⟨xc,xf,xl,xe,xn,xm⟩:=xx.look;have xz:=xx.size;(try simp only[World.size_alloc_]at xz);(try (have qh:=xx.one (b:=w.heap.size) (by(try simp only[World.size_alloc_]);omega);obtain⟨qc,qf,ql,qe,qn,qm⟩:=qh));(try (have qh:=xx.one (b:=w.heap.size+1) (by(try simp only[World.size_alloc_]);omega);obtain⟨qc,qf,ql,qe,qn,qm⟩:=qh));(try (have qh:=xx.one (b:=w.heap.size+1+1) (by(try simp only[World.size_alloc_]);omega);obtain⟨qc,qf,ql,qe,qn,qm⟩:=qh));(try (have qh:=xx.one (b:=w.heap.size+1+1+1) (by(try simp only[World.size_alloc_]);omega);obtain⟨qc,qf,ql,qe,qn,qm⟩:=qh))))
   refine bodyPost_ret (v:=.agg #[.int .i64 zeroPt.x,.int .i64 zeroPt.y,.int .i64 zeroPt.z]) ?_ rfl ?_
   · simp (maxDischargeDepth:=9) only [results,Tryz.results92]
     first
      | (go_simp;done)
      | (go_simp;simp[zeroPt];done)
      | (simp (maxDischargeDepth:=9) [go_sem, *];done)
      | (simp (maxDischargeDepth:=9) [go_sem, *];simp[zeroPt])
   · exact⟨rfl,byX⟩
theorem refVolume_any(b:Bx)(w:World):
    Calls Tryz.prog 62 #[.agg #[.int .i64 b.lo.x,.int .i64 b.lo.y,.int .i64 b.lo.z,.int .i64 b.hi.x,.int .i64 b.hi.y,.int .i64 b.hi.z]] w fun e w'=>e = .returned (.int .i64 (volP b))∧Ext w w':=by
 go_enter Tryz.func62,Tryz.ntmps62
 go_wp2_with (first | (go_at_call 92;refine(refSize_any b _).mono ?_;rintro e wx ⟨rfl,xx⟩;obtain⟨xc,xf,xl,xe,xn,xm⟩:=xx.look;have xz:=xx.size;(try simp only[World.size_alloc_]at xz);(try (have qh:=xx.one (b:=w.heap.size) (by(try simp only[World.size_alloc_]);omega);obtain⟨qc,qf,ql,qe,qn,qm⟩:=qh));(try (have qh:=xx.one (b:=w.heap.size+1) (by(try simp only[World.size_alloc_]);omega);obtain⟨qc,qf,ql,qe,qn,qm⟩:=qh));(try (have qh:=xx.one (b:=w.heap.size+1+1) (by(try simp only[World.size_alloc_]);omega);obtain⟨qc,qf,ql,qe,qn,qm⟩:=qh));(try (have qh:=xx.one (b:=w.heap.size+1+1+1) (by(try simp only[World.size_alloc_]);omega);obtain⟨qc,qf,ql,qe,qn,qm⟩:=qh))))
 go_ret
 exact⟨rfl,byX⟩
theorem wpList_app1{P:Program}{ops:Array Oper}{rest:List Oper}{o1 o2:Oper}{a:Act}{w:World}{Q:Exit→Act→World→Prop}(t e:TypeId)(s y d:Nat)(x zs:List Value){base n k bytes:Nat}{z v:Value}
    (ho:w.ownsRow base e k v n zs) (hi:(P.info? e).map (fun i=>(i.zero,i.size,i.bytes))=some (some z,k,bytes)) (hu:P.underlying t=some (.slice e)) (hb:base≤w.heap.size) (hn:n+1≤1000000)
    (h:∀ v' w1,w1.ownsRow base e k v' (n+1) (zs++x)→w.grownBy w1 v.ownBlock→(v'.ownBlock=v.ownBlock∨∀ b,v'.ownBlock=some b→w.heap.size≤b)→wpList P ops Q rest ((a.put (some d) (.slice (some ⟨w.heap.size,0,none⟩) 1 1)).put o2.dst v') w1)
    (hg1:o1.guard=none:=by rfl) (hg2:o2.guard=none:=by rfl) (ho1:o1.op = .buildSlice t 1 #[(0,.tmp s)]:=by rfl) (hd1:o1.dst=some d:=by rfl)
    (ho2:o2.op = .call {callee:=.builtin .append,args:=#[.tmp y,.tmp d],argTypes:=#[t,t] }:=by rfl)
    (hx:x.length=k:=by rfl) (hs:a.eval (.tmp s) = .agg x.toArray:=by rfl) (hv:(a.put (some d) (.slice (some ⟨w.heap.size,0,none⟩) 1 1)).eval (.tmp y)=v:=by rfl)
    (hd:(a.put (some d) (.slice (some ⟨w.heap.size,0,none⟩) 1 1)).eval (.tmp d) = .slice (some ⟨w.heap.size,0,none⟩) 1 1:=by rfl)
    (h1:x.all (·.oneCell')=true:=by rfl) (hk:0 < k:=by decide) (hk2:k≤1000:=by decide) (hzs:z.cells.size=k:=by rfl) (hbt:bytes≤1000:=by decide):wpList P ops Q (o1:: o2:: rest) a w:=by
 obtain⟨i0,hi0,hz0,hz1,hz2⟩:=info_parts hi;refine wpList_buildRow hg1 t e s ho1 k hk hk2 x hx hs hu (by rw[hi0];simpa using hz1) (by rw[hi0];simpa using congrArg Option.isSome hz0) ?_;rw[hd1];refine wpList_append_mine _ hg2 (.tmp y) (.tmp d) t ho2 base e i0 z k bytes hu hi0 hz0 hz1 hz2 hzs hk v n zs hv (own_ext ho ((Ext.refl w).alloc _)) ⟨w.heap.size,0,none⟩ 1 1 x hd (by rw[hx];omega) (fun j u hj=>news_new w x e j u hj) (fun u hu=>List.all_eq_true.1 h1 u hu) (by unfold maxLen;omega) ?_ (by rw[World.size_alloc_];omega) ?_
 · have:=Nat.mul_le_mul hn hbt;omega
 · intro v' w1 r1 r2 r3;refine h v' w1 r1 (grown_trans (((Ext.refl w).alloc _).by_ _) r2) (r3.imp id fun h b hb=>?_);have:=h b hb;rw[World.size_alloc_]at this;omega
section
variable {a w W:World} {o:Obj} {b:Nat} {t:TypeId} {vs:List Value} {v:Value}
theorem xNewI(h:Hid (Ext a w))(hW:W=w.alloc o):Hid (Ext a W):=Lib.hid (by rw[hW];exact h.out.alloc _)
theorem aNewI(h:Hid (Arr w b t vs))(hW:W=w.alloc o):Hid (Arr W b t vs):=Lib.hid (by rw[hW];exact h.out.alloc _)
theorem nNewI(hW:W=w.alloc (.cells #[v] t)):Hid (Arr W w.heap.size t [v]):=Lib.hid (by rw[hW];exact Arr.new w t [v])
end
theorem wpQuiet_fld{P:Program}{ops:Array Oper}{C:World→Prop}{Q:Act→Prop}{a:Act}{o:Oper}{rest:List Oper}(T s i:Nat)(v:Value)(_ho:o.op = .field T (.tmp s) i)(hg:o.guard=none)(hr:∀ w,(execOp a.eval o).run P w = .ok (.value v) w)(h:wpQuiet P ops C Q rest (a.put o.dst v)):wpQuiet P ops C Q (o:: rest) a:=
 BigFrame.wpQuiet_want (by simp[Region.wanted,hg]) fun K hK=>⟨_,fun w _=>by unfold Oper.quietAt;rw[hr];exact⟨rfl,rfl⟩,hK _ h⟩
section
variable {P:Program} {Q:Exit→Act→World→Prop} {l:List Oper} {vs:List (Option Value)} {G:Nat→Value→World→Prop} {a:Act} {w:World} {o:Oper} {i:Nat}
theorem run_ix(t e:TypeId){x y:Operand}{bk off n c j k:Nat}{b:Act}{w1:World}(hu:P.underlying t=some (.slice e))(hz:(P.info? e).map (·.size)=some k)(hj:j < n)(ho:o.op = .indexAddr t x y)(hx:b.eval x = .slice (some ⟨bk,off,none⟩) n c)(hy:b.eval y = .int .i64 (j:Int)):
    (execOp b.eval o).run P w1 = .ok (.value (.pointer (some ⟨bk,off+j * k,none⟩))) w1:=by
 obtain⟨inf,hinf,hsz⟩:=Option.map_eq_some_iff.1 hz;have h1:(0:Int)≤(j:Int)∧(j:Int) < (n:Int):=by omega
 have he:P.elem t=e:=by simp[Program.elem,hu]
 have hu2:P.underlying t=some (.slice (P.elem t)):=by rw[he];exact hu
 unfold execOp;simp only[ho,hx,hy];simp[run_indexAt_slice (h:=hu2),h1,hu,sizeOf,typeInfo,hinf,hsz,Result.andThen,add_lit,go_sem]
theorem s_ix{t e:TypeId}{x y:Operand}{bk off n c j k:Nat}(hj:j < n)(hu:P.underlying t=some (.slice e))(ho:o.op = .indexAddr t x y:=by rfl)(hx:evM l vs a o x=some (.slice (some ⟨bk,off,none⟩) n c):=by rfl)(hy:evM l vs a o y=some (.int .i64 (j:Int)):=by rfl)
    (hz:(P.info? e).map (·.size)=some k:=by kernel_rfl) (hi:(vs[i]?).join=some (.pointer (some ⟨bk,off+j * k,none⟩)):=by rfl) (hw:WantM l vs o:=by first | exact .inl rfl | exact .inr ⟨_,_,_,rfl,rfl,rfl,rfl⟩):StepM P Q l vs G a w i o:=fun _b w1 h _K hK=>
 h.want hw (op_run (run_ix t e hu hz hj ho (h.ev hx) (h.ev hy)) (hK _ w1 (Ext.refl _) (GdM.val hi w1)))
theorem s_cell(s:Nat){bk off:Nat}{v:Value}(H:∀ w1,Ext w w1→w1.cell? ⟨bk,off,none⟩=some v)(hr:∀ (b:Act) (w1:World),b.tmps[s]? = some (.pointer (some ⟨bk,off,none⟩))→w1.cell? ⟨bk,off,none⟩=some v→(execOp b.eval o).run P w1 = .ok (.value v) w1)
    (hx:evM l vs a o (.tmp s)=some (.pointer (some ⟨bk,off,none⟩)):=by rfl) (hi:(vs[i]?).join=some v:=by rfl) (hw:WantM l vs o:=by first | exact .inl rfl | exact .inr ⟨_,_,_,rfl,rfl,rfl,rfl⟩):StepM P Q l vs G a w i o:=fun b w1 h _K hK=>
 h.want hw (op_run (hr b w1 (h.slot hx) (H w1 h.ext)) (hK _ w1 (Ext.refl _) (GdM.val hi w1)))
end
theorem pw_eq{α:Type}{r:α→α→Prop}(asym:∀ x y,r x y→¬ r y x):∀ {l m:List α},l.Pairwise r→m.Pairwise r→(∀ x,x∈l↔x∈m)→l=m
 | [],[],_,_,_=>rfl
 | [],y:: ys,_,_,h=>absurd ((h y).2 (List.mem_cons_self ..)) (by simp)
 | x:: xs,[],_,_,h=>absurd ((h x).1 (List.mem_cons_self ..)) (by simp)
 | x:: xs,y:: ys,hl,hm,h=>by
   rw[List.pairwise_cons]at hl hm;have hxy:x=y:=by
    rcases List.mem_cons.1 ((h x).1 (List.mem_cons_self ..))with e | hx
    · exact e
    · rcases List.mem_cons.1 ((h y).2 (List.mem_cons_self ..))with e | hy
      · exact e.symm
      · exact absurd (hm.1 x hx) (asym _ _ (hl.1 y hy))
   subst hxy;congr 1
   refine pw_eq asym hl.2 hm.2 fun q=>⟨fun hq=>?_,fun hq=>?_⟩
   · rcases List.mem_cons.1 ((h q).1 (List.mem_cons_of_mem _ hq))with e | h1
     · subst e;exact absurd (hl.1 q hq) (asym _ _ (hl.1 q hq))
     · exact h1
   · rcases List.mem_cons.1 ((h q).2 (List.mem_cons_of_mem _ hq))with e | h1
     · subst e;exact absurd (hm.1 q hq) (asym _ _ (hm.1 q hq))
     · exact h1
def ltT(x y:Chg × Nat):Prop:=befP x.1.at_ y.1.at_=true∨(x.1.at_=y.1.at_∧x.2 < y.2)
theorem ltT_trans{x y z:Chg × Nat}(h:ltT x y)(k:ltT y z):ltT x z:=by
 rcases h with h | ⟨h1,h2⟩
 · rcases k with k | ⟨k1,k2⟩
   · exact .inl (befP_trans h k)
   · exact .inl (by rw[← k1];exact h)
 · rcases k with k | ⟨k1,k2⟩
   · exact .inl (by rw[h1];exact k)
   · exact .inr ⟨h1.trans k1,by omega⟩
theorem stab_of_tags{l:List Chg}{T:List (Chg × Nat)}(hp:∀ x,x∈T↔x∈l.zipIdx)(hs:T.Pairwise ltT):StabC l (T.map (·.1)):=by
 constructor
 · rw[List.pairwise_map];refine hs.imp fun {x y} h=>?_
   rcases h with h | ⟨h1,_⟩
   · exact befP_asymm h
   · rw[h1];exact befP_irr _
 · intro q;have e:T.filter (fun x=>decide (x.1.at_=q))=l.zipIdx.filter (fun x=>decide (x.1.at_=q)):=by
    refine pw_eq (r:=fun x y:Chg × Nat=>x.2 < y.2) (fun x y h k=>by omega) ?_ ?_ (fun x=>by rw[List.mem_filter,List.mem_filter,hp])
    · have h1:(T.filter (fun x=>decide (x.1.at_=q))).Pairwise ltT:=hs.sublist List.filter_sublist;refine h1.imp_of_mem fun {x y} hx hy h=>?_;have hx2:=(List.mem_filter.1 hx).2;have hy2:=(List.mem_filter.1 hy).2;rw[decide_eq_true_eq]at hx2 hy2
      rcases h with h | ⟨_,h⟩
      · rw[hx2,hy2,befP_irr]at h;cases h
      · exact h
    · refine List.Pairwise.sublist List.filter_sublist ?_;have h1:(l.zipIdx.map (·.2)).Pairwise (· < ·):=by rw[List.zipIdx_map_snd];exact List.pairwise_lt_range'
      rwa [List.pairwise_map]at h1
   unfold atB_;have e1:(T.map (·.1)).filter (fun c:Chg=>decide (c.at_=q))=(T.filter (fun x=>decide (x.1.at_=q))).map (·.1):=by rw[List.filter_map];rfl
   have e2:l.filter (fun c:Chg=>decide (c.at_=q))=(l.zipIdx.filter (fun x=>decide (x.1.at_=q))).map (·.1):=by
    have h1:l=l.zipIdx.map (·.1):=(List.zipIdx_map_fst 0 l).symm
    conv=>lhs;rw[h1]
    rw[List.filter_map];rfl
   rw[e1,e2,e]
end Go.Proofs.YtoecbicdahbccaaGreatDoor
