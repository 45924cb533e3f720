/- A part of the walk of the layer of apply: contracts and plain laws that a row's text leans on. -/
import Derived.Test.YtoecbicdahbccaaGreatDoorZa10
import Derived.Test.YtoecbicdahbccaaGreatDoorZa41
set_option maxRecDepth 100000
set_option maxHeartbeats 16000000
namespace Go.Proofs.YtoecbicdahbccaaGreatDoor
open Go Go.RowKit
theorem noGuard_spec{l:List Oper}(h:(l.all fun o=>o.guard.isNone)=true):∀ (i:Nat) (o:Oper),l[i]? = some o→o.guard=none:=fun i o ho=>by
 have h1:=List.all_eq_true.1 h o (List.mem_of_getElem? ho);simpa using h1
def lowA(a b:Bx):Nat→List Value
 | 0=>[.int .i64 a.lo.x,.int .i64 a.lo.y,.int .i64 a.lo.z]
 | 1=>[.int .i64 (max a.lo.x b.lo.x),.int .i64 a.lo.y,.int .i64 a.lo.z]
 | 2=>[.int .i64 (max a.lo.x b.lo.x),.int .i64 (max a.lo.y b.lo.y),.int .i64 a.lo.z]
 | _=>[.int .i64 (max a.lo.x b.lo.x),.int .i64 (max a.lo.y b.lo.y),.int .i64 (max a.lo.z b.lo.z)]
def highA(a b:Bx):Nat→List Value
 | 0=>[.int .i64 a.hi.x,.int .i64 a.hi.y,.int .i64 a.hi.z]
 | 1=>[.int .i64 (min a.hi.x b.hi.x),.int .i64 a.hi.y,.int .i64 a.hi.z]
 | 2=>[.int .i64 (min a.hi.x b.hi.x),.int .i64 (min a.hi.y b.hi.y),.int .i64 a.hi.z]
 | _=>[.int .i64 (min a.hi.x b.hi.x),.int .i64 (min a.hi.y b.hi.y),.int .i64 (min a.hi.z b.hi.z)]
structure IntR (a b:Bx) (n2 nL nH nM nX:Nat) (w:World) (k:Nat) (wr:World):Prop where
 L:Arr wr nL 125 (lowA a b k)
 H:Arr wr nH 125 (highA a b k)
 M:Arr wr nM 125 [.int .i64 b.lo.x,.int .i64 b.lo.y,.int .i64 b.lo.z]
 X:Arr wr nX 125 [.int .i64 b.hi.x,.int .i64 b.hi.y,.int .i64 b.hi.z]
 O:Arr wr n2 25 [.int .i64 zeroBx.lo.x,.int .i64 zeroBx.lo.y,.int .i64 zeroBx.lo.z,.int .i64 zeroBx.hi.x,.int .i64 zeroBx.hi.y,.int .i64 zeroBx.hi.z]
 ext:Ext w wr
def interV(a b:Bx)(_nL _nH:Nat):Nat→Value
 | 0=>.agg #[.int .i64 ((meetB a b).lo).x,.int .i64 ((meetB a b).lo).y,.int .i64 ((meetB a b).lo).z]
 | 1=>.agg #[.int .i64 ((meetB a b).lo).x,.int .i64 ((meetB a b).lo).y,.int .i64 ((meetB a b).lo).z]
 | 2=>.agg #[.int .i64 ((meetB a b).hi).x,.int .i64 ((meetB a b).hi).y,.int .i64 ((meetB a b).hi).z]
 | 3=>.agg #[.int .i64 ((meetB a b).hi).x,.int .i64 ((meetB a b).hi).y,.int .i64 ((meetB a b).hi).z]
 | _=>.agg #[.int .i64 (meetB a b).lo.x,.int .i64 (meetB a b).lo.y,.int .i64 (meetB a b).lo.z,.int .i64 (meetB a b).hi.x,.int .i64 (meetB a b).hi.y,.int .i64 (meetB a b).hi.z]
theorem infoBox:(Tryz.prog.info? 25).map (fun i=>(i.zero,i.size,i.bytes))=some (some (.agg #[.int .i64 0,.int .i64 0,.int .i64 0,.int .i64 0,.int .i64 0,.int .i64 0]),6,48):=by kernel_rfl
theorem refIntersect_any(a b:Bx)(w:World):
    Calls Tryz.prog 56 #[.agg #[.int .i64 a.lo.x,.int .i64 a.lo.y,.int .i64 a.lo.z,.int .i64 a.hi.x,.int .i64 a.hi.y,.int .i64 a.hi.z],.agg #[.int .i64 b.lo.x,.int .i64 b.lo.y,.int .i64 b.lo.z,.int .i64 b.hi.x,.int .i64 b.hi.y,.int .i64 b.hi.z]] w fun e w'=>e = .returned (.agg #[.int .i64 (interB a b).lo.x,.int .i64 (interB a b).lo.y,.int .i64 (interB a b).lo.z,.int .i64 (interB a b).hi.x,.int .i64 (interB a b).hi.y,.int .i64 (interB a b).hi.z])∧Ext w w':=by
 have hm:=mixed;have hG:=near_old;have HQ:=Lib.hid (fun w'=>refEmpty_any (meetB a b) w');have HI:=Lib.hid (show interB a b=if emptyB (meetB a b)then zeroBx else meetB a b from rfl)
 go_enter Tryz.func56,Tryz.ntmps56
 go_upto_region 1 with fail
 obtain⟨W0,hW⟩:∃ W,W=((w.alloc (.cells #[.int .i64 a.lo.x,.int .i64 a.lo.y,.int .i64 a.lo.z,.int .i64 a.hi.x,.int .i64 a.hi.y,.int .i64 a.hi.z] 25)).alloc (.cells #[.int .i64 b.lo.x,.int .i64 b.lo.y,.int .i64 b.lo.z,.int .i64 b.hi.x,.int .i64 b.hi.y,.int .i64 b.hi.z] 25)).alloc (.cells #[.int .i64 0,.int .i64 0,.int .i64 0,.int .i64 0,.int .i64 0,.int .i64 0] 25):=⟨_,rfl⟩;have hx0:Ext w W0:=by rw[hW];exact byX
 have B0:Arr W0 w.heap.size 25 [.int .i64 a.lo.x,.int .i64 a.lo.y,.int .i64 a.lo.z,.int .i64 a.hi.x,.int .i64 a.hi.y,.int .i64 a.hi.z]:=by rw[hW];exact((Arr.new w _ _).alloc _).alloc _
 have B1:Arr W0 (w.heap.size+1) 25 [.int .i64 b.lo.x,.int .i64 b.lo.y,.int .i64 b.lo.z,.int .i64 b.hi.x,.int .i64 b.hi.y,.int .i64 b.hi.z]:=by rw[hW];exact(Arr.new1 w _ _ _).alloc _
 have B2:Arr W0 (w.heap.size+1+1) 25 [.int .i64 zeroBx.lo.x,.int .i64 zeroBx.lo.y,.int .i64 zeroBx.lo.z,.int .i64 zeroBx.hi.x,.int .i64 zeroBx.hi.y,.int .i64 zeroBx.hi.z]:=by
  rw[hW];have h:=Arr.new ((w.alloc (.cells #[.int .i64 a.lo.x,.int .i64 a.lo.y,.int .i64 a.lo.z,.int .i64 a.hi.x,.int .i64 a.hi.y,.int .i64 a.hi.z] 25)).alloc (.cells #[.int .i64 b.lo.x,.int .i64 b.lo.y,.int .i64 b.lo.z,.int .i64 b.hi.x,.int .i64 b.hi.y,.int .i64 b.hi.z] 25)) 25 [.int .i64 0,.int .i64 0,.int .i64 0,.int .i64 0,.int .i64 0,.int .i64 0];simpa only [World.size_alloc_,zeroBx]using h
 rw[← hW];have hl2:=B2.lt;clear hW
 go_wp2_with (first | (refine wpList_load_part 23 (.tmp 12) rfl rfl B0 0 [.int .i64 a.lo.x,.int .i64 a.lo.y,.int .i64 a.lo.z] rfl rfl _ Tryz.underlying23 rfl (by kernel_rfl) ?_) | (refine wpList_load_part 23 (.tmp 12) rfl rfl (B0.alloc _) 0 [.int .i64 a.lo.x,.int .i64 a.lo.y,.int .i64 a.lo.z] rfl rfl _ Tryz.underlying23 rfl (by kernel_rfl) ?_))
 ((refine(reflist_any a.lo _).mono ?_);rintro e wa ⟨rfl,xx⟩;have xz:=xx.size;(try simp only[World.size_alloc_,World.size_setCell_]at xz);obtain⟨B0,cB0,fB0,lB0⟩:=Arr.look (w':=wa) B0 byX;obtain⟨B1,cB1,fB1,lB1⟩:=Arr.look (w':=wa) B1 byX;obtain⟨B2,cB2,fB2,lB2⟩:=Arr.look (w':=wa) B2 byX)
 have zA:=B2.lt
 go_wp2_with (first | (refine wpList_load_part 23 (.tmp 15) rfl rfl B0 3 [.int .i64 a.hi.x,.int .i64 a.hi.y,.int .i64 a.hi.z] rfl rfl _ Tryz.underlying23 rfl (by kernel_rfl) ?_) | (refine wpList_load_part 23 (.tmp 15) rfl rfl (B0.alloc _) 3 [.int .i64 a.hi.x,.int .i64 a.hi.y,.int .i64 a.hi.z] rfl rfl _ Tryz.underlying23 rfl (by kernel_rfl) ?_))
 ((refine(reflist_any a.hi _).mono ?_);rintro e wb ⟨rfl,xx⟩;have xz:=xx.size;(try simp only[World.size_alloc_]at xz);obtain⟨B0,cB0,fB0,lB0⟩:=Arr.look (w':=wb) B0 byX;obtain⟨B1,cB1,fB1,lB1⟩:=Arr.look (w':=wb) B1 byX;obtain⟨B2,cB2,fB2,lB2⟩:=Arr.look (w':=wb) B2 byX)
 have BL:=(Arr.new wa 125 [.int .i64 a.lo.x,.int .i64 a.lo.y,.int .i64 a.lo.z]).ext xx;have zB:=BL.lt
 go_wp2_with (first | (refine wpList_load_part 23 (.tmp 18) rfl rfl B1 0 [.int .i64 b.lo.x,.int .i64 b.lo.y,.int .i64 b.lo.z] rfl rfl _ Tryz.underlying23 rfl (by kernel_rfl) ?_) | (refine wpList_load_part 23 (.tmp 18) rfl rfl (B1.alloc _) 0 [.int .i64 b.lo.x,.int .i64 b.lo.y,.int .i64 b.lo.z] rfl rfl _ Tryz.underlying23 rfl (by kernel_rfl) ?_))
 ((refine(reflist_any b.lo _).mono ?_);rintro e wc ⟨rfl,xx⟩;have xz:=xx.size;(try simp only[World.size_alloc_]at xz);obtain⟨B0,cB0,fB0,lB0⟩:=Arr.look (w':=wc) B0 byX;obtain⟨B1,cB1,fB1,lB1⟩:=Arr.look (w':=wc) B1 byX;obtain⟨B2,cB2,fB2,lB2⟩:=Arr.look (w':=wc) B2 byX;obtain⟨BL,cBL,fBL,lBL⟩:=Arr.look (w':=wc) BL byX)
 have BH:=(Arr.new wb 125 [.int .i64 a.hi.x,.int .i64 a.hi.y,.int .i64 a.hi.z]).ext xx;have zC:=BH.lt
 go_wp2_with (first | (refine wpList_load_part 23 (.tmp 21) rfl rfl B1 3 [.int .i64 b.hi.x,.int .i64 b.hi.y,.int .i64 b.hi.z] rfl rfl _ Tryz.underlying23 rfl (by kernel_rfl) ?_) | (refine wpList_load_part 23 (.tmp 21) rfl rfl (B1.alloc _) 3 [.int .i64 b.hi.x,.int .i64 b.hi.y,.int .i64 b.hi.z] rfl rfl _ Tryz.underlying23 rfl (by kernel_rfl) ?_))
 ((refine(reflist_any b.hi _).mono ?_);rintro e wd ⟨rfl,xx⟩;have xz:=xx.size;(try simp only[World.size_alloc_]at xz);obtain⟨B0,cB0,fB0,lB0⟩:=Arr.look (w':=wd) B0 byX;obtain⟨B1,cB1,fB1,lB1⟩:=Arr.look (w':=wd) B1 byX;obtain⟨B2,cB2,fB2,lB2⟩:=Arr.look (w':=wd) B2 byX;obtain⟨BL,cBL,fBL,lBL⟩:=Arr.look (w':=wd) BL byX;obtain⟨BH,cBH,fBH,lBH⟩:=Arr.look (w':=wd) BH byX)
 have BM:=(Arr.new wc 125 [.int .i64 b.lo.x,.int .i64 b.lo.y,.int .i64 b.lo.z]).ext xx;have zD:=BM.lt;have hxd:Ext w wd:=byX;clear xx xz;have HR0:=Lib.hid (IntR.mk (BL.alloc (.cells #[.int .i64 b.hi.x,.int .i64 b.hi.y,.int .i64 b.hi.z] 125)) (BH.alloc _) (BM.alloc _) (Arr.new wd 125 [.int .i64 b.hi.x,.int .i64 b.hi.y,.int .i64 b.hi.z]) (B2.alloc _) (hxd.alloc _):IntR a b (w.heap.size+1+1) wa.heap.size wb.heap.size wc.heap.size wd.heap.size w 0 (wd.alloc (.cells #[.int .i64 b.hi.x,.int .i64 b.hi.y,.int .i64 b.hi.z] 125)));clear cBL fBL lBL cBH fBH lBH cB0 fB0 lB0 cB1 fB1 lB1 cB2 fB2 lB2
 go_wp2_with fail
 go_loopw [9] (fun i wr=>∃ k:Nat,k≤3∧i = .int .i64 k∧IntR a b (w.heap.size+1+1) wa.heap.size wb.heap.size wc.heap.size wd.heap.size w k wr) (fun i _=>3 - (intOf i).toNat)
 case atStart=>exact⟨0,by omega,rfl,HR0.out⟩
 case round=>
  obtain⟨k,hk,rfl,hR⟩:=hrel;obtain rfl | rfl | rfl | rfl:k=0∨k=1∨k=2∨k=3:=by omega
  · have L:=hR.L.cell;have H:=hR.H.cell;have M:=hR.M.cell;have X:=hR.X.cell;have qL:=hR.L.lt;have qH:=hR.H.lt;have qM:=hR.M.lt;have qX:=hR.X.lt;simp only[lowA,highA]at L H;have HR:=Lib.hid hR;clear hR
    go_wp2_with fail
    refine wp_region_near_tail 9 (by assumption) (by kernel_rfl) ?_;simp only[List.take_succ_cons,List.take_zero,List.drop_succ_cons,List.drop_zero]
    repeat (go_big_quiet_step (fail))
    refine wpQuiet_nil ?_;intro w1 hw1;have hy:=Ext.of_near hw1;clear hw1;have L1:=HR.out.L.ext hy;have H1:=HR.out.H.ext hy;have M1:=HR.out.M.ext hy;have X1:=HR.out.X.ext hy;have O1:=HR.out.O.ext hy;have e1:=HR.out.ext.trans hy;clear hy;have V:=Int.le_refl 0;have L2:=L1.set 0 (.int .i64 (max a.lo.x b.lo.x));have H2:=H1.other (p:=⟨wa.heap.size,0,none⟩) (by simp only;omega) (.int .i64 (max a.lo.x b.lo.x));have M2:=M1.other (p:=⟨wa.heap.size,0,none⟩) (by simp only;omega) (.int .i64 (max a.lo.x b.lo.x));have X2:=X1.other (p:=⟨wa.heap.size,0,none⟩) (by simp only;omega) (.int .i64 (max a.lo.x b.lo.x));have O2:=O1.other (p:=⟨wa.heap.size,0,none⟩) (by simp only;omega) (.int .i64 (max a.lo.x b.lo.x));have e2:=e1.setCell (p:=⟨wa.heap.size,0,none⟩) (by simp only;omega) (.int .i64 (max a.lo.x b.lo.x));have L3:=L1.cell;have fL:=L1.frozen;have H:=H2.cell;have M:=M2.cell;have X:=X2.cell;have qH:=H2.lt;have qX:=X2.lt;simp only[World.size_setCell_]at qH qX;simp only[lowA,highA]at L3 H;have HL:=Lib.hid L2;have HH:=Lib.hid H2;have HM:=Lib.hid M2;have HX:=Lib.hid X2;have HO:=Lib.hid O2;have HE:=Lib.hid e2;clear L1 H1 M1 X1 O1 e1 L2 H2 M2 X2 O2 e2 V
    go_wp2_with fail
    refine wp_region_near_tail 9 (by assumption) (by kernel_rfl) ?_;simp only[List.take_succ_cons,List.take_zero,List.drop_succ_cons,List.drop_zero]
    repeat (go_big_quiet_step (fail))
    refine wpQuiet_nil ?_;intro w1 hw1;have hy:=Ext.of_near hw1;clear hw1;have L1:=HL.out.ext hy;have H1:=HH.out.ext hy;have M1:=HM.out.ext hy;have X1:=HX.out.ext hy;have O1:=HO.out.ext hy;have e1:=HE.out.trans hy;clear hy;have H3:=H1.cell;have fH:=H1.frozen;simp only[highA]at H3;have HL:=Lib.hid L1;have HH:=Lib.hid H1;have HM:=Lib.hid M1;have HX:=Lib.hid X1;have HO:=Lib.hid O1;have HE:=Lib.hid e1;clear L1 H1 M1 X1 O1 e1;go_wp2
    go_roundw
    case rel=>
     exact⟨1,by omega,rfl,HL.out.other (by simp only;omega) _,HH.out.set 0 (.int .i64 (min a.hi.x b.hi.x)),HM.out.other (by simp only;omega) _,HX.out.other (by simp only;omega) _,HO.out.other (by simp only;omega) _,HE.out.setCell (by simp only;omega) _⟩
    case measure=>simp[intOf]
  · have L:=hR.L.cell;have H:=hR.H.cell;have M:=hR.M.cell;have X:=hR.X.cell;have qL:=hR.L.lt;have qH:=hR.H.lt;have qM:=hR.M.lt;have qX:=hR.X.lt;simp only[lowA,highA]at L H;have HR:=Lib.hid hR;clear hR
    go_wp2_with fail
    refine wp_region_near_tail 9 (by assumption) (by kernel_rfl) ?_;simp only[List.take_succ_cons,List.take_zero,List.drop_succ_cons,List.drop_zero]
    repeat (go_big_quiet_step (fail))
    refine wpQuiet_nil ?_;intro w1 hw1;have hy:=Ext.of_near hw1;clear hw1;have L1:=HR.out.L.ext hy;have H1:=HR.out.H.ext hy;have M1:=HR.out.M.ext hy;have X1:=HR.out.X.ext hy;have O1:=HR.out.O.ext hy;have e1:=HR.out.ext.trans hy;clear hy;have V:=Int.le_refl 0;have L2:=L1.set 1 (.int .i64 (max a.lo.y b.lo.y));have H2:=H1.other (p:=⟨wa.heap.size,1,none⟩) (by simp only;omega) (.int .i64 (max a.lo.y b.lo.y));have M2:=M1.other (p:=⟨wa.heap.size,1,none⟩) (by simp only;omega) (.int .i64 (max a.lo.y b.lo.y));have X2:=X1.other (p:=⟨wa.heap.size,1,none⟩) (by simp only;omega) (.int .i64 (max a.lo.y b.lo.y));have O2:=O1.other (p:=⟨wa.heap.size,1,none⟩) (by simp only;omega) (.int .i64 (max a.lo.y b.lo.y));have e2:=e1.setCell (p:=⟨wa.heap.size,1,none⟩) (by simp only;omega) (.int .i64 (max a.lo.y b.lo.y));have L3:=L1.cell;have fL:=L1.frozen;have H:=H2.cell;have M:=M2.cell;have X:=X2.cell;have qH:=H2.lt;have qX:=X2.lt;simp only[World.size_setCell_]at qH qX;simp only[lowA,highA]at L3 H;have HL:=Lib.hid L2;have HH:=Lib.hid H2;have HM:=Lib.hid M2;have HX:=Lib.hid X2;have HO:=Lib.hid O2;have HE:=Lib.hid e2;clear L1 H1 M1 X1 O1 e1 L2 H2 M2 X2 O2 e2 V
    go_wp2_with fail
    refine wp_region_near_tail 9 (by assumption) (by kernel_rfl) ?_;simp only[List.take_succ_cons,List.take_zero,List.drop_succ_cons,List.drop_zero]
    repeat (go_big_quiet_step (fail))
    refine wpQuiet_nil ?_;intro w1 hw1;have hy:=Ext.of_near hw1;clear hw1;have L1:=HL.out.ext hy;have H1:=HH.out.ext hy;have M1:=HM.out.ext hy;have X1:=HX.out.ext hy;have O1:=HO.out.ext hy;have e1:=HE.out.trans hy;clear hy;have H3:=H1.cell;have fH:=H1.frozen;simp only[highA]at H3;have HL:=Lib.hid L1;have HH:=Lib.hid H1;have HM:=Lib.hid M1;have HX:=Lib.hid X1;have HO:=Lib.hid O1;have HE:=Lib.hid e1;clear L1 H1 M1 X1 O1 e1;go_wp2
    go_roundw
    case rel=>
     exact⟨2,by omega,rfl,HL.out.other (by simp only;omega) _,HH.out.set 1 (.int .i64 (min a.hi.y b.hi.y)),HM.out.other (by simp only;omega) _,HX.out.other (by simp only;omega) _,HO.out.other (by simp only;omega) _,HE.out.setCell (by simp only;omega) _⟩
    case measure=>simp[intOf]
  · have L:=hR.L.cell;have H:=hR.H.cell;have M:=hR.M.cell;have X:=hR.X.cell;have qL:=hR.L.lt;have qH:=hR.H.lt;have qM:=hR.M.lt;have qX:=hR.X.lt;simp only[lowA,highA]at L H;have HR:=Lib.hid hR;clear hR
    go_wp2_with fail
    refine wp_region_near_tail 9 (by assumption) (by kernel_rfl) ?_;simp only[List.take_succ_cons,List.take_zero,List.drop_succ_cons,List.drop_zero]
    repeat (go_big_quiet_step (fail))
    refine wpQuiet_nil ?_;intro w1 hw1;have hy:=Ext.of_near hw1;clear hw1;have L1:=HR.out.L.ext hy;have H1:=HR.out.H.ext hy;have M1:=HR.out.M.ext hy;have X1:=HR.out.X.ext hy;have O1:=HR.out.O.ext hy;have e1:=HR.out.ext.trans hy;clear hy;have V:=Int.le_refl 0;have L2:=L1.set 2 (.int .i64 (max a.lo.z b.lo.z));have H2:=H1.other (p:=⟨wa.heap.size,2,none⟩) (by simp only;omega) (.int .i64 (max a.lo.z b.lo.z));have M2:=M1.other (p:=⟨wa.heap.size,2,none⟩) (by simp only;omega) (.int .i64 (max a.lo.z b.lo.z));have X2:=X1.other (p:=⟨wa.heap.size,2,none⟩) (by simp only;omega) (.int .i64 (max a.lo.z b.lo.z));have O2:=O1.other (p:=⟨wa.heap.size,2,none⟩) (by simp only;omega) (.int .i64 (max a.lo.z b.lo.z));have e2:=e1.setCell (p:=⟨wa.heap.size,2,none⟩) (by simp only;omega) (.int .i64 (max a.lo.z b.lo.z));have L3:=L1.cell;have fL:=L1.frozen;have H:=H2.cell;have M:=M2.cell;have X:=X2.cell;have qH:=H2.lt;have qX:=X2.lt;simp only[World.size_setCell_]at qH qX;simp only[lowA,highA]at L3 H;have HL:=Lib.hid L2;have HH:=Lib.hid H2;have HM:=Lib.hid M2;have HX:=Lib.hid X2;have HO:=Lib.hid O2;have HE:=Lib.hid e2;clear L1 H1 M1 X1 O1 e1 L2 H2 M2 X2 O2 e2 V
    go_wp2_with fail
    refine wp_region_near_tail 9 (by assumption) (by kernel_rfl) ?_;simp only[List.take_succ_cons,List.take_zero,List.drop_succ_cons,List.drop_zero]
    repeat (go_big_quiet_step (fail))
    refine wpQuiet_nil ?_;intro w1 hw1;have hy:=Ext.of_near hw1;clear hw1;have L1:=HL.out.ext hy;have H1:=HH.out.ext hy;have M1:=HM.out.ext hy;have X1:=HX.out.ext hy;have O1:=HO.out.ext hy;have e1:=HE.out.trans hy;clear hy;have H3:=H1.cell;have fH:=H1.frozen;simp only[highA]at H3;have HL:=Lib.hid L1;have HH:=Lib.hid H1;have HM:=Lib.hid M1;have HX:=Lib.hid X1;have HO:=Lib.hid O1;have HE:=Lib.hid e1;clear L1 H1 M1 X1 O1 e1;go_wp2
    go_roundw
    case rel=>
     exact⟨3,by omega,rfl,HL.out.other (by simp only;omega) _,HH.out.set 2 (.int .i64 (min a.hi.z b.hi.z)),HM.out.other (by simp only;omega) _,HX.out.other (by simp only;omega) _,HO.out.other (by simp only;omega) _,HE.out.setCell (by simp only;omega) _⟩
    case measure=>simp[intOf]
  · have HR:=Lib.hid hR;clear hR
    go_wp2_with fail
    obtain⟨i0,hi0,hz0,hz1,hz2⟩:=info_parts infoBox;refine wp_region_box (interV a b wa.heap.size wb.heap.size) 5 25 10 50 4 [.int .i64 zeroBx.lo.x,.int .i64 zeroBx.lo.y,.int .i64 zeroBx.lo.z,.int .i64 zeroBx.hi.x,.int .i64 zeroBx.hi.y,.int .i64 zeroBx.hi.z] [.int .i64 (meetB a b).lo.x,.int .i64 (meetB a b).lo.y,.int .i64 (meetB a b).lo.z,.int .i64 (meetB a b).hi.x,.int .i64 (meetB a b).hi.y,.int .i64 (meetB a b).hi.z] (by assumption) (by kernel_rfl) (by kernel_rfl) (noGuard_spec (by kernel_rfl)) rfl ⟨_,rfl,rfl,rfl⟩
     ⟨_,rfl,rfl,rfl,⟨⟨5,.data⟩,by simp,rfl,rfl⟩,⟨⟨4,.data⟩,by simp,rfl,rfl⟩⟩ (by omega) rfl (by simp) (by simp) rfl ⟨i0,_,hi0,hz0,rfl⟩ (by kernel_rfl) rfl rfl ?_ ?_
    · intro listed w1 i o ho hin hdep hx1 b' K E0 E1 hK;have hun:True:=trivial
      match i,ho with
      | 0,ho=>
        injection ho with ho
        subst ho;have e4:=E0 5 (by kernel_rfl);simp only[List.getElem?_toArray,List.getElem?_cons_zero,List.getElem?_cons_succ]at e4;have hA:=(HR.out.L).ext hx1;simp only[lowA]at hA;exact wp_load_row 125 (.tmp 5) rfl _ (by simp[Act.eval,Array.getD_eq_getD_getElem?,e4]) 125 _ (0,0) _ hA Tryz.underlying125 rfl (by kernel_rfl) (hK w1 (Ext.refl _))
      | 2,ho=>
        injection ho with ho
        subst ho;have e4:=E0 6 (by kernel_rfl);simp only[List.getElem?_toArray,List.getElem?_cons_zero,List.getElem?_cons_succ]at e4;have hA:=(HR.out.H).ext hx1;simp only[highA]at hA;exact wp_load_row 125 (.tmp 6) rfl _ (by simp[Act.eval,Array.getD_eq_getD_getElem?,e4]) 125 _ (0,0) _ hA Tryz.underlying125 rfl (by kernel_rfl) (hK w1 (Ext.refl _))
      | 1,ho=>
        injection ho with ho
        subst ho;have d1:=hdep ⟨0,.data⟩ (by simp) rfl;have e4:=E1 0 46 (by decide) (getD_up d1) rfl (by simp);simp only[interV]at e4;clear hdep E0 E1 hun;unfold Oper.wp;simp[e4,go_sem];refine(refof_any (meetB a b).lo _).mono ?_;rintro e w2 ⟨rfl,hx2⟩;exact hK w2 hx2
      | 3,ho=>
        injection ho with ho
        subst ho;have d1:=hdep ⟨2,.data⟩ (by simp) rfl;have e4:=E1 2 48 (by decide) (getD_up d1) rfl (by simp);simp only[interV]at e4;clear hdep E0 E1 hun;unfold Oper.wp;simp[e4,go_sem];refine(refof_any (meetB a b).hi _).mono ?_;rintro e w2 ⟨rfl,hx2⟩;exact hK w2 hx2
      | 4,ho=>
        injection ho with ho
        subst ho;have d1:=hdep ⟨1,.data⟩ (by simp) rfl;have d3:=hdep ⟨3,.data⟩ (by simp) rfl;have e4:=E1 1 47 (by decide) (getD_up d1) rfl (by simp);have e5:=E1 3 49 (by decide) (getD_up d3) rfl (by simp);simp only[interV]at e4 e5;have hK2:=hK w1 (Ext.refl _);clear hdep E0 E1 hun;unfold Oper.wp;simp[execOp,e4,e5,go_sem];exact hK2
      | n+5,ho=>omega
    · intro g w1 hx1 hg hA;simp only[List.length_cons,List.length_nil,fillAllN,dstOf,boxV,interV,Act.put,List.getElem?_toArray,List.getElem?_cons_zero,List.getElem?_cons_succ,Option.bind_some];have hO:=(HR.out.O).ext hx1;have he:=HR.out.ext.trans hx1;generalize emptyB (meetB a b)=be at HQ HI;have HI2:=HI.out;clear HR hm hG HR0;simp
      go_wp2_with (first | (refine ldB 25 10 hA Tryz.underlying25 ?_) | (refine ldB 25 10 (hA.alloc _) Tryz.underlying25 ?_) | (refine ldB 25 10 ((hA.alloc _).alloc _) Tryz.underlying25 ?_))
      ((refine(HQ.out _).mono ?_);rintro e wx ⟨rfl,xx⟩;have xz:=xx.size;(try simp only[World.size_alloc_,World.size_setCell_]at xz);obtain⟨hA,chA,fhA,lhA⟩:=Arr.look (w':=wx) hA byX;obtain⟨hO,chO,fhO,lhO⟩:=Arr.look (w':=wx) hO byX)
      cases be
      · have hi:interB a b=meetB a b:=HI2;have HI3:=Lib.hid hi;clear HI2 hi HI
        go_wp2_with (first | (refine ldB 25 10 hA Tryz.underlying25 ?_) | (refine ldB 25 10 (hA.alloc _) Tryz.underlying25 ?_) | (refine ldB 25 10 ((hA.alloc _).alloc _) Tryz.underlying25 ?_) | (refine wpList_store_blk 25 (.tmp 4) (.tmp 55) rfl rfl hO [.int .i64 (meetB a b).lo.x,.int .i64 (meetB a b).lo.y,.int .i64 (meetB a b).lo.z,.int .i64 (meetB a b).hi.x,.int .i64 (meetB a b).hi.y,.int .i64 (meetB a b).hi.z] rfl rfl (by kernel_rfl) rfl rfl ?_))
        rw[HI3.out];have hO2:=hO.setRow [.int .i64 (meetB a b).lo.x,.int .i64 (meetB a b).lo.y,.int .i64 (meetB a b).lo.z,.int .i64 (meetB a b).hi.x,.int .i64 (meetB a b).hi.y,.int .i64 (meetB a b).hi.z]
        (try simp only[Exit.inBlock,Exit.then])
        refine bodyPost_ret (v:=.agg #[.int .i64 (meetB a b).lo.x,.int .i64 (meetB a b).lo.y,.int .i64 (meetB a b).lo.z,.int .i64 (meetB a b).hi.x,.int .i64 (meetB a b).hi.y,.int .i64 (meetB a b).hi.z]) ?_ rfl ⟨rfl,byX⟩;exact results_cell_row Tryz.results56 _ _ _ _ _ _ _ rfl hO2 Tryz.underlying25 rfl (by kernel_rfl)
      · have hi:interB a b=zeroBx:=HI2;have HI3:=Lib.hid hi;clear HI2 hi HI
        go_wp2_with (first | (refine wpList_store_blk 25 (.tmp 4) (.tmp 54) rfl rfl hO [.int .i64 zeroBx.lo.x,.int .i64 zeroBx.lo.y,.int .i64 zeroBx.lo.z,.int .i64 zeroBx.hi.x,.int .i64 zeroBx.hi.y,.int .i64 zeroBx.hi.z] rfl rfl (by kernel_rfl) rfl rfl ?_))
        rw[HI3.out];have hO2:=hO.setRow [.int .i64 zeroBx.lo.x,.int .i64 zeroBx.lo.y,.int .i64 zeroBx.lo.z,.int .i64 zeroBx.hi.x,.int .i64 zeroBx.hi.y,.int .i64 zeroBx.hi.z]
        (try simp only[Exit.inBlock,Exit.then])
        refine bodyPost_ret (v:=.agg #[.int .i64 zeroBx.lo.x,.int .i64 zeroBx.lo.y,.int .i64 zeroBx.lo.z,.int .i64 zeroBx.hi.x,.int .i64 zeroBx.hi.y,.int .i64 zeroBx.hi.z]) ?_ rfl ⟨rfl,byX⟩;exact results_cell_row Tryz.results56 _ _ _ _ _ _ _ rfl hO2 Tryz.underlying25 rfl (by kernel_rfl)
end Go.Proofs.YtoecbicdahbccaaGreatDoor
