/- A part of the walk of the layer of apply: contracts and plain laws that a row's text leans on. -/
import Derived.Test.YtoecbicdahbccaaGreatDoorZa10
import Derived.Test.YtoecbicdahbccaaGreatDoorZa41
set_option maxRecDepth 100000
set_option maxHeartbeats 16000000
namespace Go.Proofs.YtoecbicdahbccaaGreatDoor
open Go Go.RowKit
def lowH(a b:Bx):Nat→List Value
 | 0=>[.int .i64 a.lo.x,.int .i64 a.lo.y,.int .i64 a.lo.z]
 | 1=>[.int .i64 (min a.lo.x b.lo.x),.int .i64 a.lo.y,.int .i64 a.lo.z]
 | 2=>[.int .i64 (min a.lo.x b.lo.x),.int .i64 (min a.lo.y b.lo.y),.int .i64 a.lo.z]
 | _=>[.int .i64 (min a.lo.x b.lo.x),.int .i64 (min a.lo.y b.lo.y),.int .i64 (min a.lo.z b.lo.z)]
def highH(a b:Bx):Nat→List Value
 | 0=>[.int .i64 a.hi.x,.int .i64 a.hi.y,.int .i64 a.hi.z]
 | 1=>[.int .i64 (max a.hi.x b.hi.x),.int .i64 a.hi.y,.int .i64 a.hi.z]
 | 2=>[.int .i64 (max a.hi.x b.hi.x),.int .i64 (max a.hi.y b.hi.y),.int .i64 a.hi.z]
 | _=>[.int .i64 (max a.hi.x b.hi.x),.int .i64 (max a.hi.y b.hi.y),.int .i64 (max a.hi.z b.hi.z)]
structure HulR (a b:Bx) (n2 nL nH nM nX:Nat) (w:World) (k:Nat) (wr:World):Prop where
 L:Arr wr nL 125 (lowH a b k)
 H:Arr wr nH 125 (highH a b k)
 M:Arr wr nM 125 [.int .i64 b.lo.x,.int .i64 b.lo.y,.int .i64 b.lo.z]
 X:Arr wr nX 125 [.int .i64 b.hi.x,.int .i64 b.hi.y,.int .i64 b.hi.z]
 O:Arr wr n2 25 [.int .i64 zeroBx.lo.x,.int .i64 zeroBx.lo.y,.int .i64 zeroBx.lo.z,.int .i64 zeroBx.hi.x,.int .i64 zeroBx.hi.y,.int .i64 zeroBx.hi.z]
 ext:Ext w wr
def hullB(a b:Bx):Bx:=⟨⟨min a.lo.x b.lo.x,min a.lo.y b.lo.y,min a.lo.z b.lo.z⟩,⟨max a.hi.x b.hi.x,max a.hi.y b.hi.y,max a.hi.z b.hi.z⟩⟩
theorem rHull_any(a b:Bx)(ha:emptyB a=false)(hb:emptyB b=false)(w:World):
    Calls Tryz.prog 137 #[.agg #[.int .i64 a.lo.x,.int .i64 a.lo.y,.int .i64 a.lo.z,.int .i64 a.hi.x,.int .i64 a.hi.y,.int .i64 a.hi.z],.agg #[.int .i64 b.lo.x,.int .i64 b.lo.y,.int .i64 b.lo.z,.int .i64 b.hi.x,.int .i64 b.hi.y,.int .i64 b.hi.z]] w fun e w'=>e = .returned (.agg #[.int .i64 (hullB a b).lo.x,.int .i64 (hullB a b).lo.y,.int .i64 (hullB a b).lo.z,.int .i64 (hullB a b).hi.x,.int .i64 (hullB a b).hi.y,.int .i64 (hullB a b).hi.z])∧Ext w w':=by
 have hm:=mixed;have hG:=near_old;have HEa:=Lib.hid (show ∀ w':World,Calls Tryz.prog 59 #[.agg #[.int .i64 a.lo.x,.int .i64 a.lo.y,.int .i64 a.lo.z,.int .i64 a.hi.x,.int .i64 a.hi.y,.int .i64 a.hi.z]] w' fun e w''=>e = .returned (.bool false)∧Ext w' w'' by rw[← ha];exact refEmpty_any a);have HEb:=Lib.hid (show ∀ w':World,Calls Tryz.prog 59 #[.agg #[.int .i64 b.lo.x,.int .i64 b.lo.y,.int .i64 b.lo.z,.int .i64 b.hi.x,.int .i64 b.hi.y,.int .i64 b.hi.z]] w' fun e w''=>e = .returned (.bool false)∧Ext w' w'' by rw[← hb];exact refEmpty_any b);clear ha hb;obtain⟨c1,h1⟩:∃ c,c=(hullB a b).lo:=⟨_,rfl⟩;obtain⟨c2,h2⟩:∃ c,c=(hullB a b).hi:=⟨_,rfl⟩;have HC1:=Lib.hid h1;have HC2:=Lib.hid h2;have hd:hullB a b=⟨c1,c2⟩:=by rw[h1,h2]
 rw[hd];clear hd h1 h2
 go_enter Tryz.func137,Tryz.ntmps137
 go_upto_region 1 with fail
 obtain⟨W0,hW⟩:∃ W,W=((w.alloc (.cells #[.int .i64 a.lo.x,.int .i64 a.lo.y,.int .i64 a.lo.z,.int .i64 a.hi.x,.int .i64 a.hi.y,.int .i64 a.hi.z] 25)).alloc (.cells #[.int .i64 b.lo.x,.int .i64 b.lo.y,.int .i64 b.lo.z,.int .i64 b.hi.x,.int .i64 b.hi.y,.int .i64 b.hi.z] 25)).alloc (.cells #[.int .i64 0,.int .i64 0,.int .i64 0,.int .i64 0,.int .i64 0,.int .i64 0] 25):=⟨_,rfl⟩;have hx0:=Lib.hid (show Ext w W0 by rw[hW];exact byX);have H0:=Lib.hid (show Arr W0 w.heap.size 25 [.int .i64 a.lo.x,.int .i64 a.lo.y,.int .i64 a.lo.z,.int .i64 a.hi.x,.int .i64 a.hi.y,.int .i64 a.hi.z]by rw[hW];exact((Arr.new w _ _).alloc _).alloc _);have H1:=Lib.hid (show Arr W0 (w.heap.size+1) 25 [.int .i64 b.lo.x,.int .i64 b.lo.y,.int .i64 b.lo.z,.int .i64 b.hi.x,.int .i64 b.hi.y,.int .i64 b.hi.z]by rw[hW];exact(Arr.new1 w _ _ _).alloc _);have H2:=Lib.hid (show Arr W0 (w.heap.size+1+1) 25 [.int .i64 zeroBx.lo.x,.int .i64 zeroBx.lo.y,.int .i64 zeroBx.lo.z,.int .i64 zeroBx.hi.x,.int .i64 zeroBx.hi.y,.int .i64 zeroBx.hi.z]by
  rw[hW];have h:=Arr.new ((w.alloc (.cells #[.int .i64 a.lo.x,.int .i64 a.lo.y,.int .i64 a.lo.z,.int .i64 a.hi.x,.int .i64 a.hi.y,.int .i64 a.hi.z] 25)).alloc (.cells #[.int .i64 b.lo.x,.int .i64 b.lo.y,.int .i64 b.lo.z,.int .i64 b.hi.x,.int .i64 b.hi.y,.int .i64 b.hi.z] 25)) 25 [.int .i64 0,.int .i64 0,.int .i64 0,.int .i64 0,.int .i64 0,.int .i64 0];simpa only [World.size_alloc_,zeroBx]using h)
 rw[← hW];clear hW
 go_upto_region 2 with(first
  | (refine ldB 25 2 H0.out Tryz.underlying25 ?_) | (refine ldB 25 2 (H0.out.alloc _) Tryz.underlying25 ?_) | (refine ldB 25 2 ((H0.out.alloc _).alloc _) Tryz.underlying25 ?_)
  | (go_at_call 59;refine(HEa.out _).mono ?_;rintro e W1 ⟨rfl,hx⟩;have HX1:=Lib.hid (hx0.out.trans hx);have H0:=Lib.hid (H0.out.ext hx);have H1:=Lib.hid (H1.out.ext hx);have H2:=Lib.hid (H2.out.ext hx);clear hx))
 go_upto_region 9 with(first
  | (refine ldB 25 3 H1.out Tryz.underlying25 ?_) | (refine ldB 25 3 (H1.out.alloc _) Tryz.underlying25 ?_) | (refine ldB 25 3 ((H1.out.alloc _).alloc _) Tryz.underlying25 ?_)
  | (go_at_call 59;refine(HEb.out _).mono ?_;rintro e W2 ⟨rfl,hx⟩;have HX2:=Lib.hid (HX1.out.trans hx);have H0:=Lib.hid (H0.out.ext hx);have H1:=Lib.hid (H1.out.ext hx);have H2:=Lib.hid (H2.out.ext hx);clear hx))
 have hx2:=HX2.out;have B0:=H0.out;have B1:=H1.out;have B2:=H2.out;clear H0 H1 H2 HX1 HX2 HEa HEb hx0;have hl2:=B2.lt
 go_wp2_with (first | (refine wpList_load_part 23 (.tmp 25) rfl rfl B0 0 [.int .i64 a.lo.x,.int .i64 a.lo.y,.int .i64 a.lo.z] rfl rfl _ Tryz.underlying23 rfl (by kernel_rfl) ?_) | (refine wpList_load_part 23 (.tmp 25) rfl rfl (B0.alloc _) 0 [.int .i64 a.lo.x,.int .i64 a.lo.y,.int .i64 a.lo.z] rfl rfl _ Tryz.underlying23 rfl (by kernel_rfl) ?_))
 ((refine(reflist_any a.lo _).mono ?_);rintro e wa ⟨rfl,xx⟩;have xz:=xx.size;(try simp only[World.size_alloc_,World.size_setCell_]at xz);obtain⟨B0,cB0,fB0,lB0⟩:=Arr.look (w':=wa) B0 byX;obtain⟨B1,cB1,fB1,lB1⟩:=Arr.look (w':=wa) B1 byX;obtain⟨B2,cB2,fB2,lB2⟩:=Arr.look (w':=wa) B2 byX)
 have zA:=B2.lt
 go_wp2_with (first | (refine wpList_load_part 23 (.tmp 28) rfl rfl B0 3 [.int .i64 a.hi.x,.int .i64 a.hi.y,.int .i64 a.hi.z] rfl rfl _ Tryz.underlying23 rfl (by kernel_rfl) ?_) | (refine wpList_load_part 23 (.tmp 28) rfl rfl (B0.alloc _) 3 [.int .i64 a.hi.x,.int .i64 a.hi.y,.int .i64 a.hi.z] rfl rfl _ Tryz.underlying23 rfl (by kernel_rfl) ?_))
 ((refine(reflist_any a.hi _).mono ?_);rintro e wb ⟨rfl,xx⟩;have xz:=xx.size;(try simp only[World.size_alloc_]at xz);obtain⟨B0,cB0,fB0,lB0⟩:=Arr.look (w':=wb) B0 byX;obtain⟨B1,cB1,fB1,lB1⟩:=Arr.look (w':=wb) B1 byX;obtain⟨B2,cB2,fB2,lB2⟩:=Arr.look (w':=wb) B2 byX)
 have BL:=(Arr.new wa 125 [.int .i64 a.lo.x,.int .i64 a.lo.y,.int .i64 a.lo.z]).ext xx;have zB:=BL.lt
 go_wp2_with (first | (refine wpList_load_part 23 (.tmp 31) rfl rfl B1 0 [.int .i64 b.lo.x,.int .i64 b.lo.y,.int .i64 b.lo.z] rfl rfl _ Tryz.underlying23 rfl (by kernel_rfl) ?_) | (refine wpList_load_part 23 (.tmp 31) rfl rfl (B1.alloc _) 0 [.int .i64 b.lo.x,.int .i64 b.lo.y,.int .i64 b.lo.z] rfl rfl _ Tryz.underlying23 rfl (by kernel_rfl) ?_))
 ((refine(reflist_any b.lo _).mono ?_);rintro e wc ⟨rfl,xx⟩;have xz:=xx.size;(try simp only[World.size_alloc_]at xz);obtain⟨B0,cB0,fB0,lB0⟩:=Arr.look (w':=wc) B0 byX;obtain⟨B1,cB1,fB1,lB1⟩:=Arr.look (w':=wc) B1 byX;obtain⟨B2,cB2,fB2,lB2⟩:=Arr.look (w':=wc) B2 byX;obtain⟨BL,cBL,fBL,lBL⟩:=Arr.look (w':=wc) BL byX)
 have BH:=(Arr.new wb 125 [.int .i64 a.hi.x,.int .i64 a.hi.y,.int .i64 a.hi.z]).ext xx;have zC:=BH.lt
 go_wp2_with (first | (refine wpList_load_part 23 (.tmp 34) rfl rfl B1 3 [.int .i64 b.hi.x,.int .i64 b.hi.y,.int .i64 b.hi.z] rfl rfl _ Tryz.underlying23 rfl (by kernel_rfl) ?_) | (refine wpList_load_part 23 (.tmp 34) rfl rfl (B1.alloc _) 3 [.int .i64 b.hi.x,.int .i64 b.hi.y,.int .i64 b.hi.z] rfl rfl _ Tryz.underlying23 rfl (by kernel_rfl) ?_))
 ((refine(reflist_any b.hi _).mono ?_);rintro e wd ⟨rfl,xx⟩;have xz:=xx.size;(try simp only[World.size_alloc_]at xz);obtain⟨B0,cB0,fB0,lB0⟩:=Arr.look (w':=wd) B0 byX;obtain⟨B1,cB1,fB1,lB1⟩:=Arr.look (w':=wd) B1 byX;obtain⟨B2,cB2,fB2,lB2⟩:=Arr.look (w':=wd) B2 byX;obtain⟨BL,cBL,fBL,lBL⟩:=Arr.look (w':=wd) BL byX;obtain⟨BH,cBH,fBH,lBH⟩:=Arr.look (w':=wd) BH byX)
 have BM:=(Arr.new wc 125 [.int .i64 b.lo.x,.int .i64 b.lo.y,.int .i64 b.lo.z]).ext xx;have zD:=BM.lt;have hxd:Ext w wd:=hx2.trans (by clear hx2;exact byX);clear xx xz;have HR0:=Lib.hid (HulR.mk (BL.alloc (.cells #[.int .i64 b.hi.x,.int .i64 b.hi.y,.int .i64 b.hi.z] 125)) (BH.alloc _) (BM.alloc _) (Arr.new wd 125 [.int .i64 b.hi.x,.int .i64 b.hi.y,.int .i64 b.hi.z]) (B2.alloc _) (hxd.alloc _):HulR a b (w.heap.size+1+1) wa.heap.size wb.heap.size wc.heap.size wd.heap.size w 0 (wd.alloc (.cells #[.int .i64 b.hi.x,.int .i64 b.hi.y,.int .i64 b.hi.z] 125)));clear cBL fBL lBL cBH fBH lBH cB0 fB0 lB0 cB1 fB1 lB1 cB2 fB2 lB2
 go_wp2_with fail
 go_loopw [11] (fun i wr=>∃ k:Nat,k≤3∧i = .int .i64 k∧HulR a b (w.heap.size+1+1) wa.heap.size wb.heap.size wc.heap.size wd.heap.size w k wr) (fun i _=>3 - (intOf i).toNat)
 case atStart=>exact⟨0,by omega,rfl,HR0.out⟩
 case round=>
  obtain⟨k,hk,rfl,hR⟩:=hrel;obtain rfl | rfl | rfl | rfl:k=0∨k=1∨k=2∨k=3:=by omega
  · have L:=hR.L.cell;have H:=hR.H.cell;have M:=hR.M.cell;have X:=hR.X.cell;have qL:=hR.L.lt;have qH:=hR.H.lt;have qM:=hR.M.lt;have qX:=hR.X.lt;simp only[lowH,highH]at L H;have HR:=Lib.hid hR;clear hR
    go_wp2_with fail
    refine wp_region_near_tail 9 (by assumption) (by kernel_rfl) ?_;simp only[List.take_succ_cons,List.take_zero,List.drop_succ_cons,List.drop_zero]
    repeat (go_big_quiet_step (fail))
    refine wpQuiet_nil ?_;intro w1 hw1;have hy:=Ext.of_near hw1;clear hw1;have L1:=HR.out.L.ext hy;have H1:=HR.out.H.ext hy;have M1:=HR.out.M.ext hy;have X1:=HR.out.X.ext hy;have O1:=HR.out.O.ext hy;have e1:=HR.out.ext.trans hy;clear hy;have V:=Int.le_refl 0;have L2:=L1.set 0 (.int .i64 (min a.lo.x b.lo.x));have H2:=H1.other (p:=⟨wa.heap.size,0,none⟩) (by simp only;omega) (.int .i64 (min a.lo.x b.lo.x));have M2:=M1.other (p:=⟨wa.heap.size,0,none⟩) (by simp only;omega) (.int .i64 (min a.lo.x b.lo.x));have X2:=X1.other (p:=⟨wa.heap.size,0,none⟩) (by simp only;omega) (.int .i64 (min a.lo.x b.lo.x));have O2:=O1.other (p:=⟨wa.heap.size,0,none⟩) (by simp only;omega) (.int .i64 (min a.lo.x b.lo.x));have e2:=e1.setCell (p:=⟨wa.heap.size,0,none⟩) (by simp only;omega) (.int .i64 (min a.lo.x b.lo.x));have L3:=L1.cell;have fL:=L1.frozen;have H:=H2.cell;have M:=M2.cell;have X:=X2.cell;have qH:=H2.lt;have qX:=X2.lt;simp only[World.size_setCell_]at qH qX;simp only[lowH,highH]at L3 H;have HL:=Lib.hid L2;have HH:=Lib.hid H2;have HM:=Lib.hid M2;have HX:=Lib.hid X2;have HO:=Lib.hid O2;have HE:=Lib.hid e2;clear L1 H1 M1 X1 O1 e1 L2 H2 M2 X2 O2 e2 V
    go_wp2_with fail
    refine wp_region_near_tail 9 (by assumption) (by kernel_rfl) ?_;simp only[List.take_succ_cons,List.take_zero,List.drop_succ_cons,List.drop_zero]
    repeat (go_big_quiet_step (fail))
    refine wpQuiet_nil ?_;intro w1 hw1;have hy:=Ext.of_near hw1;clear hw1;have L1:=HL.out.ext hy;have H1:=HH.out.ext hy;have M1:=HM.out.ext hy;have X1:=HX.out.ext hy;have O1:=HO.out.ext hy;have e1:=HE.out.trans hy;clear hy;have H3:=H1.cell;have fH:=H1.frozen;simp only[highH]at H3;have HL:=Lib.hid L1;have HH:=Lib.hid H1;have HM:=Lib.hid M1;have HX:=Lib.hid X1;have HO:=Lib.hid O1;have HE:=Lib.hid e1;clear L1 H1 M1 X1 O1 e1;go_wp2
    go_roundw
    case rel=>
     exact⟨1,by omega,rfl,HL.out.other (by simp only;omega) _,HH.out.set 0 (.int .i64 (max a.hi.x b.hi.x)),HM.out.other (by simp only;omega) _,HX.out.other (by simp only;omega) _,HO.out.other (by simp only;omega) _,HE.out.setCell (by simp only;omega) _⟩
    case measure=>simp[intOf]
  · have L:=hR.L.cell;have H:=hR.H.cell;have M:=hR.M.cell;have X:=hR.X.cell;have qL:=hR.L.lt;have qH:=hR.H.lt;have qM:=hR.M.lt;have qX:=hR.X.lt;simp only[lowH,highH]at L H;have HR:=Lib.hid hR;clear hR
    go_wp2_with fail
    refine wp_region_near_tail 9 (by assumption) (by kernel_rfl) ?_;simp only[List.take_succ_cons,List.take_zero,List.drop_succ_cons,List.drop_zero]
    repeat (go_big_quiet_step (fail))
    refine wpQuiet_nil ?_;intro w1 hw1;have hy:=Ext.of_near hw1;clear hw1;have L1:=HR.out.L.ext hy;have H1:=HR.out.H.ext hy;have M1:=HR.out.M.ext hy;have X1:=HR.out.X.ext hy;have O1:=HR.out.O.ext hy;have e1:=HR.out.ext.trans hy;clear hy;have V:=Int.le_refl 0;have L2:=L1.set 1 (.int .i64 (min a.lo.y b.lo.y));have H2:=H1.other (p:=⟨wa.heap.size,1,none⟩) (by simp only;omega) (.int .i64 (min a.lo.y b.lo.y));have M2:=M1.other (p:=⟨wa.heap.size,1,none⟩) (by simp only;omega) (.int .i64 (min a.lo.y b.lo.y));have X2:=X1.other (p:=⟨wa.heap.size,1,none⟩) (by simp only;omega) (.int .i64 (min a.lo.y b.lo.y));have O2:=O1.other (p:=⟨wa.heap.size,1,none⟩) (by simp only;omega) (.int .i64 (min a.lo.y b.lo.y));have e2:=e1.setCell (p:=⟨wa.heap.size,1,none⟩) (by simp only;omega) (.int .i64 (min a.lo.y b.lo.y));have L3:=L1.cell;have fL:=L1.frozen;have H:=H2.cell;have M:=M2.cell;have X:=X2.cell;have qH:=H2.lt;have qX:=X2.lt;simp only[World.size_setCell_]at qH qX;simp only[lowH,highH]at L3 H;have HL:=Lib.hid L2;have HH:=Lib.hid H2;have HM:=Lib.hid M2;have HX:=Lib.hid X2;have HO:=Lib.hid O2;have HE:=Lib.hid e2;clear L1 H1 M1 X1 O1 e1 L2 H2 M2 X2 O2 e2 V
    go_wp2_with fail
    refine wp_region_near_tail 9 (by assumption) (by kernel_rfl) ?_;simp only[List.take_succ_cons,List.take_zero,List.drop_succ_cons,List.drop_zero]
    repeat (go_big_quiet_step (fail))
    refine wpQuiet_nil ?_;intro w1 hw1;have hy:=Ext.of_near hw1;clear hw1;have L1:=HL.out.ext hy;have H1:=HH.out.ext hy;have M1:=HM.out.ext hy;have X1:=HX.out.ext hy;have O1:=HO.out.ext hy;have e1:=HE.out.trans hy;clear hy;have H3:=H1.cell;have fH:=H1.frozen;simp only[highH]at H3;have HL:=Lib.hid L1;have HH:=Lib.hid H1;have HM:=Lib.hid M1;have HX:=Lib.hid X1;have HO:=Lib.hid O1;have HE:=Lib.hid e1;clear L1 H1 M1 X1 O1 e1;go_wp2
    go_roundw
    case rel=>
     exact⟨2,by omega,rfl,HL.out.other (by simp only;omega) _,HH.out.set 1 (.int .i64 (max a.hi.y b.hi.y)),HM.out.other (by simp only;omega) _,HX.out.other (by simp only;omega) _,HO.out.other (by simp only;omega) _,HE.out.setCell (by simp only;omega) _⟩
    case measure=>simp[intOf]
  · have L:=hR.L.cell;have H:=hR.H.cell;have M:=hR.M.cell;have X:=hR.X.cell;have qL:=hR.L.lt;have qH:=hR.H.lt;have qM:=hR.M.lt;have qX:=hR.X.lt;simp only[lowH,highH]at L H;have HR:=Lib.hid hR;clear hR
    go_wp2_with fail
    refine wp_region_near_tail 9 (by assumption) (by kernel_rfl) ?_;simp only[List.take_succ_cons,List.take_zero,List.drop_succ_cons,List.drop_zero]
    repeat (go_big_quiet_step (fail))
    refine wpQuiet_nil ?_;intro w1 hw1;have hy:=Ext.of_near hw1;clear hw1;have L1:=HR.out.L.ext hy;have H1:=HR.out.H.ext hy;have M1:=HR.out.M.ext hy;have X1:=HR.out.X.ext hy;have O1:=HR.out.O.ext hy;have e1:=HR.out.ext.trans hy;clear hy;have V:=Int.le_refl 0;have L2:=L1.set 2 (.int .i64 (min a.lo.z b.lo.z));have H2:=H1.other (p:=⟨wa.heap.size,2,none⟩) (by simp only;omega) (.int .i64 (min a.lo.z b.lo.z));have M2:=M1.other (p:=⟨wa.heap.size,2,none⟩) (by simp only;omega) (.int .i64 (min a.lo.z b.lo.z));have X2:=X1.other (p:=⟨wa.heap.size,2,none⟩) (by simp only;omega) (.int .i64 (min a.lo.z b.lo.z));have O2:=O1.other (p:=⟨wa.heap.size,2,none⟩) (by simp only;omega) (.int .i64 (min a.lo.z b.lo.z));have e2:=e1.setCell (p:=⟨wa.heap.size,2,none⟩) (by simp only;omega) (.int .i64 (min a.lo.z b.lo.z));have L3:=L1.cell;have fL:=L1.frozen;have H:=H2.cell;have M:=M2.cell;have X:=X2.cell;have qH:=H2.lt;have qX:=X2.lt;simp only[World.size_setCell_]at qH qX;simp only[lowH,highH]at L3 H;have HL:=Lib.hid L2;have HH:=Lib.hid H2;have HM:=Lib.hid M2;have HX:=Lib.hid X2;have HO:=Lib.hid O2;have HE:=Lib.hid e2;clear L1 H1 M1 X1 O1 e1 L2 H2 M2 X2 O2 e2 V
    go_wp2_with fail
    refine wp_region_near_tail 9 (by assumption) (by kernel_rfl) ?_;simp only[List.take_succ_cons,List.take_zero,List.drop_succ_cons,List.drop_zero]
    repeat (go_big_quiet_step (fail))
    refine wpQuiet_nil ?_;intro w1 hw1;have hy:=Ext.of_near hw1;clear hw1;have L1:=HL.out.ext hy;have H1:=HH.out.ext hy;have M1:=HM.out.ext hy;have X1:=HX.out.ext hy;have O1:=HO.out.ext hy;have e1:=HE.out.trans hy;clear hy;have H3:=H1.cell;have fH:=H1.frozen;simp only[highH]at H3;have HL:=Lib.hid L1;have HH:=Lib.hid H1;have HM:=Lib.hid M1;have HX:=Lib.hid X1;have HO:=Lib.hid O1;have HE:=Lib.hid e1;clear L1 H1 M1 X1 O1 e1;go_wp2
    go_roundw
    case rel=>
     exact⟨3,by omega,rfl,HL.out.other (by simp only;omega) _,HH.out.set 2 (.int .i64 (max a.hi.z b.hi.z)),HM.out.other (by simp only;omega) _,HX.out.other (by simp only;omega) _,HO.out.other (by simp only;omega) _,HE.out.setCell (by simp only;omega) _⟩
    case measure=>simp[intOf]
  · have L:=HulR.L hR;have H:=HulR.H hR;have R0:=HulR.O hR;have he:=HulR.ext hR;simp only[lowH,highH]at L H;have HL:=Lib.hid L;have HH:=Lib.hid H;have HO:=Lib.hid R0;have HE:=Lib.hid he;clear L H R0 he hR HR0 hxd hx2;have HL1:=Lib.hid (show Arr wr wa.heap.size 125 [.int .i64 c1.x,.int .i64 c1.y,.int .i64 c1.z]by rw[HC1.out];exact HL.out);have HH1:=Lib.hid (show Arr wr wb.heap.size 125 [.int .i64 c2.x,.int .i64 c2.y,.int .i64 c2.z]by rw[HC2.out];exact HH.out);have HF1:=Lib.hid (refof_any c1);have HF2:=Lib.hid (refof_any c2);clear HL HH
    go_upto_region 18 with fail
    have L:=HL1.out.cell;have lL:=HL1.out.lt;have H:=HH1.out.cell;have lH:=HH1.out.lt;refine wp_region_near_tail 5 (by assumption) (by kernel_rfl) ?_;simp only[List.take_succ_cons,List.take_zero,List.drop_succ_cons,List.drop_zero]
    repeat (go_big_quiet_step ((go_at_call 102;first | (with_reducible exact near_call (HF1.out _)) | (with_reducible exact near_call (HF2.out _)))))
    refine wpQuiet_nil ?_;intro w1 hw1;have hy:=Ext.of_near hw1;clear hw1;have HO2:=Lib.hid (HO.out.ext hy);have HE2:=Lib.hid (HE.out.trans hy);clear hy L H lL lH
    go_wp2_with (refine wpList_store_blk 25 (.tmp 4) (.tmp 63) rfl rfl HO2.out [.int .i64 c1.x,.int .i64 c1.y,.int .i64 c1.z,.int .i64 c2.x,.int .i64 c2.y,.int .i64 c2.z] rfl rfl (by kernel_rfl) rfl rfl ?_)
    refine bodyPost_ret (v:=.agg #[.int .i64 c1.x,.int .i64 c1.y,.int .i64 c1.z,.int .i64 c2.x,.int .i64 c2.y,.int .i64 c2.z]) ?_ rfl ⟨rfl,HE2.out.setRow (by omega) _⟩;exact results_cell_row Tryz.results137 _ _ _ _ _ _ _ rfl (HO2.out.setRow [.int .i64 c1.x,.int .i64 c1.y,.int .i64 c1.z,.int .i64 c2.x,.int .i64 c2.y,.int .i64 c2.z]) Tryz.underlying25 rfl (by kernel_rfl)
end Go.Proofs.YtoecbicdahbccaaGreatDoor
