/- A part of the walk of the layer of apply: contracts and plain laws that a row's text leans on. -/
import Derived.Test.YtoecbicdahbccaaGreatDoorZa20
import Derived.Test.YtoecbicdahbccaaGreatDoorZa27
set_option maxRecDepth 100000
set_option maxHeartbeats 16000000
namespace Go.Proofs.YtoecbicdahbccaaGreatDoor
open Go Go.RowKit
def exSt:Sp:=⟨0,1,1,2⟩
def exA:Ed:=⟨exSt,1,⟨⟨1,0,0⟩,⟨3,1,1⟩⟩,⟨0,0,0⟩,0,2,0⟩
def exB:Ed:=⟨exSt,5,zeroBx,⟨0,0,0⟩,0,3,40⟩
def exB2:Ed:=⟨exSt,5,zeroBx,⟨0,0,0⟩,0,3,31⟩
def exC:Ed:=⟨exSt,4,⟨⟨2,0,0⟩,⟨3,1,1⟩⟩,⟨0,0,0⟩,0,0,0⟩
def exD:Ed:=⟨exSt,2,zeroBx,⟨0,0,0⟩,0,5,2⟩
def exU:Ed:=⟨exSt,6,zeroBx,⟨0,0,0⟩,0,0,1⟩
def exM:Ed:=⟨exSt,2,zeroBx,⟨0,0,0⟩,0,9,2⟩
theorem exA_chk:checkE exA 2 9=0:=by decide+kernel
theorem exB_chk:checkE exB 2 9=0:=by decide+kernel
theorem exB2_chk:checkE exB2 2 9=0:=by decide+kernel
theorem exC_chk:checkE exC 2 9=0:=by decide+kernel
theorem exD_chk:checkE exD 2 9=0:=by decide+kernel
theorem exU_chk:checkE exU 2 9=0:=by decide+kernel
theorem exM_chk:checkE exM 2 9=1:=by decide+kernel
def exAl:List Chg:=[⟨⟨1,0,0⟩,0,2⟩,⟨⟨2,0,0⟩,1,2⟩]
def exDl:List Chg:=[⟨⟨0,0,0⟩,0,5⟩,⟨⟨1,0,0⟩,0,5⟩,⟨⟨0,1,0⟩,0,5⟩,⟨⟨0,0,1⟩,0,5⟩]
theorem exA_chg:diffL (cubeD 2) (matF exG) (effF exA (matF exG) [])=exAl:=by decide+kernel
theorem exC_chg:diffL (cubeD 2) (matF exG) (effF exC (matF exG) []) = [⟨⟨0,0,0⟩,0,1⟩]:=by decide+kernel
theorem exD_chg:diffL (cubeD 2) (matF exG) (effF exD (matF exG) [])=exDl:=by decide+kernel
theorem exU_chg:diffL (cubeD 2) (matF exG) (effF exU (matF exG) []) = []:=by decide+kernel
theorem exB_len:(diffL (cubeD 2) (matF exG) (effF exB (matF exG) exL)).length=32:=by decide+kernel
section
variable {l:List Chg} {er:Int}
theorem exA_out(h:ChgOut exG exA 2 9 l er):l=exAl∧er=0:=h.uniq (.inr ⟨exA_chk,.inl ⟨by decide,exA_chg.symm,rfl⟩⟩)
theorem exB_out(h:ChgOut exG exB 2 9 l er):l.length=32∧er=0:=by
 have h1:=h.uniq (.inr ⟨exB_chk,.inr ⟨rfl,exL,0,exFlood,rfl,.inr ⟨rfl,rfl⟩⟩⟩);rw[h1.1,h1.2];exact⟨exB_len,rfl⟩
theorem exB2_out(h:ChgOut exG exB2 2 9 l er):l = []∧er=2:=h.uniq (.inr ⟨exB2_chk,.inr ⟨rfl,[],2,exBig,rfl,.inl ⟨by decide,rfl⟩⟩⟩)
theorem exC_out(h:ChgOut exG exC 2 9 l er):l = [⟨⟨0,0,0⟩,0,1⟩]∧er=0:=h.uniq (.inr ⟨exC_chk,.inl ⟨by decide,exC_chg.symm,rfl⟩⟩)
theorem exD_out(h:ChgOut exG exD 2 9 l er):l=exDl∧er=0:=h.uniq (.inr ⟨exD_chk,.inl ⟨by decide,exD_chg.symm,rfl⟩⟩)
theorem exU_out(h:ChgOut exG exU 2 9 l er):l = []∧er=0:=h.uniq (.inr ⟨exU_chk,.inl ⟨by decide,exU_chg.symm,rfl⟩⟩)
theorem exM_out(h:ChgOut exG exM 2 9 l er):l = []∧er=1:=h.uniq (.inl ⟨by rw[exM_chk];decide,rfl,exM_chk.symm⟩)
end
def exF:List Chg:=[⟨⟨0,0,0⟩,0,1⟩]
def exS:List Chg:=[⟨⟨0,0,0⟩,1,0⟩,⟨⟨1,0,0⟩,0,2⟩]
theorem exJ:IsJoin exF exS [⟨⟨1,0,0⟩,0,2⟩]:=by
 have h:StabC (exF++exS) (exF++exS):=⟨by decide+kernel,fun _=>rfl⟩;have k:=join_is h (by unfold OnceC;decide+kernel) (by unfold OnceC;decide+kernel);have e:offC (joinA (exF++exS)) = [⟨⟨1,0,0⟩,0,2⟩]:=by decide+kernel
 rw[e]at k;exact k
theorem before26_any(a b:Pt)(w:World):
    Calls Tryz.prog 51 #[.agg #[.int .i64 a.x,.int .i64 a.y,.int .i64 a.z],.agg #[.int .i64 b.x,.int .i64 b.y,.int .i64 b.z]] w fun e w'=>e = .returned (.bool (befP a b))∧Ext w w':=by
 go_enter Tryz.func51,Tryz.ntmps51
 go_wp2
 all_goals
  go_ret
  refine⟨ret_bool ?_,byX⟩;rw[Bool.eq_iff_iff]
  simp_all [befP]
  try omega
theorem neqCh_run(a b:Chg)(w:World):(binOp .neq 58 (.agg #[.int .i64 a.at_.x,.int .i64 a.at_.y,.int .i64 a.at_.z,.int .i64 a.old,.int .i64 a.new]) (.agg #[.int .i64 b.at_.x,.int .i64 b.at_.y,.int .i64 b.at_.z,.int .i64 b.old,.int .i64 b.new])).run Tryz.prog w = .ok (.bool (decide (a≠b))) w:=by
 obtain⟨⟨a1,a2,a3⟩,a4,a5⟩:=a;obtain⟨⟨b1,b2,b3⟩,b4,b5⟩:=b;simp[go_sem]
 by_cases h1:a1=b1
 · by_cases h2:a2=b2
   · by_cases h3:a3=b3
     · by_cases h4:a4=b4
       · by_cases h5:a5=b5 <;> simp[h1,h2,h3,h4,h5]
       · simp[h1,h2,h3,h4]
     · simp[h1,h2,h3]
   · simp[h1,h2]
 · simp[h1]
theorem same_no{α:Type}[DecidableEq α]{la lb:List α}{j:Nat}{x y:α}(h1:la[j]? = some x)(h2:lb[j]? = some y)(h:x≠y):decide (la=lb)=false:=by
 rw[decide_eq_false_iff_not];intro e;rw[e,h2]at h1;injection h1 with h1
 exact h h1.symm
theorem same_yes{α:Type}[DecidableEq α]{la lb:List α}(hl:la.length=lb.length)(h:∀ (i:Nat) (x y:α),i < la.length→la[i]? = some x→lb[i]? = some y→x=y):decide (la=lb)=true:=by
 rw[decide_eq_true_eq];apply List.ext_getElem hl;intro i h1 h2;exact h i _ _ h1 (List.getElem?_eq_getElem h1) (List.getElem?_eq_getElem h2)
theorem SameC_any{A A2:Option Addr}{c c2:Nat}{la lb:List Chg}(w:World)(hs:Sv w w.heap.size 5 A c (rowsC la))(hs2:Sv w w.heap.size 5 A2 c2 (rowsC lb)):
    Calls Tryz.prog 15 #[.slice A la.length c,.slice A2 lb.length c2] w fun e w'=>e = .returned (.bool (decide (la=lb)))∧Ext w w':=by
 have hm:=mixed;have hG:=near_old;have hln:la.length≤9223372036854775807:=by have h:=hs.len;rw[rowsC_length]at h;exact h
 have HS:=Lib.hid hs;clear hs;have HS2:=Lib.hid hs2;clear hs2
 by_cases hl:la.length=lb.length
 · have HL:=Lib.hid hl;have hb:((la.length:Int) != (lb.length:Int))=false:=by simp[hl]
   clear hl
   go_enter Tryz.func15,Tryz.ntmps15
   go_wp2
   go_loopw [5] (fun i wr=>∃ j:Nat,j≤la.length∧i = .int .i64 j∧(∀ (i:Nat) (x y:Chg),i < j→la[i]? = some x→lb[i]? = some y→x=y)∧Ext w wr) (fun i _=>la.length - (intOf i).toNat)
   case atStart=>exact⟨0,Nat.zero_le _,rfl,fun i x y hi=>by omega,Ext.refl _⟩
   case round=>
    obtain⟨j,hj,rfl,hno,hx⟩:=hrel;have HNO:=Lib.hid hno;clear hno;have HX:=Lib.hid hx
    by_cases hlt:j < la.length
    · obtain⟨x,hxj⟩:∃ x,la[j]? = some x:=⟨_,List.getElem?_eq_getElem hlt⟩;have hlt2:j < lb.length:=by have:=HL.out;omega
      obtain⟨y,hyj⟩:∃ y,lb[j]? = some y:=⟨_,List.getElem?_eq_getElem hlt2⟩;obtain⟨b',off,rfl,hbl,r0,r1,r2,r3,r4⟩:=chg_row (HS.out.ext hx) hxj;obtain⟨b2,off2,rfl,hbl2,q0,q1,q2,q3,q4⟩:=chg_row (HS2.out.ext hx) hyj;have hn:=neqCh_run x y;have HXJ:=Lib.hid hxj;have HYJ:=Lib.hid hyj;generalize hbe:decide (x≠y)=be at hn;have HBE:=Lib.hid hbe;clear hxj hyj hbe hx
      cases be
      · go_wp2_with fail
        refine wp_region_near (by assumption) (by kernel_rfl) ?_
        repeat (go_big_quiet_step (fail))
        refine wpQuiet_nil ?_;intro w1 hw1;have hy:=Ext.of_near hw1;clear hw1;go_wp2
        go_roundw
        case rel=>
         refine⟨j+1,by omega,by go_num,fun i x' y' hi h h'=>?_,HX.out.trans hy⟩
         rcases Nat.lt_succ_iff_lt_or_eq.1 hi with h1 | rfl
         · exact HNO.out i x' y' h1 h h'
         · rw[HXJ.out]at h;injection h with h;rw[HYJ.out]at h';injection h' with h';subst h h';simpa using HBE.out
        case measure=>simp[intOf];omega
      · go_wp2_with fail
        refine wp_region_near (by assumption) (by kernel_rfl) ?_
        repeat (go_big_quiet_step (fail))
        refine wpQuiet_nil ?_;intro w1 hw1;have hy:=Ext.of_near hw1;clear hw1;go_wp2
        go_ret
        exact⟨ret_bool (same_no HXJ.out HYJ.out (by simpa using HBE.out)).symm,HX.out.trans hy⟩
    · obtain rfl:j=la.length:=by omega
      go_wp2
      go_ret
      exact⟨ret_bool (same_yes HL.out HNO.out).symm,HX.out⟩
 · have hb:((la.length:Int) != (lb.length:Int))=true:=by rw[bne_iff_ne];omega
   have HL:=Lib.hid hl;clear hl
   go_enter Tryz.func15,Tryz.ntmps15
   go_wp2
   go_ret
   exact⟨ret_bool (by symm;rw[decide_eq_false_iff_not];exact fun e=>HL.out (by rw[e])),byX⟩
theorem Volume_any(b:Bx)(w:World):Calls Tryz.prog 111 #[.agg #[.int .i64 b.lo.x,.int .i64 b.lo.y,.int .i64 b.lo.z,.int .i64 b.hi.x,.int .i64 b.hi.y,.int .i64 b.hi.z]] w fun e w'=>e = .returned (.int .i64 (volP b))∧Ext w w':=by
 have hm:=mixed;have hG:=near_old;obtain⟨W0,hW⟩:∃ W,W=w.alloc (.cells #[.int .i64 b.lo.x,.int .i64 b.lo.y,.int .i64 b.lo.z,.int .i64 b.hi.x,.int .i64 b.hi.y,.int .i64 b.hi.z] 25):=⟨_,rfl⟩;have HX:=Lib.hid (show Ext w W0 by rw[hW];exact(Ext.refl w).alloc _);have H1:=Lib.hid (show Arr W0 w.heap.size 25 [.int .i64 b.lo.x,.int .i64 b.lo.y,.int .i64 b.lo.z,.int .i64 b.hi.x,.int .i64 b.hi.y,.int .i64 b.hi.z]by rw[hW];exact Arr.new w 25 [.int .i64 b.lo.x,.int .i64 b.lo.y,.int .i64 b.lo.z,.int .i64 b.hi.x,.int .i64 b.hi.y,.int .i64 b.hi.z]);have HZ:=Lib.hid (pSize_any b);unfold Go.Proofs.YtoecbicdahbccaaGreatDoor.volP;generalize sizeP b=s at HZ ⊢
 go_enter Tryz.func111,Tryz.ntmps111
 go_upto_region 1 with fail
 rw[← hW];clear hW
 go_upto_region 2 with(first
  | (refine ldB 25 1 H1.out Tryz.underlying25 ?_) | (refine ldB 25 1 (H1.out.alloc _) Tryz.underlying25 ?_) | (refine ldB 25 1 ((H1.out.alloc _).alloc _) Tryz.underlying25 ?_)
  | (go_at_call 125;refine(HZ.out _).mono ?_;rintro e W1 ⟨rfl,hx⟩;replace HX:=xEx HX hx;replace H1:=aEx H1 hx;clear hx)
  | (refine wpList_store_blk2 23 (.tmp 3) (.tmp 5) rfl rfl (Arr.new W1 23 [.int .i64 0,.int .i64 0,.int .i64 0]) [.int .i64 s.x,.int .i64 s.y,.int .i64 s.z] rfl rfl (by kernel_rfl) rfl rfl rfl ?_;intro W2 hW;have Q1_3:=aLt H1;have Qw_3:=Lib.hid HX.out.size;replace HX:=xNew HX hW;replace H1:=aNew H1 hW;have H3:=nNew hW;clear hW))
 obtain⟨b3,hb3⟩:∃ n,n=W1.heap.size:=⟨_,rfl⟩;rw[← hb3]at H3 Q1_3 Qw_3 ⊢;clear hb3;have c3:=H3.out.cell;have l3:=H3.out.lt
 go_wp2_with fail
 go_ret
 exact⟨rfl,HX.out⟩
theorem InC.tiny{c:Bx}(h:InC c){p:Pt}(hp:inP p c=true):tinyP p:=by
 rw[inP_iff]at hp;have h1:=h.x;have h2:=h.y;have h3:=h.z;unfold tinyP;omega
theorem Box1_any(p:Pt)(w:World):Calls Tryz.prog 114 #[.agg #[.int .i64 p.x,.int .i64 p.y,.int .i64 p.z]] w fun e w'=>e = .returned (.bool true)∧Ext w w':=by
 go_enter Tryz.func114,Tryz.ntmps114
 go_wp2
 go_ret
 exact⟨rfl,(Ext.refl w).alloc _⟩
theorem isTurnB_any(s:Int)(h:0≤s∧s < 48)(w:World):Calls Tryz.prog 119 #[.int .i64 s] w fun e w'=>e = .returned (.bool true)∧Ext w w':=by
 obtain⟨h1,h2⟩:=h
 go_enter Tryz.func119,Tryz.ntmps119
 go_wp2
 go_ret
 exact⟨rfl,Ext.refl _⟩
theorem symmetry_any(s:Int)(h:0≤s∧s < 48)(w:World):Calls Tryz.prog 124 #[.int .i64 s] w fun e w'=>e = .returned (.bool true)∧Ext w w':=by
 obtain⟨h1,h2⟩:=h
 go_enter Tryz.func124,Tryz.ntmps124
 go_wp2
 go_ret
 exact⟨rfl,Ext.refl _⟩
theorem Box_any{b clip c:Bx}(hc:interB b clip=c)(hin:InC c)(w:World):Calls Tryz.prog 76 #[.agg #[.int .i64 b.lo.x,.int .i64 b.lo.y,.int .i64 b.lo.z,.int .i64 b.hi.x,.int .i64 b.hi.y,.int .i64 b.hi.z],.agg #[.int .i64 clip.lo.x,.int .i64 clip.lo.y,.int .i64 clip.lo.z,.int .i64 clip.hi.x,.int .i64 clip.hi.y,.int .i64 clip.hi.z]] w (RetL ((boxL c).filter fun _=>true) w):=by
 have hm:=mixed;have hG:=near_old;obtain⟨W0,hW⟩:∃ W,W=(w.alloc (.cells #[.int .i64 b.lo.x,.int .i64 b.lo.y,.int .i64 b.lo.z,.int .i64 b.hi.x,.int .i64 b.hi.y,.int .i64 b.hi.z] 25)).alloc (.cells #[.int .i64 clip.lo.x,.int .i64 clip.lo.y,.int .i64 clip.lo.z,.int .i64 clip.hi.x,.int .i64 clip.hi.y,.int .i64 clip.hi.z] 25):=⟨_,rfl⟩;have HX:=Lib.hid (show Ext w W0 by rw[hW];exact((Ext.refl w).alloc _).alloc _);have H2:=Lib.hid (show Arr W0 w.heap.size 25 [.int .i64 b.lo.x,.int .i64 b.lo.y,.int .i64 b.lo.z,.int .i64 b.hi.x,.int .i64 b.hi.y,.int .i64 b.hi.z]by rw[hW];exact(Arr.new w 25 [.int .i64 b.lo.x,.int .i64 b.lo.y,.int .i64 b.lo.z,.int .i64 b.hi.x,.int .i64 b.hi.y,.int .i64 b.hi.z]).alloc _);have H3:=Lib.hid (show Arr W0 (w.heap.size+1) 25 [.int .i64 clip.lo.x,.int .i64 clip.lo.y,.int .i64 clip.lo.z,.int .i64 clip.hi.x,.int .i64 clip.hi.y,.int .i64 clip.hi.z]by rw[hW];have h:=Arr.new (w.alloc (.cells #[.int .i64 b.lo.x,.int .i64 b.lo.y,.int .i64 b.lo.z,.int .i64 b.hi.x,.int .i64 b.hi.y,.int .i64 b.hi.z] 25)) 25 [.int .i64 clip.lo.x,.int .i64 clip.lo.y,.int .i64 clip.lo.z,.int .i64 clip.hi.x,.int .i64 clip.hi.y,.int .i64 clip.hi.z];simp only[World.size_alloc_]at h;exact h);have HI:=Lib.hid (Intersect_any b clip);rw[hc]at HI;have HV:=Lib.hid (show ∀ W:World,Calls Tryz.prog 111 #[.agg #[.int .i64 c.lo.x,.int .i64 c.lo.y,.int .i64 c.lo.z,.int .i64 c.hi.x,.int .i64 c.hi.y,.int .i64 c.hi.z]] W fun e w'=>e = .returned (.int .i64 (volN c:Int))∧Ext W w' by rw[← hin.volP];exact Volume_any c);have hgt:¬ (32768:Int) < (volN c:Int):=by have:=hin.vol;omega
 have HL:=Lib.hid (fun W:World=>brushList_any (b:=b) (clip:=clip) (w:=W) hc hin (G:=114) (cb:=#[]) (f:=fun _=>true) ⟨fun _ _=>by kernel_rfl,fun p _ w' _=>Box1_any p w'⟩);generalize volN c=n at HV hgt;clear hc hin
 go_enter Tryz.func76,Tryz.ntmps76
 go_upto_region 1 with fail
 rw[← hW];clear hW
 go_upto_region 3 with(first
  | (refine ldB 25 2 H2.out Tryz.underlying25 ?_) | (refine ldB 25 2 (H2.out.alloc _) Tryz.underlying25 ?_) | (refine ldB 25 2 ((H2.out.alloc _).alloc _) Tryz.underlying25 ?_)
  | (refine ldB 25 3 H3.out Tryz.underlying25 ?_) | (refine ldB 25 3 (H3.out.alloc _) Tryz.underlying25 ?_) | (refine ldB 25 3 ((H3.out.alloc _).alloc _) Tryz.underlying25 ?_)
  | (go_at_call 112;refine(HI.out _).mono ?_;rintro e W1 ⟨rfl,hx⟩;replace HX:=xEx HX hx;replace H2:=aEx H2 hx;replace H3:=aEx H3 hx;clear hx)
  | (go_at_call 111;refine(HV.out _).mono ?_;rintro e W2 ⟨rfl,hx⟩;replace HX:=xEx HX hx;replace H2:=aEx H2 hx;replace H3:=aEx H3 hx;clear hx))
 go_wp2_with (first
  | (refine ldB 25 2 H2.out Tryz.underlying25 ?_) | (refine ldB 25 2 (H2.out.alloc _) Tryz.underlying25 ?_) | (refine ldB 25 2 ((H2.out.alloc _).alloc _) Tryz.underlying25 ?_)
  | (refine ldB 25 3 H3.out Tryz.underlying25 ?_) | (refine ldB 25 3 (H3.out.alloc _) Tryz.underlying25 ?_) | (refine ldB 25 3 ((H3.out.alloc _).alloc _) Tryz.underlying25 ?_)
  | (go_at_call 113;refine(HL.out _).mono ?_;rintro e W3 ⟨v,rfl,ho,hx⟩;have HO:=Lib.hid ho;have HX1:=HX;clear ho;replace HX:=xEx HX hx;replace H2:=aEx H2 hx;replace H3:=aEx H3 hx))
 go_ret2
 exact⟨_,rfl,own_low_mono HX1.out.size HO.out,HX.out⟩
theorem Ball_any{a:Pt}{n:Int}{clip c:Bx}(hn:1≤n∧n≤4096)(hc:interB (ballBx a n) clip=c)(hin:InC c)(ha:tinyP a)(w:World):Calls Tryz.prog 77 #[.agg #[.int .i64 a.x,.int .i64 a.y,.int .i64 a.z],.int .i64 n,.agg #[.int .i64 clip.lo.x,.int .i64 clip.lo.y,.int .i64 clip.lo.z,.int .i64 clip.hi.x,.int .i64 clip.hi.y,.int .i64 clip.hi.z]] w (RetL ((boxL c).filter (ballQ a n)) w):=by
 have hm:=mixed;have hG:=near_old;obtain⟨W0,hW⟩:∃ W,W=((w.alloc (.cells #[.int .i64 a.x,.int .i64 a.y,.int .i64 a.z] 23)).alloc (.cells #[.int .i64 n] 3)).alloc (.cells #[.int .i64 clip.lo.x,.int .i64 clip.lo.y,.int .i64 clip.lo.z,.int .i64 clip.hi.x,.int .i64 clip.hi.y,.int .i64 clip.hi.z] 25):=⟨_,rfl⟩;have HX:=Lib.hid (show Ext w W0 by rw[hW];exact(((Ext.refl w).alloc _).alloc _).alloc _);have H3:=Lib.hid (show Arr W0 w.heap.size 23 [.int .i64 a.x,.int .i64 a.y,.int .i64 a.z]by rw[hW];exact((Arr.new w 23 [.int .i64 a.x,.int .i64 a.y,.int .i64 a.z]).alloc _).alloc _);have H4:=Lib.hid (show Arr W0 (w.heap.size+1) 3 [.int .i64 n]by rw[hW];have h:=Arr.new (w.alloc (.cells #[.int .i64 a.x,.int .i64 a.y,.int .i64 a.z] 23)) 3 [.int .i64 n];simp only[World.size_alloc_]at h;exact(h.alloc _));have H5:=Lib.hid (show Arr W0 (w.heap.size+1+1) 25 [.int .i64 clip.lo.x,.int .i64 clip.lo.y,.int .i64 clip.lo.z,.int .i64 clip.hi.x,.int .i64 clip.hi.y,.int .i64 clip.hi.z]by rw[hW];have h:=Arr.new ((w.alloc (.cells #[.int .i64 a.x,.int .i64 a.y,.int .i64 a.z] 23)).alloc (.cells #[.int .i64 n] 3)) 25 [.int .i64 clip.lo.x,.int .i64 clip.lo.y,.int .i64 clip.lo.z,.int .i64 clip.hi.x,.int .i64 clip.hi.y,.int .i64 clip.hi.z];simp only[World.size_alloc_]at h;exact h);have hm:=mixed;have HI:=Lib.hid (show ∀ W:World,Calls Tryz.prog 115 #[.int .i64 n] W fun e w'=>e = .returned (.bool true)∧Ext W w' by intro W;have h:=isSizeB_any n W;rw[decide_eq_true hn]at h;exact h);have HB:=Lib.hid (BallBox_any a n);generalize ballBx a n=bb at HB hc;have HC:=Lib.hid hc;have HIN:=Lib.hid hin;have HA:=Lib.hid ha;obtain⟨L,hL⟩:∃ L,L=(boxL c).filter (ballQ a n):=⟨_,rfl⟩;have HLL:=Lib.hid hL;clear hL;clear hn hc hin ha
 go_enter Tryz.func77,Tryz.ntmps77
 go_upto_region 1 with fail
 rw[← hW];clear hW;have c4:=H4.out.cell;have l4:=H4.out.lt
 go_upto_region 3 with(first
  | (go_at_call 115;refine(HI.out _).mono ?_;rintro e W1 ⟨rfl,hx⟩;replace HX:=xEx HX hx;replace H3:=aEx H3 hx;replace H4:=aEx H4 hx;replace H5:=aEx H5 hx;clear hx;have c4:=H4.out.cell;have l4:=H4.out.lt))
 clear c4 l4;have HL:=Lib.hid (fun(W:World) (hx:Ext W1 W)=>brushList_any (b:=bb) (clip:=clip) (w:=W) HC.out HIN.out (G:=117) (cb:=#[.pointer (some ⟨w.heap.size,0,none⟩),.pointer (some ⟨w.heap.size+1,0,none⟩)]) (f:=ballQ a n) ⟨fun _ _=>by kernel_rfl,fun p hp w' hx'=>Ball1_any a n p _ _ HA.out (HIN.out.tiny hp) ((H3.out.ext hx).ext hx') ((H4.out.ext hx).ext hx')⟩);rw[← HLL.out]at HL;refine wp_region_mix [some (.agg #[.int .i64 a.x,.int .i64 a.y,.int .i64 a.z]),some (.int .i64 n),some (.agg #[.int .i64 bb.lo.x,.int .i64 bb.lo.y,.int .i64 bb.lo.z,.int .i64 bb.hi.x,.int .i64 bb.hi.y,.int .i64 bb.hi.z]),some (.agg #[.int .i64 clip.lo.x,.int .i64 clip.lo.y,.int .i64 clip.lo.z,.int .i64 clip.hi.x,.int .i64 clip.hi.y,.int .i64 clip.hi.z]),some (.func (.func 117) #[] #[.pointer (some ⟨w.heap.size,0,none⟩),.pointer (some ⟨w.heap.size+1,0,none⟩)]),none,none,some (.int .i64 0),none,some (.int .i64 0)] (fun i v w'=>if i=5 then(LsR w.heap.size L v w')else(if i=6 then(OwP w.heap.size L v w')else(if i=8 then(OwP w.heap.size L v w')else(True)))) hm (by kernel_rfl) (by kernel_rfl) rfl ?_ ?_ ?_
 · exact g_if (fun v w1 w2 hx h=>((fun⟨u,h1,h2⟩=>⟨u,h1,own_ext h2 hx⟩)) h) (g_if (fun v w1 w2 hx h=>((fun h=>own_ext h hx)) h) (g_if (fun v w1 w2 hx h=>((fun h=>own_ext h hx)) h) (g_true)))
 · refine c_ (s_row H3 Tryz.underlying23) ?_;refine c_ (s_by (.inl rfl) fun b w1 h K hK=>(by have hc:=(H4.out.ext h.ext).cell 0;have e:=h.slot (s:=4) (v:=.pointer (some ⟨w.heap.size+1,0,none⟩)) (by rfl);exact op_run (by unfold execOp;simp[e,hc,Act.eval,go_sem]) (hK _ w1 (Ext.refl _) (GdM.val rfl w1)))) ?_;refine c_ (s_call fun w1 hx=>HB.out w1) ?_;refine c_ (s_row H5 Tryz.underlying25) ?_;refine c_ (s_run2 3 4 (hr:=fun b w1 _ e f=>by unfold execOp;simp[e,f,Act.eval,go_sem])) ?_;refine c_ (s_callG fun w1 hx=>(show Calls Tryz.prog 113 _ w1 fun e w'=>∃ v,e = .returned v∧Ext w1 w'∧(LsR w.heap.size L v w')from(HL.out w1 hx).mono fun e w2 ⟨u,h1,h2,h3⟩=>⟨_,h1,h3,u,rfl,own_low_mono (Nat.le_trans HX.out.size hx.size) h2⟩).mono fun e w' ⟨v,h1,h2,h3⟩=>⟨v,h1,h2,h3⟩) ?_;refine c_ (s_by (.inl rfl) fun b w1 h K hK=>?_) ?_
   · have hx:=h.ext;replace hK:∀ v w',Ext w1 w'→(OwP w.heap.size L v w')→K (b.put (some 17) v) w':=fun v w' h1 h2=>hK v w' h1 (GdM.prop rfl h2);obtain⟨v16,g16,e16⟩:=h.dep 5 rfl;have g16:LsR w.heap.size L v16 w1:=g16;obtain⟨u16,rfl,ho16⟩:=g16;have e16:=e16 16 rfl;exact op_run (by unfold execOp;simp[e16,Act.eval,go_sem]) (hK _ w1 (Ext.refl _) ho16)
   refine c_ (s_by (.inl rfl) fun b w1 h K hK=>?_) ?_
   · have hx:=h.ext;replace hK:∀ v w',Ext w1 w'→(v = .int .i64 0)→K (b.put (some 18) v) w':=fun v w' h1 h2=>(by subst h2;exact hK _ w' h1 (GdM.val rfl w'));obtain⟨v16,g16,e16⟩:=h.dep 5 rfl;have g16:LsR w.heap.size L v16 w1:=g16;obtain⟨u16,rfl,ho16⟩:=g16;have e16:=e16 16 rfl;exact op_run (by unfold execOp;simp[e16,Act.eval,go_sem]) (hK _ w1 (Ext.refl _) rfl)
   refine c_ (s_by (.inl rfl) fun b w1 h K hK=>?_) ?_
   · have hx:=h.ext;replace hK:∀ v w',Ext w1 w'→(OwP w.heap.size L v w')→K (b.put (some 6) v) w':=fun v w' h1 h2=>hK v w' h1 (GdM.prop rfl h2);obtain⟨v17,g17,e17⟩:=h.dep 6 rfl;have g17:OwP w.heap.size L v17 w1:=g17;have e17:=e17 17 rfl;exact op_assign rfl (eval_of e17) (hK _ w1 (Ext.refl _) g17)
   refine c_ s_mv ?_;exact trivial
 · intro U w9 hx hg;have g5:LsR w.heap.size L (U 5) w9:=hg 5 (by decide) rfl;have g6:OwP w.heap.size L (U 6) w9:=hg 6 (by decide) rfl;have g8:OwP w.heap.size L (U 8) w9:=hg 8 (by decide) rfl;simp only[fillM,Act.put,List.getElem?_cons_zero,List.getElem?_cons_succ,Option.join_some,Option.getD_some,Option.getD_none,List.setIfInBounds_toArray,List.set_cons_zero,List.set_cons_succ,Nat.zero_add,Nat.reduceAdd];clear hg;have HG:=Lib.hid g8;clear g5 g6 g8;go_wp2
   go_ret2
   have hl:=HLL.out;subst hl;exact⟨_,rfl,HG.out,HX.out.trans hx⟩
def RampV(s:Int)(b:Bx)(v:Value)(w:World):Prop:=∃ b5 b6 b7,v = .func (.func 146) #[] #[.pointer (some ⟨b5,0,none⟩),.pointer (some ⟨b6,0,none⟩),.pointer (some ⟨b7,0,none⟩)]∧Arr w b5 3 [.int .i64 (invI s)]∧Arr w b6 25 [.int .i64 (turnB (invI s) b).lo.x,.int .i64 (turnB (invI s) b).lo.y,.int .i64 (turnB (invI s) b).lo.z,.int .i64 (turnB (invI s) b).hi.x,.int .i64 (turnB (invI s) b).hi.y,.int .i64 (turnB (invI s) b).hi.z]∧Arr w b7 23 [.int .i64 (sizeP (turnB (invI s) b)).x,.int .i64 (sizeP (turnB (invI s) b)).y,.int .i64 (sizeP (turnB (invI s) b)).z]
theorem RampV.ext{s:Int}{b:Bx}{v:Value}{w w':World}(h:RampV s b v w)(hx:Ext w w'):RampV s b v w':=by
 obtain⟨b5,b6,b7,h1,h2,h3,h4⟩:=h;exact⟨b5,b6,b7,h1,h2.ext hx,h3.ext hx,h4.ext hx⟩
theorem inter_sub{p:Pt}{a b:Bx}(h:inP p (interB a b)=true):inP p a=true∧inP p b=true:=by
 unfold interB at h
 split at h
 · unfold zeroBx at h;rw[inP_iff]at h;simp only at h;omega
 · unfold meetB at h;rw[inP_iff]at h;rw[inP_iff,inP_iff];simp only at h;omega
theorem ramp_any{b:Bx}{s:Int}(hs:0≤s∧s < 48)(w:World)(hA:AxesIn w):Calls Tryz.prog 120 #[.agg #[.int .i64 b.lo.x,.int .i64 b.lo.y,.int .i64 b.lo.z,.int .i64 b.hi.x,.int .i64 b.hi.y,.int .i64 b.hi.z],.int .i64 s] w fun e w'=>∃ v,e = .returned v∧RampV s b v w'∧Ext w w':=by
 have hm:=mixed;have hG:=near_old;obtain⟨W0,hW⟩:∃ W,W=w.alloc (.cells #[.int .i64 b.lo.x,.int .i64 b.lo.y,.int .i64 b.lo.z,.int .i64 b.hi.x,.int .i64 b.hi.y,.int .i64 b.hi.z] 25):=⟨_,rfl⟩;have HX:=Lib.hid (show Ext w W0 by rw[hW];exact(Ext.refl w).alloc _);have H2:=Lib.hid (show Arr W0 w.heap.size 25 [.int .i64 b.lo.x,.int .i64 b.lo.y,.int .i64 b.lo.z,.int .i64 b.hi.x,.int .i64 b.hi.y,.int .i64 b.hi.z]by rw[hW];exact Arr.new w 25 [.int .i64 b.lo.x,.int .i64 b.lo.y,.int .i64 b.lo.z,.int .i64 b.hi.x,.int .i64 b.hi.y,.int .i64 b.hi.z]);have HV:=Lib.hid (fun(W:World) (hx:Ext w W)=>Invert_any s hs W (hA.ext hx));unfold RampV;generalize invI s=t at HV ⊢;have HT:=Lib.hid (fun(W:World) (hx:Ext w W)=>TurnBox_any t b W (hA.ext hx));generalize turnB t b=tb at HT ⊢;have HZ:=Lib.hid (pSize_any tb);generalize sizeP tb=z at HZ ⊢;clear hA hs
 go_enter Tryz.func120,Tryz.ntmps120
 go_upto_region 1 with fail
 rw[← hW];clear hW
 go_upto_region 2 with(first
  | (go_at_call 128;refine(HV.out _ HX.out).mono ?_;rintro e W1 ⟨rfl,hx⟩;replace HX:=xEx HX hx;replace H2:=aEx H2 hx;clear hx))
 obtain⟨W2,hW⟩:∃ W,W=W1.alloc (.cells #[.int .i64 t] 3):=⟨_,rfl⟩;have Q2_5:=aLt H2;have Qw_5:=Lib.hid HX.out.size;replace HX:=xNewI HX hW;replace H2:=aNewI H2 hW;have H5:=nNewI hW;rw[← hW];clear hW;obtain⟨b5,hb5⟩:∃ n,n=W1.heap.size:=⟨_,rfl⟩;rw[← hb5]at H5 Q2_5 Qw_5 ⊢;clear hb5;have c5:=H5.out.cell;have l5:=H5.out.lt
 go_upto_region 3 with(first
  | (refine ldB 25 2 H2.out Tryz.underlying25 ?_) | (refine ldB 25 2 (H2.out.alloc _) Tryz.underlying25 ?_) | (refine ldB 25 2 ((H2.out.alloc _).alloc _) Tryz.underlying25 ?_)
  | (go_at_call 126;refine(HT.out _ HX.out).mono ?_;rintro e W3 ⟨rfl,hx⟩;replace HX:=xEx HX hx;replace H2:=aEx H2 hx;replace H5:=aEx H5 hx;clear hx;have c5:=H5.out.cell;have l5:=H5.out.lt)
  | (refine wpList_store_blk2 25 (.tmp 6) (.tmp 12) rfl rfl (Arr.new W3 25 [.int .i64 0,.int .i64 0,.int .i64 0,.int .i64 0,.int .i64 0,.int .i64 0]) [.int .i64 tb.lo.x,.int .i64 tb.lo.y,.int .i64 tb.lo.z,.int .i64 tb.hi.x,.int .i64 tb.hi.y,.int .i64 tb.hi.z] rfl rfl (by kernel_rfl) rfl rfl rfl ?_;intro W4 hW;have Q2_6:=aLt H2;have Q5_6:=aLt H5;have Qw_6:=Lib.hid HX.out.size;replace HX:=xNew HX hW;replace H2:=aNew H2 hW;replace H5:=aNew H5 hW;have H6:=nNew hW;clear hW))
 clear c5 l5;obtain⟨b6,hb6⟩:∃ n,n=W3.heap.size:=⟨_,rfl⟩;rw[← hb6]at H6 Q2_6 Q5_6 Qw_6 ⊢;clear hb6
 go_upto_region 4 with(first
  | (refine ldB 25 6 H6.out Tryz.underlying25 ?_) | (refine ldB 25 6 (H6.out.alloc _) Tryz.underlying25 ?_) | (refine ldB 25 6 ((H6.out.alloc _).alloc _) Tryz.underlying25 ?_)
  | (go_at_call 125;refine(HZ.out _).mono ?_;rintro e W5 ⟨rfl,hx⟩;replace HX:=xEx HX hx;replace H2:=aEx H2 hx;replace H5:=aEx H5 hx;replace H6:=aEx H6 hx;clear hx)
  | (refine wpList_store_blk2 23 (.tmp 7) (.tmp 14) rfl rfl (Arr.new W5 23 [.int .i64 0,.int .i64 0,.int .i64 0]) [.int .i64 z.x,.int .i64 z.y,.int .i64 z.z] rfl rfl (by kernel_rfl) rfl rfl rfl ?_;intro W6 hW;have Q2_7:=aLt H2;have Q5_7:=aLt H5;have Q6_7:=aLt H6;have Qw_7:=Lib.hid HX.out.size;replace HX:=xNew HX hW;replace H2:=aNew H2 hW;replace H5:=aNew H5 hW;replace H6:=aNew H6 hW;have H7:=nNew hW;clear hW))
 obtain⟨b7,hb7⟩:∃ n,n=W5.heap.size:=⟨_,rfl⟩;rw[← hb7]at H7 Q2_7 Q5_7 Q6_7 Qw_7 ⊢;clear hb7
 go_wp2_with fail
 go_ret
 exact⟨_,rfl,⟨_,_,_,rfl,H5.out,H6.out,H7.out⟩,HX.out⟩
theorem Prism_any{bq:Bx}{s:Int}{clip c:Bx}(hs:0≤s∧s < 48)(hc:interB bq clip=c)(hin:InC c)(w:World)(hA:AxesIn w):Calls Tryz.prog 78 #[.agg #[.int .i64 bq.lo.x,.int .i64 bq.lo.y,.int .i64 bq.lo.z,.int .i64 bq.hi.x,.int .i64 bq.hi.y,.int .i64 bq.hi.z],.int .i64 s,.agg #[.int .i64 clip.lo.x,.int .i64 clip.lo.y,.int .i64 clip.lo.z,.int .i64 clip.hi.x,.int .i64 clip.hi.y,.int .i64 clip.hi.z]] w (RetL ((boxL c).filter (prismR bq s)) w):=by
 have hm:=mixed;have hG:=near_old;obtain⟨W0,hW⟩:∃ W,W=(w.alloc (.cells #[.int .i64 bq.lo.x,.int .i64 bq.lo.y,.int .i64 bq.lo.z,.int .i64 bq.hi.x,.int .i64 bq.hi.y,.int .i64 bq.hi.z] 25)).alloc (.cells #[.int .i64 clip.lo.x,.int .i64 clip.lo.y,.int .i64 clip.lo.z,.int .i64 clip.hi.x,.int .i64 clip.hi.y,.int .i64 clip.hi.z] 25):=⟨_,rfl⟩;have HX:=Lib.hid (show Ext w W0 by rw[hW];exact((Ext.refl w).alloc _).alloc _);have H3:=Lib.hid (show Arr W0 w.heap.size 25 [.int .i64 bq.lo.x,.int .i64 bq.lo.y,.int .i64 bq.lo.z,.int .i64 bq.hi.x,.int .i64 bq.hi.y,.int .i64 bq.hi.z]by rw[hW];exact(Arr.new w 25 [.int .i64 bq.lo.x,.int .i64 bq.lo.y,.int .i64 bq.lo.z,.int .i64 bq.hi.x,.int .i64 bq.hi.y,.int .i64 bq.hi.z]).alloc _);have H5:=Lib.hid (show Arr W0 (w.heap.size+1) 25 [.int .i64 clip.lo.x,.int .i64 clip.lo.y,.int .i64 clip.lo.z,.int .i64 clip.hi.x,.int .i64 clip.hi.y,.int .i64 clip.hi.z]by rw[hW];have h:=Arr.new (w.alloc (.cells #[.int .i64 bq.lo.x,.int .i64 bq.lo.y,.int .i64 bq.lo.z,.int .i64 bq.hi.x,.int .i64 bq.hi.y,.int .i64 bq.hi.z] 25)) 25 [.int .i64 clip.lo.x,.int .i64 clip.lo.y,.int .i64 clip.lo.z,.int .i64 clip.hi.x,.int .i64 clip.hi.y,.int .i64 clip.hi.z];simp only[World.size_alloc_]at h;exact h);have hm:=mixed;have HI:=Lib.hid (isTurnB_any s hs);have HR:=Lib.hid (fun(W:World) (hx:Ext w W)=>ramp_any (b:=bq) hs W (hA.ext hx));have HL:=Lib.hid (fun(W:World) (hw:Ext w W) (b5 b6 b7:Nat) (k5:Arr W b5 3 [.int .i64 (invI s)]) (k6:Arr W b6 25 [.int .i64 (turnB (invI s) bq).lo.x,.int .i64 (turnB (invI s) bq).lo.y,.int .i64 (turnB (invI s) bq).lo.z,.int .i64 (turnB (invI s) bq).hi.x,.int .i64 (turnB (invI s) bq).hi.y,.int .i64 (turnB (invI s) bq).hi.z]) (k7:Arr W b7 23 [.int .i64 (sizeP (turnB (invI s) bq)).x,.int .i64 (sizeP (turnB (invI s) bq)).y,.int .i64 (sizeP (turnB (invI s) bq)).z])=>brushList_any (b:=bq) (clip:=clip) (w:=W) hc hin (G:=146) (cb:=#[.pointer (some ⟨b5,0,none⟩),.pointer (some ⟨b6,0,none⟩),.pointer (some ⟨b7,0,none⟩)]) (f:=prismR bq s) ⟨fun _ _=>by kernel_rfl,fun p hp w' hx'=>by
     have ht:=invI_rng hs;have hit:isT (invI s)=true:=by unfold isT;rw[decide_eq_true ht]
     have hpb:inP p bq=true:=(inter_sub (by rw[hc];exact hp)).1;have hsm:smlP p:=by have:=hin.tiny hp;unfold tinyP at this;unfold smlP;omega
     have h:=ramp1_any (invI s) (turnB (invI s) bq) (sizeP (turnB (invI s) bq)) p b5 b6 b7 hit ((hA.ext hw).ext hx') (k5.ext hx') (k6.ext hx') (k7.ext hx');rw[tcell_r hit hsm]at h;have e:prismR bq s p=rampQ (turnB (invI s) bq) (sizeP (turnB (invI s) bq)) (subP (rturnP (invI s) 1 p) (turnB (invI s) bq).lo):=by unfold prismR prismQ;rw[hpb];rfl
     rw[e];exact h⟩)
 obtain⟨L,hL⟩:∃ L,L=(boxL c).filter (prismR bq s):=⟨_,rfl⟩;rw[← hL]at HL;have HLL:=Lib.hid hL;clear hL hs hc hin hA
 go_enter Tryz.func78,Tryz.ntmps78
 go_upto_region 1 with fail
 rw[← hW];clear hW
 go_upto_region 3 with(first
  | (go_at_call 119;refine(HI.out _).mono ?_;rintro e W1 ⟨rfl,hx⟩;replace HX:=xEx HX hx;replace H3:=aEx H3 hx;replace H5:=aEx H5 hx;clear hx))
 replace HR:=Lib.hid (fun(W:World) (hx:Ext W1 W)=>HR.out W (HX.out.trans hx));replace HL:=Lib.hid (fun(W:World) (hx:Ext W1 W)=>HL.out W (HX.out.trans hx));refine wp_region_mix [some (.agg #[.int .i64 bq.lo.x,.int .i64 bq.lo.y,.int .i64 bq.lo.z,.int .i64 bq.hi.x,.int .i64 bq.hi.y,.int .i64 bq.hi.z]),some (.agg #[.int .i64 clip.lo.x,.int .i64 clip.lo.y,.int .i64 clip.lo.z,.int .i64 clip.hi.x,.int .i64 clip.hi.y,.int .i64 clip.hi.z]),some (.agg #[.int .i64 bq.lo.x,.int .i64 bq.lo.y,.int .i64 bq.lo.z,.int .i64 bq.hi.x,.int .i64 bq.hi.y,.int .i64 bq.hi.z]),some (.int .i64 s),none,none,none,some (.int .i64 0),none,some (.int .i64 0)] (fun i v w'=>if i=4 then(RampV s bq v w')else(if i=5 then(LsR w.heap.size L v w')else(if i=6 then(OwP w.heap.size L v w')else(if i=8 then(OwP w.heap.size L v w')else(True))))) hm (by kernel_rfl) (by kernel_rfl) rfl ?_ ?_ ?_
 · exact g_if (fun v w1 w2 hx h=>((fun h=>h.ext hx)) h) (g_if (fun v w1 w2 hx h=>((fun⟨u,h1,h2⟩=>⟨u,h1,own_ext h2 hx⟩)) h) (g_if (fun v w1 w2 hx h=>((fun h=>own_ext h hx)) h) (g_if (fun v w1 w2 hx h=>((fun h=>own_ext h hx)) h) (g_true))))
 · refine c_ (s_row H3 Tryz.underlying25) ?_;refine c_ (s_row H5 Tryz.underlying25) ?_;refine c_ (s_row H3 Tryz.underlying25) ?_;refine c_ s_mv ?_;refine c_ (s_callG fun w1 hx=>(show Calls Tryz.prog 120 _ w1 fun e w'=>∃ v,e = .returned v∧Ext w1 w'∧(RampV s bq v w')from(HR.out w1 hx).mono fun e w2 ⟨v,h1,h2,h3⟩=>⟨v,h1,h3,h2⟩).mono fun e w' ⟨v,h1,h2,h3⟩=>⟨v,h1,h2,h3⟩) ?_;refine c_ (s_by (.inl rfl) fun b w1 h K hK=>?_) ?_
   · have hx:=h.ext;replace hK:∀ v w',Ext w1 w'→(LsR w.heap.size L v w')→K (b.put (some 16) v) w':=fun v w' h1 h2=>hK v w' h1 (GdM.prop rfl h2);obtain⟨v11,g11,e11⟩:=h.dep 0 rfl;have g11:v11 = .agg #[.int .i64 bq.lo.x,.int .i64 bq.lo.y,.int .i64 bq.lo.z,.int .i64 bq.hi.x,.int .i64 bq.hi.y,.int .i64 bq.hi.z]:=g11;subst g11;have e11:=e11 11 rfl;obtain⟨v12,g12,e12⟩:=h.dep 1 rfl;have g12:v12 = .agg #[.int .i64 clip.lo.x,.int .i64 clip.lo.y,.int .i64 clip.lo.z,.int .i64 clip.hi.x,.int .i64 clip.hi.y,.int .i64 clip.hi.z]:=g12;subst g12;have e12:=e12 12 rfl;obtain⟨v15,g15,e15⟩:=h.dep 4 rfl;have g15:RampV s bq v15 w1:=g15;obtain⟨b5,b6,b7,rfl,k5,k6,k7⟩:=g15;have e15:=e15 15 rfl;have hc:Calls Tryz.prog 113 #[.agg #[.int .i64 bq.lo.x,.int .i64 bq.lo.y,.int .i64 bq.lo.z,.int .i64 bq.hi.x,.int .i64 bq.hi.y,.int .i64 bq.hi.z],.agg #[.int .i64 clip.lo.x,.int .i64 clip.lo.y,.int .i64 clip.lo.z,.int .i64 clip.hi.x,.int .i64 clip.hi.y,.int .i64 clip.hi.z],.func (.func 146) #[] #[.pointer (some ⟨b5,0,none⟩),.pointer (some ⟨b6,0,none⟩),.pointer (some ⟨b7,0,none⟩)]] w1 fun e w'=>∃ v,e = .returned v∧Ext w1 w'∧(LsR w.heap.size L v w'):=(HL.out w1 hx b5 b6 b7 k5 k6 k7).mono fun e w2 ⟨u,h1,h2,h3⟩=>⟨_,h1,h3,u,rfl,own_low_mono (Nat.le_trans HX.out.size hx.size) h2⟩;exact op_call (G:=fun v w'=>LsR w.heap.size L v w') rfl (by simp[eval_of e11,eval_of e12,eval_of e15]) (fun _ _=>by kernel_rfl) hc (fun v w' h1 h2=>hK v w' h1 h2)
   refine c_ (s_by (.inl rfl) fun b w1 h K hK=>?_) ?_
   · have hx:=h.ext;replace hK:∀ v w',Ext w1 w'→(OwP w.heap.size L v w')→K (b.put (some 17) v) w':=fun v w' h1 h2=>hK v w' h1 (GdM.prop rfl h2);obtain⟨v16,g16,e16⟩:=h.dep 5 rfl;have g16:LsR w.heap.size L v16 w1:=g16;obtain⟨u16,rfl,ho16⟩:=g16;have e16:=e16 16 rfl;exact op_run (by unfold execOp;simp[e16,Act.eval,go_sem]) (hK _ w1 (Ext.refl _) ho16)
   refine c_ (s_by (.inl rfl) fun b w1 h K hK=>?_) ?_
   · have hx:=h.ext;replace hK:∀ v w',Ext w1 w'→(v = .int .i64 0)→K (b.put (some 18) v) w':=fun v w' h1 h2=>(by subst h2;exact hK _ w' h1 (GdM.val rfl w'));obtain⟨v16,g16,e16⟩:=h.dep 5 rfl;have g16:LsR w.heap.size L v16 w1:=g16;obtain⟨u16,rfl,ho16⟩:=g16;have e16:=e16 16 rfl;exact op_run (by unfold execOp;simp[e16,Act.eval,go_sem]) (hK _ w1 (Ext.refl _) rfl)
   refine c_ (s_by (.inl rfl) fun b w1 h K hK=>?_) ?_
   · have hx:=h.ext;replace hK:∀ v w',Ext w1 w'→(OwP w.heap.size L v w')→K (b.put (some 6) v) w':=fun v w' h1 h2=>hK v w' h1 (GdM.prop rfl h2);obtain⟨v17,g17,e17⟩:=h.dep 6 rfl;have g17:OwP w.heap.size L v17 w1:=g17;have e17:=e17 17 rfl;exact op_assign rfl (eval_of e17) (hK _ w1 (Ext.refl _) g17)
   refine c_ s_mv ?_;exact trivial
 · intro U w9 hx hg;have g4:RampV s bq (U 4) w9:=hg 4 (by decide) rfl;have g5:LsR w.heap.size L (U 5) w9:=hg 5 (by decide) rfl;have g6:OwP w.heap.size L (U 6) w9:=hg 6 (by decide) rfl;have g8:OwP w.heap.size L (U 8) w9:=hg 8 (by decide) rfl;simp only[fillM,Act.put,List.getElem?_cons_zero,List.getElem?_cons_succ,Option.join_some,Option.getD_some,Option.getD_none,List.setIfInBounds_toArray,List.set_cons_zero,List.set_cons_succ,Nat.zero_add,Nat.reduceAdd];clear hg;have HG:=Lib.hid g8;clear g4 g5 g6 g8;go_wp2
   go_ret2
   have hl:=HLL.out;subst hl;exact⟨_,rfl,HG.out,HX.out.trans hx⟩
end Go.Proofs.YtoecbicdahbccaaGreatDoor
