/- A part of the walk of the layer of apply: contracts and plain laws that a row's text leans on. -/
import Derived.Test.YtoecbicdahbccaaGreatDoorZa38
import Derived.Test.YtoecbicdahbccaaGreatDoorZa55
set_option maxRecDepth 100000
set_option maxHeartbeats 16000000
namespace Go.Proofs.YtoecbicdahbccaaGreatDoor
open Go Go.RowKit
def RetPu(l:List Chg)(x:Chg)(w:World)(en:Ending)(w':World):Prop:=∃ i v,PutAt l x i∧en = .returned v∧OwC w.heap.size (putC l x i) v w'∧Ext w w'
theorem putC_rows(l:List Chg)(x:Chg)(j:Nat):(rowsC (l.take j)).flatten++x.cells++(rowsC (l.drop j)).flatten=(rowsC (putC l x j)).flatten:=by
 unfold putC;simp[rowsC]
theorem put26_some{b off c:Nat}{l:List Chg}{x:Chg}(hl:l.length≤1000)(w:World)(hs:Sv w w.heap.size 5 (some ⟨b,off,none⟩) c (rowsC l)):
    Calls Tryz.prog 50 #[.slice (some ⟨b,off,none⟩) l.length c,.agg #[.int .i64 x.at_.x,.int .i64 x.at_.y,.int .i64 x.at_.z,.int .i64 x.old,.int .i64 x.new]] w (RetPu l x w):=by
 have hm:=mixed;have hG:=near_old;have hle:=hs.le;have hmx:=hs.max;simp only[rowsC_length]at hle;unfold maxLen at hmx;have HS:=Lib.hid hs;clear hs;obtain⟨i0,hi,hz0,hz1,hz2⟩:=info_parts infoCh;have HI:=Lib.hid hi;have HZ:=Lib.hid hz0;have HZ1:=Lib.hid hz1;have HZ2:=Lib.hid hz2;clear hi hz0 hz1 hz2
 go_enter Tryz.func50,Tryz.ntmps50
 go_wp2
 go_loopw [5] (fun i wr=>∃ j:Nat,j≤l.length∧i = .int .i64 j∧(∀ (k:Nat) (d:Chg),k < j→l[k]? = some d→befP d.at_ x.at_=true)∧Arr wr w.heap.size 58 [.int .i64 x.at_.x,.int .i64 x.at_.y,.int .i64 x.at_.z,.int .i64 x.old,.int .i64 x.new]∧Ext w wr) (fun i _=>l.length - (intOf i).toNat)
 case atStart=>exact⟨0,Nat.zero_le _,rfl,fun i y hi=>by omega,Arr.new w _ _,(Ext.refl w).alloc _⟩
 case round=>
  obtain⟨j,hj,rfl,hno,hB,hx⟩:=hrel;have HNO:=Lib.hid hno;clear hno;have p0:=hB.cell 0;have p1:=hB.cell 1;have p2:=hB.cell 2;simp only[List.getElem?_cons_zero,List.getElem?_cons_succ]at p0 p1 p2;have lB:=hB.lt;have HB:=Lib.hid hB;have HX:=Lib.hid hx;clear hB
  rcases Nat.lt_or_ge j l.length with hlt | hge
  focus
   obtain⟨d,hd⟩:∃ d,l[j]? = some d:=⟨_,List.getElem?_eq_getElem hlt⟩;obtain⟨b',off',hA,hbl,r0,r1,r2,r3,r4⟩:=chg_row (HS.out.ext hx) hd;injection hA with hA
   injection hA with hA1 hA2
   subst hA1 hA2;have HF:=Lib.hid (fun w'=>before26_any d.at_ x.at_ w');have HD:=Lib.hid hd
   cases hbe:befP d.at_ x.at_
   rotate_left 1
   · rw[hbe]at HF;have HBE:=Lib.hid hbe;clear hd hx hbe
     go_wp2_with fail
     refine wp_region_near (by assumption) (by kernel_rfl) ?_
     repeat (go_big_quiet_step ((go_at_call 51;exact near_call (HF.out _))))
     refine wpQuiet_nil ?_;intro w1 hw1;have hy:=Ext.of_near hw1;clear hw1;go_wp2
     go_roundw
     case rel=>
      refine⟨j+1,by omega,by go_num,fun k y hk h=>?_,HB.out.ext hy,HX.out.trans hy⟩
      rcases Nat.lt_succ_iff_lt_or_eq.1 hk with h1 | rfl
      · exact HNO.out k y h1 h
      · rw[HD.out]at h;injection h with h;subst h;exact HBE.out
     case measure=>simp[intOf];omega
   rw[hbe]at HF;have HPA:=Lib.hid (show PutAt l x j from⟨HNO.out,.inr ⟨d,hd,hbe⟩⟩);clear hd hx hbe
   go_wp2_with fail
   refine wp_region_near (by assumption) (by kernel_rfl) ?_
   repeat (go_big_quiet_step ((go_at_call 51;exact near_call (HF.out _))))
   refine wpQuiet_nil ?_;intro w1 hw1;have hy:=Ext.of_near hw1;clear hw1;clear HD HF r0 r1 r2 r3 r4 hbl
  rotate_left 1
  focus
   have HPA:=Lib.hid (show PutAt l x j from⟨HNO.out,.inl (by omega)⟩);have hni:decide (j < l.length)=false:=by rw[decide_eq_false_iff_not];omega
   clear hx
   go_wp2_with fail
   refine wp_region_near (by assumption) (by kernel_rfl) ?_
   repeat (go_big_quiet_step (fail))
   refine wpQuiet_nil ?_;intro w1 hw1;have hy:=Ext.of_near hw1;clear hw1
  rotate_left 1
  all_goals
   have HB1:=Lib.hid (HB.out.ext hy);have HX1:=Lib.hid (HX.out.trans hy);have HS1:=Lib.hid (HS.out.ext HX1.out);clear hy p0 p1 p2 lB HB HX HNO
   go_upto_region 5 with fail
   have hjc:j≤c:=by omega
   have HN0:=Lib.hid (World.ownsRow_nil w1 w1.heap.size 58 5);have HL:=Lib.hid hl
   go_wp2_with (at_builtin;refine wpList_append_sv _ rfl (.tmp 23) (.tmp 26) 38 rfl w1.heap.size 58 i0 (.agg #[.int .i64 0,.int .i64 0,.int .i64 0,.int .i64 0,.int .i64 0]) 5 40 Tryz.underlying38 HI.out HZ.out HZ1.out HZ2.out rfl (by decide) _ 0 [] rfl HN0.out w1.heap.size (some ⟨b,off,none⟩) j c (rowsC (l.take j)) rfl (by rw[rowsC_take];exact HS1.out.take _) (by rw[rowsC_length,List.length_take];omega) (by unfold maxLen;omega) (by omega) (Nat.le_refl _) ?_)
   intro v2 w2 g1 g2 _;have HX2:=Lib.hid ((Ext.refl w1).own HN0.out g2 (Nat.le_refl _));have HO2:=Lib.hid (show w2.ownsRow w1.heap.size 58 5 v2 j (rowsC (l.take j)).flatten by simpa using g1);have HB2:=Lib.hid (HB1.out.ext HX2.out);have HJ:=Lib.hid (show j+1≤1000000 by omega);clear g1 g2
   go_upto_region 7 with(first
    | (refine ldB 58 3 HB2.out Tryz.underlying58 ?_)
    | (refine wpList_app1 38 58 29 28 30 [.int .i64 x.at_.x,.int .i64 x.at_.y,.int .i64 x.at_.z,.int .i64 x.old,.int .i64 x.new] (rowsC (l.take j)).flatten HO2.out infoCh Tryz.underlying38 HX2.out.size HJ.out ?_;rintro v3 w3 ho hg _;have HX3:=Lib.hid (HX2.out.own HO2.out hg (Nat.le_refl _));have HO3:=Lib.hid ho;clear ho hg))
   have HSD:=Lib.hid (show Sv w3 w3.heap.size 5 (if c=j then(some ⟨b,off,none⟩)else Option.map (fun z:Addr=>z.add (j * 5)) (some ⟨b,off,none⟩)) (c - j) (rowsC (l.drop j))from by rw[rowsC_drop];exact(HS1.out.ext HX3.out).drop (by rw[rowsC_length];omega));have HAP:=Lib.hid (putC_rows l x j)
   by_cases hca:c=j
   all_goals
    go_wp2_with (at_builtin;refine wpList_append_sv _ rfl (.tmp 32) (.tmp 35) 38 rfl w1.heap.size 58 i0 (.agg #[.int .i64 0,.int .i64 0,.int .i64 0,.int .i64 0,.int .i64 0]) 5 40 Tryz.underlying38 HI.out HZ.out HZ1.out HZ2.out rfl (by decide) _ (j+1) _ rfl HO3.out w3.heap.size (if c=j then(some ⟨b,off,none⟩)else Option.map (fun z:Addr=>z.add (j * 5)) (some ⟨b,off,none⟩)) (l.length - j) (c - j) (rowsC (l.drop j)) ?_ HSD.out (by rw[rowsC_length,List.length_drop]) (by unfold maxLen;omega) (by omega) HX3.out.size ?_)
    intro v5 w5 g1 g2 _;have HX5:=Lib.hid (HX3.out.own HO3.out g2 (Nat.le_refl _));have HO5:=Lib.hid g1;clear g1 g2;go_wp2
    go_ret
    refine⟨j,v5,HPA.out,rfl,?_,HX1.out.trans HX5.out⟩;have h5:=own_low_mono HX1.out.size HO5.out;have e:j+1+(l.length - j)=(putC l x j).length:=by rw[putC_len];omega
    unfold OwC;rw[← HAP.out,← e,List.append_assoc]
    first | exact h5 | (rw[show l.length - j=0 by omega];exact h5)
theorem put26_nil{x:Chg}(w:World):
    Calls Tryz.prog 50 #[.slice none 0 0,.agg #[.int .i64 x.at_.x,.int .i64 x.at_.y,.int .i64 x.at_.z,.int .i64 x.old,.int .i64 x.new]] w (RetPu [] x w):=by
 have hm:=mixed;have hG:=near_old
 go_enter Tryz.func50,Tryz.ntmps50
 obtain⟨i0,hi,hz0,hz1,hz2⟩:=info_parts infoCh;have HI:=Lib.hid hi;have HZ:=Lib.hid hz0;have HZ1:=Lib.hid hz1;have HZ2:=Lib.hid hz2;clear hi hz0 hz1 hz2;go_wp2
 go_loopw [5] (fun i wr=>i = .int .i64 0∧Arr wr w.heap.size 58 [.int .i64 x.at_.x,.int .i64 x.at_.y,.int .i64 x.at_.z,.int .i64 x.old,.int .i64 x.new]∧Ext w wr) (fun _ _=>0)
 case atStart=>exact⟨rfl,Arr.new w _ _,(Ext.refl w).alloc _⟩
 case round=>
  obtain⟨rfl,hB,hx⟩:=hrel;have HB:=Lib.hid hB;have HX:=Lib.hid hx;clear hB hx
  go_wp2_with fail
  refine wp_region_near (by assumption) (by kernel_rfl) ?_
  repeat (go_big_quiet_step (fail))
  refine wpQuiet_nil ?_;intro w1 hw1;have hy:=Ext.of_near hw1;clear hw1;have HB1:=Lib.hid (HB.out.ext hy);have HX1:=Lib.hid (HX.out.trans hy);clear hy HB HX
  go_upto_region 5 with fail
  have HN0:=Lib.hid (World.ownsRow_nil w1 w1.heap.size 58 5)
  go_wp2_with (at_builtin;refine wpList_append_sv _ rfl (.tmp 23) (.tmp 26) 38 rfl w1.heap.size 58 i0 (.agg #[.int .i64 0,.int .i64 0,.int .i64 0,.int .i64 0,.int .i64 0]) 5 40 Tryz.underlying38 HI.out HZ.out HZ1.out HZ2.out rfl (by decide) _ 0 [] rfl HN0.out w1.heap.size _ 0 _ [] rfl (Sv.empty _ _ _ (by unfold maxLen;omega)) rfl (by unfold maxLen;omega) (by omega) (Nat.le_refl _) ?_)
  intro v2 w2 g1 g2 _;have HX2:=Lib.hid ((Ext.refl w1).own HN0.out g2 (Nat.le_refl _));have HO2:=Lib.hid (show w2.ownsRow w1.heap.size 58 5 v2 0 []by simpa using g1);have HB2:=Lib.hid (HB1.out.ext HX2.out);clear g1 g2
  go_upto_region 7 with(first
   | (refine ldB 58 3 HB2.out Tryz.underlying58 ?_)
   | (refine wpList_app1 38 58 29 28 30 [.int .i64 x.at_.x,.int .i64 x.at_.y,.int .i64 x.at_.z,.int .i64 x.old,.int .i64 x.new] [] HO2.out infoCh Tryz.underlying38 HX2.out.size (by decide) ?_;rintro v3 w3 ho hg _;have HX3:=Lib.hid (HX2.out.own HO2.out hg (Nat.le_refl _));have HO3:=Lib.hid ho;clear ho hg))
  go_wp2_with (at_builtin;refine wpList_append_sv _ rfl (.tmp 32) (.tmp 35) 38 rfl w1.heap.size 58 i0 (.agg #[.int .i64 0,.int .i64 0,.int .i64 0,.int .i64 0,.int .i64 0]) 5 40 Tryz.underlying38 HI.out HZ.out HZ1.out HZ2.out rfl (by decide) _ (0+1) _ rfl HO3.out w3.heap.size _ 0 _ [] rfl (Sv.empty _ _ _ (by unfold maxLen;omega)) rfl (by unfold maxLen;omega) (by omega) HX3.out.size ?_)
  intro v5 w5 g1 g2 _;have HX5:=Lib.hid (HX3.out.own HO3.out g2 (Nat.le_refl _));have HO5:=Lib.hid g1;clear g1 g2;go_wp2
  go_ret
  refine⟨0,v5,⟨fun k d hk=>absurd hk (Nat.not_lt_zero _),.inl rfl⟩,rfl,?_,HX1.out.trans HX5.out⟩;have h5:=own_low_mono HX1.out.size HO5.out;exact h5
theorem put26_any{l:List Chg}{x:Chg}{v:Value}{B:Nat}(hl:l.length≤1000)(w:World)(ho:OwC B l v w):
    Calls Tryz.prog 50 #[v,.agg #[.int .i64 x.at_.x,.int .i64 x.at_.y,.int .i64 x.at_.z,.int .i64 x.old,.int .i64 x.new]] w (RetPu l x w):=by
 have hs:=ho
 rcases ho.2 with⟨rfl,h0⟩ | ⟨g,cap,cur,rfl,_⟩
 · have hl:l = []:=List.eq_nil_of_length_eq_zero h0;subst hl;exact put26_nil w
 · exact put26_some hl w (Sv.of_own hs (rowsC_rwk l) (rowsC_length l))
theorem once_snoc{l:List Chg}(h:OnceC l){k:Nat}{x:Chg}(hx:l[k]? = some x):l.take (k+1)=l.take k++[x]∧OnceC (l.take k++[x]):=by
 obtain⟨hk,rfl⟩:=List.getElem?_eq_some_iff.1 hx;have e:=List.take_succ_eq_append_getElem hk;refine⟨e,?_⟩;rw[← e];unfold OnceC at h ⊢;rw[List.map_take];exact h.sublist (List.take_sublist ..)
def RetJR(a b:List Chg)(w:World)(en:Ending)(w':World):Prop:=∃ out v,IsJoin a b out∧en = .returned v∧OwC w.heap.size out v w'∧Ext w w'
theorem JrS.more{w:World}{n:Nat}{out:List Chg}{v:Value}{wr wx:World}(h:JrS w n out v wr)(hx:Ext wr wx):JrS w n out v wx:=⟨own_ext h.row hx,h.ext.trans hx,h.len⟩
theorem JrS.up{w:World}{n m:Nat}{out:List Chg}{v:Value}{wr:World}(h:JrS w n out v wr)(hm:n≤m):JrS w m out v wr:=⟨h.row,h.ext,Nat.le_trans h.len hm⟩
theorem withB_hit{b:List Chg}{x z:Chg}{i:Nat}(h:idxC b x.at_=i)(hz:b[i]? = some z):withB b x=⟨x.at_,x.old,z.new⟩:=by
 unfold withB;rw[h,Int.toNat_natCast,hz];simp
theorem withB_miss{b:List Chg}{x:Chg}(h:idxC b x.at_ = -1):withB b x=x:=by
 unfold withB;rw[h];simp
 split <;> rfl
theorem join26_any{A1 A2:Option Addr}{c1 c2:Nat}{a b:List Chg}(hla:a.length≤200)(hlb:b.length≤200)(ha:OnceC a)(hb:OnceC b)(w:World)(h1:Sv w w.heap.size 5 A1 c1 (rowsC a))(h2:Sv w w.heap.size 5 A2 c2 (rowsC b)):
    Calls Tryz.prog 24 #[.slice A1 a.length c1,.slice A2 b.length c2] w (RetJR a b w):=by
 have hm:=mixed;have hG:=near_old;have HA:=Lib.hid h1;have HB:=Lib.hid h2;have HOA:=Lib.hid ha;have HOB:=Lib.hid hb;have HLB:=Lib.hid hlb;clear h1 h2 ha hb
 go_enter Tryz.func24,Tryz.ntmps24
 go_wp2
 go_loopw [5,6] (fun v i wr=>∃ (k:Nat) (out:List Chg),k≤a.length∧i = .int .i64 k∧Hid (RJ1 b (a.take k) out)∧Hid (JrS w k out v wr)) (fun _ i _=>a.length - (intOf i).toNat)
 case atStart=>exact⟨0,[],Nat.zero_le _,rfl,Lib.hid (by rw[List.take_zero];exact rj1_start b),Lib.hid ⟨OwC.nil _ _,Ext.refl w,Nat.le_refl _⟩⟩
 case round=>
  obtain⟨k,out,hk,rfl,HR,HJ⟩:=hrel
  by_cases hlt:k < a.length
  · obtain⟨x,hxk⟩:∃ x,a[k]? = some x:=⟨_,List.getElem?_eq_getElem hlt⟩;obtain⟨bs,off,rfl,hbl,d0,d1,d2,d3,d4⟩:=chg_row (HA.out.ext HJ.out.ext) hxk;have hon:=once_snoc HOA.out hxk;have HRS:=Lib.hid (rj1_step HR.out hon.2);rw[← hon.1]at HRS;obtain⟨W3,hW3⟩:∃ W,W=wr.alloc (.cells #[.int .i64 x.at_.x,.int .i64 x.at_.y,.int .i64 x.at_.z,.int .i64 x.old,.int .i64 x.new] 58):=⟨_,rfl⟩;have HX3:=Lib.hid (show Ext wr W3 by rw[hW3];exact(Ext.refl wr).alloc _);have HB3:=Lib.hid (show Arr W3 wr.heap.size 58 [.int .i64 x.at_.x,.int .i64 x.at_.y,.int .i64 x.at_.z,.int .i64 x.old,.int .i64 x.new]by rw[hW3];exact Arr.new wr _ _);have HI:=Lib.hid (fun(W:World) (hx:Ext w W)=>index26_any (l:=b) (p:=x.at_) (A:=A2) (c:=c2) W (HB.out.ext hx));have HW:=Lib.hid (idxC_cases b x.at_);have HWH:=Lib.hid (fun(i:Nat) (z:Chg)=>withB_hit (b:=b) (x:=x) (z:=z) (i:=i));have HWM:=Lib.hid (withB_miss (b:=b) (x:=x));generalize idxC b x.at_=r at HI HW HWH HWM;generalize withB b x=y at HRS HWH HWM;clear hxk hon HR
    go_upto_region 6 with fail
    rw[← hW3];clear hW3 d0 d1 d2 d3 d4
    go_upto_region 7 with(first
     | (refine wpList_load_part 23 (.tmp 21) rfl rfl HB3.out 0 [.int .i64 x.at_.x,.int .i64 x.at_.y,.int .i64 x.at_.z] rfl rfl _ Tryz.underlying23 rfl (by kernel_rfl) ?_)
     | (go_at_call 44;refine(HI.out _ (HJ.out.ext.trans HX3.out)).mono ?_;rintro e W4 ⟨rfl,hx⟩;have HX4:=xEx HX3 hx;have HB4:=aEx HB3 hx;clear hx))
    clear HB3
    rcases HW.out with⟨hr,_⟩ | ⟨i,z,hr,hz,_⟩
    focus
     have hy:=HWM.out hr;subst hr hy;have HB5:=HB4;have HX5:=HX4;clear HX3 HX4 HB4 HWH HWM HW
     go_upto_region 9 with fail
     generalize W4=W5 at HB5 HX5 ⊢
    rotate_left 1
    focus
     have HY:=Lib.hid (HWH.out i z hr hz);subst hr;obtain⟨b2,o2,rfl,hbl2,q0,q1,q2,q3,q4⟩:=chg_row (HB.out.ext (HJ.out.ext.trans HX4.out)) hz;obtain⟨hil,_⟩:=List.getElem?_eq_some_iff.1 hz;have k4:=HB4.out.cell 4;simp only[List.getElem?_cons_zero,List.getElem?_cons_succ]at k4;have f4:=HB4.out.frozen;have l4:=HB4.out.lt;clear hz
     go_upto_region 9 with fail
     clear q0 q1 q2 q3 q4 k4 f4 l4 hbl2;obtain⟨W5,hW⟩:∃ W,W=W4.setCell ⟨wr.heap.size,4,none⟩ (.int .i64 z.new):=⟨_,rfl⟩;have HB5:=Lib.hid (show Arr W5 wr.heap.size 58 [.int .i64 y.at_.x,.int .i64 y.at_.y,.int .i64 y.at_.z,.int .i64 y.old,.int .i64 y.new]by rw[hW,HY.out];exact HB4.out.set 4 _);have HX5:=Lib.hid (show Ext wr W5 by rw[hW];exact HX4.out.setCell (p:=⟨wr.heap.size,4,none⟩) (Nat.le_refl _) _);rw[← hW];clear hW HX3 HX4 HB4 HWH HWM HW
    rotate_left 1
    all_goals
     have m3:=HB5.out.cell 3;have m4:=HB5.out.cell 4;simp only[List.getElem?_cons_zero,List.getElem?_cons_succ]at m3 m4;have HJ5:=Lib.hid (HJ.out.more HX5.out);have HPU:=Lib.hid (put26_any (x:=y) (by have:=HJ5.out.len;omega) W5 HJ5.out.row)
     by_cases he:y.old=y.new
     · have hne:(y.old != y.new)=false:=by simpa using he
       have HR2:=Lib.hid (HRS.out.1 he);clear he;go_wp2
       go_roundw
       case rel=>exact⟨k+1,out,hlt,by go_num,HR2,Lib.hid (HJ5.out.up (Nat.le_succ k))⟩
       case measure=>simp[intOf];omega
     · have hne:(y.old != y.new)=true:=by simpa using he
       have HR2:=Lib.hid (fun i h=>HRS.out.2 i h he);clear he
       go_wp2_with (first
        | (refine ldB 58 7 HB5.out Tryz.underlying58 ?_)
        | (go_at_call 50;refine HPU.out.mono ?_;rintro e W6 ⟨i6,v6,hp,rfl,ho,hx⟩;have HR6:=Lib.hid (HR2.out i6 hp);have HJ6:=Lib.hid (HJ5.out.put ho hx);clear hp ho hx))
       go_roundw
       case rel=>exact⟨k+1,_,hlt,by go_num,HR6,HJ6⟩
       case measure=>simp[intOf];omega
  · obtain rfl:k=a.length:=by omega
    rw[List.take_length]at HR;have HR0:=Lib.hid (rj2_start HR.out);have HJ0:=HJ;clear HR HJ hk hlt
    go_upto_region 11 with fail
    go_wp2_with fail
    go_loopw [5,9] (fun v i w2=>∃ (k:Nat) (out:List Chg),k≤b.length∧i = .int .i64 k∧Hid (RJ2 a b (b.take k) out)∧Hid (JrS w (a.length+k) out v w2)) (fun _ i _=>b.length - (intOf i).toNat)
    case atStart=>exact⟨0,out,Nat.zero_le _,rfl,Lib.hid (by rw[List.take_zero];exact HR0.out),HJ0⟩
    case round=>
     clear HR0 HJ0 out;obtain⟨k,out,hk,rfl,HR,HJ⟩:=hrel
     by_cases hlt:k < b.length
     · obtain⟨x,hxk⟩:∃ x,b[k]? = some x:=⟨_,List.getElem?_eq_getElem hlt⟩;obtain⟨bs,off,rfl,hbl,d0,d1,d2,d3,d4⟩:=chg_row (HB.out.ext HJ.out.ext) hxk;have hon:=once_snoc HOB.out hxk;have HRS:=Lib.hid (rj2_step HR.out hon.2);rw[← hon.1]at HRS;have HI:=Lib.hid (fun(W:World) (hx:Ext wr W)=>index26_any (l:=a) (p:=x.at_) (A:=A1) (c:=c1) W (HA.out.ext (HJ.out.ext.trans hx)));generalize idxC a x.at_=r at HI HRS;clear hxk hon HR
       by_cases hr:r < 0
       · have hrd:decide (r < 0)=true:=decide_eq_true hr
         by_cases he:x.old=x.new
         · have hne:(x.old != x.new)=false:=by simpa using he
           have HR2:=Lib.hid (HRS.out.1 (.inr he));clear he hr
           go_wp2_with fail
           refine wp_region_near (by assumption) (by kernel_rfl) ?_
           repeat (go_big_quiet_step ((go_at_call 44;exact near_call (HI.out _ (Ext.of_near ⟨⟨_,_⟩,rfl⟩)))))
           refine wpQuiet_nil ?_;intro w1 hw1;have hy:=Ext.of_near hw1;clear hw1;go_wp2
           go_roundw
           case rel=>exact⟨k+1,out,hlt,by go_num,HR2,Lib.hid ((HJ.out.more hy).up (Nat.le_succ _))⟩
           case measure=>simp[intOf];omega
         · have hne:(x.old != x.new)=true:=by simpa using he
           have HR2:=Lib.hid (fun i h=>HRS.out.2 i h hr he);clear he hr
           go_wp2_with fail
           refine wp_region_near (by assumption) (by kernel_rfl) ?_
           repeat (go_big_quiet_step ((go_at_call 44;exact near_call (HI.out _ (Ext.of_near ⟨⟨_,_⟩,rfl⟩)))))
           refine wpQuiet_nil ?_;intro w1 hw1;have hy:=Ext.of_near hw1;clear hw1;have HJ5:=Lib.hid (HJ.out.more hy);have HPU:=Lib.hid (put26_any (x:=x) (by have:=HJ5.out.len;have:=HLB.out;omega) w1 HJ5.out.row);have e0:=(hy.cell (p:=⟨bs,off+k * 5,none⟩) hbl).trans d0;have e1:=(hy.cell (p:=⟨bs,off+k * 5+1,none⟩) hbl).trans d1;have e2:=(hy.cell (p:=⟨bs,off+k * 5+2,none⟩) hbl).trans d2;have e3:=(hy.cell (p:=⟨bs,off+k * 5+3,none⟩) hbl).trans d3;have e4:=(hy.cell (p:=⟨bs,off+k * 5+4,none⟩) hbl).trans d4;clear d0 d1 d2 d3 d4 hy hbl
           go_wp2_with (go_at_call 50;refine HPU.out.mono ?_;rintro e W6 ⟨i6,v6,hp,rfl,ho,hx⟩;have HR6:=Lib.hid (HR2.out i6 hp);have HJ6:=Lib.hid (HJ5.out.put ho hx);clear hp ho hx)
           go_roundw
           case rel=>exact⟨k+1,_,hlt,by go_num,HR6,HJ6⟩
           case measure=>simp[intOf];omega
       · have hrd:decide (r < 0)=false:=decide_eq_false hr;have HR2:=Lib.hid (HRS.out.1 (.inl hr));clear hr
         go_wp2_with fail
         refine wp_region_near (by assumption) (by kernel_rfl) ?_
         repeat (go_big_quiet_step ((go_at_call 44;exact near_call (HI.out _ (Ext.of_near ⟨⟨_,_⟩,rfl⟩)))))
         refine wpQuiet_nil ?_;intro w1 hw1;have hy:=Ext.of_near hw1;clear hw1;go_wp2
         go_roundw
         case rel=>exact⟨k+1,out,hlt,by go_num,HR2,Lib.hid ((HJ.out.more hy).up (Nat.le_succ _))⟩
         case measure=>simp[intOf];omega
     · obtain rfl:k=b.length:=by omega
       rw[List.take_length]at HR;go_wp2
       go_ret
       exact⟨out,_,rj_is HR.out HOB.out,rfl,HJ.out.row,HJ.out.ext⟩
theorem ApplyListsMatchSpec_any{A1 A2:Option Addr}{c1 c2:Nat}{a b:List Chg}(w:World)(hR:RowsIn w)(hA:AxesIn w)(hst:StepsIn w)(h1:Sv w w.heap.size 5 A1 c1 (rowsC a))(h2:Sv w w.heap.size 5 A2 c2 (rowsC b)):
    Calls Tryz.prog 4 #[.slice A1 a.length c1,.slice A2 b.length c2] w fun e w'=>e = .returned (.bool true)∧Ext w w':=by
 have hm:=mixed;have HSN:=Lib.hid (fun(W:World) (hx:Ext w W)=>sanity_any W (hR.ext hx) (hA.ext hx) (hst.ext hx));have HX:=Lib.hid (Ext.refl w);have HS1:=Lib.hid h1;have HS2:=Lib.hid h2;clear hR hA hst h1 h2
 by_cases hla:a.length≤200
 rotate_left 1
 · have e1:¬ a.length≤200:=hla;have e2:(200:Int) < (a.length:Int):=by omega
   clear hla
   go_enter Tryz.func4,Tryz.ntmps4
   go_wp2_with (go_at_call 10;refine(HSN.out _ HX.out).mono ?_;rintro e Ws ⟨rfl,hx⟩;replace HX:=xEx HX hx;clear hx)
   go_ret
   exact⟨rfl,HX.out⟩
 have e1:¬ (200:Int) < (a.length:Int):=by omega
 by_cases hlb:b.length≤200
 rotate_left 1
 · have e2:(200:Int) < (b.length:Int):=by omega
   clear hla hlb
   go_enter Tryz.func4,Tryz.ntmps4
   go_wp2_with (go_at_call 10;refine(HSN.out _ HX.out).mono ?_;rintro e Ws ⟨rfl,hx⟩;replace HX:=xEx HX hx;clear hx)
   go_ret
   exact⟨rfl,HX.out⟩
 have e2:¬ (200:Int) < (b.length:Int):=by omega
 have HRV:=Lib.hid (fun(W:World) (hx:Ext w W)=>(Revert_any (by omega) W (HS1.out.ext hx)).mono fun e w1 h=>revert_of h);have HRR:=Lib.hid (fun(W:World) (hx:Ext w W)=>revert26_any (by omega) W (HS1.out.ext hx));have HO1:=Lib.hid (fun(W:World) (hx:Ext w W)=>once26_any hla W (HS1.out.ext hx));have HO2:=Lib.hid (fun(W:World) (hx:Ext w W)=>once26_any hlb W (HS2.out.ext hx));have HJN:=Lib.hid (fun(ha:OnceC a) (hb:OnceC b) (W:World) (hx:Ext w W)=>(Join_any (by omega) (by omega) W (HS1.out.ext hx) (HS2.out.ext hx)).mono fun e w1 h=>join_of ha hb h);have HJR:=Lib.hid (fun(ha:OnceC a) (hb:OnceC b) (W:World) (hx:Ext w W)=>join26_any hla hlb ha hb W (HS1.out.ext hx) (HS2.out.ext hx));have HSM:=Lib.hid (fun(l:List Chg) (v1 v2:Value) (W:World) (h1:SlC l v1 W) (h2:SlC l v2 W)=>sameC_of h1 h2);clear hla hlb HS1 HS2
 go_enter Tryz.func4,Tryz.ntmps4
 go_upto_region 4 with(first
  | (go_at_call 20;refine(HRV.out _ HX.out).mono ?_;rintro e W1 ⟨v1,rfl,hs,hx⟩;replace HX:=xEx HX hx;have HV1:=Lib.hid hs;clear hx hs)
  | (go_at_call 21;refine(HRR.out _ HX.out).mono ?_;rintro e W2 ⟨v2,rfl,hs,hx⟩;replace HX:=xEx HX hx;replace HV1:=Lib.hid (HV1.out.ext hx);have HV2:=Lib.hid (SlC.own hs);clear hx hs)
  | (go_at_call 15;refine(HSM.out _ _ _ _ HV1.out HV2.out).mono ?_;rintro e W3 ⟨rfl,hx⟩;replace HX:=xEx HX hx;clear hx HV1 HV2))
 go_upto_region 5 with(go_at_call 22;refine(HO1.out _ HX.out).mono ?_;rintro e W4 ⟨⟨o1,rfl,h1⟩,hx⟩;replace HX:=xEx HX hx;have HB1:=Lib.hid h1;clear hx h1)
 go_upto_region 6 with(go_at_call 22;refine(HO2.out _ HX.out).mono ?_;rintro e W5 ⟨⟨o2,rfl,h2⟩,hx⟩;replace HX:=xEx HX hx;have HB2:=Lib.hid h2;clear hx h2)
 by_cases ho:o1=true∧o2=true
 · obtain⟨rfl,rfl⟩:=ho;have ha:=HB1.out.1 rfl;have hb:=HB2.out.1 rfl;have HJ1:=Lib.hid (HJN.out ha hb);have HJ2:=Lib.hid (HJR.out ha hb);clear HJN HJR HB1 HB2 ha hb
   go_wp2_with (first
    | (go_at_call 10;refine(HSN.out _ HX.out).mono ?_;rintro e Ws ⟨rfl,hx⟩;replace HX:=xEx HX hx;clear hx)
    | (go_at_call 23;refine(HJ1.out _ HX.out).mono ?_;rintro e W6 ⟨l1,v1,hj1,rfl,hs,hx⟩;replace HX:=xEx HX hx;have HV1:=Lib.hid hs;have HK1:=Lib.hid hj1;clear hx hs hj1)
    | (go_at_call 24;refine(HJ2.out _ HX.out).mono ?_;rintro e W7 ⟨l2,v2,hj2,rfl,hs,hx⟩;replace HX:=xEx HX hx;replace HV1:=Lib.hid (HV1.out.ext hx);have HV2:=Lib.hid (show SlC l1 v2 W7 by rw[HK1.out.uniq hj2];exact SlC.own hs);clear hx hs hj2)
    | (go_at_call 15;refine(HSM.out _ _ _ _ HV1.out HV2.out).mono ?_;rintro e W8 ⟨rfl,hx⟩;replace HX:=xEx HX hx;clear hx))
   go_ret
   exact⟨rfl,HX.out⟩
 · clear HB1 HB2 HJN HJR
   cases o1 <;> cases o2
   rotate_left 3
   · exact absurd ⟨rfl,rfl⟩ ho
   all_goals
    clear ho
    go_wp2_with (go_at_call 10;refine(HSN.out _ HX.out).mono ?_;rintro e Ws ⟨rfl,hx⟩;replace HX:=xEx HX hx;clear hx)
    go_ret
    exact⟨rfl,HX.out⟩
end Go.Proofs.YtoecbicdahbccaaGreatDoor
