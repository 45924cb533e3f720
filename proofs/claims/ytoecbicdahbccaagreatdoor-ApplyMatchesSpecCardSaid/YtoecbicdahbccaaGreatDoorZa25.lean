/- A part of the walk of the layer of apply: contracts and plain laws that a row's text leans on. -/
import Derived.Test.YtoecbicdahbccaaGreatDoorZa23
set_option maxRecDepth 100000
set_option maxHeartbeats 16000000
namespace Go.Proofs.YtoecbicdahbccaaGreatDoor
open Go Go.RowKit
theorem ix0(w:World):(Instr.index 167 (.agg steps18.toArray) (.int .i64 0)).run Tryz.prog w = .ok (.agg #[.int .i64 (1),.int .i64 (0),.int .i64 (0)]) w:=by kernel_rfl
theorem ix1(w:World):(Instr.index 167 (.agg steps18.toArray) (.int .i64 1)).run Tryz.prog w = .ok (.agg #[.int .i64 (-1),.int .i64 (0),.int .i64 (0)]) w:=by kernel_rfl
theorem ix2(w:World):(Instr.index 167 (.agg steps18.toArray) (.int .i64 2)).run Tryz.prog w = .ok (.agg #[.int .i64 (0),.int .i64 (1),.int .i64 (0)]) w:=by kernel_rfl
theorem ix3(w:World):(Instr.index 167 (.agg steps18.toArray) (.int .i64 3)).run Tryz.prog w = .ok (.agg #[.int .i64 (0),.int .i64 (-1),.int .i64 (0)]) w:=by kernel_rfl
theorem ix4(w:World):(Instr.index 167 (.agg steps18.toArray) (.int .i64 4)).run Tryz.prog w = .ok (.agg #[.int .i64 (0),.int .i64 (0),.int .i64 (1)]) w:=by kernel_rfl
theorem ix5(w:World):(Instr.index 167 (.agg steps18.toArray) (.int .i64 5)).run Tryz.prog w = .ok (.agg #[.int .i64 (0),.int .i64 (0),.int .i64 (-1)]) w:=by kernel_rfl
theorem idx_steps(k:Nat)(d:Pt)(h:steps6[k]? = some d):∀ w,(Instr.index 167 (.agg steps18.toArray) (.int .i64 (k:Nat))).run Tryz.prog w = .ok (.agg #[.int .i64 d.x,.int .i64 d.y,.int .i64 d.z]) w:=by
 match k,h with
 | 0,h=>injection h with h;subst h;exact ix0
 | 1,h=>injection h with h;subst h;exact ix1
 | 2,h=>injection h with h;subst h;exact ix2
 | 3,h=>injection h with h;subst h;exact ix3
 | 4,h=>injection h with h;subst h;exact ix4
 | 5,h=>injection h with h;subst h;exact ix5
 | k+6,h=>simp[steps6]at h
theorem zeroBool(w:World):(zeroValue 4).run Tryz.prog w = .ok (.bool false) w:=by kernel_rfl
section
variable {D:TypeId} {rv rv':Value} {G:FuncId} {F:Pt→Option Int} {fbo:Option Nat} {Cnt:Nat→World→Prop} {w0:World} {K:Bs} {Pr:Prot} {a:Pt} {c:Int} {s:Fs}
theorem flAround_any(V:FieldV w0.heap.size D rv rv' G F fbo Cnt)(hst:StepsIn w0)(hgl:fbo≠some 1)(p:Pt)(w:World)(h:FW w0.heap.size K Pr (.iface D rv) a c fbo Cnt w0 s s.seen.length w)(hl:s.l.length≤90000)(hbd:s.bd.length≤90000)(hn:s.seen.length≤900000):
    Calls Tryz.prog 149 #[.pointer (some ⟨K.walk,0,none⟩),.agg #[.int .i64 p.x,.int .i64 p.y,.int .i64 p.z],.func (.func 150) #[] #[.pointer (some ⟨K.f,0,none⟩),.pointer (some ⟨K.cell,0,none⟩),.pointer (some ⟨K.wv,0,none⟩),.pointer (some ⟨K.bd,0,none⟩)]] w fun e w'=>e = .returned (.tuple #[])∧FW w0.heap.size K Pr (.iface D rv) a c fbo Cnt w0 (foldS F c p s 6) (foldS F c p s 6).seen.length w':=by
 have hm:=mixed;have hG:=near_old;have h1:=h.protect V 23 [.int .i64 p.x,.int .i64 p.y,.int .i64 p.z];have HST:=Lib.hid (fun(w':World) (hh:w0.grownBy w' fbo)=>hst.kept hh hgl);have HST1:=Lib.hid (HST.out _ h1.grown);have HV:=Lib.hid V;have H1:=Lib.hid h1;have HL:=Lib.hid (foldS_len F c p s);clear V h h1 hst hgl
 go_enter Tryz.func149,Tryz.ntmps149
 go_upto_region 1 with fail
 obtain⟨W1,hW⟩:∃ W,W=w.alloc (.cells #[.int .i64 p.x,.int .i64 p.y,.int .i64 p.z] 23):=⟨_,rfl⟩;have HST1:=HST1;rw[← hW]at H1 HST1;rw[← hW];clear hW
 go_wp2_with (first
  | (refine wpList_load_fr 167 (.global 1) rfl rfl HST1.out.choose_spec.choose_spec rfl _ Tryz.underlying167 rfl (by kernel_rfl) ?_))
 go_loopw [10] (fun i wr=>∃ k:Nat,k≤6∧i = .int .i64 k∧FW w0.heap.size K ((w.heap.size,23,[.int .i64 p.x,.int .i64 p.y,.int .i64 p.z]):: Pr) (.iface D rv) a c fbo Cnt w0 (foldS F c p s k) (foldS F c p s k).seen.length wr) (fun i _=>6 - (intOf i).toNat)
 case atStart=>exact⟨0,by omega,rfl,H1.out⟩
 case round=>
  obtain⟨k,hk,rfl,hw⟩:=hrel;have HW:=Lib.hid hw;clear hw
  by_cases hlt:k < 6
  · obtain⟨d,hd⟩:∃ d,steps6[k]? = some d:=⟨_,List.getElem?_eq_getElem (by simp[steps6];omega)⟩;have HS:=Lib.hid (foldS_succ (F:=F) (c:=c) (p:=p) (s:=s) hd);have hix:=idx_steps k d hd;obtain⟨t1,t2,t3⟩:=HL.out k hk;generalize foldS F c p s k=s1 at HW HS t1 t2 t3;obtain⟨q,hq⟩:∃ q,q=addP p d:=⟨_,rfl⟩;have HA:=Lib.hid (fun w'=>Add_any p d w');rw[← hq]at HA;have HS2:=Lib.hid (show foldS F c p s (k+1)=if q∈s1.seen then s1 else visitS F c {s1 with seen:=s1.seen++[q] } q by rw[HS.out];unfold stepS;rw[hq]);clear hd hq HS
    go_upto_region 4 with fail
    have hx3:Ext wr (wr.alloc (.cells #[.int .i64 d.x,.int .i64 d.y,.int .i64 d.z] 23)):=(Ext.refl wr).alloc _;have B7:=Arr.new wr 23 [.int .i64 d.x,.int .i64 d.y,.int .i64 d.z];have HW3:=Lib.hid (HW.out.ext HV.out hx3);obtain⟨W3,hW⟩:∃ W,W=wr.alloc (.cells #[.int .i64 d.x,.int .i64 d.y,.int .i64 d.z] 23):=⟨_,rfl⟩;rw[← hW]at B7 HW3;rw[← hW];have HB7:=Lib.hid B7;have HBP:=Lib.hid (HW3.out.prot (List.mem_cons_self ..));clear hW hx3 B7 hix
    go_upto_region 5 with(first
     | (refine wpList_load_blk 23 (.tmp 4) rfl rfl HBP.out rfl _ Tryz.underlying23 rfl (by kernel_rfl) ?_)
     | (refine wpList_load_blk 23 (.tmp 7) rfl rfl HB7.out rfl _ Tryz.underlying23 rfl (by kernel_rfl) ?_)
     | (go_at_call 109;refine(HA.out _).mono ?_;rintro e W4 ⟨rfl,x4⟩))
    have HW5:=Lib.hid ((HW3.out.ext HV.out x4).protect HV.out 23 [.int .i64 q.x,.int .i64 q.y,.int .i64 q.z]);obtain⟨qb,hqb⟩:∃ qb,qb=W4.heap.size:=⟨_,rfl⟩;obtain⟨W5,hW⟩:∃ W,W=W4.alloc (.cells #[.int .i64 q.x,.int .i64 q.y,.int .i64 q.z] 23):=⟨_,rfl⟩;rw[← hW,← hqb]at HW5;rw[← hW,← hqb];clear hW hqb x4;have HBQ:=Lib.hid (HW5.out.prot (List.mem_cons_self ..));obtain⟨lv,bv,hs5⟩:=HW5.out.st;have q0:=HBQ.out.cell 0;have q1:=HBQ.out.cell 1;have q2:=HBQ.out.cell 2;have ql:=HBQ.out.lt;have wk:=hs5.as_.cell 0;have wl:=hs5.as_.lt;simp only[List.getElem?_cons_zero,List.getElem?_cons_succ]at q0 q1 q2 wk;have hlk:∀ n os,(Instr.lookup 154 (.map (some K.map)) (.agg #[.int .i64 q.x,.int .i64 q.y,.int .i64 q.z]) false).run Tryz.prog (near W5 n os) = .ok (.bool (decide (q∈s1.seen))) (near W5 n os):=fun n os=>by
     have h:=(hs5.am.ext (Ext.of_near ⟨⟨n,os⟩,rfl⟩)).look ktPt Tryz.underlying154 (zeroBool _) q false
     by_cases hq:q∈s1.seen <;> simpa[hq,ptV]using h
    clear hs5
    by_cases hq:q∈s1.seen
    · have HS3:=Lib.hid (show foldS F c p s (k+1)=s1 by rw[HS2.out,if_pos hq]);rw[decide_eq_true hq]at hlk;clear hq HS2;refine wp_region_near (by assumption) (by kernel_rfl) ?_
      repeat (go_big_quiet_step (fail))
      refine wpQuiet_nil ?_;intro w1 hw1;have hy:=Ext.of_near hw1;clear hw1;go_wp2
      go_roundw
      case rel=>exact⟨k+1,by omega,by go_num,by rw[HS3.out];exact(HW5.out.ext HV.out hy).drop⟩
      case measure=>simp[intOf];omega
    · have HS3:=Lib.hid (show foldS F c p s (k+1)=visitS F c {s1 with seen:=s1.seen++[q] } q by rw[HS2.out,if_neg hq]);rw[decide_eq_false hq]at hlk;clear hq HS2;refine wp_region_near (by assumption) (by kernel_rfl) ?_
      repeat (go_big_quiet_step (fail))
      refine wpQuiet_nil ?_;intro w1 hw1;have hy:=Ext.of_near hw1;clear hw1;have HW6:=Lib.hid (HW5.out.ext HV.out hy);have HBQ6:=Lib.hid (HW6.out.prot (List.mem_cons_self ..));obtain⟨lv,bv,hs6⟩:=HW6.out.st;have q0:=HBQ6.out.cell 0;have q1:=HBQ6.out.cell 1;have q2:=HBQ6.out.cell 2;have ql:=HBQ6.out.lt;have wk:=hs6.as_.cell 0;have wl:=hs6.as_.lt;simp only[List.getElem?_cons_zero,List.getElem?_cons_succ]at q0 q1 q2 wk;clear hs6 hy hlk;obtain⟨W6,hW6⟩:∃ W,W=w1:=⟨_,rfl⟩;rw[← hW6]at HW6 HBQ6 q0 q1 q2 ql wk wl;rw[← hW6];clear hW6
      go_wp2_with fail
      refine wp_region_near_tail 5 (by assumption) (by kernel_rfl) ?_;simp only[List.take_succ_cons,List.take_zero,List.drop_succ_cons,List.drop_zero]
      repeat (go_big_quiet_step (fail))
      refine wpQuiet_nil ?_;intro w1 hw1;have hy:=Ext.of_near hw1;clear hw1;have HW7:=Lib.hid (HW6.out.ext HV.out hy);clear q0 q1 q2 ql wk wl hy;obtain⟨lv,bv,hs7⟩:=HW7.out.st;have HS7:=Lib.hid hs7;clear hs7
      go_wp2_with (refine wpList_mapUpdate_F rfl (.tmp 26) (.tmp 27) (.const (.bool true)) rfl HS7.out.am ktPt Tryz.underlying154 q (.bool true) rfl rfl rfl ?_)
      intro W8 hm8 hg8;have hsee:=HS7.out.see hm8 hg8;have HW8:=Lib.hid ((HW7.out.step HV.out hsee.1 hsee.2).cnt);have HW8:=Lib.hid (HW7.out.step HV.out hsee.1 hsee.2);have HB8:=Lib.hid (HW8.out.prot (List.mem_cons_self ..));clear hsee hm8 hg8;have HVI:=Lib.hid (visit_any HV.out q W8 HW8.out (by simp only;omega) (by simp only;omega) (by omega))
      go_wp2_with (first
       | (refine wpList_load_blk 23 (.tmp 8) rfl rfl HB8.out rfl _ Tryz.underlying23 rfl (by kernel_rfl) ?_)
       | (go_at_call 150;refine HVI.out.mono ?_;rintro e W9 ⟨rfl,h9⟩))
      have HW9:=Lib.hid h9;clear h9;go_roundw
      case rel=>exact⟨k+1,by omega,by go_num,by rw[HS3.out,visitS_seen];simp only[List.length_append,List.length_cons,List.length_nil];exact HW9.out.drop⟩
      case measure=>simp[intOf];omega
  · obtain rfl:k=6:=by omega
    go_wp2
    go_end0
    exact⟨rfl,HW.out.drop⟩
end
structure FInv (F:Pt→Option Int) (c:Int) (a:Pt) (n m:Nat) (s:Fs):Prop where
 ln:s.l.Nodup
 bn:s.bd.Nodup
 ls:∀ q,q∈s.l→q∈s.seen∧Reach F c a q
 bs:∀ q,q∈s.bd→q∈s.seen∧(∃ v,F q=some v∧v≠c)∧∃ p,Reach F c a p∧adj p q
 sl:∀ q,q∈s.seen→F q=some c→q∈s.l
 sb:∀ q,q∈s.seen→∀ v,F q=some v→v≠c→q∈s.bd
 nb:∀ i p,i < n→s.l[i]? = some p→∀ q,adj p q→q∈s.seen
 am:a∈s.l
 sz:s.seen.length≤m
 nl:n≤s.l.length
theorem FInv.start{F:Pt→Option Int}{c:Int}{a:Pt}(h:F a=some c):FInv F c a 0 1 ⟨[a],[a],[]⟩ where
 ln:=by simp
 bn:=by simp
 ls q hq:=by simp at hq;subst hq;exact⟨by simp,.base⟩
 bs q hq:=by simp at hq
 sl q hq _:=hq
 sb q hq v hv hne:=by simp at hq;subst hq;rw[h]at hv;injection hv with hv;exact absurd hv.symm hne
 nb i p hi:=absurd hi (by omega)
 am:=by simp
 sz:=by simp
 nl:=by simp
theorem adj_add{p d:Pt}(hp:Small p)(hd:d∈steps6):adj p (addP p d):=by
 unfold Small at hp;unfold addP adj;simp only[steps6,List.mem_cons,List.not_mem_nil,or_false]at hd
 rcases hd with rfl | rfl | rfl | rfl | rfl | rfl <;> simp only <;> (rw[wrap_small (x:=p.x+_) (by omega),wrap_small (x:=p.y+_) (by omega),wrap_small (x:=p.z+_) (by omega)];omega)
theorem adj_steps{p q:Pt}(hp:Small p)(h:adj p q):∃ d,d∈steps6∧q=addP p d:=by
 unfold Small at hp;have mk:∀ d:Pt,(-1≤d.x∧d.x≤1)→(-1≤d.y∧d.y≤1)→(-1≤d.z∧d.z≤1)→q.x=p.x+d.x→q.y=p.y+d.y→q.z=p.z+d.z→q=addP p d:=fun d hx hy hz e1 e2 e3=>by
  unfold addP;rw[wrap_small (x:=p.x+d.x) (by omega),wrap_small (x:=p.y+d.y) (by omega),wrap_small (x:=p.z+d.z) (by omega)]
  cases q
  simp only at e1 e2 e3 ⊢;rw[e1,e2,e3]
 unfold adj at h
 rcases h with⟨h1,h2,h3 | h3⟩ | ⟨h1,h2,h3 | h3⟩ | ⟨h1,h2,h3 | h3⟩
 · exact⟨⟨0,0,1⟩,by simp[steps6],mk _ (by simp) (by simp) (by simp) (by simp;omega) (by simp;omega) (by simp;omega)⟩
 · exact⟨⟨0,0,-1⟩,by simp[steps6],mk _ (by simp) (by simp) (by simp) (by simp;omega) (by simp;omega) (by simp;omega)⟩
 · exact⟨⟨0,1,0⟩,by simp[steps6],mk _ (by simp) (by simp) (by simp) (by simp;omega) (by simp;omega) (by simp;omega)⟩
 · exact⟨⟨0,-1,0⟩,by simp[steps6],mk _ (by simp) (by simp) (by simp) (by simp;omega) (by simp;omega) (by simp;omega)⟩
 · exact⟨⟨1,0,0⟩,by simp[steps6],mk _ (by simp) (by simp) (by simp) (by simp;omega) (by simp;omega) (by simp;omega)⟩
 · exact⟨⟨-1,0,0⟩,by simp[steps6],mk _ (by simp) (by simp) (by simp) (by simp;omega) (by simp;omega) (by simp;omega)⟩
theorem nodup_snoc{l:List Pt}{q:Pt}(h:l.Nodup)(hq:q∉l):(l++[q]).Nodup:=by
 rw[List.nodup_append];refine⟨h,by simp,fun x hx y hy=>?_⟩;simp at hy;subst hy;rintro rfl;exact hq hx
structure FMid (F:Pt→Option Int) (c:Int) (a:Pt) (n m k:Nat) (p:Pt) (s:Fs):Prop where
 inv:FInv F c a n m s
 at_:s.l[n]? = some p
 dn:∀ j d,j < k→steps6[j]? = some d→addP p d∈s.seen
theorem getElem?_snoc{l:List Pt}{i:Nat}{p q:Pt}(h:l[i]? = some p):(l++[q])[i]? = some p:=by
 rw[List.getElem?_append_left (List.getElem?_eq_some_iff.1 h).1];exact h
theorem FMid.step{F:Pt→Option Int}{c:Int}{a p d:Pt}{n m k:Nat}{s:Fs}(h:FMid F c a n m k p s)(hp:Small p)(hd:steps6[k]? = some d):FMid F c a n (m+1) (k+1) p (stepS F c p s d):=by
 have I:=h.inv;have hpl:=List.mem_of_getElem? h.at_;have hpr:=(I.ls p hpl).2;unfold stepS
 by_cases hq:addP p d∈s.seen
 · rw[if_pos hq];exact⟨⟨I.ln,I.bn,I.ls,I.bs,I.sl,I.sb,I.nb,I.am,by have:=I.sz;omega,I.nl⟩,h.at_,fun j d' hj hd'=>by
    rcases Nat.lt_succ_iff_lt_or_eq.1 hj with h1 | rfl
    · exact h.dn j d' h1 hd'
    · rw[hd]at hd';injection hd' with hd';subst hd';exact hq⟩
 · rw[if_neg hq];have ha:=adj_add hp (List.mem_of_getElem? hd);obtain⟨q,e⟩:∃ q,addP p d=q:=⟨_,rfl⟩;rw[e]at hq ha ⊢;have hql:q∉s.l:=fun hh=>hq (I.ls q hh).1;have hqb:q∉s.bd:=fun hh=>hq (I.bs q hh).1;have hin:∀ x,x∈s.seen→x∈s.seen++[q]:=fun x hx=>List.mem_append.2 (.inl hx);have hdn:∀ j d',j < k+1→steps6[j]? = some d'→addP p d'∈s.seen++[q]:=fun j d' hj hd'=>by
    rcases Nat.lt_succ_iff_lt_or_eq.1 hj with h1 | rfl
    · exact hin _ (h.dn j d' h1 hd')
    · rw[hd]at hd';injection hd' with hd';subst hd';rw[e];simp
   have hsz:=I.sz;have hnl:=I.nl
   cases hF:F q with
   | none=>
     rw[vis_n hF];exact⟨⟨I.ln,I.bn,fun x hx=>⟨hin x (I.ls x hx).1,(I.ls x hx).2⟩,fun x hx=>⟨hin x (I.bs x hx).1,(I.bs x hx).2⟩,fun x hx hc=>by
      rcases (mem_snoc q x _).1 hx with rfl | hx
      · rw[hF]at hc;cases hc
      · exact I.sl x hx hc,fun x hx v hv hne=>by
      rcases (mem_snoc q x _).1 hx with rfl | hx
      · rw[hF]at hv;cases hv
      · exact I.sb x hx v hv hne,fun i r hi hr x hx=>hin x (I.nb i r hi hr x hx),I.am,by simp;omega,hnl⟩,h.at_,hdn⟩
   | some v=>
     by_cases hv:v=c
     · subst hv;rw[vis_c hF rfl];refine⟨⟨nodup_snoc I.ln hql,I.bn,fun x hx=>?_,fun x hx=>⟨hin x (I.bs x hx).1,(I.bs x hx).2⟩,fun x hx hc=>?_,fun x hx u hu hne=>?_,fun i r hi hr x hx=>?_,List.mem_append.2 (.inl I.am),by simp;omega,by simp;omega⟩,getElem?_snoc h.at_,hdn⟩
       · rcases (mem_snoc q x _).1 hx with rfl | hx
         · exact⟨by simp,hpr.step ha hF⟩
         · exact⟨hin x (I.ls x hx).1,(I.ls x hx).2⟩
       · rcases (mem_snoc q x _).1 hx with rfl | hx
         · simp
         · exact List.mem_append.2 (.inl (I.sl x hx hc))
       · rcases (mem_snoc q x _).1 hx with rfl | hx
         · rw[hF]at hu;injection hu with hu;exact absurd hu.symm hne
         · exact I.sb x hx u hu hne
       · refine hin x (I.nb i r hi ?_ x hx);rw[List.getElem?_append_left (by show i < s.l.length;omega)]at hr;exact hr
     · rw[vis_o hF hv];refine⟨⟨I.ln,nodup_snoc I.bn hqb,fun x hx=>⟨hin x (I.ls x hx).1,(I.ls x hx).2⟩,fun x hx=>?_,fun x hx hc=>?_,fun x hx u hu hne=>?_,fun i r hi hr x hx=>hin x (I.nb i r hi hr x hx),I.am,by simp;omega,hnl⟩,h.at_,hdn⟩
       · rcases (mem_snoc q x _).1 hx with rfl | hx
         · exact⟨by simp,⟨v,hF,hv⟩,p,hpr,ha⟩
         · exact⟨hin x (I.bs x hx).1,(I.bs x hx).2⟩
       · rcases (mem_snoc q x _).1 hx with rfl | hx
         · rw[hF]at hc;injection hc with hc;exact absurd hc hv
         · exact I.sl x hx hc
       · rcases (mem_snoc q x _).1 hx with rfl | hx
         · simp
         · exact List.mem_append.2 (.inl (I.sb x hx u hu hne))
theorem FMid.fold{F:Pt→Option Int}{c:Int}{a p:Pt}{n m:Nat}{s:Fs}(h:FMid F c a n m 0 p s)(hp:Small p):∀ k,k≤6→FMid F c a n (m+k) k p (foldS F c p s k)
 | 0,_=>h
 | k+1,hk=>by
   obtain⟨d,hd⟩:∃ d,steps6[k]? = some d:=⟨_,List.getElem?_eq_getElem (by simp[steps6];omega)⟩;rw[foldS_succ hd];exact(FMid.fold h hp k (by omega)).step hp hd
theorem FInv.next{F:Pt→Option Int}{c:Int}{a p:Pt}{n m:Nat}{s:Fs}(h:FInv F c a n m s)(hp:s.l[n]? = some p)(hsm:Small p):FInv F c a (n+1) (m+6) (foldS F c p s 6):=by
 have h6:=FMid.fold ⟨h,hp,fun j d hj=>absurd hj (by omega)⟩ hsm 6 (Nat.le_refl _);have I:=h6.inv;refine⟨I.ln,I.bn,I.ls,I.bs,I.sl,I.sb,fun i r hi hr x hx=>?_,I.am,I.sz,(List.getElem?_eq_some_iff.1 h6.at_).1⟩
 rcases Nat.lt_succ_iff_lt_or_eq.1 hi with h1 | rfl
 · exact I.nb i r h1 hr x hx
 · rw[h6.at_]at hr;injection hr with hr
   subst hr;obtain⟨d,hd,rfl⟩:=adj_steps hsm hx;obtain⟨j,hj⟩:=List.getElem?_of_mem hd;exact h6.dn j d (by have:=(List.getElem?_eq_some_iff.1 hj).1;simpa[steps6]using this) hj
theorem FInv.done{F:Pt→Option Int}{c:Int}{a:Pt}{m:Nat}{s:Fs}(h:FInv F c a s.l.length m s):(∀ q,q∈s.l↔Reach F c a q)∧∀ q,q∈s.bd↔(∃ v,F q=some v∧v≠c)∧∃ p,Reach F c a p∧adj p q:=by
 have hl:∀ q,Reach F c a q→q∈s.l:=fun q hq=>by
  induction hq with
  | base=>exact h.am
  | step h1 h2 h3 ih=>
    obtain⟨i,hi⟩:=List.getElem?_of_mem ih;exact h.sl _ (h.nb i _ (List.getElem?_eq_some_iff.1 hi).1 hi _ h2) h3
 refine⟨fun q=>⟨fun hq=>(h.ls q hq).2,hl q⟩,fun q=>⟨fun hq=>(h.bs q hq).2,?_⟩⟩;rintro⟨⟨v,hv,hne⟩,p,hp,ha⟩;obtain⟨i,hi⟩:=List.getElem?_of_mem (hl p hp);exact h.sb q (h.nb i p (List.getElem?_eq_some_iff.1 hi).1 hi q ha) v hv hne
end Go.Proofs.YtoecbicdahbccaaGreatDoor
