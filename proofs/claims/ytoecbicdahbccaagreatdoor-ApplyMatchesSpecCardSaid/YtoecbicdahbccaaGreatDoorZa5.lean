/- A part of the walk of the layer of apply: contracts and plain laws that a row's text leans on. -/
import Derived.Test.YtoecbicdahbccaaGreatDoorZa3
set_option maxRecDepth 100000
set_option maxHeartbeats 16000000
namespace Go.Proofs.YtoecbicdahbccaaGreatDoor
open Go Go.RowKit
def nbrs(p:Pt):List Pt:=[⟨p.x+1,p.y,p.z⟩,⟨p.x - 1,p.y,p.z⟩,⟨p.x,p.y+1,p.z⟩,⟨p.x,p.y - 1,p.z⟩,⟨p.x,p.y,p.z+1⟩,⟨p.x,p.y,p.z - 1⟩]
theorem adj_nbrs{p q:Pt} : adj p q↔q∈nbrs p:=by
 obtain⟨px,py,pz⟩:=p;obtain⟨qx,qy,qz⟩:=q;simp only[adj,nbrs,List.mem_cons,List.not_mem_nil,or_false,Pt.mk.injEq];omega
def sortB:List Pt→Bool
 | []=>true
 | x:: xs=>xs.all (fun y=>befP x y) && sortB xs
theorem sortB_spec:∀ {l:List Pt},sortB l=true→SortP l
 | [],_=>List.Pairwise.nil
 | x:: xs,h=>by
   unfold sortB at h;rw[Bool.and_eq_true,List.all_eq_true]at h;exact List.pairwise_cons.2 ⟨h.1,sortB_spec h.2⟩
def chainB(F:Pt→Option Int)(c:Int):List Pt→List Pt→Bool
 | _,[]=>true
 | done,q:: qs=>done.any (fun p=>decide (q∈nbrs p)) && decide (F q=some c) && chainB F c (done++[q]) qs
theorem chainB_spec{F:Pt→Option Int}{c:Int}{a:Pt} : ∀ {qs done:List Pt},chainB F c done qs=true→(∀ p,p∈done→Reach F c a p)→∀ q,q∈qs→Reach F c a q
 | [],_,_,_=>by simp
 | q:: qs,done,h,hd=>by
   unfold chainB at h;simp only[Bool.and_eq_true,List.any_eq_true,decide_eq_true_eq]at h;obtain⟨⟨⟨p,hp,h1⟩,h2⟩,h3⟩:=h;have hq:Reach F c a q:=(hd p hp).step (adj_nbrs.2 h1) h2;intro r hr
   rcases List.mem_cons.1 hr with rfl | hr
   · exact hq
   · exact chainB_spec h3 (fun p hp=>by
       rcases List.mem_append.1 hp with hp | hp
       · exact hd p hp
       · simp only[List.mem_singleton]at hp;subst hp;exact hq) r hr
theorem isReg_check(F:Pt→Option Int)(c:Int)(a:Pt)(l qs:List Pt)(h1:sortB l=true)(h2:chainB F c [a] qs=true)(h3:(l.all fun q=>decide (q∈a:: qs))=true)(h4:(decide (a∈l) && l.all fun p=>(nbrs p).all fun q=>decide (F q≠some c) || decide (q∈l))=true):IsReg F c a l:=by
 rw[List.all_eq_true]at h3;rw[Bool.and_eq_true,decide_eq_true_eq,List.all_eq_true]at h4;refine⟨sortB_spec h1,fun q=>⟨fun hq=>?_,fun hq=>?_⟩⟩
 · have h:=of_decide_eq_true (h3 q hq)
   rcases List.mem_cons.1 h with rfl | h
   · exact .base
   · exact chainB_spec h2 (fun p hp=>by simp only[List.mem_singleton]at hp;subst hp;exact .base) q h
 · induction hq with
   | base=>exact h4.1
   | @step p q hp ha hF ih=>
     have h:=h4.2 p ih;rw[List.all_eq_true]at h;have h:=h q (adj_nbrs.1 ha);simpa[hF]using h
def pv(x y z:Int):Value:=.agg #[.int .i64 x,.int .i64 y,.int .i64 z]
def joinV(a b:Bx)(n:Nat)(g:Nat→Nat):Nat→Value
 | 0=>.pointer (some ⟨n,0,none⟩)
 | 1=>pv a.lo.x a.lo.y a.lo.z
 | 2=>pv a.lo.x a.lo.y a.lo.z
 | 3=>.pointer (some ⟨n+1,0,none⟩)
 | 4=>pv b.lo.x b.lo.y b.lo.z
 | 5=>pv b.lo.x b.lo.y b.lo.z
 | 6=>.pointer (some ⟨n,3,none⟩)
 | 7=>pv a.hi.x a.hi.y a.hi.z
 | 8=>pv a.hi.x a.hi.y a.hi.z
 | 9=>.pointer (some ⟨n+1,3,none⟩)
 | 10=>pv b.hi.x b.hi.y b.hi.z
 | 11=>pv b.hi.x b.hi.y b.hi.z
 | 12=>.pointer (some ⟨g 12,0,none⟩)
 | 13=>.pointer (some ⟨g 13,0,none⟩)
 | 14=>.pointer (some ⟨g 14,0,none⟩)
 | 15=>.pointer (some ⟨g 15,0,none⟩)
 | _=>undef
def joinC(a b:Bx):Nat→List Value
 | 12=>[.int .i64 a.lo.x,.int .i64 a.lo.y,.int .i64 a.lo.z]
 | 13=>[.int .i64 b.lo.x,.int .i64 b.lo.y,.int .i64 b.lo.z]
 | 14=>[.int .i64 a.hi.x,.int .i64 a.hi.y,.int .i64 a.hi.z]
 | _=>[.int .i64 b.hi.x,.int .i64 b.hi.y,.int .i64 b.hi.z]
structure JoinR (a b:Bx) (W:World) (listed:Array Bool) (g:Nat→Nat) (w:World):Prop where
 ext:Ext W w
 laid:∀ k,12≤k→k < 16→listed.getD k true=true→W.heap.size≤g k∧Arr w (g k) 125 (if listed.getD (k+4) true=true then joinC a b k else [.int .i64 0,.int .i64 0,.int .i64 0])
 apart:∀ k k',12≤k→k < 16→12≤k'→k' < 16→listed.getD k true=true→listed.getD k' true=true→k≠k'→g k≠g k'
 st:∀ k,12≤k→k < 16→listed.getD (k+4) true=true→listed.getD k true=true
theorem JoinR.keep{a b:Bx}{W w w':World}{listed:Array Bool}{g:Nat→Nat}(h:JoinR a b W listed g w){i:Nat}(hi:i < 12)(hx:Ext w w'):JoinR a b W (listed.setIfInBounds i true) g w':=by
 have hset:∀ k,12≤k→(listed.setIfInBounds i true).getD k true=listed.getD k true:=fun k hk=>getD_set_ne true (by omega);refine⟨h.ext.trans hx,fun k h1 h2 h3=>?_,fun k k' h1 h2 h3 h4 h5 h6=>?_,fun k h1 h2 h3=>by rw[hset k h1];rw[hset _ (by omega)]at h3;exact h.st k h1 h2 h3⟩
 · rw[hset k h1]at h3;rw[hset _ (by omega)];obtain⟨h4,h5⟩:=h.laid k h1 h2 h3;exact⟨h4,h5.ext hx⟩
 · rw[hset k h1]at h5;rw[hset k' h3]at h6;exact h.apart k k' h1 h2 h3 h4 h5 h6
theorem JoinR.lay{a b:Bx}{W w:World}{listed:Array Bool}{g:Nat→Nat}(h:JoinR a b W listed g w){i:Nat}(hi:12≤i)(hi2:i < 16)(hun:listed.getD i true=false):
    JoinR a b W (listed.setIfInBounds i true) (fun k=>if k=i then w.heap.size else g k) (w.alloc (.cells #[.int .i64 0,.int .i64 0,.int .i64 0] 125)):=by
 have hset:∀ k,k≠i→(listed.setIfInBounds i true).getD k true=listed.getD k true:=fun k hk=>getD_set_ne true (by omega);have hno:¬ listed.getD (i+4) true=true:=fun hh=>by rw[h.st i hi hi2 hh]at hun;cases hun
 refine⟨h.ext.alloc _,fun k h1 h2 h3=>?_,fun k k' h1 h2 h3 h4 h5 h6 h7=>?_,fun k h1 h2 h3=>?_⟩
 · by_cases hk:k=i
   · subst hk;rw[hset (k+4) (by omega),if_neg hno];simp only[if_true];exact⟨h.ext.size,Arr.new w _ _⟩
   · rw[hset k hk]at h3;rw[hset (k+4) (by omega)];simp only[if_neg hk];obtain⟨q1,q2⟩:=h.laid k h1 h2 h3;exact⟨q1,q2.alloc _⟩
 · by_cases hk:k=i
   · rw[if_pos hk,if_neg (by omega)];rw[hset k' (by omega)]at h6;have:=(h.laid k' h3 h4 h6).2.lt;omega
   · rw[if_neg hk];rw[hset k hk]at h5
     by_cases hk':k'=i
     · rw[if_pos hk'];have:=(h.laid k h1 h2 h5).2.lt;omega
     · rw[if_neg hk'];rw[hset k' hk']at h6;exact h.apart k k' h1 h2 h3 h4 h5 h6 h7
 · rw[hset (k+4) (by omega)]at h3;have h4:=h.st k h1 h2 h3
   by_cases hk:k=i
   · subst hk;rw[h4]at hun;cases hun
   · rw[hset k hk];exact h4
theorem JoinR.stored{a b:Bx}{W w:World}{listed:Array Bool}{g:Nat→Nat}(h:JoinR a b W listed g w)(k:Nat)(hk:12≤k)(hk2:k < 16)(hl:listed.getD k true=true){v0 v1 v2:Value}(hc:joinC a b k = [v0,v1,v2])
    (hun:listed.getD (k+4) true=false):JoinR a b W (listed.setIfInBounds (k+4) true) g (((w.setCell ⟨g k,0,none⟩ v0).setCell ⟨g k,1,none⟩ v1).setCell ⟨g k,2,none⟩ v2):=by
 have hset:∀ j,j≠k+4→(listed.setIfInBounds (k+4) true).getD j true=listed.getD j true:=fun j hj=>getD_set_ne true (by omega);obtain⟨q1,q2⟩:=h.laid k hk hk2 hl;rw[if_neg (by rw[hun];simp)]at q2;refine⟨((h.ext.setCell q1 _).setCell q1 _).setCell q1 _,fun j h1 h2 h3=>?_,fun j j' h1 h2 h3 h4 h5 h6 h7=>?_,fun j h1 h2 h3=>?_⟩
 · rw[hset j (by omega)]at h3
   by_cases hj:j=k
   · subst hj;refine⟨q1,?_⟩;have hil:(j+4) < listed.size:=by
      by_cases h9:j+4 < listed.size
      · exact h9
      · simp[Array.getD,h9]at hun
     rw[if_pos (by simp[Array.getD,hil]),hc];exact((q2.set 0 v0).set 1 v1).set 2 v2
   · rw[hset (j+4) (by omega)];obtain⟨p1,p2⟩:=h.laid j h1 h2 h3;have hne:=h.apart j k h1 h2 hk hk2 h3 hl hj;exact⟨p1,((p2.other hne v0).other hne v1).other hne v2⟩
 · rw[hset j (by omega)]at h5;rw[hset j' (by omega)]at h6;exact h.apart j j' h1 h2 h3 h4 h5 h6 h7
 · rw[hset j (by omega)]
   by_cases hj:j=k
   · subst hj;exact hl
   · rw[hset (j+4) (by omega)]at h3;exact h.st j h1 h2 h3
theorem join_any(a b:Bx)(g1 g2:FuncId)(F1 F2:Int→Int→Int)(hF1:Two Tryz.prog g1 F1)(hF2:Two Tryz.prog g2 F2)(w:World):
    Calls Tryz.prog 142 #[.agg #[.int .i64 a.lo.x,.int .i64 a.lo.y,.int .i64 a.lo.z,.int .i64 a.hi.x,.int .i64 a.hi.y,.int .i64 a.hi.z],.agg #[.int .i64 b.lo.x,.int .i64 b.lo.y,.int .i64 b.lo.z,.int .i64 b.hi.x,.int .i64 b.hi.y,.int .i64 b.hi.z],.func (.func g1) #[] #[],.func (.func g2) #[] #[]] w fun e w'=>
     e = .returned (.agg #[.int .i64 (F1 a.lo.x b.lo.x),.int .i64 (F1 a.lo.y b.lo.y),.int .i64 (F1 a.lo.z b.lo.z),.int .i64 (F2 a.hi.x b.hi.x),.int .i64 (F2 a.hi.y b.hi.y),.int .i64 (F2 a.hi.z b.hi.z)])∧Ext w w':=by
 have hm:=mixed;have hG:=near_old;have HF1:=Lib.hid hF1;have HF2:=Lib.hid hF2;clear hF1 hF2
 go_enter Tryz.func142,Tryz.ntmps142
 go_wp2
 refine wp_region_slots (joinV a b w.heap.size) (JoinR a b) (fun _=>0) (by assumption) (by kernel_rfl) (by kernel_rfl) ?_ ?_ ?_ ?_
 · intro i o ho;have h:=List.mem_of_getElem? ho;clear ho;simp only[List.mem_cons,List.not_mem_nil,or_false]at h
   rcases h with h | h | h | h | h | h | h | h | h | h | h | h | h | h | h | h | h | h | h | h <;> rw[h]
 · refine⟨(Ext.refl _).drew,fun k _ _ hl=>?_,fun k k' _ _ _ _ hl=>?_,fun k _ _ hl=>?_⟩
   · simp[Array.getD]at hl;omega
   · simp[Array.getD]at hl;omega
   · simp[Array.getD]at hl;omega
 · intro listed g w' i o ho hun hdep hR b' K E0 E1 hK;have hA:=(((((Ext.refl (w.alloc _)).alloc _).alloc _).alloc _).alloc _).trans hR.ext;have hB:=((((Ext.refl ((w.alloc _).alloc _)).alloc _).alloc _).alloc _).trans hR.ext;have a0:=hA.box 0;have a1:=hA.box 1;have a2:=hA.box 2;have a3:=hA.box 3;have a4:=hA.box 4;have a5:=hA.box 5;have c0:=hB.box 0;have c1:=hB.box 1;have c2:=hB.box 2;have c3:=hB.box 3;have c4:=hB.box 4;have c5:=hB.box 5;have esz:∀ o:Obj,(w.alloc o).heap.size=w.heap.size+1:=fun o=>by simp
   simp only[List.getElem?_toArray,List.getElem?_cons_zero,List.getElem?_cons_succ,esz]at a0 a1 a2 a3 a4 a5 c0 c1 c2 c3 c4 c5;clear hA hB esz
   match i,ho with
   | 0,ho=>
     injection ho with ho
     subst ho;have e4:=E0 4 (by kernel_rfl);simp only[List.getElem?_toArray,List.getElem?_cons_zero,List.getElem?_cons_succ]at e4;have hK2:=hK g w' (hR.keep (i:=0) (by omega) (Ext.refl _)) (fun _ _ _=>rfl);clear hK hR hun ho HF1 HF2 hG hm E0 E1 hdep;unfold Oper.wp;simp[execOp,e4,go_sem];exact hK2
   | 1,ho=>
     injection ho with ho
     subst ho;have d1:=hdep ⟨0,.data⟩ (by simp) rfl;have e4:=E1 0 13 (by decide) (getD_up d1) rfl (by simp);simp only[joinV]at e4;have hK2:=hK g w' (hR.keep (i:=1) (by omega) (Ext.refl _)) (fun _ _ _=>rfl);clear hK hR hun ho HF1 HF2 hG hm E0 E1 hdep;unfold Oper.wp;simp[execOp,go_sem, *];exact hK2
   | 2,ho=>
     injection ho with ho
     subst ho;have d1:=hdep ⟨1,.data⟩ (by simp) rfl;have e4:=E1 1 14 (by decide) (getD_up d1) rfl (by simp);simp only[joinV,pv]at e4;have hK2:=fun w2 hx=>hK g w2 (hR.keep (i:=2) (by omega) hx) (fun _ _ _=>rfl);clear hK hR hun ho HF1 HF2 hG hm E0 E1 hdep;unfold Oper.wp;simp[e4,go_sem];refine(list_any _ _ _ _).mono ?_;rintro e w2 ⟨rfl,hx⟩;exact hK2 w2 hx
   | 3,ho=>
     injection ho with ho
     subst ho;have e4:=E0 5 (by kernel_rfl);simp only[List.getElem?_toArray,List.getElem?_cons_zero,List.getElem?_cons_succ]at e4;have hK2:=hK g w' (hR.keep (i:=3) (by omega) (Ext.refl _)) (fun _ _ _=>rfl);clear hK hR hun ho HF1 HF2 hG hm E0 E1 hdep;unfold Oper.wp;simp[execOp,e4,go_sem];exact hK2
   | 4,ho=>
     injection ho with ho
     subst ho;have d1:=hdep ⟨3,.data⟩ (by simp) rfl;have e4:=E1 3 16 (by decide) (getD_up d1) rfl (by simp);simp only[joinV]at e4;have hK2:=hK g w' (hR.keep (i:=4) (by omega) (Ext.refl _)) (fun _ _ _=>rfl);clear hK hR hun ho HF1 HF2 hG hm E0 E1 hdep;unfold Oper.wp;simp[execOp,go_sem, *];exact hK2
   | 5,ho=>
     injection ho with ho
     subst ho;have d1:=hdep ⟨4,.data⟩ (by simp) rfl;have e4:=E1 4 17 (by decide) (getD_up d1) rfl (by simp);simp only[joinV,pv]at e4;have hK2:=fun w2 hx=>hK g w2 (hR.keep (i:=5) (by omega) hx) (fun _ _ _=>rfl);clear hK hR hun ho HF1 HF2 hG hm E0 E1 hdep;unfold Oper.wp;simp[e4,go_sem];refine(list_any _ _ _ _).mono ?_;rintro e w2 ⟨rfl,hx⟩;exact hK2 w2 hx
   | 6,ho=>
     injection ho with ho
     subst ho;have e4:=E0 4 (by kernel_rfl);simp only[List.getElem?_toArray,List.getElem?_cons_zero,List.getElem?_cons_succ]at e4;have hK2:=hK g w' (hR.keep (i:=6) (by omega) (Ext.refl _)) (fun _ _ _=>rfl);clear hK hR hun ho HF1 HF2 hG hm E0 E1 hdep;unfold Oper.wp;simp[execOp,e4,go_sem];exact hK2
   | 7,ho=>
     injection ho with ho
     subst ho;have d1:=hdep ⟨6,.data⟩ (by simp) rfl;have e4:=E1 6 19 (by decide) (getD_up d1) rfl (by simp);simp only[joinV]at e4;have hK2:=hK g w' (hR.keep (i:=7) (by omega) (Ext.refl _)) (fun _ _ _=>rfl);clear hK hR hun ho HF1 HF2 hG hm E0 E1 hdep;unfold Oper.wp;simp[execOp,go_sem, *];exact hK2
   | 8,ho=>
     injection ho with ho
     subst ho;have d1:=hdep ⟨7,.data⟩ (by simp) rfl;have e4:=E1 7 20 (by decide) (getD_up d1) rfl (by simp);simp only[joinV,pv]at e4;have hK2:=fun w2 hx=>hK g w2 (hR.keep (i:=8) (by omega) hx) (fun _ _ _=>rfl);clear hK hR hun ho HF1 HF2 hG hm E0 E1 hdep;unfold Oper.wp;simp[e4,go_sem];refine(list_any _ _ _ _).mono ?_;rintro e w2 ⟨rfl,hx⟩;exact hK2 w2 hx
   | 9,ho=>
     injection ho with ho
     subst ho;have e4:=E0 5 (by kernel_rfl);simp only[List.getElem?_toArray,List.getElem?_cons_zero,List.getElem?_cons_succ]at e4;have hK2:=hK g w' (hR.keep (i:=9) (by omega) (Ext.refl _)) (fun _ _ _=>rfl);clear hK hR hun ho HF1 HF2 hG hm E0 E1 hdep;unfold Oper.wp;simp[execOp,e4,go_sem];exact hK2
   | 10,ho=>
     injection ho with ho
     subst ho;have d1:=hdep ⟨9,.data⟩ (by simp) rfl;have e4:=E1 9 22 (by decide) (getD_up d1) rfl (by simp);simp only[joinV]at e4;have hK2:=hK g w' (hR.keep (i:=10) (by omega) (Ext.refl _)) (fun _ _ _=>rfl);clear hK hR hun ho HF1 HF2 hG hm E0 E1 hdep;unfold Oper.wp;simp[execOp,go_sem, *];exact hK2
   | 11,ho=>
     injection ho with ho
     subst ho;have d1:=hdep ⟨10,.data⟩ (by simp) rfl;have e4:=E1 10 23 (by decide) (getD_up d1) rfl (by simp);simp only[joinV,pv]at e4;have hK2:=fun w2 hx=>hK g w2 (hR.keep (i:=11) (by omega) hx) (fun _ _ _=>rfl);clear hK hR hun ho HF1 HF2 hG hm E0 E1 hdep;unfold Oper.wp;simp[e4,go_sem];refine(list_any _ _ _ _).mono ?_;rintro e w2 ⟨rfl,hx⟩;exact hK2 w2 hx
   | 12,ho=>
     injection ho with ho
     subst ho;have hK2:=hK _ _ (hR.lay (i:=12) (by omega) (by omega) hun) (fun j hj hl=>by
      have hne:j≠12:=fun e=>by subst e;rw[hl]at hun;cases hun
      clear hK ho hdep E0 E1;unfold joinV
      split <;> first | rfl | simp at hne ⊢)
     clear hK hR hun ho HF1 HF2 hG hm E0 E1 hdep;unfold Oper.wp;simp[execOp,go_sem];exact hK2
   | 13,ho=>
     injection ho with ho
     subst ho;have hK2:=hK _ _ (hR.lay (i:=13) (by omega) (by omega) hun) (fun j hj hl=>by
      have hne:j≠13:=fun e=>by subst e;rw[hl]at hun;cases hun
      clear hK ho hdep E0 E1;unfold joinV
      split <;> first | rfl | simp at hne ⊢)
     clear hK hR hun ho HF1 HF2 hG hm E0 E1 hdep;unfold Oper.wp;simp[execOp,go_sem];exact hK2
   | 14,ho=>
     injection ho with ho
     subst ho;have hK2:=hK _ _ (hR.lay (i:=14) (by omega) (by omega) hun) (fun j hj hl=>by
      have hne:j≠14:=fun e=>by subst e;rw[hl]at hun;cases hun
      clear hK ho hdep E0 E1;unfold joinV
      split <;> first | rfl | simp at hne ⊢)
     clear hK hR hun ho HF1 HF2 hG hm E0 E1 hdep;unfold Oper.wp;simp[execOp,go_sem];exact hK2
   | 15,ho=>
     injection ho with ho
     subst ho;have hK2:=hK _ _ (hR.lay (i:=15) (by omega) (by omega) hun) (fun j hj hl=>by
      have hne:j≠15:=fun e=>by subst e;rw[hl]at hun;cases hun
      clear hK ho hdep E0 E1;unfold joinV
      split <;> first | rfl | simp at hne ⊢)
     clear hK hR hun ho HF1 HF2 hG hm E0 E1 hdep;unfold Oper.wp;simp[execOp,go_sem];exact hK2
   | 16,ho=>
     injection ho with ho
     subst ho;have d1:=getD_up (hdep ⟨12,.data⟩ (by simp) rfl);have d2:=getD_up (hdep ⟨2,.data⟩ (by simp) rfl);have e4:=E1 12 9 (by decide) d1 rfl (by simp);have e5:=E1 2 15 (by decide) d2 rfl (by simp);simp only[joinV,pv]at e4 e5;obtain⟨_,hz⟩:=hR.laid 12 (by omega) (by omega) d1;rw[if_neg (by rw[hun];simp)]at hz;have z0:=hz.cell 0;have z1:=hz.cell 1;have z2:=hz.cell 2;have f0:=hz.frozen 0;have f1:=hz.frozen 1;have f2:=hz.frozen 2;have zl:=hz.lt;simp only[List.getElem?_cons_zero,List.getElem?_cons_succ]at z0 z1 z2;have hK2:=hK g _ (hR.stored 12 (by omega) (by omega) d1 rfl hun) (fun _ _ _=>rfl);clear hK hR ho HF1 HF2 hG hm E0 E1 hdep hz a0 a1 a2 a3 a4 a5 c0 c1 c2 c3 c4 c5;unfold Oper.wp;simp[execOp,go_sem, *];exact hK2
   | 17,ho=>
     injection ho with ho
     subst ho;have d1:=getD_up (hdep ⟨13,.data⟩ (by simp) rfl);have d2:=getD_up (hdep ⟨5,.data⟩ (by simp) rfl);have e4:=E1 13 10 (by decide) d1 rfl (by simp);have e5:=E1 5 18 (by decide) d2 rfl (by simp);simp only[joinV,pv]at e4 e5;obtain⟨_,hz⟩:=hR.laid 13 (by omega) (by omega) d1;rw[if_neg (by rw[hun];simp)]at hz;have z0:=hz.cell 0;have z1:=hz.cell 1;have z2:=hz.cell 2;have f0:=hz.frozen 0;have f1:=hz.frozen 1;have f2:=hz.frozen 2;have zl:=hz.lt;simp only[List.getElem?_cons_zero,List.getElem?_cons_succ]at z0 z1 z2;have hK2:=hK g _ (hR.stored 13 (by omega) (by omega) d1 rfl hun) (fun _ _ _=>rfl);clear hK hR ho HF1 HF2 hG hm E0 E1 hdep hz a0 a1 a2 a3 a4 a5 c0 c1 c2 c3 c4 c5;unfold Oper.wp;simp[execOp,go_sem, *];exact hK2
   | 18,ho=>
     injection ho with ho
     subst ho;have d1:=getD_up (hdep ⟨14,.data⟩ (by simp) rfl);have d2:=getD_up (hdep ⟨8,.data⟩ (by simp) rfl);have e4:=E1 14 11 (by decide) d1 rfl (by simp);have e5:=E1 8 21 (by decide) d2 rfl (by simp);simp only[joinV,pv]at e4 e5;obtain⟨_,hz⟩:=hR.laid 14 (by omega) (by omega) d1;rw[if_neg (by rw[hun];simp)]at hz;have z0:=hz.cell 0;have z1:=hz.cell 1;have z2:=hz.cell 2;have f0:=hz.frozen 0;have f1:=hz.frozen 1;have f2:=hz.frozen 2;have zl:=hz.lt;simp only[List.getElem?_cons_zero,List.getElem?_cons_succ]at z0 z1 z2;have hK2:=hK g _ (hR.stored 14 (by omega) (by omega) d1 rfl hun) (fun _ _ _=>rfl);clear hK hR ho HF1 HF2 hG hm E0 E1 hdep hz a0 a1 a2 a3 a4 a5 c0 c1 c2 c3 c4 c5;unfold Oper.wp;simp[execOp,go_sem, *];exact hK2
   | 19,ho=>
     injection ho with ho
     subst ho;have d1:=getD_up (hdep ⟨15,.data⟩ (by simp) rfl);have d2:=getD_up (hdep ⟨11,.data⟩ (by simp) rfl);have e4:=E1 15 12 (by decide) d1 rfl (by simp);have e5:=E1 11 24 (by decide) d2 rfl (by simp);simp only[joinV,pv]at e4 e5;obtain⟨_,hz⟩:=hR.laid 15 (by omega) (by omega) d1;rw[if_neg (by rw[hun];simp)]at hz;have z0:=hz.cell 0;have z1:=hz.cell 1;have z2:=hz.cell 2;have f0:=hz.frozen 0;have f1:=hz.frozen 1;have f2:=hz.frozen 2;have zl:=hz.lt;simp only[List.getElem?_cons_zero,List.getElem?_cons_succ]at z0 z1 z2;have hK2:=hK g _ (hR.stored 15 (by omega) (by omega) d1 rfl hun) (fun _ _ _=>rfl);clear hK hR ho HF1 HF2 hG hm E0 E1 hdep hz a0 a1 a2 a3 a4 a5 c0 c1 c2 c3 c4 c5;unfold Oper.wp;simp[execOp,go_sem, *];exact hK2
   | n+20,ho=>simp at ho
 · intro listed g w' hall hR;have hl:∀ k,k < 20→listed.getD k true=true:=fun k hk=>hall k hk;rw[fill_done hall];clear hall;obtain⟨p12,q12⟩:=hR.laid 12 (by omega) (by omega) (hl 12 (by omega));obtain⟨p13,q13⟩:=hR.laid 13 (by omega) (by omega) (hl 13 (by omega));obtain⟨p14,q14⟩:=hR.laid 14 (by omega) (by omega) (hl 14 (by omega));obtain⟨p15,q15⟩:=hR.laid 15 (by omega) (by omega) (hl 15 (by omega));rw[if_pos (hl 16 (by omega))]at q12;rw[if_pos (hl 17 (by omega))]at q13;rw[if_pos (hl 18 (by omega))]at q14;rw[if_pos (hl 19 (by omega))]at q15;have hx:=hR.ext;clear hR hl;simp only[List.length_cons,List.length_nil,fillAllN,dstOf,joinV,pv,Act.put,List.getElem?_toArray,List.getElem?_cons_zero,List.getElem?_cons_succ,Option.bind_some,joinC]at q12 q13 q14 q15 p12 p13 p14 p15 ⊢;have hC:=((Ext.refl (((w.alloc _).alloc _).alloc _)).alloc _).alloc _ |>.trans hx;have hD:=((Ext.refl ((((w.alloc _).alloc _).alloc _).alloc _)).alloc _).trans hx;have hE:=(Ext.refl (((((w.alloc _).alloc _).alloc _).alloc _).alloc _)).trans hx;have hx0:=(((((Ext.refl w).alloc _).alloc _).alloc _).alloc _).alloc _ |>.trans hx;have e1:=hC.box 0;have e2:=hD.box 0;have r0:=hE.box 0;have r1:=hE.box 1;have r2:=hE.box 2;have r3:=hE.box 3;have r4:=hE.box 4;have r5:=hE.box 5;have z1:=hx.size;have esz:∀ (w:World) (o:Obj),(w.alloc o).heap.size=w.heap.size+1:=fun w o=>by simp
   simp only[esz,List.getElem?_toArray,List.getElem?_cons_zero,List.getElem?_cons_succ]at e1 e2 r0 r1 r2 r3 r4 r5 p12 p13 p14 p15 z1;have hA:Arr w' (w.heap.size+1+1+1+1) 25 [.int .i64 0,.int .i64 0,.int .i64 0,.int .i64 0,.int .i64 0,.int .i64 0]:=by
    have h:=(Arr.new ((((w.alloc _).alloc _).alloc _).alloc _) 25 [.int .i64 0,.int .i64 0,.int .i64 0,.int .i64 0,.int .i64 0,.int .i64 0]).ext hx;simpa only [esz]using h
   generalize g 12=n12 at *;generalize g 13=n13 at *;generalize g 14=n14 at *;generalize g 15=n15 at *;clear hC hD hE hx;have c1:=Lib.hid (fun(k:Nat) (w2:World) (x:Ext w' w2)=>(And.intro ((x.cell (World.block_lt_of_cell? w' _ e1)).trans e1) (And.intro ((q12.ext x).cell k) ((q13.ext x).cell k))));have c2:=Lib.hid (fun(k:Nat) (w2:World) (x:Ext w' w2)=>(And.intro ((x.cell (World.block_lt_of_cell? w' _ e2)).trans e2) (And.intro ((q14.ext x).cell k) ((q15.ext x).cell k))));have HA:=Lib.hid hA;have HX:=Lib.hid hx0;have h1:=each_any 162 #[.pointer (some ⟨w.heap.size+1+1,0,none⟩),.pointer (some ⟨n12,0,none⟩),.pointer (some ⟨n13,0,none⟩)] (F1 a.lo.x b.lo.x) (F1 a.lo.y b.lo.y) (F1 a.lo.z b.lo.z) w' (fun _ _=>by kernel_rfl)
    (fun w2 x=>join1_any 0 (by omega) g1 F1 HF1.out _ _ _ _ _ w2 (c1.out 0 w2 x).1 (c1.out 0 w2 x).2.1 (c1.out 0 w2 x).2.2)
    (fun w2 x=>join1_any 1 (by omega) g1 F1 HF1.out _ _ _ _ _ w2 (c1.out 1 w2 x).1 (c1.out 1 w2 x).2.1 (c1.out 1 w2 x).2.2)
    (fun w2 x=>join1_any 2 (by omega) g1 F1 HF1.out _ _ _ _ _ w2 (c1.out 2 w2 x).1 (c1.out 2 w2 x).2.1 (c1.out 2 w2 x).2.2)
   have h2:=fun(w1:World) (x1:Ext w' w1)=>each_any 163 #[.pointer (some ⟨w.heap.size+1+1+1,0,none⟩),.pointer (some ⟨n14,0,none⟩),.pointer (some ⟨n15,0,none⟩)] (F2 a.hi.x b.hi.x) (F2 a.hi.y b.hi.y) (F2 a.hi.z b.hi.z) w1 (fun _ _=>by kernel_rfl)
    (fun w2 x=>join2_any 0 (by omega) g2 F2 HF2.out _ _ _ _ _ w2 (c2.out 0 w2 (x1.trans x)).1 (c2.out 0 w2 (x1.trans x)).2.1 (c2.out 0 w2 (x1.trans x)).2.2)
    (fun w2 x=>join2_any 1 (by omega) g2 F2 HF2.out _ _ _ _ _ w2 (c2.out 1 w2 (x1.trans x)).1 (c2.out 1 w2 (x1.trans x)).2.1 (c2.out 1 w2 (x1.trans x)).2.2)
    (fun w2 x=>join2_any 2 (by omega) g2 F2 HF2.out _ _ _ _ _ w2 (c2.out 2 w2 (x1.trans x)).1 (c2.out 2 w2 (x1.trans x)).2.1 (c2.out 2 w2 (x1.trans x)).2.2)
   have H1:=Lib.hid h1;have H2:=Lib.hid h2;clear h1 h2 c1 c2 e1 e2 r0 r1 r2 r3 r4 r5 q12 q13 q14 q15 hA hx0 HF1 HF2 hG hm esz;simp
   go_wp2_with fail
   refine H1.out.mono ?_;rintro e w1 ⟨rfl,x1⟩
   go_wp2_with fail
   refine(H2.out _ x1).mono ?_;rintro e w2 ⟨rfl,x2⟩;have hA:=HA.out.ext (x1.trans x2);have d0:=hA.cell 0;have d1:=hA.cell 1;have d2:=hA.cell 2;have d3:=hA.cell 3;have d4:=hA.cell 4;have d5:=hA.cell 5;have f0:=hA.frozen 0;have f1:=hA.frozen 1;have f2:=hA.frozen 2;have f3:=hA.frozen 3;have f4:=hA.frozen 4;have f5:=hA.frozen 5;have zl:=hA.lt;simp only[List.getElem?_cons_zero,List.getElem?_cons_succ]at d0 d1 d2 d3 d4 d5;clear hA
   go_wp2_with fail
   exact bodyPost_ret (v:=.agg #[.int .i64 (F1 a.lo.x b.lo.x),.int .i64 (F1 a.lo.y b.lo.y),.int .i64 (F1 a.lo.z b.lo.z),.int .i64 (F2 a.hi.x b.hi.x),.int .i64 (F2 a.hi.y b.hi.y),.int .i64 (F2 a.hi.z b.hi.z)]) (by simp[results,Tryz.results142,go_sem, *]) rfl ⟨rfl,((((((HX.out.trans (x1.trans x2)).setCell (by simp;omega) _).setCell (by simp;omega) _).setCell (by simp;omega) _).setCell (by simp;omega) _).setCell (by simp;omega) _).setCell (by simp;omega) _⟩
section
variable {P:Program}
def waits(o:Oper)(j:Nat):Bool:=o.after.toList.any fun e=>e.on == j && Region.binds .any e
theorem waits_spec{o:Oper}{j:Nat}(h:waits o j=true):∃ e,e∈o.after∧e.on=j∧Region.binds .any e=true:=by
 unfold waits at h;rw[List.any_eq_true]at h;obtain⟨e,he,h⟩:=h;simp only[Bool.and_eq_true,beq_iff_eq]at h;exact⟨e,by simpa using he,h.1,h.2⟩
variable {o:Oper} {b:Act} {w1:World} {K:Act→World→Prop} {Q:Exit→Act→World→Prop}
theorem eval_of{d:Nat}{v:Value}(h:b.tmps[d]? = some v):b.eval (.tmp d)=v:=by simp[Act.eval,Array.getD_eq_getD_getElem?,h]
theorem want_none{ops:Array Oper}{t:Array Value}{X Y:Prop}(hg:o.guard=none)(h:X):if Region.wanted o (yielded ops t)=true then X else Y:=by
 rw[if_pos (by simp[Region.wanted,hg])];exact h
theorem want_yes{ops:Array Oper}{t:Array Value}{X Y:Prop}{j d:Nat}{c:Bool}(hg:o.guard=some (j,c))(hd:dstOf ops j=some d)(ht:t[d]? = some (.bool c))(h:X):if Region.wanted o (yielded ops t)=true then X else Y:=by
 have hd2:(ops[j]?).bind (·.dst)=some d:=hd;rw[if_pos (by simp[Region.wanted,hg,yielded,hd2,ht])];exact h
theorem op_run{v:Value}{w2:World}(hr:(execOp b.eval o).run P w1 = .ok (.value v) w2)(h:K (b.put o.dst v) w2):o.wp P b w1 K Q:=by
 unfold Oper.wp;rw[hr];exact h
theorem op_move{x:Operand}{v:Value}(ho:o.op = .move x)(hx:b.eval x=v)(h:K (b.put o.dst v) w1):o.wp P b w1 K Q:=
 op_run (by unfold execOp;simp[ho,hx]) h
theorem op_assign{x:Operand}{v:Value}(ho:o.op = .assign x)(hx:b.eval x=v)(h:K (b.put o.dst v) w1):o.wp P b w1 K Q:=
 op_run (by unfold execOp;simp[ho,hx]) h
theorem op_loadrow{t:TypeId}{x:Operand}{bk:Nat}{tb:TypeId}{vs:List Value}(ho:o.op = .load t x)(hx:b.eval x = .pointer (some ⟨bk,0,none⟩))(hB:Arr w1 bk tb vs)(d:TypeDesc)(hu:P.underlying t=some d)
    (hd:(match d with | .struct _ | .array _ _=>true | _=>false)=true) (hi:(P.info? t).map (·.size)=some vs.length) (h:K (b.put o.dst (.agg vs.toArray)) w1):o.wp P b w1 K Q:=
 wp_load_row t x ho bk hx tb vs.toArray (0,0) d hB hu hd (by simpa using hi) h
theorem op_call{f:FuncId}{args:Array Operand}{ts:Array TypeId}{vs:Array Value}{G:Value→World→Prop}(ho:o.op = .call {callee:=.value (.func f),args:=args,argTypes:=ts })(ha:args.map b.eval=vs)(he:∀ args w,(callFunc f args).run P w = .ok (.enter f args) w)
    (hc:Calls P f vs w1 fun e w'=>∃ v,e = .returned v∧Ext w1 w'∧G v w') (h:∀ v w',Ext w1 w'→G v w'→K (b.put o.dst v) w'):o.wp P b w1 K Q:=by
 have hr:(execOp b.eval o).run P w1 = .ok (.enter f vs) w1:=by
  unfold execOp;simp[ho,resolve,invoke,Deferred.ofValue,Act.eval,ha,he]
 unfold Oper.wp;rw[hr,Oper.upon_enter];refine hc.mono ?_;rintro e w' ⟨v,rfl,hx,hg⟩;exact h v w' hx hg
end
section
variable {P:Program}
def Back2(ops:Array Oper):Prop:=∀ (i:Nat) (o:Oper),ops[i]? = some o→∀ e,e∈o.after→Region.binds .any e=true→e.on < i
def backB2(ops:Array Oper):Bool:=(List.range ops.size).all fun i=>match ops[i]? with | some o=>o.after.all fun e=>!(Region.binds .any e) || decide (e.on < i) | none=>true
theorem backB2_spec{ops:Array Oper}(h:backB2 ops=true):Back2 ops:=fun i o ho e he hbd=>by
 unfold backB2 at h;simp only[List.all_eq_true,List.mem_range]at h;have h1:=h i (Array.getElem?_eq_some_iff.1 ho).1;rw[ho]at h1;simp only[Array.all_eq_true]at h1;obtain⟨k,hk,rfl⟩:=Array.mem_iff_getElem.1 he;have h2:=h1 k hk;rw[hbd]at h2;simpa using h2
theorem all_done2{ops:Array Oper}(hb:Back2 ops){listed:Array Bool}(hr:Region.ready .any ops listed = []):∀ i,i < ops.size→listed.getD i true=true:=by
 intro i
 induction i using Nat.strongRecOn with
 | ind i ih=>
   intro hi
   by_cases h:listed.getD i true=true
   · exact h
   · exfalso
     have h1:i∈Region.ready .any ops listed:=mem_ready.2 ⟨by simpa using h,ops[i],Array.getElem?_eq_getElem hi,fun e he hbd=>by
      have h2:=hb i _ (Array.getElem?_eq_getElem hi) e he hbd;have h3:=ih e.on h2 (by omega);have hsz:∀ k,listed.getD k true=true→listed.getD i true=false→k < i→listed.getD k false=true:=fun k h4 h5 h6=>by
       have hil:i < listed.size:=by
        by_cases h7:i < listed.size
        · exact h7
        · simp[Array.getD,h7]at h5
       have hkl:k < listed.size:=by omega
       simpa[Array.getD,hkl]using h4
      exact hsz e.on h3 (by simpa using h) h2⟩
     rw[hr]at h1
     cases h1
theorem wp_region_tabg2{G:Type}{Q:Exit→Act→World→Prop}{id:Nat}{a:Act}{w:World}{l:List Oper}(V:G→Nat→Value)(R:World→Array Bool→G→World→Prop)(g0:G)(hm:P.follows .mixedOrders=true)(hs:Slots l.toArray)(hb:Back2 l.toArray)
    (h0:R w (Array.replicate l.length false) g0 w.drew)
    (hstep:∀ listed g w1 i o,l[i]? = some o→listed.getD i true=false→(∀ e,e∈o.after→Region.binds .any e=true→listed.getD e.on false=true)→R w listed g w1→
      ∀ K:Act→World→Prop,(∀ g' w',R w (listed.setIfInBounds i true) g' w'→(∀ j,j < l.length→listed.getD j true=true→V g' j=V g j)→K ((fill l.toArray (V g) listed a).put o.dst (V g' i)) w')→
        if Region.wanted o (yielded l.toArray (fill l.toArray (V g) listed a).tmps)=true then o.wp P (fill l.toArray (V g) listed a) w1 K Q else K ((fill l.toArray (V g) listed a).put o.dst undef) w1)
    (hend:∀ listed g w1,(∀ i,i < l.length→listed.getD i true=true)→R w listed g w1→Q .normal (fill l.toArray (V g) listed a) w1):(Code.region id l.toArray true).wp P Q a w:=by
 refine wp_region_inv (fun listed b w1=>∃ g,b=fill l.toArray (V g) listed a∧R w listed g w1) hm ⟨g0,?_,h0⟩ ?_ ?_
 · have:∀ n,fillN l.toArray (V g0) (Array.replicate l.length false) a n=a∨l.length < n:=by
     intro n
     induction n with
     | zero=>exact .inl rfl
     | succ n ih=>
       by_cases hn:l.length < n+1
       · exact .inr hn
       · rcases ih with ih | ih
         · refine .inl ?_;unfold fillN;rw[if_neg (by simp[Array.getD];omega),ih]
         · omega
   rcases this l.toArray.size with h | h
   · exact h.symm
   · simp at h
 · rintro listed b w1 i ⟨g,rfl,hR⟩ hi;obtain⟨hun,o,ho,hdeps⟩:=mem_ready.1 hi;have ho':l[i]? = some o:=by simpa using ho
   have hi2:i < l.toArray.size:=(Array.getElem?_eq_some_iff.1 ho).1;refine wpOp_step ho fun K hK=>?_;refine hstep listed g w1 i o ho' hun hdeps hR K fun g' w' hR' hV=>?_;refine hK _ _ ⟨g',?_,hR'⟩;have hd:dstOf l.toArray i=o.dst:=by simp[dstOf,ho']
   rw[← hd,fill_congr (V':=V g') (fun j hl hj=>(hV j (by simpa using hj) hl).symm),fill_put hs hi2 hun]
 · rintro listed b w1 ⟨g,rfl,hR⟩ hr;exact hend listed g w1 (fun i hi=>all_done2 hb hr i (by simpa using hi)) hR
variable {o:Oper} {b:Act} {w1:World} {K:Act→World→Prop} {Q:Exit→Act→World→Prop}
end
section
variable {P:Program}
def needB(ops:Array Oper):Nat→Nat→Nat→Bool
 | 0,_,_=>false
 | f+1,j,i=>match ops[j]? with
   | some o=>o.after.any fun e=>Region.binds .any e && (e.on == i || needB ops f e.on i)
   | none=>false
def ClosedL(ops:Array Oper)(listed:Array Bool):Prop:=∀ (j:Nat) (o:Oper),ops[j]? = some o→listed.getD j true=true→∀ e,e∈o.after→Region.binds .any e=true→listed.getD e.on true=true
theorem need_done{ops:Array Oper}{listed:Array Bool}(hc:ClosedL ops listed):∀ (f j i:Nat),needB ops f j i=true→listed.getD j true=true→listed.getD i true=true
 | 0,_,_,h,_=>by cases h
 | f+1,j,i,h,hj=>by
   unfold needB at h
   split at h
   next o ho=>
    simp only[Array.any_eq_true,Bool.and_eq_true,Bool.or_eq_true,beq_iff_eq]at h;obtain⟨k,hk,hb,h1⟩:=h;have h2:=hc j o ho hj _ (Array.getElem_mem hk) hb
    rcases h1 with h1 | h1
    · rw[← h1];exact h2
    · exact need_done hc f _ i h1 h2
   next=>cases h
end
section
variable {P:Program} {o:Oper} {b:Act} {w1:World} {K:Act→World→Prop} {Q:Exit→Act→World→Prop}
theorem op_buildRow(t e:TypeId)(s:Nat)(ho:o.op = .buildSlice t 1 #[(0,.tmp s)])
    (k:Nat) (hk:0 < k) (hk2:k≤1000) (x:List Value) (hx:x.length=k) (hs:b.eval (.tmp s) = .agg x.toArray) (hu:P.underlying t=some (.slice e)) (hi:(P.info? e).map (·.size)=some k) (hz:((P.info? e).bind (·.zero)).isSome=true)
    (h:K (b.put o.dst (.slice (some ⟨w1.heap.size,0,none⟩) 1 1)) (w1.alloc (.cells x.toArray e))):o.wp P b w1 K Q:=by
 cases hie:P.info? e with
 | none=>simp[hie]at hi
 | some ie=>
   have hsz:ie.size=k:=by simpa[hie]using hi
   obtain⟨z,hzz⟩:=Option.isSome_iff_exists.1 (by simpa[hie]using hz:(ie.zero).isSome=true);refine wp_buildSlice t e 1 _ ho _ ie z hu hie hzz (by rw[hsz];omega) (by rw[hsz];omega) ?_ h;have hf:=Great.fill_whole (s:=k) hk [.agg x.toArray] ((Array.range (1 * k)).map (z.cells[· % z.cells.size]!)) (fun v hv=>by
    simp only[List.mem_singleton]at hv;subst hv;simpa[Value.cells]using hx) (by simp)
   rw[hsz];simp only[List.map_toArray,List.map_cons,List.map_nil,hs];simpa[Value.cells]using hf
end
end Go.Proofs.YtoecbicdahbccaaGreatDoor
