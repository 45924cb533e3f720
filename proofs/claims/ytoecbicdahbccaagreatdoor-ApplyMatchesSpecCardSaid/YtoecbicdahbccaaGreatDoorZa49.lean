/- A part of the walk of the layer of apply: contracts and plain laws that a row's text leans on. -/
import Derived.Test.YtoecbicdahbccaaGreatDoorZa42
set_option maxRecDepth 100000
set_option maxHeartbeats 16000000
namespace Go.Proofs.YtoecbicdahbccaaGreatDoor
open Go Go.RowKit
section
variable {P:Program}
theorem wp_region_tabg{G:Type}{Q:Exit→Act→World→Prop}{id:Nat}{a:Act}{w:World}{l:List Oper}(V:G→Nat→Value)(R:World→Array Bool→G→World→Prop)(g0:G)(hm:P.follows .mixedOrders=true)(hs:Slots l.toArray)(hb:Back l.toArray)
    (h0:R w (Array.replicate l.length false) g0 w.drew)
    (hstep:∀ listed g w1 i o,l[i]? = some o→listed.getD i true=false→(∀ e,e∈o.after→Region.binds .any e=true→listed.getD e.on false=true)→R w listed g w1→
      ∀ K:Act→World→Prop,(∀ g' w',R w (listed.setIfInBounds i true) g' w'→(∀ j,j < l.length→listed.getD j true=true→V g' j=V g j)→K ((fill l.toArray (V g) listed a).put o.dst (V g' i)) w')→
        if Region.wanted o (yielded l.toArray (fill l.toArray (V g) listed a).tmps)=true then o.wp P (fill l.toArray (V g) listed a) w1 K Q else K ((fill l.toArray (V g) listed a).put o.dst undef) w1)
    (hend:∀ listed g w1,(∀ i,i < l.length→listed.getD i true=true)→R w listed g w1→Q .normal (fill l.toArray (V g) listed a) w1):(Code.region id l.toArray true).wp P Q a w:=by
 refine wp_region_inv (fun listed b w1=>∃ g,b=fill l.toArray (V g) listed a∧R w listed g w1) hm ⟨g0,?_,h0⟩ ?_ ?_
 · have:∀ n,fillN l.toArray (V g0) (Array.replicate l.length false) a n=a∨l.length < n:=by
     intro n
     induction n with
     | zero=>exact .inl rfl
     | succ n ih=>
       by_cases hn:l.length < n+1
       · exact .inr hn
       · rcases ih with ih | ih
         · refine .inl ?_;unfold fillN;rw[if_neg (by simp[Array.getD];omega),ih]
         · omega
   rcases this l.toArray.size with h | h
   · exact h.symm
   · simp at h
 · rintro listed b w1 i ⟨g,rfl,hR⟩ hi;obtain⟨hun,o,ho,hdeps⟩:=mem_ready.1 hi;have ho':l[i]? = some o:=by simpa using ho
   have hi2:i < l.toArray.size:=(Array.getElem?_eq_some_iff.1 ho).1;refine wpOp_step ho fun K hK=>?_;refine hstep listed g w1 i o ho' hun hdeps hR K fun g' w' hR' hV=>?_;refine hK _ _ ⟨g',?_,hR'⟩;have hd:dstOf l.toArray i=o.dst:=by simp[dstOf,ho']
   rw[← hd,fill_congr (V':=V g') (fun j hl hj=>(hV j (by simpa using hj) hl).symm),fill_put hs hi2 hun]
 · rintro listed b w1 ⟨g,rfl,hR⟩ hr;exact hend listed g w1 (fun i hi=>all_done hb hr i (by simpa using hi)) hR
theorem wp_region_rel{Q:Exit→Act→World→Prop}{id:Nat}{a:Act}{w:World}{l:List Oper}(Good:Nat→Value→World→Prop)(hm:P.follows .mixedOrders=true)(hs:slotsB l.toArray=true)(hb:backB l.toArray=true)(hfit:((List.range l.length).all fun j=>match dstOf l.toArray j with | some d=>decide (d < a.tmps.size) | none=>true)=true)
    (hst:∀ i v w1 w2,Ext w1 w2→Good i v w1→Good i v w2)
    (hstep:∀ (i:Nat) (o:Oper),l[i]? = some o→∀ (b:Act) (w1:World),Ext w w1→(∀ d:Nat,missB l.toArray d=true→b.tmps[d]? = a.tmps[d]?)→
      (∀ j,waits o j=true→∃ v,Good j v w1∧∀ d,dstOf l.toArray j=some d→b.tmps[d]? = some v)→
      ∀ K:Act→World→Prop,(∀ v w',Ext w1 w'→Good i v w'→K (b.put o.dst v) w')→if Region.wanted o (yielded l.toArray b.tmps)=true then o.wp P b w1 K Q else K (b.put o.dst undef) w1)
    (hend:∀ (V:Nat→Value) (w1:World),Ext w w1→(∀ i,i < l.length→Good i (V i) w1)→Q .normal (fillAllN l.toArray V a l.length) w1):(Code.region id l.toArray true).wp P Q a w:=by
 have hS:=slotsB_spec hs;have hB:=backB_spec hb;refine wp_region_tabg (G:=Nat→Value) (fun g=>g) (fun w listed g w1=>Ext w w1∧∀ i,i < l.length→listed.getD i true=true→Good i (g i) w1) (fun _=>undef) hm hS hB ?_ ?_ ?_
 · refine⟨(Ext.refl _).drew,fun i hi h=>?_⟩;have:(Array.replicate l.length false).getD i true=false:=by simp[Array.getD,hi]
   rw[this]at h
   cases h
 · intro listed g w1 i o ho hun hdep hR K hK;have hil:i < l.length:=(List.getElem?_eq_some_iff.1 ho).1;refine hstep i o ho (fill l.toArray g listed a) w1 hR.1 (fun d hd=>fill_miss (fun i hi _=>missB_spec hd i hi)) (fun j hj=>?_) K (fun v w' hx hg=>?_)
   · obtain⟨e,he,rfl,hbd⟩:=waits_spec hj;have h1:=getD_up (hdep e he hbd);have h2:e.on < l.length:=by have:=hB i o (by simpa using ho) e he;omega
     refine⟨g e.on,hR.2 _ h2 h1,fun d hd=>fill_hit hS (by simpa using h2) h1 hd ?_⟩;rw[List.all_eq_true]at hfit;have h3:=hfit e.on (List.mem_range.2 h2);rw[hd]at h3;simpa using h3
   · have h:=hK (fun k=>if k=i then v else g k) w' ⟨hR.1.trans hx,fun j hj hl=>?_⟩ (fun j hj hl=>?_)
     · simpa using h
     · by_cases hji:j=i
       · subst hji;simpa using hg
       · simp only[if_neg hji];rw[getD_set_ne true (Ne.symm hji)]at hl;exact hst _ _ _ _ hx (hR.2 j hj hl)
     · have hne:j≠i:=fun e=>by subst e;rw[hl]at hun;cases hun
       simp only[if_neg hne]
 · intro listed g w1 hall hR;rw[fill_done hall];exact hend g w1 hR.1 (fun i hi=>hR.2 i hi (hall i hi))
variable {o:Oper} {b:Act} {w1:World} {K:Act→World→Prop} {Q:Exit→Act→World→Prop}
end
theorem neqPt2_run(a b:Pt)(w:World):(binOp .neq 23 (.agg #[.int .i64 a.x,.int .i64 a.y,.int .i64 a.z]) (.agg #[.int .i64 b.x,.int .i64 b.y,.int .i64 b.z])).run Tryz.prog w = .ok (.bool (decide (a≠b))) w:=by
 obtain⟨a4,a5,a6⟩:=a;obtain⟨b4,b5,b6⟩:=b;simp[go_sem]
 by_cases h4:a4=b4
 · by_cases h5:a5=b5
   · by_cases h6:a6=b6 <;> simp[h4,h5,h6]
   · simp[h4,h5]
 · simp[h4]
theorem two_found:∀ a,a < 48→∀ b,b < 48→((List.range 48).any fun s=>decide (rturnP (s:Nat) 0 markP=twoP (a:Nat) (b:Nat)))=true:=by decide+kernel
theorem turn_zero:rturnP 0 0 markP=markP:=by decide+kernel
theorem first_with(p:Nat→Bool):∀ n:Nat,((List.range n).any p)=true→∃ s,s < n∧p s=true∧∀ i,i < s→p i=false:=by
 intro n
 induction n with
 | zero=>intro h;simp at h
 | succ n ih=>
   intro h
   by_cases h1:((List.range n).any p)=true
   · obtain⟨s,hs,h2,h3⟩:=ih h1;exact⟨s,by omega,h2,h3⟩
   · rw[List.range_succ,List.any_append]at h;rw[Bool.not_eq_true]at h1;rw[h1]at h;refine⟨n,by omega,by simpa using h,fun i hi=>?_⟩;rw[List.any_eq_false]at h1;have:=h1 i (List.mem_range.2 hi);simpa using this
theorem BoxR.keep2{T n:Nat}{zs cs:List Value}{W w w':World}{listed:Array Bool}{g:Nat}(h:BoxR T n zs cs W listed g w){i:Nat}(h0:i≠n)(h00:i≠n+1)(hx:Ext w w'):BoxR T n zs cs W (listed.setIfInBounds i true) g w':=by
 have h1:(listed.setIfInBounds i true).getD n true=listed.getD n true:=getD_set_ne true h0;have h2:(listed.setIfInBounds i true).getD (n+1) true=listed.getD (n+1) true:=getD_set_ne true h00;refine⟨h.ext.trans hx,?_,?_⟩
 · rw[h1,h2];intro h3;obtain⟨h4,h5⟩:=h.laid h3;exact⟨h4,h5.ext hx⟩
 · rw[h1,h2];exact h.st
def boxW(V:Nat→Value)(n:Nat)(g i:Nat):Value:=if i=n then .pointer (some ⟨g,0,none⟩)else if i=n+1 then undef else V i
section
variable {P:Program}
theorem wp_region_var{id:Nat}{Q:Exit→Act→World→Prop}{a:Act}{w:World}{l:List Oper}(V:Nat→Value)(n T d sv iv:Nat)(zs cs:List Value)(hm:P.follows .mixedOrders=true)(hs:slotsB l.toArray=true)(hb:backB2 l.toArray=true)
    (hg:∀ (i:Nat) (o:Oper),l[i]? = some o→o.guard=none) (hln:n+2≤l.length)
    (halloc:∃ o,l[n]? = some o∧o.op = .alloc T∧o.dst=some d) (hstore:∃ o,l[n+1]? = some o∧o.op = .store T (.tmp d) (.tmp sv)∧o.dst=none∧(∃ e,e∈o.after∧e.on=n∧Region.binds .any e=true)∧(∃ e,e∈o.after∧e.on=iv∧Region.binds .any e=true))
    (hiv:iv≠n∧iv≠n+1∧iv < l.length) (hdv:dstOf l.toArray iv=some sv) (hds:sv < a.tmps.size) (hdd:d < a.tmps.size) (hV:V iv = .agg cs.toArray)
    (hz:∃ i z,P.info? T=some i∧i.zero=some z∧z.cells.toList=zs) (hi:(P.info? T).map (·.size)=some cs.length) (hzl:zs.length=cs.length) (hone:cs.all (·.oneCell')=true)
    (hhead:∀ (listed:Array Bool) (w1:World) (i:Nat) (o:Oper),l[i]? = some o→i≠n→i≠n+1→(∀ e,e∈o.after→Region.binds .any e=true→listed.getD e.on false=true)→Ext w w1→
      ∀ (g:Nat) (b:Act) (K:Act→World→Prop),(∀ d:Nat,missB l.toArray d=true→b.tmps[d]? = a.tmps[d]?)→(∀ j d,j < l.length→listed.getD j true=true→dstOf l.toArray j=some d→d < a.tmps.size→b.tmps[d]? = some (boxW V n g j))→
      (∀ w',Ext w1 w'→K (b.put o.dst (V i)) w')→o.wp P b w1 K Q)
    (hend:∀ g w1,Ext w w1→w.heap.size≤g→Arr w1 g T cs→Q .normal (fillAllN l.toArray (boxW V n g) a l.length) w1):(Code.region id l.toArray true).wp P Q a w:=by
 refine wp_region_slots2 (boxW V n) (BoxR T n zs cs) 0 hm hs hb hg ?_ ?_ ?_
 · have h0:∀ k,k < l.length→(Array.replicate l.length false).getD k true=false:=fun k hk=>by simp[Array.getD,hk]
   exact⟨(Ext.refl _).drew,fun h=>(by rw[h0 n (by omega)]at h;cases h),fun h=>(by rw[h0 (n+1) (by omega)]at h;cases h)⟩
 · intro listed g w1 i o ho hun hdep hR b K E0 E1 hK;have hil:i < l.length:=(List.getElem?_eq_some_iff.1 ho).1
   by_cases hin:i≠n∧i≠n+1
   · refine hhead listed w1 i o ho hin.1 hin.2 hdep hR.ext g b K E0 E1 (fun w' hx=>?_);have h:=hK g w' (hR.keep2 hin.1 hin.2 hx) (fun _ _ _=>rfl);unfold boxW at h;rw[if_neg hin.1,if_neg hin.2]at h;exact h
   · by_cases hie:i=n
     · subst hie;obtain⟨o2,ho2,hop,hdst⟩:=halloc;rw[ho]at ho2;injection ho2 with ho2
       subst ho2;obtain⟨ie,z,hie,hzz,hzl2⟩:=hz;have hlist:∀ k,k≠i→(listed.setIfInBounds i true).getD k true=listed.getD k true:=fun k hk=>getD_set_ne true (Ne.symm hk);have hnext:listed.getD (i+1) true=false:=by
        cases hq:listed.getD (i+1) true
        · rfl
        · have:=hR.st hq;rw[this]at hun;cases hun
       have hK2:=hK w1.heap.size (w1.alloc (.cells zs.toArray T)) ⟨hR.ext.alloc _,fun _=>⟨hR.ext.size,by
           rw[hlist _ (by omega),hnext];exact Arr.new w1 T zs⟩,fun h=>(by rw[hlist _ (by omega),hnext]at h;cases h)⟩ (fun j hj hl=>by
           have hne:j≠i:=fun e=>by subst e;rw[hl]at hun;cases hun
           unfold boxW;simp only[if_neg hne])
       have hbv:boxW V i w1.heap.size i = .pointer (some ⟨w1.heap.size,0,none⟩):=by unfold boxW;simp
       rw[hbv]at hK2;have hzc:z.cells=zs.toArray:=by rw[← hzl2]
       have hrun:(execOp b.eval o).run P w1 = .ok (.value (.pointer (some ⟨w1.heap.size,0,none⟩))) (w1.alloc (.cells zs.toArray T)):=by
        unfold execOp;simp only[hop];simp[Instr.alloc,zeroValue,typeInfo,hie,hzz,newVar,newRow,hzc]
       unfold Oper.wp;rw[hrun];exact hK2
     · have hie2:i=n+1:=by omega
       subst hie2;obtain⟨o2,ho2,hop,hdst,⟨e1,he1,hon1,hbd1⟩,⟨e2,he2,hon2,hbd2⟩⟩:=hstore;rw[ho]at ho2;injection ho2 with ho2
       subst ho2;have hl1:=getD_up (hon1 ▸ hdep e1 he1 hbd1);have hl2:=getD_up (hon2 ▸ hdep e2 he2 hbd2);obtain⟨q1,q2⟩:=hR.laid hl1;rw[hun]at q2;simp only[Bool.false_eq_true,if_false]at q2;obtain⟨oa,hoa,hopa,hdsta⟩:=halloc;have hda:dstOf l.toArray n=some d:=by simp[dstOf,hoa,hdsta]
       have t1:=E1 n d (by omega) hl1 hda hdd;have t2:=E1 iv sv (by omega) hl2 hdv hds;have bv1:boxW V n g n = .pointer (some ⟨g,0,none⟩):=by unfold boxW;simp
       have bv2:boxW V n g iv = .agg cs.toArray:=by unfold boxW;rw[if_neg hiv.1,if_neg hiv.2.1,hV]
       rw[bv1]at t1;rw[bv2]at t2;have hlist:∀ k,k≠n+1→(listed.setIfInBounds (n+1) true).getD k true=listed.getD k true:=fun k hk=>getD_set_ne true (Ne.symm hk);have hset:(listed.setIfInBounds (n+1) true).getD (n+1) true=true:=by
        by_cases h:n+1 < listed.size
        · simp[Array.getD,h]
        · simp[Array.getD,h]
       have hK2:=hK g (w1.setRow g cs.toArray) ⟨hR.ext.setRow q1 _,fun _=>⟨q1,by rw[hset];exact q2.setRow cs⟩,fun _=>by rw[hlist n (by omega)];exact hl1⟩ (fun _ _ _=>rfl);have bv3:boxW V n g (n+1)=undef:=by unfold boxW;rw[if_neg (by omega),if_pos rfl]
       rw[bv3]at hK2;exact wp_store_row T (.tmp d) (.tmp sv) hop g cs.toArray (by simp[Act.eval,Array.getD_eq_getD_getElem?,t1]) (by simp[Act.eval,Array.getD_eq_getD_getElem?,t2]) T zs.toArray q2 (by simpa using hi) (by simpa using hzl) (by simpa using hone) hK2
 · intro listed g w1 hall hR;rw[fill_done hall];obtain⟨q1,q2⟩:=hR.laid (hall n (by omega));rw[if_pos (hall (n+1) (by omega))]at q2;exact hend g w1 hR.ext q1 q2
variable {Q:Exit→Act→World→Prop} {l:List Oper} {vs:List (Option Value)} {a:Act} {w:World}
theorem step_of2{U:Nat→Value}(hb:backB2 l.toArray=true)(hg:(l.all fun o=>o.guard.isNone)=true)(hfit:((List.range l.length).all fun j=>match dstOf l.toArray j with | some d=>decide (d < a.tmps.size) | none=>true)=true)
    (hU:∀ j u,(vs[j]?).join=some u→U j=u) {i:Nat} {o:Oper} (hi:(vs[i]?).join.isSome=true) (hstep:StepM P Q l vs (fun _ _ _=>True) a w i o)
    (listed:Array Bool) (w1:World) (ho:l[i]? = some o) (hdep:∀ e,e∈o.after→Region.binds .any e=true→listed.getD e.on false=true) (hx:Ext w w1)
    (b:Act) (K:Act→World→Prop) (E0:∀ d:Nat,missB l.toArray d=true→b.tmps[d]? = a.tmps[d]?) (E1:∀ j d,j < l.length→listed.getD j true=true→dstOf l.toArray j=some d→d < a.tmps.size→b.tmps[d]? = some (U j))
    (hK:∀ w',Ext w1 w'→K (b.put o.dst (U i)) w'):o.wp P b w1 K Q:=by
 have h1:=hstep b w1 ⟨hx,E0,fun j hj=>?_⟩ K (fun v w' hx' hv=>?_)
 · rw[if_pos (by simp[Region.wanted,noGuardD hg i o ho])]at h1;exact h1
 · obtain⟨e,he,rfl,hbd⟩:=waits_spec hj;have hlt:=backB2_spec hb i o (by simpa using ho) e he hbd;have hil:i < l.length:=(List.getElem?_eq_some_iff.1 ho).1;refine⟨U e.on,?_,fun d hd=>?_⟩
   · unfold GdM
     cases hq:(vs[e.on]?).join with
     | none=>exact trivial
     | some u=>exact hU _ _ hq
   · have hds:d < a.tmps.size:=by
       have h3:=List.all_eq_true.1 hfit e.on (List.mem_range.2 (by omega));rw[hd]at h3;simpa using h3
     exact E1 e.on d (by omega) (getD_up (hdep e he hbd)) hd hds
 · unfold GdM at hv
   cases hq:(vs[i]?).join with
   | none=>rw[hq]at hi;cases hi
   | some u=>
     rw[hq]at hv;subst hv;have h2:=hK w' hx';rw[hU i _ hq]at h2;exact h2
theorem wp_region_var_val{id:Nat}(vs:List (Option Value))(n T d sv iv:Nat)(zs cs:List Value)(hm:P.follows .mixedOrders=true)
    (hz:∃ i z,P.info? T=some i∧i.zero=some z∧z.cells.toList=zs) (hi:(P.info? T).map (·.size)=some cs.length)
    (hs1:StepsM P Q l vs (fun _ _ _=>True) a w 0 (l.take n)) (hs2:StepsM P Q l vs (fun _ _ _=>True) a w (n+2) (l.drop (n+2)))
    (hend:∀ (g:Nat) w1,Ext w w1→w.heap.size≤g→Arr w1 g T cs→Q .normal (fillM l (boxW (fun i=>((vs[i]?).join).getD undef) n g) 0 a) w1)
    (hs:slotsB l.toArray=true:=by kernel_rfl) (hb:backB2 l.toArray=true:=by kernel_rfl) (hg:(l.all fun o=>o.guard.isNone)=true:=by kernel_rfl) (hln:n+2≤l.length:=by decide)
    (halloc:∃ o,l[n]? = some o∧o.op = .alloc T∧o.dst=some d:=by exact⟨_,rfl,rfl,rfl⟩) (hstore:∃ o,l[n+1]? = some o∧o.op = .store T (.tmp d) (.tmp sv)∧o.dst=none∧waits o n=true∧waits o iv=true:=by exact⟨_,rfl,rfl,rfl,rfl,rfl⟩)
    (hiv:iv≠n∧iv≠n+1∧iv < l.length:=by decide) (hdv:dstOf l.toArray iv=some sv:=by rfl) (hds:sv < a.tmps.size:=by simp) (hdd:d < a.tmps.size:=by simp) (hV:(vs[iv]?).join=some (.agg cs.toArray):=by rfl)
    (hzl:zs.length=cs.length:=by rfl) (hone:cs.all (·.oneCell')=true:=by rfl)
    (hfit:((List.range l.length).all fun j=>match dstOf l.toArray j with | some d=>decide (d < a.tmps.size) | none=>true)=true:=by rfl)
    (hall:((List.range l.length).all fun i=>i == n || i == n+1 || (vs[i]?).join.isSome)=true:=by rfl) (hno:(vs[n]?).join=none∧(vs[n+1]?).join=none:=by exact⟨rfl,rfl⟩):(Code.region id l.toArray true).wp P Q a w:=by
 refine wp_region_var (fun i=>((vs[i]?).join).getD undef) n T d sv iv zs cs hm hs hb (noGuardD hg) hln halloc ?_ hiv hdv hds hdd (by simp only[hV];rfl) hz hi hzl hone ?_ ?_
 · obtain⟨o,h1,h2,h3,h4,h5⟩:=hstore;obtain⟨e1,k1,k2,k3⟩:=waits_spec h4;obtain⟨e2,m1,m2,m3⟩:=waits_spec h5;exact⟨o,h1,h2,h3,⟨e1,k1,k2,k3⟩,⟨e2,m1,m2,m3⟩⟩
 · intro listed w1 i o ho hn0 hn1 hdep hx g b K E0 E1 hK;have hil:i < l.length:=(List.getElem?_eq_some_iff.1 ho).1;have hsome:(vs[i]?).join.isSome=true:=by
    have h:=List.all_eq_true.1 hall i (List.mem_range.2 hil);simp only[Bool.or_eq_true,beq_iff_eq]at h
    rcases h with(h | h) | h
    · exact absurd h hn0
    · exact absurd h hn1
    · exact h
   have hst:StepM P Q l vs (fun _ _ _=>True) a w i o:=by
    rcases Nat.lt_or_ge i n with h | h
    · have:=steps_at hs1 i o (take_at ho h)
      rwa [Nat.zero_add]at this
    · have:=steps_at hs2 (i - (n+2)) o (by rw[List.getElem?_drop];rw[show n+2+(i - (n+2))=i by omega];exact ho)
      rwa [show n+2+(i - (n+2))=i by omega]at this
   have hbi:boxW (fun i=>((vs[i]?).join).getD undef) n g i=((vs[i]?).join).getD undef:=by unfold boxW;rw[if_neg hn0,if_neg hn1]
   refine step_of2 (U:=boxW (fun i=>((vs[i]?).join).getD undef) n g) hb hg hfit (fun j u hj=>?_) hsome hst listed w1 ho hdep hx b K E0 E1 (fun w' h=>by rw[hbi];exact hK w' h);unfold boxW
   by_cases h0:j=n
   · subst h0;rw[hno.1]at hj;cases hj
   · by_cases h1:j=n+1
     · subst h1;rw[hno.2]at hj;cases hj
     · rw[if_neg h0,if_neg h1];show((vs[j]?).join).getD undef=u;rw[hj];rfl
 · intro g w1 hx h0 hA;have h:=hend g w1 hx h0 hA;have e:=fillM_all (boxW (fun i=>((vs[i]?).join).getD undef) n g) a l [];simp only[List.nil_append,List.length_nil,Nat.zero_add]at e;rw[← e];exact h
end
theorem refTurn_any(s:Int)(p:Pt)(w:World):Calls Tryz.prog 190 #[.int .i64 s,.agg #[.int .i64 p.x,.int .i64 p.y,.int .i64 p.z]] w fun e w'=>e = .returned (.agg #[.int .i64 (rturnP s 0 p).x,.int .i64 (rturnP s 0 p).y,.int .i64 (rturnP s 0 p).z])∧Ext w w':=by
 have hm:=mixed;have hG:=near_old;obtain⟨W0,hW⟩:∃ W,W=(w.alloc (.cells #[.int .i64 p.x,.int .i64 p.y,.int .i64 p.z] 23)).alloc (.cells #[.int .i64 0,.int .i64 0,.int .i64 0] 23):=⟨_,rfl⟩;have HX:=Lib.hid (show Ext w W0 by rw[hW];exact((Ext.refl w).alloc _).alloc _);have H3:=Lib.hid (show Arr W0 w.heap.size 23 [.int .i64 p.x,.int .i64 p.y,.int .i64 p.z]by rw[hW];exact(Arr.new w 23 [.int .i64 p.x,.int .i64 p.y,.int .i64 p.z]).alloc _);have H4:=Lib.hid (show Arr W0 (w.heap.size+1) 23 [.int .i64 0,.int .i64 0,.int .i64 0]by rw[hW];have h:=Arr.new (w.alloc (.cells #[.int .i64 p.x,.int .i64 p.y,.int .i64 p.z] 23)) 23 [.int .i64 0,.int .i64 0,.int .i64 0];simp only[World.size_alloc_]at h;exact h)
 go_enter Tryz.func190,Tryz.ntmps190
 go_upto_region 1 with fail
 rw[← hW];clear hW
 go_wp2_with (first
  | (refine ldB 23 3 H3.out Tryz.underlying23 ?_) | (refine ldB 23 3 (H3.out.alloc _) Tryz.underlying23 ?_) | (refine ldB 23 3 ((H3.out.alloc _).alloc _) Tryz.underlying23 ?_)
  | (go_at_call 158;refine(turned_any s 0 p _).mono ?_;rintro e W1 ⟨rfl,hx⟩;replace HX:=xEx HX hx;replace H3:=aEx H3 hx;replace H4:=aEx H4 hx;clear hx)
  | (refine wpList_store_blk2 23 (.tmp 4) (.tmp 7) rfl rfl H4.out [.int .i64 (rturnP s 0 p).x,.int .i64 (rturnP s 0 p).y,.int .i64 (rturnP s 0 p).z] rfl rfl (by kernel_rfl) rfl rfl rfl ?_;intro W2 hW;replace HX:=xRow HX hW (by omega);replace H3:=aRow H3 hW (by omega);replace H4:=nRow H4 hW;clear hW))
 refine bodyPost_ret (v:=.agg #[.int .i64 (rturnP s 0 p).x,.int .i64 (rturnP s 0 p).y,.int .i64 (rturnP s 0 p).z]) ?_ rfl ⟨rfl,HX.out⟩;exact results_cell_row Tryz.results190 _ _ _ _ _ _ _ rfl H4.out Tryz.underlying23 rfl (by kernel_rfl)
theorem refmark_any(w:World):Calls Tryz.prog 191 #[] w fun e w'=>e = .returned (.agg #[.int .i64 markP.x,.int .i64 markP.y,.int .i64 markP.z])∧Ext w w':=by
 have hm:=mixed;have hG:=near_old;obtain⟨W0,hW⟩:∃ W,W=w.alloc (.cells #[.int .i64 0,.int .i64 0,.int .i64 0] 23):=⟨_,rfl⟩;have HX:=Lib.hid (show Ext w W0 by rw[hW];exact(Ext.refl w).alloc _);have H0:=Lib.hid (show Arr W0 w.heap.size 23 [.int .i64 0,.int .i64 0,.int .i64 0]by rw[hW];exact Arr.new w 23 [.int .i64 0,.int .i64 0,.int .i64 0])
 go_enter Tryz.func191,Tryz.ntmps191
 go_upto_region 1 with fail
 rw[← hW];clear hW
 go_wp2_with (first
  | (refine wpList_store_blk2 23 (.tmp 0) (.tmp 1) rfl rfl H0.out [.int .i64 1,.int .i64 2,.int .i64 3] rfl rfl (by kernel_rfl) rfl rfl rfl ?_;intro W1 hW;replace HX:=xRow HX hW (by omega);replace H0:=nRow H0 hW;clear hW))
 refine bodyPost_ret (v:=.agg #[.int .i64 1,.int .i64 2,.int .i64 3]) ?_ rfl ⟨rfl,HX.out⟩;exact results_cell_row Tryz.results191 _ _ _ _ _ _ _ rfl H0.out Tryz.underlying23 rfl (by kernel_rfl)
theorem refCompose_any(a b:Int)(ha:0≤a∧a < 48)(hb:0≤b∧b < 48)(w:World):Calls Tryz.prog 189 #[.int .i64 a,.int .i64 b] w fun e w'=>∃ r:Int,e = .returned (.int .i64 r)∧(r=0↔twoP a b=markP)∧Ext w w':=by
 have hm:=mixed;have hG:=near_old;have HIa:=Lib.hid (show ∀ W:World,Calls Tryz.prog 136 #[.int .i64 a] W fun e w'=>e = .returned (.bool true)∧Ext W w' by intro W;have h:=refis_any a W;rw[show isT a=true by unfold isT;rw[decide_eq_true ha]]at h;exact h);have HIb:=Lib.hid (show ∀ W:World,Calls Tryz.prog 136 #[.int .i64 b] W fun e w'=>e = .returned (.bool true)∧Ext W w' by intro W;have h:=refis_any b W;rw[show isT b=true by unfold isT;rw[decide_eq_true hb]]at h;exact h);have hf:=two_found a.toNat (by omega) b.toNat (by omega);rw[Int.toNat_of_nonneg ha.1,Int.toNat_of_nonneg hb.1]at hf;obtain⟨s0,hs0,he0,hn0⟩:=first_with _ 48 hf;rw[decide_eq_true_eq]at he0;have HT1:=Lib.hid (refTurn_any b markP);have HT2:=Lib.hid (refTurn_any a (rturnP b 0 markP));have HTk:=Lib.hid (fun k:Nat=>refTurn_any (k:Int) markP);have HZ:(s0:Int)=0↔twoP a b=markP:=by
  constructor
  · intro h;have h1:s0=0:=by omega
    subst h1;rw[← he0];exact turn_zero
  · intro h
    by_cases h1:s0=0
    · omega
    · have h2:=hn0 0 (by omega);rw[decide_eq_false_iff_not]at h2;exact absurd (turn_zero.trans h.symm) h2
 have HZ:=Lib.hid HZ;have hx0:twoP a b=rturnP a 0 (rturnP b 0 markP):=rfl;rw[← hx0]at HT2;generalize twoP a b=X at HT2 he0 hn0 HZ;clear hx0;generalize rturnP b 0 markP=q at HT1 HT2;have HN:=Lib.hid hn0;have HE:=Lib.hid he0;have hs1:(s0:Int) < 48:=by omega
 clear hf ha hb hn0 he0 hs0
 go_enter Tryz.func189,Tryz.ntmps189
 go_upto_region 5 with(first
  | (go_at_call 136;refine(HIa.out _).mono ?_;rintro e W1 ⟨rfl,hx⟩;have HX1:=Lib.hid hx;clear hx)
  | (go_at_call 136;refine(HIb.out _).mono ?_;rintro e W2 ⟨rfl,hx⟩;have HX2:=Lib.hid (HX1.out.trans hx);clear hx))
 go_upto_region 6 with(first
  | (go_at_call 191;refine(refmark_any _).mono ?_;rintro e W3 ⟨rfl,hx⟩;have HX3:=Lib.hid (HX2.out.trans hx);clear hx)
  | (go_at_call 190;with_reducible refine(HT1.out _).mono ?_;(rintro e W4 ⟨rfl,hx⟩;have HX4:=Lib.hid (HX3.out.trans hx);clear hx))
  | (go_at_call 190;with_reducible refine(HT2.out _).mono ?_;(rintro e W5 ⟨rfl,hx⟩;have HX5:=Lib.hid (HX4.out.trans hx);clear hx))
  | (refine wpList_store_blk2 23 (.tmp 7) (.tmp 23) rfl rfl (Arr.new W5 23 [.int .i64 0,.int .i64 0,.int .i64 0]) [.int .i64 X.x,.int .i64 X.y,.int .i64 X.z] rfl rfl (by kernel_rfl) rfl rfl rfl ?_;intro W6 hW;have HX6:=Lib.hid (show Ext w W6 by rw[hW];exact(HX5.out.alloc _).setRow (g:=W5.heap.size) HX5.out.size _);have H7:=Lib.hid (show Arr W6 W5.heap.size 23 [.int .i64 X.x,.int .i64 X.y,.int .i64 X.z]by rw[hW];exact(Arr.new W5 _ _).setRow _);clear hW))
 obtain⟨b7,hb7⟩:∃ n,n=W5.heap.size:=⟨_,rfl⟩;rw[← hb7]at H7 ⊢;clear hb7
 go_upto_region 7 with fail
 go_loopw [8] (fun i wr=>∃ k:Nat,k≤s0∧i = .int .i64 (k:Int)∧Arr wr b7 23 [.int .i64 X.x,.int .i64 X.y,.int .i64 X.z]∧Ext w wr) (fun i _=>s0 - (intOf i).toNat)
 case atStart=>exact⟨0,Nat.zero_le _,rfl,H7.out,HX6.out⟩
 case round=>
  obtain⟨k,hk,rfl,hA,hx⟩:=hrel;have HA:=Lib.hid hA;have HXk:=Lib.hid hx;have HTK:=Lib.hid (HTk.out k);obtain⟨tk,htk⟩:∃ tk,rturnP (k:Int) 0 markP=tk:=⟨_,rfl⟩;have hne:=neqPt2_run tk X;have HK:(k=s0∧tk=X)∨(k < s0∧tk≠X):=by
   by_cases h:k=s0
   · subst h;exact .inl ⟨rfl,htk.symm.trans HE.out⟩
   · have h1:k < s0:=by omega
     exact .inr ⟨h1,by have h2:=HN.out k h1;rw[decide_eq_false_iff_not,htk]at h2;exact h2⟩
  rw[htk]at HTK;clear htk hA hx
  rcases HK with⟨hks,hq⟩ | ⟨hks,hq⟩
  · rw[show decide (tk≠X)=false by rw[decide_eq_false_iff_not];exact fun h=>h hq]at hne;clear hq
    go_upto_region 7 with fail
    refine wp_region_rel (fun i v w'=>match i with
        | 0=>v = .int .i64 (k:Int)
        | 1=>v = .agg #[.int .i64 markP.x,.int .i64 markP.y,.int .i64 markP.z]
        | 2=>v = .agg #[.int .i64 tk.x,.int .i64 tk.y,.int .i64 tk.z]
        | 3=>v = .agg #[.int .i64 X.x,.int .i64 X.y,.int .i64 X.z]
        | 4=>v = .bool false
        | _=>True) hm (by kernel_rfl) (by kernel_rfl) rfl ?_ ?_ ?_
    · intro i v w1 w2 hx h
      match i,h with
      | 0,h=>exact h
      | 1,h=>exact h
      | 2,h=>exact h
      | 3,h=>exact h
      | 4,h=>exact h
      | i+5,h=>exact h
    · intro i o ho b w1 hx hmiss hdep K hK
      match i,ho with
      | 0,ho=>
        obtain rfl:=Option.some.inj ho;have e8:b.tmps[8]? = some (.int .i64 (k:Int)):=hmiss 8 rfl;refine want_none rfl ?_;exact op_move rfl (eval_of e8) (hK _ w1 (Ext.refl _) rfl)
      | 1,ho=>
        obtain rfl:=Option.some.inj ho;refine want_none rfl ?_;have hc:Calls Tryz.prog 191 #[] w1 fun e w'=>∃ v,e = .returned v∧Ext w1 w'∧(v = .agg #[.int .i64 markP.x,.int .i64 markP.y,.int .i64 markP.z]):=(refmark_any w1).mono fun e w2 ⟨h1,h2⟩=>⟨_,h1,h2,rfl⟩;exact op_call (G:=fun v w'=>v = .agg #[.int .i64 markP.x,.int .i64 markP.y,.int .i64 markP.z]) (vs:=#[]) rfl (by simp) (fun _ _=>by kernel_rfl) hc (fun v w' h1 h2=>hK v w' h1 h2)
      | 2,ho=>
        obtain rfl:=Option.some.inj ho;obtain⟨v24,g24,e24⟩:=hdep 0 rfl;have g24:v24 = .int .i64 (k:Int):=g24;subst g24;have e24:=e24 24 rfl;obtain⟨v25,g25,e25⟩:=hdep 1 rfl;obtain rfl:=g25;have e25:=e25 25 rfl;refine want_none rfl ?_;have hc:Calls Tryz.prog 190 #[.int .i64 (k:Int),.agg #[.int .i64 markP.x,.int .i64 markP.y,.int .i64 markP.z]] w1 fun e w'=>∃ v,e = .returned v∧Ext w1 w'∧(v = .agg #[.int .i64 tk.x,.int .i64 tk.y,.int .i64 tk.z]):=(HTK.out w1).mono fun e w2 ⟨h1,h2⟩=>⟨_,h1,h2,rfl⟩;exact op_call (G:=fun v w'=>v = .agg #[.int .i64 tk.x,.int .i64 tk.y,.int .i64 tk.z]) rfl (by simp[eval_of e24,eval_of e25]) (fun _ _=>by kernel_rfl) hc (fun v w' h1 h2=>hK v w' h1 h2)
      | 3,ho=>
        obtain rfl:=Option.some.inj ho;have e7:b.tmps[7]? = some (.pointer (some ⟨b7,0,none⟩)):=hmiss 7 rfl;refine want_none rfl ?_;exact op_loadrow rfl (eval_of e7) (HA.out.ext hx) _ Tryz.underlying23 rfl (by kernel_rfl) (hK _ w1 (Ext.refl _) rfl)
      | 4,ho=>
        obtain rfl:=Option.some.inj ho;obtain⟨v26,g26,e26⟩:=hdep 2 rfl;obtain rfl:=g26;have e26:=e26 26 rfl;obtain⟨v27,g27,e27⟩:=hdep 3 rfl;have g27:v27 = .agg #[.int .i64 X.x,.int .i64 X.y,.int .i64 X.z]:=g27;subst g27;have e27:=e27 27 rfl;refine want_none rfl ?_;exact op_run (by unfold execOp;simp[e26,e27,Act.eval,go_sem,hne]) (hK _ w1 (Ext.refl _) rfl)
      | i+5,ho=>cases ho
    · intro V w9 hx hg;have g0:V 0 = .int .i64 (k:Int):=hg 0 (by decide);have g3:V 3 = .agg #[.int .i64 X.x,.int .i64 X.y,.int .i64 X.z]:=hg 3 (by decide);have g4:V 4 = .bool false:=hg 4 (by decide);have g1:=hg 1 (by decide);have g2:=hg 2 (by decide);simp only[List.length_cons,List.length_nil,fillAllN,dstOf,Act.put,List.getElem?_toArray,List.getElem?_cons_zero,List.getElem?_cons_succ,Option.bind_some,g0,g3,g4,List.setIfInBounds_toArray,List.set_cons_zero,List.set_cons_succ];clear g0 g3 g4 hg
      go_wp2_with fail
      have HZ2:=HZ.out;have hx9:=HXk.out.trans hx;go_ret
      exact⟨_,rfl,HZ2,hx9⟩
  · rw[show decide (tk≠X)=true by rw[decide_eq_true_eq];exact hq]at hne;clear hq
    go_upto_region 7 with fail
    refine wp_region_rel (fun i v w'=>match i with
        | 0=>v = .int .i64 (k:Int)
        | 1=>v = .agg #[.int .i64 markP.x,.int .i64 markP.y,.int .i64 markP.z]
        | 2=>v = .agg #[.int .i64 tk.x,.int .i64 tk.y,.int .i64 tk.z]
        | 3=>v = .agg #[.int .i64 X.x,.int .i64 X.y,.int .i64 X.z]
        | 4=>v = .bool true
        | _=>True) hm (by kernel_rfl) (by kernel_rfl) rfl ?_ ?_ ?_
    · intro i v w1 w2 hx h
      match i,h with
      | 0,h=>exact h
      | 1,h=>exact h
      | 2,h=>exact h
      | 3,h=>exact h
      | 4,h=>exact h
      | i+5,h=>exact h
    · intro i o ho b w1 hx hmiss hdep K hK
      match i,ho with
      | 0,ho=>
        obtain rfl:=Option.some.inj ho;have e8:b.tmps[8]? = some (.int .i64 (k:Int)):=hmiss 8 rfl;refine want_none rfl ?_;exact op_move rfl (eval_of e8) (hK _ w1 (Ext.refl _) rfl)
      | 1,ho=>
        obtain rfl:=Option.some.inj ho;refine want_none rfl ?_;have hc:Calls Tryz.prog 191 #[] w1 fun e w'=>∃ v,e = .returned v∧Ext w1 w'∧(v = .agg #[.int .i64 markP.x,.int .i64 markP.y,.int .i64 markP.z]):=(refmark_any w1).mono fun e w2 ⟨h1,h2⟩=>⟨_,h1,h2,rfl⟩;exact op_call (G:=fun v w'=>v = .agg #[.int .i64 markP.x,.int .i64 markP.y,.int .i64 markP.z]) (vs:=#[]) rfl (by simp) (fun _ _=>by kernel_rfl) hc (fun v w' h1 h2=>hK v w' h1 h2)
      | 2,ho=>
        obtain rfl:=Option.some.inj ho;obtain⟨v24,g24,e24⟩:=hdep 0 rfl;have g24:v24 = .int .i64 (k:Int):=g24;subst g24;have e24:=e24 24 rfl;obtain⟨v25,g25,e25⟩:=hdep 1 rfl;obtain rfl:=g25;have e25:=e25 25 rfl;refine want_none rfl ?_;have hc:Calls Tryz.prog 190 #[.int .i64 (k:Int),.agg #[.int .i64 markP.x,.int .i64 markP.y,.int .i64 markP.z]] w1 fun e w'=>∃ v,e = .returned v∧Ext w1 w'∧(v = .agg #[.int .i64 tk.x,.int .i64 tk.y,.int .i64 tk.z]):=(HTK.out w1).mono fun e w2 ⟨h1,h2⟩=>⟨_,h1,h2,rfl⟩;exact op_call (G:=fun v w'=>v = .agg #[.int .i64 tk.x,.int .i64 tk.y,.int .i64 tk.z]) rfl (by simp[eval_of e24,eval_of e25]) (fun _ _=>by kernel_rfl) hc (fun v w' h1 h2=>hK v w' h1 h2)
      | 3,ho=>
        obtain rfl:=Option.some.inj ho;have e7:b.tmps[7]? = some (.pointer (some ⟨b7,0,none⟩)):=hmiss 7 rfl;refine want_none rfl ?_;exact op_loadrow rfl (eval_of e7) (HA.out.ext hx) _ Tryz.underlying23 rfl (by kernel_rfl) (hK _ w1 (Ext.refl _) rfl)
      | 4,ho=>
        obtain rfl:=Option.some.inj ho;obtain⟨v26,g26,e26⟩:=hdep 2 rfl;obtain rfl:=g26;have e26:=e26 26 rfl;obtain⟨v27,g27,e27⟩:=hdep 3 rfl;have g27:v27 = .agg #[.int .i64 X.x,.int .i64 X.y,.int .i64 X.z]:=g27;subst g27;have e27:=e27 27 rfl;refine want_none rfl ?_;exact op_run (by unfold execOp;simp[e26,e27,Act.eval,go_sem,hne]) (hK _ w1 (Ext.refl _) rfl)
      | i+5,ho=>cases ho
    · intro V w9 hx hg;have g0:V 0 = .int .i64 (k:Int):=hg 0 (by decide);have g3:V 3 = .agg #[.int .i64 X.x,.int .i64 X.y,.int .i64 X.z]:=hg 3 (by decide);have g4:V 4 = .bool true:=hg 4 (by decide);have g1:=hg 1 (by decide);have g2:=hg 2 (by decide);simp only[List.length_cons,List.length_nil,fillAllN,dstOf,Act.put,List.getElem?_toArray,List.getElem?_cons_zero,List.getElem?_cons_succ,Option.bind_some,g0,g3,g4,List.setIfInBounds_toArray,List.set_cons_zero,List.set_cons_succ];clear g0 g3 g4 hg;have HX9:=Lib.hid (HXk.out.trans hx);have HA9:=Lib.hid (HA.out.ext hx);clear hx
      go_wp2_with fail
      go_roundw
      case rel=>exact⟨k+1,by omega,by simp,HA9.out,HX9.out⟩
      case measure=>simp[intOf];omega
theorem refInvert_any(s:Int)(hs:0≤s∧s < 48)(w:World):Calls Tryz.prog 187 #[.int .i64 s] w fun e w'=>e = .returned (.int .i64 (invI s))∧Ext w w':=by
 have HI:=Lib.hid (show ∀ W:World,Calls Tryz.prog 136 #[.int .i64 s] W fun e w'=>e = .returned (.bool true)∧Ext W w' by intro W;have h:=refis_any s W;rw[show isT s=true by unfold isT;rw[decide_eq_true hs]]at h;exact h);have hf:=inv_spec s.toNat (by omega);have hi:invI s=(invN s.toNat:Nat):=rfl;rw[hi];rw[Int.toNat_of_nonneg hs.1]at hf;generalize invN s.toNat=t0 at hf ⊢;clear hi;obtain⟨⟨ht0,he0⟩,hn0⟩:=hf;have HN:=Lib.hid hn0;have HE:=Lib.hid he0;have HC:=Lib.hid (fun(k:Nat) (h:k < 48)=>refCompose_any (k:Int) s (by omega) hs);clear he0 hn0;have hs48:=hs.2;clear hs
 go_enter Tryz.func187,Tryz.ntmps187
 go_upto_region 5 with(go_at_call 136;refine(HI.out _).mono ?_;rintro e W1 ⟨rfl,hx⟩;have HX1:=Lib.hid hx;clear hx)
 go_loopw [4] (fun i wr=>∃ k:Nat,k≤t0∧i = .int .i64 (k:Int)∧Ext w wr) (fun i _=>t0 - (intOf i).toNat)
 case atStart=>exact⟨0,Nat.zero_le _,rfl,HX1.out⟩
 case round=>
  obtain⟨k,hk,rfl,hx⟩:=hrel;have HXk:=Lib.hid hx;clear hx;have HCk:=Lib.hid (HC.out k (by omega))
  by_cases h:k=t0
  · have HC0:=Lib.hid (show ∀ W:World,Calls Tryz.prog 189 #[.int .i64 (k:Int),.int .i64 s] W fun e w'=>e = .returned (.int .i64 0)∧Ext W w' from fun W=>(HCk.out W).mono fun e w' ⟨r,h1,h2,h3⟩=>⟨by rw[h1,h2.2 (by rw[h];exact HE.out)],h3⟩);have HR:=Lib.hid h;clear h HCk HC hk
    go_wp2_with (go_at_call 189;refine(HC0.out _).mono ?_;rintro e W2 ⟨rfl,hx⟩;have HX2:=Lib.hid (HXk.out.trans hx);clear hx)
    go_ret
    exact⟨ret_int (by rw[HR.out]),HX2.out⟩
  · have hlt:k < t0:=by omega
    have HC1:=Lib.hid (show ∀ W:World,Calls Tryz.prog 189 #[.int .i64 (k:Int),.int .i64 s] W fun e w'=>∃ r:Int,e = .returned (.int .i64 r)∧¬ r=0∧Ext W w' from fun W=>(HCk.out W).mono fun e w' ⟨r,h1,h2,h3⟩=>⟨r,h1,fun h0=>of_decide_eq_false (HN.out k (by omega) hlt) (h2.1 h0),h3⟩);clear h HCk HC hk
    go_wp2_with (go_at_call 189;refine(HC1.out _).mono ?_;rintro e W2 ⟨r,rfl,hr0,hx⟩;have HX2:=Lib.hid (HXk.out.trans hx);clear hx)
    go_roundw
    case rel=>exact⟨k+1,by omega,by simp,HX2.out⟩
    case measure=>simp[intOf];omega
end Go.Proofs.YtoecbicdahbccaaGreatDoor
