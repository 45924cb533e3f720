/- A part of the walk of the layer of apply: contracts and plain laws that a row's text leans on. -/
import Derived.Test.YtoecbicdahbccaaGreatDoorZa11
set_option maxRecDepth 100000
set_option maxHeartbeats 16000000
namespace Go.Proofs.YtoecbicdahbccaaGreatDoor
open Go Go.RowKit
section
variable {P:Program}
theorem wp_region_last2{Q:Exit→Act→World→Prop}{id:Nat}{a:Act}{w:World}{l:List Oper}(J dJ:Nat)(Good:Nat→Value→World→Prop)(GV:Nat→Value→Prop)(Post:Value→World→Prop)(hm:P.follows .mixedOrders=true)(hs:slotsB l.toArray=true)(hb:backB2 l.toArray=true)
    (hfit:((List.range l.length).all fun j=>match dstOf l.toArray j with | some d=>decide (d < a.tmps.size) | none=>true)=true) (hJl:l.length=J+2) (hneed:((List.range J).all fun i=>needB l.toArray l.length J i)=true) (hneed2:needB l.toArray l.length (J+1) J=true)
    (hdJ:dstOf l.toArray J=some dJ) (hasg:∃ o,l[J+1]? = some o∧o.op = .assign (.tmp dJ)∧o.guard=none)
    (hst:∀ i v w1 w2,Ext w1 w2→Good i v w1→Good i v w2) (hGV:∀ i v w1,Good i v w1→GV i v)
    (hstep:∀ (i:Nat) (o:Oper),l[i]? = some o→i < J→∀ (b:Act) (w1:World),Ext w w1→(∀ d:Nat,missB (l.take J).toArray d=true→b.tmps[d]? = a.tmps[d]?)→
      (∀ j,waits o j=true→∃ v,Good j v w1∧∀ d,dstOf l.toArray j=some d→b.tmps[d]? = some v)→
      ∀ K:Act→World→Prop,(∀ v w',Ext w1 w'→Good i v w'→K (b.put o.dst v) w')→if Region.wanted o (yielded l.toArray b.tmps)=true then o.wp P b w1 K Q else K (b.put o.dst undef) w1)
    (hlast:∀ (o:Oper),l[J]? = some o→∀ (b:Act) (w1:World),Ext w w1→(∀ d:Nat,missB l.toArray d=true→b.tmps[d]? = a.tmps[d]?)→
      (∀ j,j < J→∃ v,Good j v w1∧∀ d,dstOf l.toArray j=some d→b.tmps[d]? = some v)→
      ∀ K:Act→World→Prop,(∀ v w',Post v w'→K (b.put o.dst v) w')→if Region.wanted o (yielded l.toArray b.tmps)=true then o.wp P b w1 K Q else K (b.put o.dst undef) w1)
    (hend:∀ (V:Nat→Value) (w1:World),(∀ i,i < J→GV i (V i))→Post (V J) w1→V (J+1)=V J→Q .normal (fillAllN l.toArray V a l.length) w1):(Code.region id l.toArray true).wp P Q a w:=by
 have hS:=slotsB_spec hs;have hB:=backB2_spec hb;rw[List.all_eq_true]at hneed hfit;have hslot:∀ (listed:Array Bool) (g:Nat→Value) (j:Nat),j < l.length→listed.getD j true=true→∀ d,dstOf l.toArray j=some d→(fill l.toArray g listed a).tmps[d]? = some (g j):=fun listed g j hj hl d hd=>by
  refine fill_hit hS (by simpa using hj) hl hd ?_;have h3:=hfit j (List.mem_range.2 hj);rw[hd]at h3;simpa using h3
 refine wp_region_tabg2 (G:=Nat→Value) (fun g=>g) (fun w listed g w1=>ClosedL l.toArray listed∧(∀ i,i < J→listed.getD i true=true→GV i (g i))∧(listed.getD J true=false→Ext w w1∧∀ i,i < J→listed.getD i true=true→Good i (g i) w1)∧(listed.getD J true=true→Post (g J) w1)∧(listed.getD (J+1) true=true→g (J+1)=g J)) (fun _=>undef) hm hS hB ?_ ?_ ?_
 · have h0:∀ k,k < l.length→(Array.replicate l.length false).getD k true=false:=fun k hk=>by simp[Array.getD,hk]
   refine⟨fun j o ho h=>?_,fun i hi h=>?_,fun _=>⟨(Ext.refl _).drew,fun i hi h=>?_⟩,fun h=>?_,fun h=>?_⟩
   · have hj:=(Array.getElem?_eq_some_iff.1 ho).1;rw[h0 j (by simpa using hj)]at h
     cases h
   · rw[h0 i (by omega)]at h;cases h
   · rw[h0 i (by omega)]at h;cases h
   · rw[h0 J (by omega)]at h;cases h
   · rfl
 · intro listed g w1 i o ho hun hdep hR K hK;have hil:i < l.length:=(List.getElem?_eq_some_iff.1 ho).1;have hc:=closed_set hR.1 ho hun (fun e he hbd=>getD_up (hdep e he hbd));have hmiss:∀ d:Nat,missB l.toArray d=true→(fill l.toArray g listed a).tmps[d]? = a.tmps[d]?:=fun d hd=>fill_miss (fun i hi _=>missB_spec hd i hi);have hself:(listed.setIfInBounds i true).getD i true=true:=by
    simp only[Array.getD]
    split <;> simp
   by_cases hiJ1:i=J+1
   · subst hiJ1;have hJt:listed.getD J true=true:=by
      have h1:=need_done hc _ _ _ hneed2 hself
      rwa [getD_set_ne true (by omega)]at h1
     obtain⟨o2,ho2,hop,hgd⟩:=hasg;rw[ho]at ho2;injection ho2 with ho2
     subst ho2;have hv:=hslot listed g J (by omega) hJt dJ hdJ;refine want_none hgd (op_assign hop (eval_of hv) ?_);have h:=hK (fun k=>if k=J+1 then g J else g k) w1 ⟨hc,fun j hj hl=>?_,fun hf=>?_,fun _=>?_,fun _=>?_⟩ (fun j hj hl=>?_)
     · simpa using h
     · simp only[if_neg (show j≠J+1 by omega)];rw[getD_set_ne true (by omega)]at hl;exact hR.2.1 j hj hl
     · rw[getD_set_ne true (by omega),hJt]at hf;cases hf
     · simp only[if_neg (show J≠J+1 by omega)];exact hR.2.2.2.1 hJt
     · simp only[if_neg (show J≠J+1 by omega),if_pos]
     · have hne:j≠J+1:=fun e=>by subst e;rw[hl]at hun;cases hun
       simp only[if_neg hne]
   have hJ1f:listed.getD (J+1) true=true→False:=fun hq=>by
    rcases (show i=J∨i < J by omega)with e | e
    · subst e;have h1:=need_done hR.1 _ _ _ hneed2 hq;rw[hun]at h1;cases h1
    · have h1:=need_done hR.1 _ _ _ hneed2 hq;have h2:=need_done hR.1 _ _ _ (hneed i (List.mem_range.2 e)) h1;rw[hun]at h2;cases h2
   by_cases hiJ:i=J
   · subst hiJ;obtain⟨hx,hg⟩:=hR.2.2.1 hun;have hall:∀ j,j < i→listed.getD j true=true:=fun j hj=>by
      have h1:=need_done hc _ _ _ (hneed j (List.mem_range.2 hj)) hself
      rwa [getD_set_ne true (by omega)]at h1
     refine hlast o ho (fill l.toArray g listed a) w1 hx hmiss (fun j hj=>⟨g j,hg j hj (hall j hj),hslot listed g j (by omega) (hall j hj)⟩) K (fun v w' hp=>?_);have h:=hK (fun k=>if k=i then v else g k) w' ⟨hc,fun j hj hl=>?_,fun hf=>?_,fun _=>?_,fun hq=>?_⟩ (fun j hj hl=>?_)
     · simpa using h
     · simp only[if_neg (show j≠i by omega)];exact hR.2.1 j hj (hall j hj)
     · rw[hself]at hf;cases hf
     · simpa using hp
     · rw[getD_set_ne true (by omega)]at hq;exact(hJ1f hq).elim
     · have hne:j≠i:=fun e=>by subst e;rw[hl]at hun;cases hun
       simp only[if_neg hne]
   · have hiJ2:i < J:=by omega
     have hJf:listed.getD J true=false:=by
      cases hq:listed.getD J true
      · rfl
      · have h1:=need_done hR.1 _ _ _ (hneed i (List.mem_range.2 hiJ2)) hq;rw[hun]at h1
        cases h1
     obtain⟨hx,hg⟩:=hR.2.2.1 hJf;have hJ1:listed.getD (J+1) true=false:=by
      cases hq:listed.getD (J+1) true
      · rfl
      · exact(hJ1f hq).elim
     have hmiss2:∀ d:Nat,missB (l.take J).toArray d=true→(fill l.toArray g listed a).tmps[d]? = a.tmps[d]?:=fun d hd=>fill_miss (fun k hk hl=>by
      rcases (show k < J∨k=J∨k=J+1 by simp at hk;omega)with e | e | e
      · have h1:=missB_spec hd k (by simp;omega);intro h2;apply h1;rw[← h2];simp[dstOf,e]
      · subst e;rw[hJf]at hl;cases hl
      · subst e;rw[hJ1]at hl;cases hl)
     refine hstep i o ho hiJ2 (fill l.toArray g listed a) w1 hx hmiss2 (fun j hj=>?_) K (fun v w' hx1 hgd=>?_)
     · obtain⟨e,he,rfl,hbd⟩:=waits_spec hj;have h1:=getD_up (hdep e he hbd);have h2:e.on < i:=hB i o (by simpa using ho) e he hbd;exact⟨g e.on,hg _ (by omega) h1,hslot listed g _ (by omega) h1⟩
     · have h:=hK (fun k=>if k=i then v else g k) w' ⟨hc,fun j hj hl=>?_,fun hf=>⟨hx.trans hx1,fun j hj hl=>?_⟩,fun hl=>?_,fun hl=>?_⟩ (fun j hj hl=>?_)
       · simpa using h
       · by_cases hji:j=i
         · subst hji;simpa using hGV _ _ _ hgd
         · simp only[if_neg hji];rw[getD_set_ne true (Ne.symm hji)]at hl;exact hR.2.1 j hj hl
       · by_cases hji:j=i
         · subst hji;simpa using hgd
         · simp only[if_neg hji];rw[getD_set_ne true (Ne.symm hji)]at hl;exact hst _ _ _ _ hx1 (hg j hj hl)
       · rw[getD_set_ne true hiJ]at hl;rw[hJf]at hl
         cases hl
       · rw[getD_set_ne true hiJ1]at hl;exact(hJ1f hl).elim
       · have hne:j≠i:=fun e=>by subst e;rw[hl]at hun;cases hun
         simp only[if_neg hne]
 · intro listed g w1 hall hR;rw[fill_done hall];exact hend g w1 (fun i hi=>hR.2.1 i hi (hall i (by omega))) (hR.2.2.2.1 (hall J (by omega))) (hR.2.2.2.2 (hall (J+1) (by omega)))
section
variable {Q:Exit→Act→World→Prop} {l:List Oper} {vs:List (Option Value)} {a:Act} {w:World}
theorem wp_region_app1{id:Nat}(vs:List (Option Value))(n T e s y d dJ is_ iy:Nat)(x zs:List Value){base m k bytes:Nat}{z v:Value}(hm:P.follows .mixedOrders=true)
    (ho:w.ownsRow base e k v m zs) (hbw:base≤w.heap.size) (hi:(P.info? e).map (fun i=>(i.zero,i.size,i.bytes))=some (some z,k,bytes)) (hu:P.underlying T=some (.slice e)) (hmm:m+1≤1000000)
    (hsteps:StepsM P Q (l.take (n+1)) vs (fun _ _ _=>True) a w 0 (l.take n))
    (hend:∀ (g:Nat) v' w1 w2,Ext w w1→w1.grownBy w2 v.ownBlock→w2.ownsRow base e k v' (m+1) (zs++x)→(v'.ownBlock=v.ownBlock∨∀ b,v'.ownBlock=some b→w.heap.size≤b)→Q .normal (fillM l (fun i=>if i < n then((vs[i]?).join).getD undef else if i=n then .slice (some ⟨g,0,none⟩) 1 1 else v') 0 a) w2)
    (hs:slotsB l.toArray=true:=by kernel_rfl) (hb:backB2 l.toArray=true:=by kernel_rfl) (hg:(l.all fun o=>o.guard.isNone)=true:=by kernel_rfl) (hln:l.length=n+3:=by rfl)
    (hvall0:((List.range n).all fun i=>(vs[i]?).join.isSome)=true:=by rfl)
    (hneed:((List.range (n+1)).all fun i=>needB l.toArray l.length (n+1) i)=true:=by kernel_rfl) (hneed2:needB l.toArray l.length (n+2) (n+1)=true:=by kernel_rfl)
    (h1:∃ o,l[n]? = some o∧o.op = .buildSlice T 1 #[(0,.tmp s)]∧o.dst=some d∧waits o is_=true:=by exact⟨_,rfl,rfl,rfl,rfl⟩)
    (h2:∃ o,l[n+1]? = some o∧o.op = .call {callee:=.builtin .append,args:=#[.tmp y,.tmp d],argTypes:=#[T,T] }∧o.dst=some dJ:=by exact⟨_,rfl,rfl,rfl⟩)
    (h3:∃ o,l[n+2]? = some o∧o.op = .assign (.tmp dJ):=by exact⟨_,rfl,rfl⟩)
    (his:is_ < n:=by decide) (hiy:iy < n:=by decide) (hds:dstOf l.toArray is_=some s:=by rfl) (hdy:dstOf l.toArray iy=some y:=by rfl)
    (hvs:(vs[is_]?).join=some (.agg x.toArray):=by rfl) (hvy:(vs[iy]?).join=some v:=by rfl)
    (hx:x.length=k:=by rfl) (hx1:x.all (·.oneCell')=true:=by rfl) (hk:0 < k:=by decide) (hk2:k≤1000:=by decide) (hzs:z.cells.size=k:=by rfl) (hbt:bytes≤1000:=by decide)
    (hfit:((List.range l.length).all fun j=>match dstOf l.toArray j with | some d=>decide (d < a.tmps.size) | none=>true)=true:=by rfl):(Code.region id l.toArray true).wp P Q a w:=by
 have hvall:∀ j,j < n→∃ u,(vs[j]?).join=some u:=fun j hj=>by
  have:=List.all_eq_true.1 hvall0 j (List.mem_range.2 hj)
  cases hq:(vs[j]?).join with
  | none=>rw[hq]at this;cases this
  | some u=>exact⟨u,rfl⟩
 obtain⟨ob,hob,hopb,hdb,hwb⟩:=h1;obtain⟨oa,hoa,hopa,hda⟩:=h2;obtain⟨oz,hoz,hopz⟩:=h3;obtain⟨i0,hi0,hz0,hz1,hz2⟩:=info_parts hi;have hgd:∀ (i:Nat) (o:Oper),l[i]? = some o→o.guard=none:=noGuardD hg;refine wp_region_last2 (n+1) dJ (fun i v1 w1=>if i < n then GdM vs (fun _ _ _=>True) i v1 w1 else ∃ g,v1 = .slice (some ⟨g,0,none⟩) 1 1∧w.heap.size≤g∧Arr w1 g e x) (fun i v1=>if i < n then(∀ u,(vs[i]?).join=some u→v1=u)else ∃ g,v1 = .slice (some ⟨g,0,none⟩) 1 1)
  (fun v' w2=>∃ w1,Ext w w1∧w1.grownBy w2 v.ownBlock∧w2.ownsRow base e k v' (m+1) (zs++x)∧(v'.ownBlock=v.ownBlock∨∀ b,v'.ownBlock=some b→w.heap.size≤b)) hm hs hb hfit (by omega) hneed hneed2 (by simp[dstOf,hoa,hda]) ⟨oz,hoz,hopz,hgd _ _ hoz⟩ ?_ ?_ ?_ ?_ ?_
 · intro i v1 w1 w2 hx2 h
   split at h
   · rename_i hin
     rw[if_pos hin];unfold GdM at *
     split
     · rename_i u hu2;rw[hu2]at h;exact h
     · trivial
   · rename_i hin
     rw[if_neg hin];obtain⟨g,e1,e2,e3⟩:=h;exact⟨g,e1,e2,e3.ext hx2⟩
 · intro i v1 w1 h
   split at h
   · rename_i hin
     rw[if_pos hin];intro u hu2;unfold GdM at h;rw[hu2]at h;exact h
   · rename_i hin
     rw[if_neg hin];obtain⟨g,e1,_⟩:=h;exact⟨g,e1⟩
 · intro i o ho1 hin b w1 hx2 hmiss hdep K hK
   by_cases hin2:i < n
   · have hst:=steps_at hsteps i o (take_at ho1 hin2);rw[Nat.zero_add]at hst;have hst2:=hst b w1 ⟨hx2,hmiss,fun j hj=>?_⟩ K (fun v1 w' h4 h5=>hK v1 w' h4 (by rw[if_pos hin2];exact h5))
     · rw[if_pos (by simp[Region.wanted,hgd i o ho1])]at hst2;exact want_none (hgd i o ho1) hst2
     obtain⟨u,hu2,hu3⟩:=hdep j hj;obtain⟨e4,he4,rfl,hbd⟩:=waits_spec hj;have hlt:=backB2_spec hb i o (by simpa using ho1) e4 he4 hbd;rw[if_pos (by omega)]at hu2;exact⟨u,hu2,fun d hd=>hu3 d (by rw[← hd];simp[dstOf,show e4.on < n+1 by omega])⟩
   · have hin3:i=n:=by omega
     subst hin3;rw[hob]at ho1;injection ho1 with ho1
     subst ho1;obtain⟨u,hu2,hu3⟩:=hdep is_ hwb;rw[if_pos his]at hu2;unfold GdM at hu2;rw[hvs]at hu2;simp only at hu2;subst hu2;refine want_none (hgd _ _ hob) (op_buildRow T e s hopb k hk hk2 x hx (eval_of (hu3 s hds)) hu (by rw[hi0];simpa using hz1) (by rw[hi0];simpa using congrArg Option.isSome hz0) ?_);exact hK _ _ ((Ext.refl _).alloc _) (by rw[if_neg (Nat.lt_irrefl _)];exact⟨_,rfl,hx2.size,Arr.new w1 e x⟩)
 · intro o ho1 b w1 hx2 hmiss hall K hK;rw[hoa]at ho1;injection ho1 with ho1
   subst ho1;obtain⟨uy,hy2,hy3⟩:=hall iy (by omega);rw[if_pos hiy]at hy2;unfold GdM at hy2;rw[hvy]at hy2;simp only at hy2;subst hy2;obtain⟨ud,hd2,hd3⟩:=hall n (by omega);rw[if_neg (Nat.lt_irrefl _)]at hd2;obtain⟨g,rfl,hgs,hA⟩:=hd2;have hdd:=hd3 d (by simp[dstOf,hob,hdb]);obtain⟨v',w',hrun,r1,r2,r3⟩:=run_append_mine (P:=P) w1 base T oa.type e i0 z k bytes hu hi0 hz0 hz1 hz2 hzs hk uy m zs (own_ext ho hx2) ⟨g,0,none⟩ 1 1 x (by rw[hx];omega) (fun j u hj=>by rw[add_lit,Nat.zero_add,hA.cell];exact hj) (fun u hu=>List.all_eq_true.1 hx1 u hu) (by unfold maxLen;omega) (by have:=Nat.mul_le_mul hmm hbt;omega) (Nat.le_trans hbw hx2.size);refine want_none (hgd _ _ hoa) ?_;unfold Oper.wp;simp[execOp,hopa,resolve,invoke,builtin,eval_of (hy3 y hdy),eval_of hdd,hrun,Result.andThen];exact hK _ _ ⟨w1,hx2,r2,r1,r3.imp (fun h=>h) fun h b hb=>Nat.le_trans hx2.size (h b hb)⟩
 · intro V w2 hV hP hVz;obtain⟨w1,p1,p2,p3,p4⟩:=hP;have hn:=hV n (by omega);rw[if_neg (Nat.lt_irrefl _)]at hn;obtain⟨g,hVn⟩:=hn;have h:=hend g (V (n+1)) w1 w2 p1 p2 p3 p4;have e5:=fillM_all V a l [];rw[List.nil_append,List.length_nil,Nat.zero_add]at e5;rw[← e5];show Q .normal (fillM l V 0 a) w2;rw[fillM_congr (V':=fun i=>if i < n then((vs[i]?).join).getD undef else if i=n then .slice (some ⟨g,0,none⟩) 1 1 else V (n+1)) a l 0 a (fun i _ hil=>?_)]
   · exact h
   · split
     · rename_i hin
       have h6:=hV i (by omega);rw[if_pos hin]at h6;have hsm:∃ u,(vs[i]?).join=some u:=by
        exact hvall i hin
       obtain⟨u,hu2⟩:=hsm;rw[hu2,h6 u hu2];rfl
     · split
       · rename_i e7;subst e7;exact hVn
       · rcases (show i=n+1∨i=n+2 by omega)with e7 | e7
         · subst e7;rfl
         · subst e7;exact hVz
end
end
section
variable {P:Program} {Q:Exit→Act→World→Prop} {l:List Oper} {vs:List (Option Value)} {G:Nat→Value→World→Prop} {a:Act} {w:World} {o:Oper} {i:Nat}
theorem op_callv{b:Act}{w1:World}{K:Act→World→Prop}{f:FuncId}{x:Operand}{args:Array Operand}{ts:Array TypeId}{us cb:Array Value}{H:Value→World→Prop}(ho:o.op = .call {callee:=.value x,args:=args,argTypes:=ts })(hx:b.eval x = .func (.func f) #[] cb)(ha:args.map b.eval=us)(he:∀ args w,(callFunc f args).run P w = .ok (.enter f args) w)
    (hc:Calls P f (us++cb) w1 fun e w'=>∃ v,e = .returned v∧Ext w1 w'∧H v w') (h:∀ v w',Ext w1 w'→H v w'→K (b.put o.dst v) w'):o.wp P b w1 K Q:=by
 have hr:(execOp b.eval o).run P w1 = .ok (.enter f (us++cb)) w1:=by
  unfold execOp;simp[ho,resolve,invoke,Deferred.ofValue,hx,ha,he]
 unfold Oper.wp;rw[hr,Oper.upon_enter];refine hc.mono ?_;rintro e w' ⟨v,rfl,hx,hg⟩;exact h v w' hx hg
theorem s_callv{f:FuncId}{x:Operand}{args:List Operand}{ts:Array TypeId}{us:List Value}{cb:Array Value}{u:Value}(he:∀ args w,(callFunc f args).run P w = .ok (.enter f args) w)(hc:∀ w1,Ext w w1→Calls P f (us.toArray++cb) w1 fun e w'=>e = .returned u∧Ext w1 w')
    (ho:o.op = .call {callee:=.value x,args:=args.toArray,argTypes:=ts }:=by rfl) (hx:evM l vs a o x=some (.func (.func f) #[] cb):=by rfl) (hu:evsM l vs a o args=some us:=by rfl) (hi:(vs[i]?).join=some u:=by rfl) (hw:WantM l vs o:=by first | exact .inl rfl | exact .inr ⟨_,_,_,rfl,rfl,rfl,rfl⟩):StepM P Q l vs G a w i o:=by
 intro b w1 h K hK;refine h.want hw (op_callv (H:=fun v _=>v=u) ho (h.ev hx) (by simpa using congrArg List.toArray (h.evs hu)) he ((hc w1 h.ext).mono fun e w' ⟨h1,h2⟩=>⟨_,h1,h2,rfl⟩) fun v w' h1 h2=>?_);subst h2;exact hK _ w' h1 (GdM.val hi w')
end
def cellsV(v:Value):List Value:=match v with | .agg a=>a.toList | _=>[]
theorem own_ne_arr{w:World}{base n k fb:Nat}{e t:TypeId}{v:Value}{zs vs:List Value}(O:w.ownsRow base e k v n zs)(B:Arr w fb t vs)(hne:e≠t):v.ownBlock≠some fb:=fun h=>by
 rcases O.2 with⟨rfl,_⟩ | ⟨g,cap,cur,rfl,_,hg,_⟩
 · simp[Value.ownBlock]at h
 · simp only[Value.ownBlock,Option.some.injEq]at h;subst h;unfold Arr at B;rw[hg]at B;injection B with B
   injection B with _ B _
   exact hne B
section
variable {P:Program} {Q:Exit→Act→World→Prop} {l:List Oper} {vs:List (Option Value)} {G:Nat→Value→World→Prop} {a:Act} {w:World}
theorem GdM.more{G:Nat→Value→World→Prop}(hst:∀ i v w1 w2,Ext w1 w2→G i v w1→G i v w2){i:Nat}{v:Value}{w1 w2:World}(hx:Ext w1 w2)(h:GdM vs G i v w1):GdM vs G i v w2:=by
 unfold GdM at *
 split
 · rename_i u hu;rw[hu]at h;exact h
 · rename_i hu;rw[hu]at h;exact hst _ _ _ _ hx h
structure VarR (vs:List (Option Value)) (G:Nat→Value→World→Prop) (L n js T:Nat) (zs:List Value) (w:World) (listed:Array Bool) (g:Nat→Value) (w1:World):Prop where
 ext:Ext w w1
 good:∀ i,i < L→listed.getD i true=true→GdM vs G i (g i) w1
 laid:listed.getD n true=true→∃ b,g n = .pointer (some ⟨b,0,none⟩)∧w.heap.size≤b∧Arr w1 b T (if listed.getD (n+1) true=true then cellsV (g js)else zs)
 st:listed.getD (n+1) true=true→listed.getD n true=true∧listed.getD js true=true
theorem wp_region_varm{id:Nat}(vs:List (Option Value))(G:Nat→Value→World→Prop)(n T d s js:Nat)(zs:List Value)(hm:P.follows .mixedOrders=true)
    (hst:∀ i v w1 w2,Ext w1 w2→G i v w1→G i v w2) (hset:∀ i v w1 b cs zs',Arr w1 b T zs'→w.heap.size≤b→G i v w1→G i v (w1.setRow b cs))
    (hz:∃ i z,P.info? T=some i∧i.zero=some z∧z.cells.toList=zs) (hi:(P.info? T).map (·.size)=some zs.length)
    (hs1:StepsM P Q l vs G a w 0 (l.take n)) (hs2:StepsM P Q l vs G a w (n+2) (l.drop (n+2)))
    (hv:∀ v w1,Ext w w1→GdM vs G js v w1→∃ cs:List Value,v = .agg cs.toArray∧cs.length=zs.length∧cs.all (·.oneCell')=true)
    (hend:∀ (V:Nat→Value) (b:Nat) (w1:World),Ext w w1→w.heap.size≤b→V n = .pointer (some ⟨b,0,none⟩)→Arr w1 b T (cellsV (V js))→(∀ i,i < l.length→GdM vs G i (V i) w1)→Q .normal (fillM l V 0 a) w1)
    (hG0:∀ v w,GdM vs G n v w:=by exact fun _ _=>trivial) (hG1:∀ v w,GdM vs G (n+1) v w:=by exact fun _ _=>trivial)
    (hs:slotsB l.toArray=true:=by kernel_rfl) (hb:backB2 l.toArray=true:=by kernel_rfl) (hg:(l.all fun o=>o.guard.isNone)=true:=by kernel_rfl) (hln:n+2≤l.length:=by decide)
    (halloc:∃ o,l[n]? = some o∧o.op = .alloc T∧o.dst=some d:=by exact⟨_,rfl,rfl,rfl⟩) (hstore:∃ o,l[n+1]? = some o∧o.op = .store T (.tmp d) (.tmp s)∧o.dst=none∧waits o n=true∧waits o js=true:=by exact⟨_,rfl,rfl,rfl,rfl,rfl⟩)
    (hjs:js≠n∧js≠n+1∧js < l.length:=by decide) (hdj:dstOf l.toArray js=some s:=by rfl)
    (hfit:((List.range l.length).all fun j=>match dstOf l.toArray j with | some d=>decide (d < a.tmps.size) | none=>true)=true:=by rfl):(Code.region id l.toArray true).wp P Q a w:=by
 have hS:=slotsB_spec hs;have hB:=backB2_spec hb;have hfit':=hfit;rw[List.all_eq_true]at hfit';have hslot:∀ (listed:Array Bool) (g:Nat→Value) (j:Nat),j < l.length→listed.getD j true=true→∀ d,dstOf l.toArray j=some d→(fill l.toArray g listed a).tmps[d]? = some (g j):=fun listed g j hj hl d hd=>by
  refine fill_hit hS (by simpa using hj) hl hd ?_;have h3:=hfit' j (List.mem_range.2 hj);rw[hd]at h3;simpa using h3
 refine wp_region_tabg2 (G:=Nat→Value) (fun g=>g) (VarR vs G l.length n js T zs) (fun _=>undef) hm hS hB ?_ ?_ ?_
 · have h0:∀ k,k < l.length→(Array.replicate l.length false).getD k true=false:=fun k hk=>by simp[Array.getD,hk]
   exact⟨(Ext.refl _).drew,fun i hi h=>(by rw[h0 i hi]at h;cases h),fun h=>(by rw[h0 n (by omega)]at h;cases h),fun h=>(by rw[h0 (n+1) (by omega)]at h;cases h)⟩
 · intro listed g w1 i o ho hun hdep hR K hK;refine want_none (noGuardD hg i o ho) ?_;have hil:i < l.length:=(List.getElem?_eq_some_iff.1 ho).1;have hother:∀ k,k≠i→(listed.setIfInBounds i true).getD k true=listed.getD k true:=fun k hk=>getD_set_ne true (Ne.symm hk);have hself:(listed.setIfInBounds i true).getD i true=true:=by simp only[Array.getD];split <;> simp
   by_cases hin:i=n
   · subst hin;obtain⟨o2,ho2,hop,hdst⟩:=halloc;rw[ho]at ho2;injection ho2 with ho2
     subst ho2;obtain⟨ie,z,hie,hzz,hzl2⟩:=hz;have hnext:listed.getD (i+1) true=false:=by
      cases hq:listed.getD (i+1) true
      · rfl
      · have:=(hR.st hq).1;rw[this]at hun;cases hun
     have hxa:Ext w1 (w1.alloc (.cells zs.toArray T)):=(Ext.refl _).alloc _;have hK2:=hK (fun k=>if k=i then .pointer (some ⟨w1.heap.size,0,none⟩)else g k) (w1.alloc (.cells zs.toArray T)) ⟨hR.ext.trans hxa,fun j hj hl=>by
         by_cases hji:j=i
         · subst hji;exact hG0 _ _
         · simp only[if_neg hji];rw[hother _ hji]at hl;exact GdM.more hst hxa (hR.good j hj hl),fun _=>⟨w1.heap.size,by simp,hR.ext.size,by
           rw[hother _ (by omega),hnext];exact Arr.new w1 T zs⟩,fun h=>(by rw[hother _ (by omega),hnext]at h;cases h)⟩ (fun j hj hl=>by
         have hne:j≠i:=fun e=>by subst e;rw[hl]at hun;cases hun
         simp only[if_neg hne])
     simp only[if_true]at hK2;have hzc:z.cells=zs.toArray:=by rw[← hzl2]
     have hrun:∀ b:Act,(execOp b.eval o).run P w1 = .ok (.value (.pointer (some ⟨w1.heap.size,0,none⟩))) (w1.alloc (.cells zs.toArray T)):=fun b=>by
      unfold execOp;simp only[hop];simp[Instr.alloc,zeroValue,typeInfo,hie,hzz,newVar,newRow,hzc]
     unfold Oper.wp;rw[hrun];exact hK2
   · by_cases hin1:i=n+1
     · subst hin1;obtain⟨o2,ho2,hop,hdst,hw1,hw2⟩:=hstore;rw[ho]at ho2;injection ho2 with ho2
       subst ho2;obtain⟨e1,he1,hon1,hbd1⟩:=waits_spec hw1;obtain⟨e2,he2,hon2,hbd2⟩:=waits_spec hw2;have hl1:=getD_up (hon1 ▸ hdep e1 he1 hbd1);have hl2:=getD_up (hon2 ▸ hdep e2 he2 hbd2);obtain⟨b,q0,q1,q2⟩:=hR.laid hl1;rw[hun]at q2;simp only[Bool.false_eq_true,if_false]at q2;obtain⟨oa,hoa,hopa,hdsta⟩:=halloc;have hda:dstOf l.toArray n=some d:=by simp[dstOf,hoa,hdsta]
       have t1:=hslot listed g n (by omega) hl1 d hda;have t2:=hslot listed g js hjs.2.2 hl2 s hdj;obtain⟨cs,hcs,hcl,hone⟩:=hv _ _ hR.ext (hR.good js hjs.2.2 hl2);rw[q0]at t1;rw[hcs]at t2;have hcv:cellsV (g js)=cs:=by rw[hcs];rfl
       have hK2:=hK (fun k=>if k=n+1 then undef else g k) (w1.setRow b cs.toArray) ⟨hR.ext.setRow q1 _,fun j hj hl=>by
           by_cases hji:j=n+1
           · subst hji;exact hG1 _ _
           · simp only[if_neg hji];rw[hother _ hji]at hl;have hgd:=hR.good j hj hl;unfold GdM at *
             split
             · rename_i u hu;rw[hu]at hgd;exact hgd
             · rename_i hu;rw[hu]at hgd;exact hset _ _ _ _ _ _ q2 q1 hgd,fun _=>⟨b,by simp only[show n≠n+1 by omega,if_false];exact q0,q1,by
             rw[hself];simp only[if_true,if_neg hjs.2.1];rw[hcv];exact q2.setRow cs⟩,fun _=>by rw[hother _ (by omega),hother _ hjs.2.1];exact⟨hl1,hl2⟩⟩ (fun j hj hl=>by
           have hne:j≠n+1:=fun e=>by subst e;rw[hl]at hun;cases hun
           simp only[if_neg hne])
       simp only[if_true]at hK2;exact wp_store_row T (.tmp d) (.tmp s) hop b cs.toArray (by simp[Act.eval,Array.getD_eq_getD_getElem?,t1]) (by simp[Act.eval,Array.getD_eq_getD_getElem?,t2]) T zs.toArray q2 (by rw[hi];simp[hcl]) (by simp[hcl]) (by simpa using hone) hK2
     · have hstep:StepM P Q l vs G a w i o:=by
         rcases Nat.lt_or_ge i n with h | h
         · have:=steps_at hs1 i o (take_at ho h)
           rwa [Nat.zero_add]at this
         · have:=steps_at hs2 (i - (n+2)) o (by rw[List.getElem?_drop];rw[show n+2+(i - (n+2))=i by omega];exact ho)
           rwa [show n+2+(i - (n+2))=i by omega]at this
       have h1:=hstep (fill l.toArray g listed a) w1 ⟨hR.ext,fun d hd=>fill_miss (fun i hi _=>missB_spec hd i hi),fun j hj=>?_⟩ K (fun v w' hx hgd=>?_)
       · rw[if_pos (by simp[Region.wanted,noGuardD hg i o ho])]at h1;exact h1
       · obtain⟨e,he,rfl,hbd⟩:=waits_spec hj;have h1:=getD_up (hdep e he hbd);have h2:e.on < i:=hB i o (by simpa using ho) e he hbd;exact⟨g e.on,hR.good _ (by omega) h1,hslot listed g _ (by omega) h1⟩
       · have h:=hK (fun k=>if k=i then v else g k) w' ⟨hR.ext.trans hx,fun j hj hl=>?_,fun hl=>?_,fun hl=>?_⟩ (fun j hj hl=>?_)
         · simpa using h
         · by_cases hji:j=i
           · subst hji;simpa using hgd
           · simp only[if_neg hji];rw[hother _ hji]at hl;exact GdM.more hst hx (hR.good j hj hl)
         · rw[hother _ (Ne.symm hin)]at hl;obtain⟨b,q0,q1,q2⟩:=hR.laid hl;refine⟨b,by simp only[if_neg (Ne.symm hin)];exact q0,q1,?_⟩;rw[hother _ (Ne.symm hin1)]
           cases hq:listed.getD (n+1) true
           · rw[hq]at q2;simp only[Bool.false_eq_true,if_false]at q2 ⊢;exact q2.ext hx
           · rw[hq]at q2;have hjl:=(hR.st hq).2;have hne:js≠i:=fun e=>by rw[e]at hjl;rw[hjl]at hun;cases hun
             simp only[if_true,if_neg hne]at q2 ⊢;exact q2.ext hx
         · rw[hother _ (Ne.symm hin1)]at hl;obtain⟨h1,h2⟩:=hR.st hl;have hne:js≠i:=fun e=>by rw[e]at h2;rw[h2]at hun;cases hun
           rw[hother _ (Ne.symm hin),hother _ hne];exact⟨h1,h2⟩
         · have hne:j≠i:=fun e=>by subst e;rw[hl]at hun;cases hun
           simp only[if_neg hne]
 · intro listed g w1 hall hR;rw[fill_done hall];obtain⟨b,q0,q1,q2⟩:=hR.laid (hall n (by omega));rw[if_pos (hall (n+1) (by omega))]at q2;have h:=hend g b w1 hR.ext q1 q0 q2 (fun i hi=>hR.good i hi (hall i hi));have e:=fillM_all g a l [];simp only[List.nil_append,List.length_nil,Nat.zero_add]at e;rw[← e];exact h
theorem wp_region_stm{id:Nat}(vs:List (Option Value))(G:Nat→Value→World→Prop)(n T d s js g:Nat)(Post:World→Prop)(hm:P.follows .mixedOrders=true)
    (hst:∀ i v w1 w2,Ext w1 w2→G i v w1→G i v w2) (hs1:StepsM P Q l vs G a w 0 (l.take n)) (hd:a.tmps[d]? = some (.pointer (some ⟨g,0,none⟩)))
    (hsto:∀ v w1,Ext w w1→GdM vs G js v w1→∃ cs zs:List Value,v = .agg cs.toArray∧Arr w1 g T zs∧zs.length=cs.length∧(P.info? T).map (·.size)=some cs.length∧cs.all (·.oneCell')=true∧Post (w1.setRow g cs.toArray))
    (hend:∀ (V:Nat→Value) (w1:World),Post w1→Q .normal (fillM l V 0 a) w1)
    (hs:slotsB l.toArray=true:=by kernel_rfl) (hb:backB2 l.toArray=true:=by kernel_rfl) (hg:(l.all fun o=>o.guard.isNone)=true:=by kernel_rfl) (hln:l.length=n+1:=by rfl)
    (hstore:∃ o,l[n]? = some o∧o.op = .store T (.tmp d) (.tmp s)∧o.dst=none:=by exact⟨_,rfl,rfl,rfl⟩) (hneed:((List.range n).all fun i=>needB l.toArray l.length n i)=true:=by kernel_rfl)
    (hjs:js < n:=by decide) (hdj:dstOf l.toArray js=some s:=by rfl) (hmd:missB l.toArray d=true:=by rfl)
    (hfit:((List.range l.length).all fun j=>match dstOf l.toArray j with | some d=>decide (d < a.tmps.size) | none=>true)=true:=by rfl):(Code.region id l.toArray true).wp P Q a w:=by
 refine wp_region_last n (fun i v w1=>GdM vs G i v w1) (fun _ _=>True) Post hm hs hb hfit hln hneed (fun i v w1 w2 hx h=>GdM.more hst hx h) (fun _ _ _ _=>trivial) ?_ ?_ ?_
 · intro i o ho hin b w1 hx hmiss hdep K hK;have hstep:=steps_at hs1 i o (take_at ho hin);rw[Nat.zero_add]at hstep;exact hstep b w1 ⟨hx,hmiss,hdep⟩ K hK
 · intro o ho b w1 hx hmiss hall K hK;obtain⟨o2,ho2,hop,hdst⟩:=hstore;rw[ho]at ho2;injection ho2 with ho2
   subst ho2;refine want_none (noGuardD hg n o ho) ?_;obtain⟨v,hgd,hsl⟩:=hall js hjs;obtain⟨cs,zs,rfl,hA,hl,hi,h1,hp⟩:=hsto v w1 hx hgd;have t1:=(hmiss d hmd).trans hd;have t2:=hsl s hdj;exact wp_store_row T (.tmp d) (.tmp s) hop g cs.toArray (by simp[Act.eval,Array.getD_eq_getD_getElem?,t1]) (by simp[Act.eval,Array.getD_eq_getD_getElem?,t2]) T zs.toArray hA (by rw[hi];simp) (by simpa using hl) (by simpa using h1) (hK undef _ hp)
 · intro V w1 _ hp;have h:=hend V w1 hp;have e:=fillM_all V a l [];simp only[List.nil_append,List.length_nil,Nat.zero_add]at e;rw[← e];exact h
end
end Go.Proofs.YtoecbicdahbccaaGreatDoor
