/- A part of the walk of the layer of apply: contracts and plain laws that a row's text leans on. -/
import Derived.Test.YtoecbicdahbccaaGreatDoorZa6
set_option maxRecDepth 100000
set_option maxHeartbeats 16000000
namespace Go.Proofs.YtoecbicdahbccaaGreatDoor
open Go Go.RowKit
theorem reflist_any(p:Pt)(w:World):
    Calls Tryz.prog 101 #[.agg #[.int .i64 p.x,.int .i64 p.y,.int .i64 p.z]] w fun e w'=>e = .returned (.agg #[.int .i64 p.x,.int .i64 p.y,.int .i64 p.z])∧Ext w w':=by
 go_enter Tryz.func101,Tryz.ntmps101
 go_wp2
 refine bodyPost_ret (v:=.agg #[.int .i64 p.x,.int .i64 p.y,.int .i64 p.z]) ?_ rfl ?_
 · simp (maxDischargeDepth:=9) only [results,Tryz.results101]
   first
    | (go_simp;done)
    | (go_simp;simp;done)
    | (simp (maxDischargeDepth:=9) [go_sem, *];done)
    | (simp (maxDischargeDepth:=9) [go_sem, *];simp)
 · exact⟨rfl,byX⟩
theorem refof_any(p:Pt)(w:World):
    Calls Tryz.prog 102 #[.agg #[.int .i64 p.x,.int .i64 p.y,.int .i64 p.z]] w fun e w'=>e = .returned (.agg #[.int .i64 p.x,.int .i64 p.y,.int .i64 p.z])∧Ext w w':=by
 go_enter Tryz.func102,Tryz.ntmps102
 go_wp2
 refine bodyPost_ret (v:=.agg #[.int .i64 p.x,.int .i64 p.y,.int .i64 p.z]) ?_ rfl ?_
 · simp (maxDischargeDepth:=9) only [results,Tryz.results102]
   first
    | (go_simp;done)
    | (go_simp;simp;done)
    | (simp (maxDischargeDepth:=9) [go_sem, *];done)
    | (simp (maxDischargeDepth:=9) [go_sem, *];simp)
 · exact⟨rfl,byX⟩
section
variable {P:Program}
theorem wp_region_box{id:Nat}{Q:Exit→Act→World→Prop}{a:Act}{w:World}{l:List Oper}(V:Nat→Value)(n T d sv iv:Nat)(zs cs:List Value)(hm:P.follows .mixedOrders=true)(hs:slotsB l.toArray=true)(hb:backB l.toArray=true)
    (hg:∀ (i:Nat) (o:Oper),l[i]? = some o→o.guard=none) (hln:l.length=n+2)
    (halloc:∃ o,l[n]? = some o∧o.op = .alloc T∧o.dst=some d) (hstore:∃ o,l[n+1]? = some o∧o.op = .store T (.tmp d) (.tmp sv)∧o.dst=none∧(∃ e,e∈o.after∧e.on=n∧Region.binds .any e=true)∧(∃ e,e∈o.after∧e.on=iv∧Region.binds .any e=true))
    (hiv:iv < n) (hdv:dstOf l.toArray iv=some sv) (hds:sv < a.tmps.size) (hdd:d < a.tmps.size) (hV:V iv = .agg cs.toArray)
    (hz:∃ i z,P.info? T=some i∧i.zero=some z∧z.cells.toList=zs) (hi:(P.info? T).map (·.size)=some cs.length) (hzl:zs.length=cs.length) (hone:cs.all (·.oneCell')=true)
    (hhead:∀ (listed:Array Bool) (w1:World) (i:Nat) (o:Oper),l[i]? = some o→i < n→(∀ e,e∈o.after→Region.binds .any e=true→listed.getD e.on false=true)→Ext w w1→
      ∀ (b:Act) (K:Act→World→Prop),(∀ d:Nat,missB l.toArray d=true→b.tmps[d]? = a.tmps[d]?)→(∀ j d,j < n→listed.getD j true=true→dstOf l.toArray j=some d→d < a.tmps.size→b.tmps[d]? = some (V j))→
      (∀ w',Ext w1 w'→K (b.put o.dst (V i)) w')→o.wp P b w1 K Q)
    (hend:∀ g w1,Ext w w1→w.heap.size≤g→Arr w1 g T cs→Q .normal (fillAllN l.toArray (boxV V n g) a l.length) w1):(Code.region id l.toArray true).wp P Q a w:=by
 refine wp_region_slots (boxV V n) (BoxR T n zs cs) 0 hm hs hb hg ?_ ?_ ?_
 · have h0:∀ k,k < l.length→(Array.replicate l.length false).getD k true=false:=fun k hk=>by simp[Array.getD,hk]
   exact⟨(Ext.refl _).drew,fun h=>(by rw[h0 n (by omega)]at h;cases h),fun h=>(by rw[h0 (n+1) (by omega)]at h;cases h)⟩
 · intro listed g w1 i o ho hun hdep hR b K E0 E1 hK;have hil:i < l.length:=(List.getElem?_eq_some_iff.1 ho).1
   by_cases hin:i < n
   · refine hhead listed w1 i o ho hin hdep hR.ext b K E0 (fun j d hj hl hd hds=>?_) (fun w' hx=>?_)
     · have h:=E1 j d (by omega) hl hd hds;rw[h];unfold boxV;rw[if_pos hj]
     · have h:=hK g w' (hR.keep hin hx) (fun _ _ _=>rfl);unfold boxV at h;rw[if_pos hin]at h;exact h
   · by_cases hie:i=n
     · subst hie;obtain⟨o2,ho2,hop,hdst⟩:=halloc;rw[ho]at ho2;injection ho2 with ho2
       subst ho2;obtain⟨ie,z,hie,hzz,hzl2⟩:=hz;have hlist:∀ k,k≠i→(listed.setIfInBounds i true).getD k true=listed.getD k true:=fun k hk=>getD_set_ne true (Ne.symm hk);have hnext:listed.getD (i+1) true=false:=by
        cases hq:listed.getD (i+1) true
        · rfl
        · have:=hR.st hq;rw[this]at hun;cases hun
       have hK2:=hK w1.heap.size (w1.alloc (.cells zs.toArray T)) ⟨hR.ext.alloc _,fun _=>⟨hR.ext.size,by
           rw[hlist _ (by omega),hnext];exact Arr.new w1 T zs⟩,fun h=>(by rw[hlist _ (by omega),hnext]at h;cases h)⟩ (fun j hj hl=>by
           have hne:j≠i:=fun e=>by subst e;rw[hl]at hun;cases hun
           unfold boxV;simp only[if_neg hne])
       have hbv:boxV V i w1.heap.size i = .pointer (some ⟨w1.heap.size,0,none⟩):=by unfold boxV;simp
       rw[hbv]at hK2;have hzc:z.cells=zs.toArray:=by rw[← hzl2]
       have hrun:(execOp b.eval o).run P w1 = .ok (.value (.pointer (some ⟨w1.heap.size,0,none⟩))) (w1.alloc (.cells zs.toArray T)):=by
        unfold execOp;simp only[hop];simp[Instr.alloc,zeroValue,typeInfo,hie,hzz,newVar,newRow,hzc]
       unfold Oper.wp;rw[hrun];exact hK2
     · have hie2:i=n+1:=by omega
       subst hie2;obtain⟨o2,ho2,hop,hdst,⟨e1,he1,hon1,hbd1⟩,⟨e2,he2,hon2,hbd2⟩⟩:=hstore;rw[ho]at ho2;injection ho2 with ho2
       subst ho2;have hl1:=getD_up (hon1 ▸ hdep e1 he1 hbd1);have hl2:=getD_up (hon2 ▸ hdep e2 he2 hbd2);obtain⟨q1,q2⟩:=hR.laid hl1;rw[hun]at q2;simp only[Bool.false_eq_true,if_false]at q2;obtain⟨oa,hoa,hopa,hdsta⟩:=halloc;have hda:dstOf l.toArray n=some d:=by simp[dstOf,hoa,hdsta]
       have t1:=E1 n d (by omega) hl1 hda hdd;have t2:=E1 iv sv (by omega) hl2 hdv hds;have bv1:boxV V n g n = .pointer (some ⟨g,0,none⟩):=by unfold boxV;simp
       have bv2:boxV V n g iv = .agg cs.toArray:=by unfold boxV;rw[if_pos hiv,hV]
       rw[bv1]at t1;rw[bv2]at t2;have hlist:∀ k,k≠n+1→(listed.setIfInBounds (n+1) true).getD k true=listed.getD k true:=fun k hk=>getD_set_ne true (Ne.symm hk);have hset:(listed.setIfInBounds (n+1) true).getD (n+1) true=true:=by
        by_cases h:n+1 < listed.size
        · simp[Array.getD,h]
        · simp[Array.getD,h]
       have hK2:=hK g (w1.setRow g cs.toArray) ⟨hR.ext.setRow q1 _,fun _=>⟨q1,by rw[hset];exact q2.setRow cs⟩,fun _=>by rw[hlist n (by omega)];exact hl1⟩ (fun _ _ _=>rfl);have bv3:boxV V n g (n+1)=undef:=by unfold boxV;rw[if_neg (by omega),if_neg (by omega)]
       rw[bv3]at hK2;exact wp_store_row T (.tmp d) (.tmp sv) hop g cs.toArray (by simp[Act.eval,Array.getD_eq_getD_getElem?,t1]) (by simp[Act.eval,Array.getD_eq_getD_getElem?,t2]) T zs.toArray q2 (by simpa using hi) (by simpa using hzl) (by simpa using hone) hK2
 · intro listed g w1 hall hR;rw[fill_done hall];obtain⟨q1,q2⟩:=hR.laid (hall n (by omega));rw[if_pos (hall (n+1) (by omega))]at q2;exact hend g w1 hR.ext q1 q2
end
theorem cd_in{p:Pt}{b:Bx}(h:inP p b=true){k:Int}(_hk:0≤k∧k < 3):cdP b.lo k≤cdP p k∧cdP p k < cdP b.hi k:=by
 rw[inP_iff]at h;unfold cdP
 split
 · omega
 · split <;> omega
theorem inv_rel:∀ t,t < 48→∀ s,s < 48→twoP (t:Nat) (s:Nat)=markP→∀ j,j < 3→axI (t:Nat) (axI (s:Nat) (j:Nat))=(j:Nat)∧ngI (t:Nat) (axI (s:Nat) (j:Nat))=ngI (s:Nat) (j:Nat):=by decide+kernel
theorem invI_two{s:Int}(hs:0≤s∧s < 48):twoP (invI s) s=markP:=by
 have h:=(inv_spec s.toNat (by omega)).1.2;rw[Int.toNat_of_nonneg hs.1]at h;exact h
theorem invI_rel{s:Int}(hs:0≤s∧s < 48){j:Int}(hj:0≤j∧j < 3):axI (invI s) (axI s j)=j∧ngI (invI s) (axI s j)=ngI s j:=by
 have ht:=invI_rng hs;have h:=inv_rel (invI s).toNat (by omega) s.toNat (by omega);rw[Int.toNat_of_nonneg hs.1,Int.toNat_of_nonneg ht.1]at h;have h2:=h (invI_two hs) j.toNat (by omega);rw[Int.toNat_of_nonneg hj.1]at h2;exact h2
end Go.Proofs.YtoecbicdahbccaaGreatDoor
