/- A part of the walk of the layer of apply: contracts and plain laws that a row's text leans on. -/
import Derived.Test.YtoecbicdahbccaaGreatDoorZa7
set_option maxRecDepth 100000
set_option maxHeartbeats 16000000
namespace Go.Proofs.YtoecbicdahbccaaGreatDoor
open Go Go.RowKit
section
variable {P:Program}
theorem wp_region_rel2{Q:Exit→Act→World→Prop}{id:Nat}{a:Act}{w:World}{l:List Oper}(Good:Nat→Value→World→Prop)(hm:P.follows .mixedOrders=true)(hs:slotsB l.toArray=true)(hb:backB2 l.toArray=true)(hfit:((List.range l.length).all fun j=>match dstOf l.toArray j with | some d=>decide (d < a.tmps.size) | none=>true)=true)
    (hst:∀ i v w1 w2,Ext w1 w2→Good i v w1→Good i v w2)
    (hstep:∀ (i:Nat) (o:Oper),l[i]? = some o→∀ (b:Act) (w1:World),Ext w w1→(∀ d:Nat,missB l.toArray d=true→b.tmps[d]? = a.tmps[d]?)→
      (∀ j,waits o j=true→∃ v,Good j v w1∧∀ d,dstOf l.toArray j=some d→b.tmps[d]? = some v)→
      ∀ K:Act→World→Prop,(∀ v w',Ext w1 w'→Good i v w'→K (b.put o.dst v) w')→if Region.wanted o (yielded l.toArray b.tmps)=true then o.wp P b w1 K Q else K (b.put o.dst undef) w1)
    (hend:∀ (V:Nat→Value) (w1:World),Ext w w1→(∀ i,i < l.length→Good i (V i) w1)→Q .normal (fillAllN l.toArray V a l.length) w1):(Code.region id l.toArray true).wp P Q a w:=by
 have hS:=slotsB_spec hs;have hB:=backB2_spec hb;refine wp_region_tabg2 (G:=Nat→Value) (fun g=>g) (fun w listed g w1=>Ext w w1∧∀ i,i < l.length→listed.getD i true=true→Good i (g i) w1) (fun _=>undef) hm hS hB ?_ ?_ ?_
 · refine⟨(Ext.refl _).drew,fun i hi h=>?_⟩;have:(Array.replicate l.length false).getD i true=false:=by simp[Array.getD,hi]
   rw[this]at h
   cases h
 · intro listed g w1 i o ho hun hdep hR K hK;have hil:i < l.length:=(List.getElem?_eq_some_iff.1 ho).1;refine hstep i o ho (fill l.toArray g listed a) w1 hR.1 (fun d hd=>fill_miss (fun i hi _=>missB_spec hd i hi)) (fun j hj=>?_) K (fun v w' hx hg=>?_)
   · obtain⟨e,he,rfl,hbd⟩:=waits_spec hj;have h1:=getD_up (hdep e he hbd);have h2:e.on < l.length:=by have:=hB i o (by simpa using ho) e he hbd;omega
     refine⟨g e.on,hR.2 _ h2 h1,fun d hd=>fill_hit hS (by simpa using h2) h1 hd ?_⟩;rw[List.all_eq_true]at hfit;have h3:=hfit e.on (List.mem_range.2 h2);rw[hd]at h3;simpa using h3
   · have h:=hK (fun k=>if k=i then v else g k) w' ⟨hR.1.trans hx,fun j hj hl=>?_⟩ (fun j hj hl=>?_)
     · simpa using h
     · by_cases hji:j=i
       · subst hji;simpa using hg
       · simp only[if_neg hji];rw[getD_set_ne true (Ne.symm hji)]at hl;exact hst _ _ _ _ hx (hR.2 j hj hl)
     · have hne:j≠i:=fun e=>by subst e;rw[hl]at hun;cases hun
       simp only[if_neg hne]
 · intro listed g w1 hall hR;rw[fill_done hall];exact hend g w1 hR.1 (fun i hi=>hR.2 i hi (hall i hi))
def GdM(vs:List (Option Value))(G:Nat→Value→World→Prop)(i:Nat)(v:Value)(w:World):Prop:=match (vs[i]?).join with | some u=>v=u | none=>G i v w
structure InM (l:List Oper) (vs:List (Option Value)) (G:Nat→Value→World→Prop) (a:Act) (w:World) (o:Oper) (b:Act) (w1:World):Prop where
 ext:Ext w w1
 miss:∀ d:Nat,missB l.toArray d=true→b.tmps[d]? = a.tmps[d]?
 dep:∀ j,waits o j=true→∃ v,GdM vs G j v w1∧∀ d,dstOf l.toArray j=some d→b.tmps[d]? = some v
def evM(l:List Oper)(vs:List (Option Value))(a:Act)(o:Oper):Operand→Option Value
 | .tmp s=>match (List.range l.length).find? (fun j=>waits o j && (dstOf l.toArray j == some s))with
   | some j=>(vs[j]?).join
   | none=>if missB l.toArray s then a.tmps[s]? else none
 | .const v=>some v
 | .global g=>some (.pointer (some ⟨g,0,none⟩))
 | .func f=>some (.func (.func f) #[] #[])
def evsM(l:List Oper)(vs:List (Option Value))(a:Act)(o:Oper):List Operand→Option (List Value)
 | []=>some []
 | x:: xs=>match evM l vs a o x,evsM l vs a o xs with | some v,some us=>some (v:: us) | _,_=>none
variable {Q:Exit→Act→World→Prop} {l:List Oper} {vs:List (Option Value)} {G:Nat→Value→World→Prop} {a b:Act} {w w1:World} {o:Oper} {i:Nat}
theorem InM.ev(h:InM l vs G a w o b w1){x:Operand}{v:Value}(e:evM l vs a o x=some v):b.eval x=v:=by
 cases x with
 | tmp s=>
   unfold evM at e;simp only at e
   split at e
   · rename_i j hj
     have h1:=List.find?_some hj;simp only[Bool.and_eq_true,beq_iff_eq]at h1;obtain⟨u,hg,hd⟩:=h.dep j h1.1;have h2:=hd s h1.2;unfold GdM at hg;rw[e]at hg;simp only at hg;subst hg;exact eval_of h2
   · split at e
     · rename_i hm
       exact eval_of ((h.miss s hm).trans e)
     · cases e
 | const u=>injection e
 | global g=>injection e
 | func f=>injection e
theorem InM.evs(h:InM l vs G a w o b w1):∀ {xs:List Operand} {us:List Value},evsM l vs a o xs=some us→xs.map b.eval=us
 | [],us,e=>by injection e
 | x:: xs,us,e=>by
   unfold evsM at e
   split at e
   · rename_i v us' e1 e2
     injection e with e
     subst e;rw[List.map_cons,h.ev e1,h.evs e2]
   · cases e
def StepM(P:Program)(Q:Exit→Act→World→Prop)(l:List Oper)(vs:List (Option Value))(G:Nat→Value→World→Prop)(a:Act)(w:World)(i:Nat)(o:Oper):Prop:=
 ∀ (b:Act) (w1:World),InM l vs G a w o b w1→∀ K:Act→World→Prop,(∀ v w',Ext w1 w'→GdM vs G i v w'→K (b.put o.dst v) w')→if Region.wanted o (yielded l.toArray b.tmps)=true then o.wp P b w1 K Q else K (b.put o.dst undef) w1
def StepsM(P:Program)(Q:Exit→Act→World→Prop)(l:List Oper)(vs:List (Option Value))(G:Nat→Value→World→Prop)(a:Act)(w:World):Nat→List Oper→Prop
 | _,[]=>True
 | i,o:: os=>StepM P Q l vs G a w i o∧StepsM P Q l vs G a w (i+1) os
theorem c_{os:List Oper}(h:StepM P Q l vs G a w i o)(k:StepsM P Q l vs G a w (i+1) os):StepsM P Q l vs G a w i (o:: os):=⟨h,k⟩
theorem steps_at:∀ {os:List Oper} {i0:Nat},StepsM P Q l vs G a w i0 os→∀ k o,os[k]? = some o→StepM P Q l vs G a w (i0+k) o
 | [],_,_,k,o,h=>by simp at h
 | o':: os,i0,hs,0,o,h=>by
   simp only[List.getElem?_cons_zero,Option.some.injEq]at h;subst h;exact hs.1
 | o':: os,i0,hs,k+1,o,h=>by
   rw[List.getElem?_cons_succ]at h;have:=steps_at hs.2 k o h
   rwa [show i0+1+k=i0+(k+1)by omega]at this
def fillM:List Oper→(Nat→Value)→Nat→Act→Act
 | [],_,_,a=>a
 | o:: os,V,i,a=>fillM os V (i+1) (a.put o.dst (V i))
theorem fillM_all(V:Nat→Value)(a:Act):∀ (os pre:List Oper),fillM os V pre.length (fillAllN (pre++os).toArray V a pre.length)=fillAllN (pre++os).toArray V a (pre.length+os.length)
 | [],pre=>rfl
 | o:: os,pre=>by
   have h:=fillM_all V a os (pre++[o]);rw[List.append_assoc,List.singleton_append,List.length_append,List.length_singleton]at h;rw[List.length_cons,show pre.length+(os.length+1)=pre.length+1+os.length by omega,← h];have hd:dstOf (pre++o:: os).toArray pre.length=o.dst:=by simp[dstOf]
   show fillM os V (pre.length+1) _=_;congr 1
   show _=(fillAllN (pre++o:: os).toArray V a pre.length).put (dstOf (pre++o:: os).toArray pre.length) (V pre.length);rw[hd]
theorem fillM_congr(_a:Act){V V':Nat→Value} : ∀ (os:List Oper) (i:Nat) (a:Act),(∀ k,i≤k→k < i+os.length→V k=V' k)→fillM os V i a=fillM os V' i a
 | [],_,_,_=>rfl
 | o:: os,i,a,h=>by
   unfold fillM;rw[h i (Nat.le_refl _) (by simp)];exact fillM_congr a os (i+1) _ (fun k h1 h2=>h k (by omega) (by rw[List.length_cons];omega))
theorem wp_region_mix{id:Nat}(vs:List (Option Value))(G:Nat→Value→World→Prop)(hm:P.follows .mixedOrders=true)(hs:slotsB l.toArray=true)(hb:backB2 l.toArray=true)(hfit:((List.range l.length).all fun j=>match dstOf l.toArray j with | some d=>decide (d < a.tmps.size) | none=>true)=true)
    (hst:∀ i v w1 w2,Ext w1 w2→G i v w1→G i v w2) (hsteps:StepsM P Q l vs G a w 0 l)
    (hend:∀ (U:Nat→Value) (w1:World),Ext w w1→(∀ i,i < l.length→(vs[i]?).join=none→G i (U i) w1)→Q .normal (fillM l (fun i=>((vs[i]?).join).getD (U i)) 0 a) w1):(Code.region id l.toArray true).wp P Q a w:=by
 refine wp_region_rel2 (GdM vs G) hm hs hb hfit ?_ ?_ ?_
 · intro i v w1 w2 hx h;unfold GdM at *
   split
   · rename_i u hu;rw[hu]at h;exact h
   · rename_i hu;rw[hu]at h;exact hst _ _ _ _ hx h
 · intro i o ho b w1 hx hmiss hdep K hK;have h:=steps_at hsteps i o ho;rw[Nat.zero_add]at h;exact h b w1 ⟨hx,hmiss,hdep⟩ K hK
 · intro V w1 hx hg;have h:=hend V w1 hx (fun i hi hn=>by have h1:=hg i hi;unfold GdM at h1;rw[hn]at h1;exact h1);have e:=fillM_all V a l [];rw[List.nil_append,List.length_nil,Nat.zero_add]at e;rw[← e];have e2:fillAllN l.toArray V a 0=a:=rfl;rw[e2];rw[fillM_congr (V':=fun i=>((vs[i]?).join).getD (V i)) a l 0 a (fun k _ hk=>?_)]
   · exact h
   · have h1:=hg k (by omega);unfold GdM at h1
     cases hq:(vs[k]?).join with
     | none=>rfl
     | some u=>rw[hq]at h1;exact h1
def WantM(l:List Oper)(vs:List (Option Value))(o:Oper):Prop:=o.guard=none∨∃ j d c,o.guard=some (j,c)∧dstOf l.toArray j=some d∧waits o j=true∧(vs[j]?).join=some (.bool c)
theorem InM.want{X Y:Prop}(h:InM l vs G a w o b w1)(hw:WantM l vs o)(hX:X):if Region.wanted o (yielded l.toArray b.tmps)=true then X else Y:=by
 rcases hw with hg | ⟨j,d,c,hg,hd,hwt,hv⟩
 · exact want_none hg hX
 · obtain⟨v,h1,h2⟩:=h.dep j hwt;unfold GdM at h1;rw[hv]at h1;simp only at h1;subst h1;exact want_yes hg hd (h2 d hd) hX
theorem GdM.val{u:Value}(h:(vs[i]?).join=some u)(w:World):GdM vs G i u w:=by unfold GdM;rw[h]
theorem GdM.prop{u:Value}{w:World}(h:(vs[i]?).join=none)(hg:G i u w):GdM vs G i u w:=by unfold GdM;rw[h];exact hg
theorem s_mv{x:Operand}{u:Value}(ho:o.op = .move x∨o.op = .assign x:=by first | exact .inl rfl | exact .inr rfl)(hx:evM l vs a o x=some u:=by rfl)(hi:(vs[i]?).join=some u:=by rfl)
    (hw:WantM l vs o:=by first | exact .inl rfl | exact .inr ⟨_,_,_,rfl,rfl,rfl,rfl⟩):StepM P Q l vs G a w i o:=fun b w1 h K hK=>by
 refine h.want hw ?_;have hk:=hK _ w1 (Ext.refl _) (GdM.val hi w1)
 rcases ho with ho | ho
 · exact op_move ho (h.ev hx) hk
 · exact op_assign ho (h.ev hx) hk
theorem s_run0{u:Value}(hi:(vs[i]?).join=some u:=by rfl)(hw:WantM l vs o:=by first | exact .inl rfl | exact .inr ⟨_,_,_,rfl,rfl,rfl,rfl⟩)(hr:∀ (b:Act) (w1:World),Ext w w1→(execOp b.eval o).run P w1 = .ok (.value u) w1):StepM P Q l vs G a w i o:=fun b w1 h _K hK=>
 h.want hw (op_run (hr b w1 h.ext) (hK _ w1 (Ext.refl _) (GdM.val hi w1)))
theorem InM.slot(h:InM l vs G a w o b w1){s:Nat}{v:Value}(e:evM l vs a o (.tmp s)=some v):b.tmps[s]? = some v:=by
 unfold evM at e;simp only at e
 split at e
 · rename_i j hj
   have h1:=List.find?_some hj;simp only[Bool.and_eq_true,beq_iff_eq]at h1;obtain⟨u,hg,hd⟩:=h.dep j h1.1;have h2:=hd s h1.2;unfold GdM at hg;rw[e]at hg;simp only at hg;subst hg;exact h2
 · split at e
   · rename_i hm
     exact(h.miss s hm).trans e
   · cases e
theorem s_run1(s:Nat){v u:Value}(hx:evM l vs a o (.tmp s)=some v:=by rfl)(hi:(vs[i]?).join=some u:=by rfl)(hw:WantM l vs o:=by first | exact .inl rfl | exact .inr ⟨_,_,_,rfl,rfl,rfl,rfl⟩)(hr:∀ (b:Act) (w1:World),Ext w w1→b.tmps[s]? = some v→(execOp b.eval o).run P w1 = .ok (.value u) w1):StepM P Q l vs G a w i o:=fun b w1 h _K hK=>
 h.want hw (op_run (hr b w1 h.ext (h.slot hx)) (hK _ w1 (Ext.refl _) (GdM.val hi w1)))
theorem s_run2(s t:Nat){v v2 u:Value}(hx:evM l vs a o (.tmp s)=some v:=by rfl)(hy:evM l vs a o (.tmp t)=some v2:=by rfl)(hi:(vs[i]?).join=some u:=by rfl)(hw:WantM l vs o:=by first | exact .inl rfl | exact .inr ⟨_,_,_,rfl,rfl,rfl,rfl⟩)(hr:∀ (b:Act) (w1:World),Ext w w1→b.tmps[s]? = some v→b.tmps[t]? = some v2→(execOp b.eval o).run P w1 = .ok (.value u) w1):StepM P Q l vs G a w i o:=fun b w1 h _K hK=>
 h.want hw (op_run (hr b w1 h.ext (h.slot hx) (h.slot hy)) (hK _ w1 (Ext.refl _) (GdM.val hi w1)))
theorem s_run3(s t r:Nat){v v2 v3 u:Value}(hx:evM l vs a o (.tmp s)=some v:=by rfl)(hy:evM l vs a o (.tmp t)=some v2:=by rfl)(hz:evM l vs a o (.tmp r)=some v3:=by rfl)(hi:(vs[i]?).join=some u:=by rfl)(hw:WantM l vs o:=by first | exact .inl rfl | exact .inr ⟨_,_,_,rfl,rfl,rfl,rfl⟩)(hr:∀ (b:Act) (w1:World),Ext w w1→b.tmps[s]? = some v→b.tmps[t]? = some v2→b.tmps[r]? = some v3→(execOp b.eval o).run P w1 = .ok (.value u) w1):StepM P Q l vs G a w i o:=fun b w1 h _K hK=>
 h.want hw (op_run (hr b w1 h.ext (h.slot hx) (h.slot hy) (h.slot hz)) (hK _ w1 (Ext.refl _) (GdM.val hi w1)))
theorem s_row{t tb:TypeId}{x:Operand}{bk:Nat}{ws:List Value}(H:Hid (Arr w bk tb ws)){d:TypeDesc}(hu:P.underlying t=some d)(ho:o.op = .load t x:=by rfl)(hx:evM l vs a o x=some (.pointer (some ⟨bk,0,none⟩)):=by rfl)
    (hd:(match d with | .struct _ | .array _ _=>true | _=>false)=true:=by rfl) (hz:(P.info? t).map (·.size)=some ws.length:=by kernel_rfl) (hi:(vs[i]?).join=some (.agg ws.toArray):=by rfl)
    (hw:WantM l vs o:=by first | exact .inl rfl | exact .inr ⟨_,_,_,rfl,rfl,rfl,rfl⟩):StepM P Q l vs G a w i o:=fun _b w1 h _K hK=>
 h.want hw (op_loadrow ho (h.ev hx) (H.out.ext h.ext) d hu hd hz (hK _ w1 (Ext.refl _) (GdM.val hi w1)))
theorem s_mid{t:TypeId}{x:Operand}{bk off:Nat}{ws:List Value}(H:∀ w1,Ext w w1→∀ j v,ws[j]? = some v→w1.cell? ⟨bk,off+j,none⟩=some v){d:TypeDesc}(hu:P.underlying t=some d)(ho:o.op = .load t x:=by rfl)(hx:evM l vs a o x=some (.pointer (some ⟨bk,off,none⟩)):=by rfl)
    (hd:d.isRow=true:=by rfl) (hz:(P.info? t).map (·.size)=some ws.length:=by kernel_rfl) (hi:(vs[i]?).join=some (.agg ws.toArray):=by rfl)
    (hw:WantM l vs o:=by first | exact .inl rfl | exact .inr ⟨_,_,_,rfl,rfl,rfl,rfl⟩):StepM P Q l vs G a w i o:=fun _b w1 h _K hK=>
 h.want hw (wp_load_mid t x ho bk off (h.ev hx) ws d (H w1 h.ext) hu hd hz (hK _ w1 (Ext.refl _) (GdM.val hi w1)))
theorem s_call{f:FuncId}{args:List Operand}{ts:Array TypeId}{us:List Value}{u:Value}(hc:∀ w1,Ext w w1→Calls P f us.toArray w1 fun e w'=>e = .returned u∧Ext w1 w')(ho:o.op = .call {callee:=.value (.func f),args:=args.toArray,argTypes:=ts }:=by rfl)
    (ha:evsM l vs a o args=some us:=by rfl) (he:∀ args w,(callFunc f args).run P w = .ok (.enter f args) w:=by intro _ _;kernel_rfl) (hi:(vs[i]?).join=some u:=by rfl)
    (hw:WantM l vs o:=by first | exact .inl rfl | exact .inr ⟨_,_,_,rfl,rfl,rfl,rfl⟩):StepM P Q l vs G a w i o:=fun b w1 h K hK=>
 h.want hw (op_call (G:=fun v _=>v=u) ho (by rw[List.map_toArray,h.evs ha]) he ((hc w1 h.ext).mono fun e w' ⟨h1,h2⟩=>⟨u,h1,h2,rfl⟩) (fun v w' h1 h2=>by subst h2;exact hK _ w' h1 (GdM.val hi w')))
theorem s_callG{f:FuncId}{args:List Operand}{ts:Array TypeId}{us:List Value}(hc:∀ w1,Ext w w1→Calls P f us.toArray w1 fun e w'=>∃ v,e = .returned v∧Ext w1 w'∧G i v w')(ho:o.op = .call {callee:=.value (.func f),args:=args.toArray,argTypes:=ts }:=by rfl)
    (ha:evsM l vs a o args=some us:=by rfl) (he:∀ args w,(callFunc f args).run P w = .ok (.enter f args) w:=by intro _ _;kernel_rfl) (hi:(vs[i]?).join=none:=by rfl)
    (hw:WantM l vs o:=by first | exact .inl rfl | exact .inr ⟨_,_,_,rfl,rfl,rfl,rfl⟩):StepM P Q l vs G a w i o:=fun b w1 h K hK=>
 h.want hw (op_call (G:=fun v w'=>G i v w') ho (by rw[List.map_toArray,h.evs ha]) he (hc w1 h.ext) (fun v w' h1 h2=>hK _ w' h1 (GdM.prop hi h2)))
theorem g_true:∀ (_i:Nat) (_v:Value) (w1 w2:World),Ext w1 w2→True→True:=fun _ _ _ _ _ h=>h
theorem g_if{k:Nat}{A:Value→World→Prop}{B:Nat→Value→World→Prop}(h:∀ v w1 w2,Ext w1 w2→A v w1→A v w2)(hB:∀ i v w1 w2,Ext w1 w2→B i v w1→B i v w2):
    ∀ (i:Nat) (v:Value) (w1 w2:World),Ext w1 w2→(if i=k then A v w1 else B i v w1)→(if i=k then A v w2 else B i v w2):=fun i v w1 w2 hx hh=>by
 by_cases he:i=k
 · rw[if_pos he]at *;exact h v w1 w2 hx hh
 · rw[if_neg he]at *;exact hB i v w1 w2 hx hh
theorem s_by(hw:WantM l vs o)(hk:∀ (b:Act) (w1:World),InM l vs G a w o b w1→∀ K:Act→World→Prop,(∀ v w',Ext w1 w'→GdM vs G i v w'→K (b.put o.dst v) w')→o.wp P b w1 K Q):StepM P Q l vs G a w i o:=fun b w1 h K hK=>h.want hw (hk b w1 h K hK)
end
theorem IndexFuncCh(A:Option Addr)(c:Nat)(xs:List (List Value))(w:World)(hs:Sv w w.heap.size 5 A c xs)(g:FuncId)(fa lb:Array Value)(p:List Value→Bool)(hp:PredF Tryz.prog g fa lb p xs w):
    Calls Tryz.prog 97 #[.slice A xs.length c,.func (.func g) fa lb] w fun e w'=>e = .returned (.int .i64 (idx p xs))∧Ext w w':=by
 have hln:=hs.len;have HS:=Lib.hid hs;clear hs;have eg:=hp.enters;have HP:=Lib.hid hp;clear hp
 go_enter Tryz.func97,Tryz.ntmps97
 go_wp2
 go_loopw [8] (fun i wr=>∃ j:Nat,j≤xs.length∧i = .int .i64 j∧(∀ (i:Nat) (x:List Value),i < j→xs[i]? = some x→p x=false)∧Ext w wr) (fun i _=>xs.length - (intOf i).toNat)
 case atStart=>exact⟨0,Nat.zero_le _,rfl,fun i x hi=>by omega,Ext.refl _⟩
 case round=>
  obtain⟨j,hj,rfl,hg,hx⟩:=hrel;have HG:=Lib.hid hg;clear hg
  by_cases hlt:j < xs.length
  · obtain⟨x,hxj⟩:∃ x,xs[j]? = some x:=⟨_,List.getElem?_eq_getElem hlt⟩;have hmem:=List.mem_of_getElem? hxj;have HL:=Lib.hid (HS.out.rows x hmem).1;obtain⟨b',off,rfl,hbl,hrow⟩:=(HS.out.ext hx).row hxj;have HR:=Lib.hid hrow;have HC:=Lib.hid (HP.out.call _ hmem wr hx);clear hmem hrow
    cases hq:p x with
    | true=>
      have HX:=Lib.hid (idx_at HG.out hxj hq);clear hxj;rw[hq]at HC
      go_wp2_with (first | (with_reducible refine wpList_load_mid rfl 58 (.tmp 14) rfl b' (off+j * 5) rfl x _ HR.out Tryz.underlying58 rfl (HL.out ▸ (by kernel_rfl)) ?_) | (go_at_fn g;refine HC.out.mono ?_;rintro e w' ⟨rfl,hy⟩))
      go_ret
      exact⟨ret_int HX.out.symm,hx.trans hy⟩
    | false=>
      have HX:=Lib.hid (fun(i:Nat) (x:List Value) (hi:i < j+1) (h:xs[i]? = some x)=>(show p x=false from by
       rcases Nat.lt_succ_iff_lt_or_eq.1 hi with h1 | rfl
       · exact HG.out i x h1 h
       · rw[h]at hxj;injection hxj with e;rw[e];exact hq));clear hxj
      rw[hq]at HC
      go_wp2_with (first | (with_reducible refine wpList_load_mid rfl 58 (.tmp 14) rfl b' (off+j * 5) rfl x _ HR.out Tryz.underlying58 rfl (HL.out ▸ (by kernel_rfl)) ?_) | (go_at_fn g;refine HC.out.mono ?_;rintro e w' ⟨rfl,hy⟩))
      go_roundw
      case rel=>exact⟨j+1,by omega,by go_num,HX.out,hx.trans hy⟩
      case measure=>simp[intOf];omega
  · obtain rfl:j=xs.length:=by omega
    go_wp2
    go_ret
    exact⟨ret_int (idx_no fun i x hx=>HG.out i x (List.getElem?_eq_some_iff.1 hx).1 hx).symm,hx⟩
theorem infoPt:(Tryz.prog.info? 23).map (fun i=>(i.zero,i.size,i.bytes))=some (some (.agg #[.int .i64 0,.int .i64 0,.int .i64 0]),3,24):=by kernel_rfl
theorem Sv.empty(w:World)(B k:Nat){A:Option Addr}{c:Nat}(hc:c≤maxLen):Sv w B k A c []:=⟨by simp,hc,fun x h=>by simp at h,fun h=>absurd h (by simp)⟩
def RetP(l:List Pt)(w:World)(en:Ending)(w':World):Prop:=
 ∃ A c,en = .returned (.slice A l.length c)∧Sv w' w'.heap.size 3 A c (rowsP l)∧Ext w w'
theorem RetP.mk{l:List Pt}{w w':World}{v:Value}{base n:Nat}(ho:w'.ownsRow base 23 3 v n (rowsP l).flatten)(hn:n=l.length)(hx:Ext w w'):RetP l w (.returned v) w':=by
 subst hn;obtain⟨A,c,rfl,_⟩:=own_form ho;exact⟨A,c,rfl,Sv.of_own ho (rowsP_rwk l) (rowsP_length l),hx⟩
def RetPF(A0:Option Addr)(l:List Pt)(w:World)(en:Ending)(w':World):Prop:=
 ∃ A c,en = .returned (.slice A l.length c)∧Sv w' w'.heap.size 3 A c (rowsP l)∧(A=A0∨∀ a:Addr,A=some a→w.heap.size≤a.block)∧Ext w w'
theorem RetPF.mk{A0:Option Addr}{l:List Pt}{w w':World}{v:Value}{base n:Nat}(ho:w'.ownsRow base 23 3 v n (rowsP l).flatten)(hn:n=l.length)(hx:Ext w w')(hb:w.heap.size≤base):RetPF A0 l w (.returned v) w':=by
 subst hn;obtain⟨A,c,rfl,_⟩:=own_form ho;refine⟨A,c,rfl,Sv.of_own ho (rowsP_rwk l) (rowsP_length l),.inr fun a ha=>?_,hx⟩
 rcases ho.2 with⟨h1,_⟩ | ⟨g,cap,cur,h1,h2,_⟩
 · injection h1 with h1;subst ha;cases h1
 · injection h1 with h1;subst ha;injection h1 with h1;subst h1;exact Nat.le_trans hb h2
def SortC(l:List Chg):Prop:=l.Pairwise fun x y=>befP x.at_ y.at_=true
theorem SortC.cells{l:List Chg}(h:SortC l):SortP (l.map (·.at_)):=by unfold SortP;rw[List.pairwise_map];exact h
theorem SortC.at_uniq{l:List Chg}(h:SortC l){x y:Chg}(hx:x∈l)(hy:y∈l)(e:x.at_=y.at_):x=y:=by
 induction l with
 | nil=>cases hx
 | cons z zs ih=>
   unfold SortC at h;rw[List.pairwise_cons]at h
   rcases List.mem_cons.1 hx with e1 | hx1
   · rcases List.mem_cons.1 hy with e2 | hy1
     · rw[e1,e2]
     · rw[e1]at e;exact absurd e (befP_ne (h.1 y hy1))
   · rcases List.mem_cons.1 hy with e2 | hy1
     · rw[e2]at e;exact absurd e.symm (befP_ne (h.1 x hx1))
     · exact ih h.2 hx1 hy1
theorem SortC.eq{l m:List Chg}(hl:SortC l)(hm:SortC m)(h:∀ x,x∈l↔x∈m):l=m:=by
 induction l generalizing m with
 | nil=>
   cases m with
   | nil=>rfl
   | cons y ys=>exact absurd ((h y).2 (List.mem_cons_self ..)) (by simp)
 | cons x xs ih=>
   cases m with
   | nil=>exact absurd ((h x).1 (List.mem_cons_self ..)) (by simp)
   | cons y ys=>
     have hl2:=hl;have hm2:=hm;unfold SortC at hl hm;rw[List.pairwise_cons]at hl hm;have hxy:x=y:=by
      rcases List.mem_cons.1 ((h x).1 (List.mem_cons_self ..))with e | hx
      · exact e
      · rcases List.mem_cons.1 ((h y).2 (List.mem_cons_self ..))with e | hy
        · exact e.symm
        · have h1:=befP_asymm (hl.1 y hy);rw[hm.1 x hx]at h1
          cases h1
     subst hxy;congr 1
     refine ih hl.2 hm.2 fun q=>⟨fun hq=>?_,fun hq=>?_⟩
     · rcases List.mem_cons.1 ((h q).1 (List.mem_cons_of_mem _ hq))with rfl | h1
       · exact absurd rfl (befP_ne (hl.1 q hq))
       · exact h1
     · rcases List.mem_cons.1 ((h q).2 (List.mem_cons_of_mem _ hq))with rfl | h1
       · exact absurd rfl (befP_ne (hm.1 q hq))
       · exact h1
def diffL(b:Bx)(F G:Pt→Int):List Chg:=(boxL b).filterMap fun p=>if F p=G p then none else some ⟨p,F p,G p⟩
theorem diffL_mem{b:Bx}{F G:Pt→Int}{c:Chg} : c∈diffL b F G↔inP c.at_ b=true∧c.old=F c.at_∧c.new=G c.at_∧F c.at_≠G c.at_:=by
 unfold diffL;rw[List.mem_filterMap];constructor
 · rintro⟨p,hp,h⟩
   split at h
   · cases h
   · rename_i hne
     injection h with h
     subst h;exact⟨(boxL_mem b p).1 hp,rfl,rfl,hne⟩
 · rintro⟨h1,h2,h3,h4⟩;refine⟨c.at_,(boxL_mem b _).2 h1,?_⟩;rw[if_neg h4];obtain⟨p,o,n⟩:=c;simp only at h2 h3;rw[h2,h3]
theorem diffL_sort(b:Bx)(F G:Pt→Int):SortC (diffL b F G):=by
 unfold SortC diffL;refine List.Pairwise.filterMap (R:=fun x y=>befP x y=true) _ (fun p q hpq x hx y hy=>?_) (boxL_sort b)
 split at hx
 · cases hx
 · split at hy
   · cases hy
   · injection hx with hx;injection hy with hy
     subst hx hy;exact hpq
theorem diffL_uniq{b:Bx}{F G:Pt→Int}{l:List Chg}(h:SortC l)(hm:∀ c,c∈l↔inP c.at_ b=true∧c.old=F c.at_∧c.new=G c.at_∧F c.at_≠G c.at_):l=diffL b F G:=
 h.eq (diffL_sort b F G) fun c=>(hm c).trans diffL_mem.symm
theorem diffL_len(b:Bx)(F G:Pt→Int):(diffL b F G).length≤volN b:=by
 unfold diffL;exact Nat.le_trans (List.length_filterMap_le ..) (Nat.le_of_eq (boxL_length b))
def OnceC(l:List Chg):Prop:=(l.map (·.at_)).Nodup
theorem OnceC.uniq{l:List Chg}(h:OnceC l){x y:Chg}(hx:x∈l)(hy:y∈l)(e:x.at_=y.at_):x=y:=by
 induction l with
 | nil=>cases hx
 | cons z zs ih=>
   unfold OnceC at h;rw[List.map_cons,List.nodup_cons]at h
   rcases List.mem_cons.1 hx with e1 | hx1
   · rcases List.mem_cons.1 hy with e2 | hy1
     · rw[e1,e2]
     · rw[e1]at e;exact absurd (List.mem_map.2 ⟨y,hy1,e.symm⟩) h.1
   · rcases List.mem_cons.1 hy with e2 | hy1
     · rw[e2]at e;exact absurd (List.mem_map.2 ⟨x,hx1,e⟩) h.1
     · exact ih h.2 hx1 hy1
structure IsJoin (a b m:List Chg):Prop where
 sort:SortC m
 mem:∀ c,c∈m↔c.old≠c.new∧((∃ x,x∈a∧x.at_=c.at_∧x.old=c.old∧((∃ y,y∈b∧y.at_=c.at_∧y.new=c.new)∨((∀ y,y∈b→y.at_≠c.at_)∧x.new=c.new)))∨((∀ x,x∈a→x.at_≠c.at_)∧c∈b))
theorem IsJoin.uniq{a b m m':List Chg}(h:IsJoin a b m)(k:IsJoin a b m'):m=m':=h.sort.eq k.sort fun c=>(h.mem c).trans (k.mem c).symm
def swapC(c:Chg):Chg:=⟨c.at_,c.new,c.old⟩
def revC(l:List Chg):List Chg:=l.reverse.map swapC
def putC(l:List Chg)(c:Chg)(i:Nat):List Chg:=l.take i++c:: l.drop i
theorem putC_len(l:List Chg)(c:Chg)(i:Nat):(putC l c i).length=l.length+1:=by
 unfold putC;rw[List.length_append,List.length_cons,List.length_take,List.length_drop];omega
structure ExtD (w w':World):Prop where
 ext:Ext w w'
 drawn:w.drawn≤w'.drawn
theorem ExtD.refl(w:World):ExtD w w:=⟨Ext.refl w,Nat.le_refl _⟩
theorem ExtD.trans{a b c:World}(h:ExtD a b)(k:ExtD b c):ExtD a c:=⟨h.ext.trans k.ext,Nat.le_trans h.drawn k.drawn⟩
theorem ExtD.drew{a w:World}(h:ExtD a w):ExtD a w.drew:=⟨h.ext.drew,Nat.le_trans h.drawn (Nat.le_succ _)⟩
theorem ExtD.alloc{a w:World}(h:ExtD a w)(o:Obj):ExtD a (w.alloc o):=⟨h.ext.alloc o,h.drawn⟩
theorem ExtD.setCell{a w:World}(h:ExtD a w){p:Addr}(hp:a.heap.size≤p.block)(u:Value):ExtD a (w.setCell p u):=⟨h.ext.setCell hp u,h.drawn⟩
theorem ExtD.setRow{a w:World}(h:ExtD a w){g:Nat}(hg:a.heap.size≤g)(cs:Array Value):ExtD a (w.setRow g cs):=⟨h.ext.setRow hg cs,h.drawn⟩
section
variable {P:Program}
variable {o:Oper} {b:Act} {w1:World} {K:Act→World→Prop} {Q:Exit→Act→World→Prop}
theorem wpList_append_svD{ops:Array Oper}{rest:List Oper}{o:Oper}{a:Act}{w:World}{Q:Exit→Act→World→Prop}(hgd:o.guard=none)(s x:Operand)(t:TypeId)
    (ho:o.op = .call {callee:=.builtin .append,args:=#[s,x],argTypes:=#[t,t] })
    (base:Nat) (e:TypeId) (i:TypeInfo) (z:Value) (size bytes:Nat) (ht:P.underlying t=some (.slice e)) (hi:P.info? e=some i) (hz:i.zero=some z)
    (hsize:i.size=size) (hby:i.bytes=bytes) (hzs:z.cells.size=size) (hsz:0 < size)
    (v:Value) (n:Nat) (xs:List Value) (hs:a.eval s=v) (hown:w.ownsRow base e size v n xs)
    (B:Nat) (A:Option Addr) (m c:Nat) (news:List (List Value)) (hx:a.eval x = .slice A m c) (hr:Sv w B size A c news) (hm:news.length=m)
    (h63:n+m≤maxLen) (hbytes:(n+m) * bytes≤140737488355328) (hbase:base≤w.heap.size)
    (h:∀ v' w',w'.ownsRow base e size v' (n+m) (xs++news.flatten)→w.grownBy w' v.ownBlock→(v'.ownBlock=v.ownBlock∨v'.ownBlock=some w.heap.size)→w.drawn≤w'.drawn→wpList P ops Q rest (a.put o.dst v') w'):wpList P ops Q (o:: rest) a w:=by
 refine wpList_plain hgd fun K hK'=>?_;obtain⟨v',w',hrun,r1,r2,r3⟩:=run_append_sv (P:=P) w base t o.type e i z size bytes ht hi hz hsize hby hzs hsz v n xs hown B A m c news hr hm h63 hbytes hbase;have hd:=Sem_run_drawn P _ _ _ _ hrun;unfold Oper.wp;simp[execOp,ho,resolve,invoke,builtin,hs,hx,hrun,Result.andThen];exact hK' _ _ (h v' w' r1 r2 r3 hd)
theorem ExtD.own{a w w':World}{base n k:Nat}{e:TypeId}{v:Value}{zs:List Value}(h:ExtD a w)(ho:w.ownsRow base e k v n zs)(hg:w.grownBy w' v.ownBlock)(hd:w.drawn≤w'.drawn)(hb:a.heap.size≤base):ExtD a w':=⟨h.ext.own ho hg hb,Nat.le_trans h.drawn hd⟩
theorem noGuardD{l:List Oper}(h:(l.all fun o=>o.guard.isNone)=true):∀ (i:Nat) (o:Oper),l[i]? = some o→o.guard=none:=fun i o ho=>by
 rw[List.all_eq_true]at h;simpa using h o (List.mem_of_getElem? ho)
structure Box2 (T:TypeId) (n:Nat) (zs c0 c1:List Value) (W:World) (listed:Array Bool) (g:Nat × Nat) (w:World):Prop where
 ext:ExtD W w
 l0:listed.getD n true=true→W.heap.size≤g.1∧Arr w g.1 T (if listed.getD (n+2) true=true then c0 else zs)
 l1:listed.getD (n+1) true=true→W.heap.size≤g.2∧Arr w g.2 T (if listed.getD (n+3) true=true then c1 else zs)
 ne:listed.getD n true=true→listed.getD (n+1) true=true→g.1≠g.2
 s0:listed.getD (n+2) true=true→listed.getD n true=true
 s1:listed.getD (n+3) true=true→listed.getD (n+1) true=true
def box2V(V:Nat→Value)(n:Nat)(g:Nat × Nat)(i:Nat):Value:=if i < n then V i else if i=n then .pointer (some ⟨g.1,0,none⟩)else if i=n+1 then .pointer (some ⟨g.2,0,none⟩)else undef
theorem Box2.keep{T n:Nat}{zs c0 c1:List Value}{W w w':World}{listed:Array Bool}{g:Nat × Nat}(h:Box2 T n zs c0 c1 W listed g w){i:Nat}(hi:i < n)(hx:ExtD w w'):Box2 T n zs c0 c1 W (listed.setIfInBounds i true) g w':=by
 have h1:∀ k,n≤k→(listed.setIfInBounds i true).getD k true=listed.getD k true:=fun k hk=>getD_set_ne true (by omega);refine⟨h.ext.trans hx,?_,?_,?_,?_,?_⟩
 · rw[h1 n (Nat.le_refl _),h1 (n+2) (by omega)];intro h3;exact⟨(h.l0 h3).1,(h.l0 h3).2.ext hx.ext⟩
 · rw[h1 (n+1) (by omega),h1 (n+3) (by omega)];intro h3;exact⟨(h.l1 h3).1,(h.l1 h3).2.ext hx.ext⟩
 · rw[h1 n (Nat.le_refl _),h1 (n+1) (by omega)];exact h.ne
 · rw[h1 n (Nat.le_refl _),h1 (n+2) (by omega)];exact h.s0
 · rw[h1 (n+1) (by omega),h1 (n+3) (by omega)];exact h.s1
end
section
variable {P:Program} {o:Oper} {b:Act} {w1:World} {K:Act→World→Prop} {Q:Exit→Act→World→Prop}
theorem op_append_sv(s x:Operand)(t:TypeId)(ho:o.op = .call {callee:=.builtin .append,args:=#[s,x],argTypes:=#[t,t] })
    (base:Nat) (e:TypeId) (i:TypeInfo) (z:Value) (size bytes:Nat) (ht:P.underlying t=some (.slice e)) (hi:P.info? e=some i) (hz:i.zero=some z)
    (hsize:i.size=size) (hby:i.bytes=bytes) (hzs:z.cells.size=size) (hsz:0 < size)
    (v:Value) (n:Nat) (xs:List Value) (hs:b.eval s=v) (hown:w1.ownsRow base e size v n xs)
    (B:Nat) (A:Option Addr) (m c:Nat) (news:List (List Value)) (hx:b.eval x = .slice A m c) (hr:Sv w1 B size A c news) (hm:news.length=m)
    (h63:n+m≤maxLen) (hbytes:(n+m) * bytes≤140737488355328) (hbase:base≤w1.heap.size)
    (h:∀ v' w',w'.ownsRow base e size v' (n+m) (xs++news.flatten)→w1.grownBy w' v.ownBlock→K (b.put o.dst v') w'):o.wp P b w1 K Q:=by
 obtain⟨v',w',hrun,r1,r2,_⟩:=run_append_sv (P:=P) w1 base t o.type e i z size bytes ht hi hz hsize hby hzs hsz v n xs hown B A m c news hr hm h63 hbytes hbase;unfold Oper.wp;simp[execOp,ho,resolve,invoke,builtin,hs,hx,hrun,Result.andThen];exact h v' w' r1 r2
end
theorem info_zero{P:Program}{T:TypeId}{zs:List Value}(h:((P.info? T).map fun i=>i.zero.map fun z=>z.cells.toList)=some (some zs)):∃ i z,P.info? T=some i∧i.zero=some z∧z.cells.toList=zs:=by
 cases hq:P.info? T with
 | none=>rw[hq]at h;cases h
 | some i=>
   rw[hq]at h;simp only[Option.map_some,Option.some.injEq]at h;obtain⟨z,h1,h2⟩:=Option.map_eq_some_iff.1 h;exact⟨i,z,rfl,h1,h2⟩
theorem Arr.rng{w:World}{b:Nat}{t:TypeId}{vs:List Value}(h:Arr w b t vs)(o:Nat)(cs:List Value)(e:(vs.drop o).take cs.length=cs):∀ j v,cs[j]? = some v→w.cell? ⟨b,o+j,none⟩=some v:=fun j v hv=>by
 rw[h.cell (o+j)];rw[← e,List.getElem?_take]at hv
 split at hv
 · simpa[List.getElem?_drop]using hv
 · cases hv
theorem op_loadpart{P:Program}{o:Oper}{b:Act}{w1:World}{K:Act→World→Prop}{Q:Exit→Act→World→Prop}{t:TypeId}{x:Operand}(ho:o.op = .load t x)(bk off:Nat)(cs:List Value)(hx:b.eval x = .pointer (some ⟨bk,off,none⟩)){tb:TypeId}{vs:List Value}(hB:Arr w1 bk tb vs)(e:(vs.drop off).take cs.length=cs)(d:TypeDesc)(hu:P.underlying t=some d)
    (hd:d.isRow=true) (hi:(P.info? t).map (·.size)=some cs.length) (h:K (b.put o.dst (.agg cs.toArray)) w1):o.wp P b w1 K Q:=wp_load_mid t x ho bk off hx cs d (hB.rng off cs e) hu hd hi h
end Go.Proofs.YtoecbicdahbccaaGreatDoor
