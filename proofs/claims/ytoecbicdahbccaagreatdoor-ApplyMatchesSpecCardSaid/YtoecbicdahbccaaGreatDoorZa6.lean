/- A part of the walk of the layer of apply: contracts and plain laws that a row's text leans on. -/
import Derived.Test.YtoecbicdahbccaaGreatDoorZa4
import Derived.Test.YtoecbicdahbccaaGreatDoorZa5
set_option maxRecDepth 100000
set_option maxHeartbeats 16000000
namespace Go.Proofs.YtoecbicdahbccaaGreatDoor
open Go Go.RowKit
def Rwk(k:Nat)(xs:List (List Value)):Prop:=∀ x,x∈xs→x.length=k∧∀ u,u∈x→u.oneCell'=true
theorem Rwk.len{k:Nat}{xs:List (List Value)}(h:Rwk k xs):∀ x,x∈xs→x.length=k:=fun x hx=>(h x hx).1
theorem Rwk.one{k:Nat}{xs:List (List Value)}(h:Rwk k xs):∀ u,u∈xs.flatten→u.oneCell'=true:=fun u hu=>by
 obtain⟨x,hx,hu⟩:=List.mem_flatten.1 hu;exact(h x hx).2 u hu
theorem Rwk.sub{k:Nat}{xs ys:List (List Value)}(h:Rwk k xs)(hs:∀ x,x∈ys→x∈xs):Rwk k ys:=fun x hx=>h x (hs x hx)
theorem Rws.rwk{k:Nat}{xs:List (List Value)}(h:Rws k xs):Rwk k xs:=fun x hx=>by
 obtain⟨l,h1,rfl⟩:=h x hx;exact⟨by simpa using h1,fun u hu=>by obtain⟨n,_,rfl⟩:=List.mem_map.1 hu;rfl⟩
structure Sv (w:World) (B k:Nat) (A:Option Addr) (c:Nat) (xs:List (List Value)):Prop where
 le:xs.length≤c
 max:c≤maxLen
 rows:Rwk k xs
 mem:0 < xs.length→∃ b off,A=some ⟨b,off,none⟩∧b < B∧∀ (j:Nat) (u:Value),xs.flatten[j]? = some u→w.cell? ⟨b,off+j,none⟩=some u
section
variable {w w':World} {B B' k c n base:Nat} {e:TypeId} {A:Option Addr} {xs:List (List Value)}
theorem Sv.keep(h:Sv w B k A c xs)(hk:∀ p:Addr,p.block < B→w'.cell? p=w.cell? p):Sv w' B k A c xs:=
 ⟨h.le,h.max,h.rows,fun hn=>by
   obtain⟨b,off,e,hb,hc⟩:=h.mem hn;exact⟨b,off,e,hb,fun j u hu=>(hk _ hb).trans (hc j u hu)⟩⟩
theorem Sv.more(h:Sv w B k A c xs)(hB:B≤B'):Sv w B' k A c xs:=
 ⟨h.le,h.max,h.rows,fun hn=>by
   obtain⟨b,off,e,hb,hc⟩:=h.mem hn;exact⟨b,off,e,by omega,hc⟩⟩
theorem Sv.ext(h:Sv w w.heap.size k A c xs)(hx:Ext w w'):Sv w' w'.heap.size k A c xs:=(h.keep fun _ hp=>hx.below.cell hp).more hx.size
theorem Sv.nil(w:World)(B k:Nat):Sv w B k none 0 []:=⟨by simp,by simp,fun _ h=>by simp at h,fun h=>absurd h (by simp)⟩
theorem Sv.len(h:Sv w B k A c xs):xs.length≤9223372036854775807:=by have h1:=h.le;have h2:=h.max;unfold maxLen at h2;omega
theorem Sl.sv(h:Sl w B k A c xs):Sv w B k A c xs:=⟨h.le,h.max,h.rows.rwk,h.mem⟩
theorem Sv.row(h:Sv w B k A c xs){i:Nat}{x:List Value}(hx:xs[i]? = some x):∃ b off,A=some ⟨b,off,none⟩∧b < B∧w.rangeAt b (off+i * k) x:=by
 obtain⟨b,off,e,hb,hc⟩:=h.mem (by have:=(List.getElem?_eq_some_iff.1 hx).1;omega);refine⟨b,off,e,hb,fun j v hv=>?_⟩;rw[Nat.add_assoc];exact hc _ _ (flatten_at xs h.rows.len i x hx j v hv)
theorem Sv.news{a:Addr}(h:Sv w B k (some a) c xs):∀ j u,xs.flatten[j]? = some u→w.cell? (a.add j)=some u:=fun j u hu=>by
 have hpos:0 < xs.length:=by
  rcases Nat.eq_zero_or_pos xs.length with h0 | h0
  · rw[List.eq_nil_of_length_eq_zero h0]at hu;simp at hu
  · exact h0
 obtain⟨b,off,e,_,hc⟩:=h.mem hpos;injection e with e
 subst e;rw[add_lit];exact hc j u hu
theorem Sv.of_own(h:w.ownsRow base e k (.slice A n c) n xs.flatten)(hr:Rwk k xs)(hn:xs.length=n):Sv w w.heap.size k A c xs:=by
 subst hn
 rcases h.2 with⟨h1,h2⟩ | ⟨g,cap,cur,hv,hg,hgg,hle,hmax,hsz,htk⟩
 · have hx:xs = []:=List.eq_nil_of_length_eq_zero h2;subst hx;injection h1 with _ _ hc
   subst hc;exact⟨by simp,by simp,hr,fun h=>absurd h (by simp)⟩
 · injection hv with hA _ hc
   subst hA hc;refine⟨hle,hmax,hr,fun _=>⟨g,0,rfl,(Array.getElem?_eq_some_iff.1 hgg).1,fun j u h3=>?_⟩⟩;rw[Nat.zero_add,cell_of_row w g _ cur e (0,0) hgg];rw[← htk,List.getElem?_take]at h3
   split at h3
   · simpa using h3
   · cases h3
end
structure PredF (P:Program) (g:FuncId) (fst cap:Array Value) (p:List Value→Bool) (xs:List (List Value)) (w:World):Prop where
 enters:∀ args w,(callFunc g args).run P w = .ok (.enter g args) w
 call:∀ x,x∈xs→∀ w',Ext w w'→Calls P g (fst++#[.agg x.toArray]++cap) w' fun e w''=>e = .returned (.bool (p x))∧Ext w' w''
theorem PredF.ext{P:Program}{g:FuncId}{fst cap:Array Value}{p:List Value→Bool}{xs:List (List Value)}{w w':World}(h:PredF P g fst cap p xs w)(hx:Ext w w'):PredF P g fst cap p xs w':=
 ⟨h.enters,fun x hm w2 h2=>h.call x hm w2 (hx.trans h2)⟩
theorem PredF.sub{P:Program}{g:FuncId}{fst cap:Array Value}{p:List Value→Bool}{xs ys:List (List Value)}{w:World}(h:PredF P g fst cap p xs w)(hs:∀ x,x∈ys→x∈xs):PredF P g fst cap p ys w:=
 ⟨h.enters,fun x hm w2 h2=>h.call x (hs x hm) w2 h2⟩
theorem own_low{w:World}{base k n:Nat}{e:TypeId}{v:Value}{zs:List Value}(h:w.ownsRow base e k v n zs):∀ b,v.ownBlock=some b→base≤b:=fun b hb=>by
 rcases h.2 with⟨rfl,_⟩ | ⟨g,cap,cur,rfl,hg,_⟩
 · simp[Value.ownBlock]at hb
 · simp only[Value.ownBlock,Option.some.injEq]at hb;omega
theorem run_index_cell{P:Program}(t e:TypeId)(n:Nat)(cs:Array Value)(k:IntKind)(i:Nat)(v:Value)(w:World)(h:P.underlying t=some (.array n e))(he:P.plainKey e=true)(hs:(P.info? e).map (·.size)=some 1)(hi:i < n)(hv:cs[i]? = some v):
    (Instr.index t (.agg cs) (.int k (i:Int))).run P w = .ok v w:=by
 have h1:(0:Int)≤(i:Int)∧(i:Int) < (n:Int):=by omega
 obtain⟨inf,hinf,hsz⟩:=Option.map_eq_some_iff.1 hs;have hp:=run_part_plain (P:=P) (w:=w) he (xs:=cs) (off:=i) hv;simpa[Instr.index,run_underlying h,asIntOf,h1,hi,go_sem,sizeOf,typeInfo,hinf,hsz,part,Result.andThen]using hp
theorem wpList_index_cell{P:Program}{ops:Array Oper}{rest:List Oper}{o:Oper}{a:Act}{w:World}{Q:Exit→Act→World→Prop}(t e:TypeId)(x y:Operand)(ho:o.op = .index t x y)(hw:Region.wanted o (yielded ops a.tmps)=true)(n:Nat)(cs:List Value)(k:IntKind)(i:Nat)(v:Value)
    (hx:a.eval x = .agg cs.toArray) (hy:a.eval y = .int k (i:Int)) (hu:P.underlying t=some (.array n e)) (he:P.plainKey e=true) (hs:(P.info? e).map (·.size)=some 1) (hi:i < n) (hv:cs[i]? = some v) (h:wpList P ops Q rest (a.put o.dst v) w):wpList P ops Q (o:: rest) a w:=by
 refine wpList_step fun K hK=>?_;rw[if_pos hw];have hr:=run_index_cell t e n cs.toArray k i v w hu he hs hi (by simpa using hv);exact op_run (by unfold execOp;simp only[ho,hx,hy];simp[hr,Result.andThen]) (hK _ _ h)
theorem wpList_store_blk2{P:Program}{ops:Array Oper}{rest:List Oper}{o:Oper}{a:Act}{w:World}{Q:Exit→Act→World→Prop}(ty:TypeId)(x y:Operand)(ho:o.op = .store ty x y)(hw:Region.wanted o (yielded ops a.tmps)=true)
    {b:Nat} {t:TypeId} {vs:List Value} (hB:Arr w b t vs) (cs:List Value) (hx:a.eval x = .pointer (some ⟨b,0,none⟩)) (hy:a.eval y = .agg cs.toArray) (hi:(P.info? ty).map (·.size)=some cs.length)
    (hl:vs.length=cs.length) (h1:cs.all (·.oneCell')=true) (hdst:o.dst=none) (h:∀ W,W=w.setRow b cs.toArray→wpList P ops Q rest a W):wpList P ops Q (o:: rest) a w:=
 wpList_store_blk ty x y ho hw hB cs hx hy hi hl h1 (by rw[hdst];exact h _ rfl)
theorem Arr.setCells{b:Nat}{t:TypeId} : ∀ (l:List Value) {w:World} {vs:List Value} (o:Nat),Arr w b t vs→o+l.length≤vs.length→Arr (w.setCells b o l) b t (splice vs o l)
 | [],w,vs,o,h,_=>by rw[splice_nil];exact h
 | v:: l,w,vs,o,h,hl=>by
   rw[List.length_cons]at hl;have h1:=Arr.setCells l (o+1) (h.set o v) (by rw[List.length_set];omega);rw[splice_step _ _ _ _ (by omega)]at h1;exact h1
theorem Ext.setCells{a:World}{g:Nat}(hg:a.heap.size≤g):∀ (l:List Value) {w:World} (o:Nat),Ext a w→Ext a (w.setCells g o l)
 | [],_,_,h=>h
 | v:: l,_w,o,h=>Ext.setCells hg l (o+1) (h.setCell (p:=⟨g,o,none⟩) hg v)
theorem Arr.there{w:World}{b:Nat}{t:TypeId}{vs:List Value}(h:Arr w b t vs){o n:Nat}(hn:o+n≤vs.length):w.there b o n:=by
 intro j hj;rw[h.cell];have:(o+j) < vs.length:=by omega
 simp[List.getElem?_eq_getElem this,h.frozen]
theorem wpList_load_cells{P:Program}{ops:Array Oper}{rest:List Oper}{o:Oper}{a:Act}{w:World}{Q:Exit→Act→World→Prop}(ty:TypeId)(x:Operand)(ho:o.op = .load ty x)(hw:Region.wanted o (yielded ops a.tmps)=true)
    (b off:Nat) (cs:List Value) (hcs:∀ j v,cs[j]? = some v→w.cell? ⟨b,off+j,none⟩=some v) (hx:a.eval x = .pointer (some ⟨b,off,none⟩)) (d:TypeDesc) (hu:P.underlying ty=some d)
    (hd:d.isRow=true) (hi:(P.info? ty).map (·.size)=some cs.length) (h:wpList P ops Q rest (a.put o.dst (.agg cs.toArray)) w):wpList P ops Q (o:: rest) a w:=by
 refine wpList_step fun K hK=>?_;rw[if_pos hw];exact wp_load_mid ty x ho b off hx cs d hcs hu hd hi (hK _ _ h)
theorem op_loadcells{P:Program}{o:Oper}{b:Act}{w1:World}{K:Act→World→Prop}{Q:Exit→Act→World→Prop}{t:TypeId}{x:Operand}(ho:o.op = .load t x)(bk off:Nat)(cs:List Value)(hx:b.eval x = .pointer (some ⟨bk,off,none⟩))(hcs:∀ j v,cs[j]? = some v→w1.cell? ⟨bk,off+j,none⟩=some v)(d:TypeDesc)(hu:P.underlying t=some d)
    (hd:d.isRow=true) (hi:(P.info? t).map (·.size)=some cs.length) (h:K (b.put o.dst (.agg cs.toArray)) w1):o.wp P b w1 K Q:=wp_load_mid t x ho bk off hx cs d hcs hu hd hi h
def Z6:List Value:=[.int .i64 0,.int .i64 0,.int .i64 0,.int .i64 0,.int .i64 0,.int .i64 0]
def rtI(s less:Int)(p:Pt)(k:Int):Int:=if ngI s k then wrap64 (wrap64 (-(cdP p (axI s k))) - less)else cdP p (axI s k)
def rturnP(s less:Int)(p:Pt):Pt:=if isT s then⟨rtI s less p 0,rtI s less p 1,rtI s less p 2⟩else p
structure TurR (n2 nC nA nO:Nat) (p:Pt) (a0 a1 a2:Int) (vs:List Value) (w wr:World):Prop where
 R:Arr wr n2 23 [.int .i64 0,.int .i64 0,.int .i64 0]
 C:Arr wr nC 125 [.int .i64 p.x,.int .i64 p.y,.int .i64 p.z]
 A:Arr wr nA 125 [.int .i64 a0,.int .i64 a1,.int .i64 a2]
 O:Arr wr nO 125 vs
 ext:Ext w wr
theorem TurR.set{n2 nC nA nO:Nat}{p:Pt}{a0 a1 a2:Int}{vs:List Value}{w wr:World}(h:TurR n2 nC nA nO p a0 a1 a2 vs w wr)(h2:n2 < nO)(hC:nC < nO)(hA:nA < nO)(hw:w.heap.size≤nO)(j:Nat)(v:Value):TurR n2 nC nA nO p a0 a1 a2 (vs.set j v) w (wr.setCell ⟨nO,j,none⟩ v):=
 ⟨h.R.other (by simp only;omega) _,h.C.other (by simp only;omega) _,h.A.other (by simp only;omega) _,h.O.set j v,h.ext.setCell hw _⟩
def markP:Pt:=⟨1,2,3⟩
def twoP(a b:Int):Pt:=rturnP a 0 (rturnP b 0 markP)
def invN(s:Nat):Nat:=((List.range 48).find? fun t=>decide (twoP (t:Nat) (s:Nat)=markP)).getD 0
def invI(s:Int):Int:=(invN s.toNat:Nat)
theorem inv_spec:∀ s,s < 48→(invN s < 48∧twoP (invN s:Nat) (s:Nat)=markP)∧∀ i,i < 48→i < invN s→decide (twoP (i:Nat) (s:Nat)=markP)=false:=by decide+kernel
theorem invI_rng{s:Int}(hs:0≤s∧s < 48):0≤invI s∧invI s < 48:=by
 have h:=(inv_spec s.toNat (by omega)).1.1;unfold invI;omega
section
variable {P:Program}
theorem closed_set{l:List Oper}{listed:Array Bool}(hc:ClosedL l.toArray listed){i:Nat}{o:Oper}(ho:l[i]? = some o)(hun:listed.getD i true=false)(hdep:∀ e,e∈o.after→Region.binds .any e=true→listed.getD e.on true=true):ClosedL l.toArray (listed.setIfInBounds i true):=by
 intro j o' ho' hl e he hbd;have hs1:∀ k,listed.getD k true=true→(listed.setIfInBounds i true).getD k true=true:=fun k hk=>by
  by_cases hki:i=k
  · subst hki;rw[hun]at hk;cases hk
  · rw[getD_set_ne true hki];exact hk
 by_cases hji:i=j
 · subst hji;obtain rfl:o'=o:=by rw[show l.toArray[i]? = l[i]? by simp,ho]at ho';injection ho' with h;exact h.symm
   exact hs1 _ (hdep e he hbd)
 · rw[getD_set_ne true hji]at hl;exact hs1 _ (hc j o' ho' hl e he hbd)
theorem wp_region_last{Q:Exit→Act→World→Prop}{id:Nat}{a:Act}{w:World}{l:List Oper}(J:Nat)(Good:Nat→Value→World→Prop)(GV:Nat→Value→Prop)(Post:World→Prop)(hm:P.follows .mixedOrders=true)(hs:slotsB l.toArray=true)(hb:backB2 l.toArray=true)
    (hfit:((List.range l.length).all fun j=>match dstOf l.toArray j with | some d=>decide (d < a.tmps.size) | none=>true)=true) (hJl:l.length=J+1) (hneed:((List.range J).all fun i=>needB l.toArray l.length J i)=true)
    (hst:∀ i v w1 w2,Ext w1 w2→Good i v w1→Good i v w2) (hGV:∀ i v w1,Good i v w1→GV i v)
    (hstep:∀ (i:Nat) (o:Oper),l[i]? = some o→i < J→∀ (b:Act) (w1:World),Ext w w1→(∀ d:Nat,missB l.toArray d=true→b.tmps[d]? = a.tmps[d]?)→
      (∀ j,waits o j=true→∃ v,Good j v w1∧∀ d,dstOf l.toArray j=some d→b.tmps[d]? = some v)→
      ∀ K:Act→World→Prop,(∀ v w',Ext w1 w'→Good i v w'→K (b.put o.dst v) w')→if Region.wanted o (yielded l.toArray b.tmps)=true then o.wp P b w1 K Q else K (b.put o.dst undef) w1)
    (hlast:∀ (o:Oper),l[J]? = some o→∀ (b:Act) (w1:World),Ext w w1→(∀ d:Nat,missB l.toArray d=true→b.tmps[d]? = a.tmps[d]?)→
      (∀ j,j < J→∃ v,Good j v w1∧∀ d,dstOf l.toArray j=some d→b.tmps[d]? = some v)→
      ∀ K:Act→World→Prop,(∀ v w',Post w'→K (b.put o.dst v) w')→if Region.wanted o (yielded l.toArray b.tmps)=true then o.wp P b w1 K Q else K (b.put o.dst undef) w1)
    (hend:∀ (V:Nat→Value) (w1:World),(∀ i,i < J→GV i (V i))→Post w1→Q .normal (fillAllN l.toArray V a l.length) w1):(Code.region id l.toArray true).wp P Q a w:=by
 have hS:=slotsB_spec hs;have hB:=backB2_spec hb;rw[List.all_eq_true]at hneed hfit;have hslot:∀ (listed:Array Bool) (g:Nat→Value) (j:Nat),j < l.length→listed.getD j true=true→∀ d,dstOf l.toArray j=some d→(fill l.toArray g listed a).tmps[d]? = some (g j):=fun listed g j hj hl d hd=>by
  refine fill_hit hS (by simpa using hj) hl hd ?_;have h3:=hfit j (List.mem_range.2 hj);rw[hd]at h3;simpa using h3
 refine wp_region_tabg2 (G:=Nat→Value) (fun g=>g) (fun w listed g w1=>ClosedL l.toArray listed∧(∀ i,i < J→listed.getD i true=true→GV i (g i))∧(listed.getD J true=false→Ext w w1∧∀ i,i < J→listed.getD i true=true→Good i (g i) w1)∧(listed.getD J true=true→Post w1)) (fun _=>undef) hm hS hB ?_ ?_ ?_
 · have h0:∀ k,k < l.length→(Array.replicate l.length false).getD k true=false:=fun k hk=>by simp[Array.getD,hk]
   refine⟨fun j o ho h=>?_,fun i hi h=>?_,fun _=>⟨(Ext.refl _).drew,fun i hi h=>?_⟩,fun h=>?_⟩
   · have hj:=(Array.getElem?_eq_some_iff.1 ho).1;rw[h0 j (by simpa using hj)]at h
     cases h
   · rw[h0 i (by omega)]at h;cases h
   · rw[h0 i (by omega)]at h;cases h
   · rw[h0 J (by omega)]at h;cases h
 · intro listed g w1 i o ho hun hdep hR K hK;have hil:i < l.length:=(List.getElem?_eq_some_iff.1 ho).1;have hc:=closed_set hR.1 ho hun (fun e he hbd=>getD_up (hdep e he hbd));have hmiss:∀ d:Nat,missB l.toArray d=true→(fill l.toArray g listed a).tmps[d]? = a.tmps[d]?:=fun d hd=>fill_miss (fun i hi _=>missB_spec hd i hi);have hself:(listed.setIfInBounds i true).getD i true=true:=by
    simp only[Array.getD]
    split <;> simp
   by_cases hiJ:i=J
   · subst hiJ;obtain⟨hx,hg⟩:=hR.2.2.1 hun;have hall:∀ j,j < i→listed.getD j true=true:=fun j hj=>by
      have h1:=need_done hc _ _ _ (hneed j (List.mem_range.2 hj)) hself
      rwa [getD_set_ne true (by omega)]at h1
     refine hlast o ho (fill l.toArray g listed a) w1 hx hmiss (fun j hj=>⟨g j,hg j hj (hall j hj),hslot listed g j (by omega) (hall j hj)⟩) K (fun v w' hp=>?_);have h:=hK (fun k=>if k=i then v else g k) w' ⟨hc,fun j hj hl=>?_,fun hf=>?_,fun _=>hp⟩ (fun j hj hl=>?_)
     · simpa using h
     · simp only[if_neg (show j≠i by omega)];exact hR.2.1 j hj (hall j hj)
     · rw[hself]at hf;cases hf
     · have hne:j≠i:=fun e=>by subst e;rw[hl]at hun;cases hun
       simp only[if_neg hne]
   · have hiJ2:i < J:=by omega
     have hJf:listed.getD J true=false:=by
      cases hq:listed.getD J true
      · rfl
      · have h1:=need_done hR.1 _ _ _ (hneed i (List.mem_range.2 hiJ2)) hq;rw[hun]at h1
        cases h1
     obtain⟨hx,hg⟩:=hR.2.2.1 hJf;refine hstep i o ho hiJ2 (fill l.toArray g listed a) w1 hx hmiss (fun j hj=>?_) K (fun v w' hx1 hgd=>?_)
     · obtain⟨e,he,rfl,hbd⟩:=waits_spec hj;have h1:=getD_up (hdep e he hbd);have h2:e.on < i:=hB i o (by simpa using ho) e he hbd;exact⟨g e.on,hg _ (by omega) h1,hslot listed g _ (by omega) h1⟩
     · have h:=hK (fun k=>if k=i then v else g k) w' ⟨hc,fun j hj hl=>?_,fun hf=>⟨hx.trans hx1,fun j hj hl=>?_⟩,fun hl=>?_⟩ (fun j hj hl=>?_)
       · simpa using h
       · by_cases hji:j=i
         · subst hji;simpa using hGV _ _ _ hgd
         · simp only[if_neg hji];rw[getD_set_ne true (Ne.symm hji)]at hl;exact hR.2.1 j hj hl
       · by_cases hji:j=i
         · subst hji;simpa using hgd
         · simp only[if_neg hji];rw[getD_set_ne true (Ne.symm hji)]at hl;exact hst _ _ _ _ hx1 (hg j hj hl)
       · rw[getD_set_ne true hiJ,hJf]at hl
         cases hl
       · have hne:j≠i:=fun e=>by subst e;rw[hl]at hun;cases hun
         simp only[if_neg hne]
 · intro listed g w1 hall hR;rw[fill_done hall];exact hend g w1 (fun i hi=>hR.2.1 i hi (hall i (by omega))) (hR.2.2.2 (hall J (by omega)))
end
section
variable {P:Program}
theorem wp_region_flow2{Q:Exit→Act→World→Prop}{id:Nat}{a:Act}{w:World}{l:List Oper}(J:Nat)(Inv:Bool→World→Prop)(h0:Inv false w.drew)(hinv:∀ d w1 w2,Ext w1 w2→Inv d w1→Inv d w2)(Good:Bool→Nat→Value→World→Prop)(hm:P.follows .mixedOrders=true)(hs:slotsB l.toArray=true)(hb:backB2 l.toArray=true)(hfit:((List.range l.length).all fun j=>match dstOf l.toArray j with | some d=>decide (d < a.tmps.size) | none=>true)=true)
    (hJl:J < l.length) (hst:∀ d i v w1 w2,Ext w1 w2→Good d i v w1→Good d i v w2) (hup:∀ i v w1 w2,Good false i v w1→Good true i v w2)
    (hstep:∀ (i:Nat) (o:Oper),l[i]? = some o→∀ (d:Bool) (b:Act) (w1:World),(i=J→d=false)→Inv d w1→(∀ d:Nat,missB l.toArray d=true→b.tmps[d]? = a.tmps[d]?)→
      (∀ j,waits o j=true→∃ v,Good d j v w1∧∀ d,dstOf l.toArray j=some d→b.tmps[d]? = some v)→
      ∀ K:Act→World→Prop,(∀ v w',(i=J→Inv true w')→(i≠J→Ext w1 w')→Good (decide (i=J) || d) i v w'→K (b.put o.dst v) w')→if Region.wanted o (yielded l.toArray b.tmps)=true then o.wp P b w1 K Q else K (b.put o.dst undef) w1)
    (hend:∀ (V:Nat→Value) (w1:World),Inv true w1→(∀ i,i < l.length→Good true i (V i) w1)→Q .normal (fillAllN l.toArray V a l.length) w1):(Code.region id l.toArray true).wp P Q a w:=by
 have hS:=slotsB_spec hs;have hB:=backB2_spec hb;refine wp_region_tabg2 (G:=Nat→Value) (fun g=>g) (fun w listed g w1=>Inv (listed.getD J true) w1∧∀ i,i < l.length→listed.getD i true=true→Good (listed.getD J true) i (g i) w1) (fun _=>undef) hm hS hB ?_ ?_ ?_
 · refine⟨by rw[show(Array.replicate l.length false).getD J true=false by simp[Array.getD,hJl]];exact h0,fun i hi h=>?_⟩;have:(Array.replicate l.length false).getD i true=false:=by simp[Array.getD,hi]
   rw[this]at h
   cases h
 · intro listed g w1 i o ho hun hdep hR K hK;have hil:i < l.length:=(List.getElem?_eq_some_iff.1 ho).1;refine hstep i o ho (listed.getD J true) (fill l.toArray g listed a) w1 (fun e=>by subst e;exact hun) hR.1 (fun d hd=>fill_miss (fun i hi _=>missB_spec hd i hi)) (fun j hj=>?_) K (fun v w' hx hx1 hg=>?_)
   · obtain⟨e,he,rfl,hbd⟩:=waits_spec hj;have h1:=getD_up (hdep e he hbd);have h2:e.on < l.length:=by have:=hB i o (by simpa using ho) e he hbd;omega
     refine⟨g e.on,hR.2 _ h2 h1,fun d hd=>fill_hit hS (by simpa using h2) h1 hd ?_⟩;rw[List.all_eq_true]at hfit;have h3:=hfit e.on (List.mem_range.2 h2);rw[hd]at h3;simpa using h3
   · have h:=hK (fun k=>if k=i then v else g k) w' ⟨?_,fun j hj hl=>?_⟩ (fun j hj hl=>?_)
     · simpa using h
     · by_cases hiJ:i=J
       · have e1:(listed.setIfInBounds i true).getD J true=true:=by
           rw[hiJ];simp only[Array.getD]
           split <;> simp
         rw[e1];exact hx hiJ
       · rw[getD_set_ne true hiJ];exact hinv _ _ _ (hx1 hiJ) hR.1
     · by_cases hiJ:i=J
       · subst hiJ;have e1:(listed.setIfInBounds i true).getD i true=true:=by
          simp only[Array.getD]
          split <;> simp
         rw[e1];rw[hun]at hR hg
         by_cases hji:j=i
         · subst hji;simpa using hg
         · simp only[if_neg hji];rw[getD_set_ne true (Ne.symm hji)]at hl;exact hup _ _ _ _ (hR.2 j hj hl)
       · rw[getD_set_ne true hiJ]
         by_cases hji:j=i
         · subst hji;simpa[hiJ]using hg
         · simp only[if_neg hji];rw[getD_set_ne true (Ne.symm hji)]at hl;exact hst _ _ _ _ _ (hx1 hiJ) (hR.2 j hj hl)
     · have hne:j≠i:=fun e=>by subst e;rw[hl]at hun;cases hun
       simp only[if_neg hne]
 · intro listed g w1 hall hR;rw[fill_done hall];have hd:=hall J hJl;rw[hd]at hR;exact hend g w1 hR.1 (fun i hi=>hR.2 i hi (hall i hi))
end
def tcI(s:Int)(p:Pt)(k:Int):Int:=if ngI s k then wrap64 (-(cdP p (axI s k)))else cdP p (axI s k)
def turnP(s:Int)(p:Pt):Pt:=if isT s then⟨tcI s p 0,tcI s p 1,tcI s p 2⟩else p
theorem turn1_any(s k:Int)(p:Pt)(hs:0≤s∧s < 48)(hk:0≤k∧k < 3)(b1 b2:Nat)(w:World)(hA:AxesIn w)(e1:w.cell? ⟨b1,0,none⟩=some (.int .i64 s))(e2:Arr w b2 125 [.int .i64 p.x,.int .i64 p.y,.int .i64 p.z]):
    Calls Tryz.prog 176 #[.int .i64 k,.pointer (some ⟨b1,0,none⟩),.pointer (some ⟨b2,0,none⟩)] w fun e w'=>e = .returned (.int .i64 (tcI s p k))∧Ext w w':=by
 have HA:=Lib.hid (axis_any s k hs hk w hA);have HE:=Lib.hid e2;have ha:=axI_in s k hs hk;obtain⟨n,hn⟩:∃ n,ngI s k=n:=⟨_,rfl⟩;unfold tcI;rw[hn]at HA ⊢;obtain⟨a,haa⟩:∃ a,axI s k=a:=⟨_,rfl⟩;rw[haa]at HA ha ⊢;clear hA e2 haa hn;obtain rfl | rfl | rfl:a=0∨a=1∨a=2:=by omega
 all_goals
  cases n
  all_goals
   go_enter Tryz.func176,Tryz.ntmps176
   go_upto_region 2 with(go_at_call 155;refine HA.out.mono ?_;rintro e W1 ⟨rfl,hx⟩;have HE1:=Lib.hid (HE.out.ext hx);have HX:=Lib.hid hx;clear hx)
   have c:=HE1.out.cell;have l:=HE1.out.lt
   go_wp2_with fail
   go_ret
   exact⟨ret_int (by simp[cdP]),HX.out⟩
theorem Turn_any(s:Int)(p:Pt)(w:World)(hA:AxesIn w):Calls Tryz.prog 154 #[.int .i64 s,.agg #[.int .i64 p.x,.int .i64 p.y,.int .i64 p.z]] w fun e w'=>e = .returned (.agg #[.int .i64 (turnP s p).x,.int .i64 (turnP s p).y,.int .i64 (turnP s p).z])∧Ext w w':=by
 obtain⟨W0,hW⟩:∃ W,W=((w.alloc (.cells #[.int .i64 s] 3)).alloc (.cells #[.int .i64 p.x,.int .i64 p.y,.int .i64 p.z] 23)).alloc (.cells #[.int .i64 0,.int .i64 0,.int .i64 0] 23):=⟨_,rfl⟩;have HX0:=Lib.hid (show Ext w W0 by rw[hW];exact(((Ext.refl w).alloc _).alloc _).alloc _);have HS0:=Lib.hid (show Arr W0 w.heap.size 3 [.int .i64 s]by rw[hW];exact((Arr.new w _ [.int .i64 s]).alloc _).alloc _);have HP0:=Lib.hid (show Arr W0 (w.heap.size+1) 23 [.int .i64 p.x,.int .i64 p.y,.int .i64 p.z]by rw[hW];exact(Arr.new1 w _ _ [.int .i64 p.x,.int .i64 p.y,.int .i64 p.z]).alloc _);have HR0:=Lib.hid (show Arr W0 (w.heap.size+1+1) 23 [.int .i64 0,.int .i64 0,.int .i64 0]by
  rw[hW];have h:=Arr.new ((w.alloc (.cells #[.int .i64 s] 3)).alloc (.cells #[.int .i64 p.x,.int .i64 p.y,.int .i64 p.z] 23)) 23 [.int .i64 0,.int .i64 0,.int .i64 0];simp only[World.size_alloc_]at h;exact h)
 have HI:=Lib.hid (isTurn_any s W0);have HA:=Lib.hid (hA.ext HX0.out)
 by_cases h:0≤s∧s < 48
 · have HE:=Lib.hid (fun(W:World) (hx:Ext W0 W) (b2:Nat) (e2:Arr W b2 125 [.int .i64 p.x,.int .i64 p.y,.int .i64 p.z])=>each_any 176 #[.pointer (some ⟨w.heap.size,0,none⟩),.pointer (some ⟨b2,0,none⟩)] (tcI s p 0) (tcI s p 1) (tcI s p 2) W (fun _ _=>by kernel_rfl)
     (fun w' hx'=>turn1_any s 0 p h (by omega) w.heap.size b2 w' (HA.out.ext (hx.trans hx')) ((HS0.out.ext (hx.trans hx')).cell 0) (e2.ext hx'))
     (fun w' hx'=>turn1_any s 1 p h (by omega) w.heap.size b2 w' (HA.out.ext (hx.trans hx')) ((HS0.out.ext (hx.trans hx')).cell 0) (e2.ext hx'))
     (fun w' hx'=>turn1_any s 2 p h (by omega) w.heap.size b2 w' (HA.out.ext (hx.trans hx')) ((HS0.out.ext (hx.trans hx')).cell 0) (e2.ext hx')))
   have HD:=Lib.hid (show turnP s p=⟨tcI s p 0,tcI s p 1,tcI s p 2⟩by unfold turnP isT;rw[decide_eq_true h];rfl);rw[HD.out];unfold isT at HI;rw[decide_eq_true h]at HI;obtain⟨r0,h0⟩:∃ r,tcI s p 0=r:=⟨_,rfl⟩;obtain⟨r1,h1⟩:∃ r,tcI s p 1=r:=⟨_,rfl⟩;obtain⟨r2,h2⟩:∃ r,tcI s p 2=r:=⟨_,rfl⟩;rw[h0,h1,h2]at HE ⊢;clear h h0 h1 h2 hA;have cS:=HS0.out.cell;have lS:=HS0.out.lt;have cP:=HP0.out.cell;have lP:=HP0.out.lt
   go_enter Tryz.func154,Tryz.ntmps154
   go_upto_region 1 with fail
   rw[← hW];clear hW
   go_wp2_with (first
    | (go_at_call 153;refine HI.out.mono ?_;rintro e W1 ⟨rfl,hx⟩;have HP1:=Lib.hid (HP0.out.ext hx);have HR1:=Lib.hid (HR0.out.ext hx);have HX1:=Lib.hid hx;clear hx cS cP lS lP)
    | (refine ldB 23 3 HP1.out Tryz.underlying23 ?_) | (refine ldB 23 3 (HP1.out.alloc _) Tryz.underlying23 ?_) | (refine ldB 23 3 ((HP1.out.alloc _).alloc _) Tryz.underlying23 ?_)
    | (go_at_call 160;refine(list_any p.x p.y p.z _).mono ?_;rintro e W2 ⟨rfl,hx⟩;have HR2:=Lib.hid (HR1.out.ext hx);have HX2:=Lib.hid (HX1.out.trans hx);clear hx)
    | (refine wpList_store_blk2 125 (.tmp 5) (.tmp 11) rfl rfl (Arr.new W2 125 [.int .i64 0,.int .i64 0,.int .i64 0]) [.int .i64 p.x,.int .i64 p.y,.int .i64 p.z] rfl rfl (by kernel_rfl) rfl rfl rfl ?_;intro W3 hW3;have HC3:=Lib.hid (show Arr W3 W2.heap.size 125 [.int .i64 p.x,.int .i64 p.y,.int .i64 p.z]by rw[hW3];exact(Arr.new W2 _ _).setRow _);have HX3:=Lib.hid (show Ext W0 W3 by rw[hW3];exact(HX2.out.alloc _).setRow (g:=W2.heap.size) HX2.out.size _);have HR3:=Lib.hid (show Arr W3 (w.heap.size+1+1) 23 [.int .i64 0,.int .i64 0,.int .i64 0]by rw[hW3];exact(HR2.out.alloc _).setRow_other (by have:=HR2.out.lt;omega) _);clear hW3)
    | (go_at_call 161;refine(HE.out W3 HX3.out _ HC3.out).mono ?_;rintro e W4 ⟨rfl,hx⟩;have HR4:=Lib.hid (HR3.out.ext hx);have HX4:=Lib.hid (HX3.out.trans hx);clear hx)
    | (refine wpList_store_blk 23 (.tmp 4) (.tmp 13) rfl rfl HR4.out [.int .i64 r0,.int .i64 r1,.int .i64 r2] rfl rfl (by kernel_rfl) rfl rfl ?_))
   refine bodyPost_ret (v:=.agg #[.int .i64 r0,.int .i64 r1,.int .i64 r2]) ?_ rfl ⟨rfl,(HX0.out.trans HX4.out).setRow (by omega) _⟩;exact results_cell_row Tryz.results154 _ _ _ _ _ _ _ rfl (HR4.out.setRow [.int .i64 r0,.int .i64 r1,.int .i64 r2]) Tryz.underlying23 rfl (by kernel_rfl)
 · have HD:=Lib.hid (show turnP s p=p by unfold turnP isT;rw[decide_eq_false h];rfl);rw[HD.out];unfold isT at HI;rw[decide_eq_false h]at HI;have cS:=HS0.out.cell;have lS:=HS0.out.lt
   go_enter Tryz.func154,Tryz.ntmps154
   go_upto_region 1 with fail
   rw[← hW];clear hW
   go_wp2_with (first
    | (go_at_call 153;refine HI.out.mono ?_;rintro e W1 ⟨rfl,hx⟩;have HP1:=Lib.hid (HP0.out.ext hx);have HR1:=Lib.hid (HR0.out.ext hx);have HX1:=Lib.hid hx;clear hx cS lS)
    | (refine ldB 23 3 HP1.out Tryz.underlying23 ?_) | (refine ldB 23 3 (HP1.out.alloc _) Tryz.underlying23 ?_) | (refine ldB 23 3 ((HP1.out.alloc _).alloc _) Tryz.underlying23 ?_)
    | (refine wpList_store_blk 23 (.tmp 4) (.tmp 9) rfl rfl HR1.out [.int .i64 p.x,.int .i64 p.y,.int .i64 p.z] rfl rfl (by kernel_rfl) rfl rfl ?_))
   refine bodyPost_ret (v:=.agg #[.int .i64 p.x,.int .i64 p.y,.int .i64 p.z]) ?_ rfl ⟨rfl,(HX0.out.trans HX1.out).setRow (by omega) _⟩;exact results_cell_row Tryz.results154 _ _ _ _ _ _ _ rfl (HR1.out.setRow [.int .i64 p.x,.int .i64 p.y,.int .i64 p.z]) Tryz.underlying23 rfl (by kernel_rfl)
structure Chg where
 at_:Pt
 old:Int
 new:Int
 deriving DecidableEq
def Chg.cells(x:Chg):List Value:=[.int .i64 x.at_.x,.int .i64 x.at_.y,.int .i64 x.at_.z,.int .i64 x.old,.int .i64 x.new]
def rowsC(cs:List Chg):List (List Value):=cs.map Chg.cells
theorem rowsC_length(cs:List Chg):(rowsC cs).length=cs.length:=by simp[rowsC]
theorem rowsC_rwk(cs:List Chg):Rwk 5 (rowsC cs):=fun x hx=>by
 obtain⟨y,_,rfl⟩:=List.mem_map.1 hx;refine⟨rfl,fun u hu=>?_⟩;simp only[Chg.cells,List.mem_cons,List.not_mem_nil,or_false]at hu
 rcases hu with rfl | rfl | rfl | rfl | rfl <;> rfl
theorem chg_row{w:World}{B c j:Nat}{A:Option Addr}{l:List Chg}{x:Chg}(h:Sv w B 5 A c (rowsC l))(hp:l[j]? = some x):
    ∃ b off,A=some ⟨b,off,none⟩∧b < B∧w.cell? ⟨b,off+j * 5,none⟩=some (.int .i64 x.at_.x)∧w.cell? ⟨b,off+j * 5+1,none⟩=some (.int .i64 x.at_.y)∧w.cell? ⟨b,off+j * 5+2,none⟩=some (.int .i64 x.at_.z)∧w.cell? ⟨b,off+j * 5+3,none⟩=some (.int .i64 x.old)∧w.cell? ⟨b,off+j * 5+4,none⟩=some (.int .i64 x.new):=by
 obtain⟨b,off,e,hb,hr⟩:=h.row (i:=j) (x:=x.cells) (by simp[rowsC,hp]);exact⟨b,off,e,hb,hr 0 _ rfl,hr 1 _ rfl,hr 2 _ rfl,hr 3 _ rfl,hr 4 _ rfl⟩
def rowsI(l:List Int):List (List Value):=l.map fun x=>[.int .i64 x]
theorem rowsI_length(l:List Int):(rowsI l).length=l.length:=by simp[rowsI]
theorem rowsI_rwk(l:List Int):Rwk 1 (rowsI l):=fun x hx=>by
 obtain⟨p,_,rfl⟩:=List.mem_map.1 hx;exact⟨rfl,fun u hu=>by simp at hu;subst hu;rfl⟩
theorem int_row{w:World}{B c j:Nat}{A:Option Addr}{l:List Int}{v:Int}(h:Sv w B 1 A c (rowsI l))(hp:l[j]? = some v):
    ∃ b off,A=some ⟨b,off,none⟩∧b < B∧w.cell? ⟨b,off+j,none⟩=some (.int .i64 v):=by
 obtain⟨b,off,e,hb,hr⟩:=h.row (i:=j) (x:=[.int .i64 v]) (by simp[rowsI,hp]);have h0:=hr 0 _ rfl;simp only[Nat.mul_one,Nat.add_zero]at h0;exact⟨b,off,e,hb,h0⟩
theorem info_parts{i:Option TypeInfo}{z:Value}{n b:Nat}(h:i.map (fun i=>(i.zero,i.size,i.bytes))=some (some z,n,b)):∃ i0,i=some i0∧i0.zero=some z∧i0.size=n∧i0.bytes=b:=by
 cases i with
 | none=>cases h
 | some i0=>simp at h;exact⟨i0,rfl,h.1,h.2.1,h.2.2⟩
theorem infoInt:(Tryz.prog.info? 3).map (fun i=>(i.zero,i.size,i.bytes))=some (some (.int .i64 0),1,8):=by kernel_rfl
def rowsP(l:List Pt):List (List Value):=l.map Pt.cells
theorem rowsP_length(l:List Pt):(rowsP l).length=l.length:=by simp[rowsP]
theorem rowsP_rwk(l:List Pt):Rwk 3 (rowsP l):=fun x hx=>by
 obtain⟨p,_,rfl⟩:=List.mem_map.1 hx;exact⟨rfl,fun u hu=>by simp[Pt.cells]at hu;rcases hu with rfl | rfl | rfl <;> rfl⟩
theorem rowsP_append(a b:List Pt):rowsP (a++b)=rowsP a++rowsP b:=by simp[rowsP]
theorem pt_row{w:World}{B c j:Nat}{A:Option Addr}{l:List Pt}{p:Pt}(h:Sv w B 3 A c (rowsP l))(hp:l[j]? = some p):
    ∃ b off,A=some ⟨b,off,none⟩∧b < B∧w.cell? ⟨b,off+j * 3,none⟩=some (.int .i64 p.x)∧w.cell? ⟨b,off+j * 3+1,none⟩=some (.int .i64 p.y)∧w.cell? ⟨b,off+j * 3+2,none⟩=some (.int .i64 p.z):=by
 obtain⟨b,off,e,hb,hr⟩:=h.row (i:=j) (x:=p.cells) (by simp[rowsP,hp]);exact⟨b,off,e,hb,hr 0 _ rfl,hr 1 _ rfl,hr 2 _ rfl⟩
end Go.Proofs.YtoecbicdahbccaaGreatDoor
