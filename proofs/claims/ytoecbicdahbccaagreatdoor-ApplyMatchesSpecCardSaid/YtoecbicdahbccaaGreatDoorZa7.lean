/- A part of the walk of the layer of apply: contracts and plain laws that a row's text leans on. -/
import Derived.Test.YtoecbicdahbccaaGreatDoorZa6
set_option maxRecDepth 100000
set_option maxHeartbeats 16000000
namespace Go.Proofs.YtoecbicdahbccaaGreatDoor
open Go Go.RowKit
section
variable {P:Program} (w:World)
theorem run_append_ofnil(base:Nat)(t ty e:TypeId)(i:TypeInfo)(size:Nat)(ht:P.underlying t=some (.slice e))(hi:P.info? e=some i)
    (v:Value) (n:Nat) (xs:List Value) (hown:w.ownsRow base e size v n xs) (c:Nat):(Builtin.append_ #[t,t] ty #[v,.slice none 0 c]).run P w = .ok v w:=by
 rcases hown.2 with⟨rfl,rfl⟩ | ⟨g,cap,cur,rfl,_,_,hnc,_⟩
 · simp[Builtin.append_,run_underlying ht,sizeOf,typeInfo,hi,Builtin.lenOf,Builtin.firstCells]
 · simp[Builtin.append_,run_underlying ht,sizeOf,typeInfo,hi,Builtin.lenOf,Builtin.firstCells,hnc,storeCells]
theorem run_append_sv(base:Nat)(t ty e:TypeId)(i:TypeInfo)(z:Value)(size bytes:Nat)(ht:P.underlying t=some (.slice e))(hi:P.info? e=some i)(hz:i.zero=some z)
    (hsize:i.size=size) (hby:i.bytes=bytes) (hzs:z.cells.size=size) (hsz:0 < size)
    (v:Value) (n:Nat) (xs:List Value) (hown:w.ownsRow base e size v n xs)
    (B:Nat) (A:Option Addr) (m c:Nat) (news:List (List Value)) (hr:Sv w B size A c news) (hm:news.length=m)
    (h63:n+m≤maxLen) (hbytes:(n+m) * bytes≤140737488355328) (hbase:base≤w.heap.size):
    ∃ v' w',(Builtin.append_ #[t,t] ty #[v,.slice A m c]).run P w = .ok v' w'∧w'.ownsRow base e size v' (n+m) (xs++news.flatten)∧w.grownBy w' v.ownBlock∧
      (v'.ownBlock=v.ownBlock∨v'.ownBlock=some w.heap.size):=by
 subst hm
 rcases A with _ | ad
 · have hn:news = []:=by
     rcases Nat.eq_zero_or_pos news.length with h0 | h0
     · exact List.eq_nil_of_length_eq_zero h0
     · obtain⟨b,off,h,_⟩:=hr.mem h0
       cases h
   subst hn;exact⟨v,w,run_append_ofnil w base t ty e i size ht hi v n xs hown c,by simpa using hown,World.grownBy.refl w _,.inl rfl⟩
 · obtain⟨v',w',hrun,h2,h3,_,h5⟩:=run_append_own_at (P:=P) w base t ty e i z size bytes ht hi hz hsize hby hzs hsz v n xs hown ad news.length c news.flatten (flatten_length _ hr.rows.len) hr.news hr.rows.one h63 hbytes hbase;exact⟨v',w',hrun,h2,h3,h5⟩
theorem wpList_append_sv{ops:Array Oper}{rest:List Oper}{o:Oper}{a:Act}{Q:Exit→Act→World→Prop}(hgd:o.guard=none)(s x:Operand)(t:TypeId)
    (ho:o.op = .call {callee:=.builtin .append,args:=#[s,x],argTypes:=#[t,t] })
    (base:Nat) (e:TypeId) (i:TypeInfo) (z:Value) (size bytes:Nat) (ht:P.underlying t=some (.slice e)) (hi:P.info? e=some i) (hz:i.zero=some z)
    (hsize:i.size=size) (hby:i.bytes=bytes) (hzs:z.cells.size=size) (hsz:0 < size)
    (v:Value) (n:Nat) (xs:List Value) (hs:a.eval s=v) (hown:w.ownsRow base e size v n xs)
    (B:Nat) (A:Option Addr) (m c:Nat) (news:List (List Value)) (hx:a.eval x = .slice A m c) (hr:Sv w B size A c news) (hm:news.length=m)
    (h63:n+m≤maxLen) (hbytes:(n+m) * bytes≤140737488355328) (hbase:base≤w.heap.size)
    (h:∀ v' w',w'.ownsRow base e size v' (n+m) (xs++news.flatten)→w.grownBy w' v.ownBlock→(v'.ownBlock=v.ownBlock∨v'.ownBlock=some w.heap.size)→wpList P ops Q rest (a.put o.dst v') w'):wpList P ops Q (o:: rest) a w:=by
 refine wpList_plain hgd fun K hK'=>?_;obtain⟨v',w',hrun,r1,r2,r3⟩:=run_append_sv (P:=P) w base t o.type e i z size bytes ht hi hz hsize hby hzs hsz v n xs hown B A m c news hr hm h63 hbytes hbase;unfold Oper.wp;simp[execOp,ho,resolve,invoke,builtin,hs,hx,hrun,Result.andThen];exact hK' _ _ (h v' w' r1 r2 r3)
end
section
variable {w w':World} {B k c:Nat} {A:Option Addr} {xs:List (List Value)}
theorem Sv.take(h:Sv w B k A c xs)(i:Nat):Sv w B k A c (xs.take i):=
 ⟨by have h1:=h.le;rw[List.length_take];omega,h.max,h.rows.sub fun x hx=>List.mem_of_mem_take hx,fun hn=>by
   rw[List.length_take]at hn;obtain⟨b,off,e,hb,hc⟩:=h.mem (by omega);refine⟨b,off,e,hb,fun j u hu=>hc j u ?_⟩;have e2:xs.flatten=(xs.take i).flatten++(xs.drop i).flatten:=by rw[← List.flatten_append,List.take_append_drop]
   rw[e2,List.getElem?_append_left (List.getElem?_eq_some_iff.1 hu).1];exact hu⟩
theorem Sv.drop(h:Sv w B k A c xs){i:Nat}(hi:i≤xs.length):Sv w B k (if c=i then A else A.map (·.add (i * k))) (c - i) (xs.drop i):=
 ⟨by have h1:=h.le;rw[List.length_drop];omega,by have h1:=h.max;omega,h.rows.sub fun x hx=>List.mem_of_mem_drop hx,fun hn=>by
   rw[List.length_drop]at hn;have h1:=h.le;obtain⟨b,off,e,hb,hc⟩:=h.mem (by omega);rw[if_neg (by omega),e];refine⟨b,off+i * k,by simp[add_lit],hb,fun j u hu=>?_⟩;have e2:xs.flatten=(xs.take i).flatten++(xs.drop i).flatten:=by rw[← List.flatten_append,List.take_append_drop]
   have e3:(xs.take i).flatten.length=i * k:=by rw[flatten_length _ (fun y hy=>h.rows.len y (List.mem_of_mem_take hy)),List.length_take];congr 1;omega
   rw[Nat.add_assoc];refine hc _ u ?_;rw[e2,List.getElem?_append_right (by omega),e3,Nat.add_sub_cancel_left];exact hu⟩
theorem Sv.grown(h:Sv w w.heap.size k A c xs){row:Option Nat}(hg:w.grownBy w' row)(ha:∀ a:Addr,A=some a→row≠some a.block):Sv w' w'.heap.size k A c xs:=
 ⟨h.le,h.max,h.rows,fun hn=>by
   obtain⟨b,off,e,hb,hc⟩:=h.mem hn;refine⟨b,off,e,Nat.lt_of_lt_of_le hb hg.size,fun j u hu=>?_⟩;rw[World.cell?_of_block (hg.block b hb (fun e2=>ha _ e e2.symm))];exact hc j u hu⟩
end
theorem own_keep{w w':World}{base n k:Nat}{e:TypeId}{v:Value}{zs:List Value}(h:w.ownsRow base e k v n zs){row:Option Nat}(hg:w.grownBy w' row)(hr:∀ b,row=some b→v.ownBlock≠some b):w'.ownsRow base e k v n zs:=
 h.kept hg (by
  cases hv:v.ownBlock with
  | none=>exact .inl rfl
  | some x=>exact .inr (fun e=>hr x e.symm hv))
theorem store_form{w:World}{base n:Nat}{e:TypeId}{v:Value}{zs:List Value}{k:Nat}(h:w.ownsRow base e k v n zs):∃ A m c,v = .slice A m c:=by
 rcases h.2 with⟨rfl,_⟩ | ⟨g,cap,cur,rfl,_⟩
 · exact⟨_,_,_,rfl⟩
 · exact⟨_,_,_,rfl⟩
theorem own_len{w:World}{base n:Nat}{e:TypeId}{v:Value}{zs:List Value}{k:Nat}(h:w.ownsRow base e k v n zs):∃ A c,v = .slice A n c:=by
 rcases h.2 with⟨rfl,rfl⟩ | ⟨g,cap,cur,rfl,_⟩
 · exact⟨_,_,rfl⟩
 · exact⟨_,_,rfl⟩
theorem own_low_mono{w:World}{base base' n k:Nat}{e:TypeId}{v:Value}{zs:List Value}(hb:base'≤base)(h:w.ownsRow base e k v n zs):w.ownsRow base' e k v n zs:=by
 refine⟨h.1,?_⟩
 rcases h.2 with h1 | ⟨g,cap,cur,h1,h2,h3⟩
 · exact .inl h1
 · exact .inr ⟨g,cap,cur,h1,Nat.le_trans hb h2,h3⟩
section
variable {P:Program} {K:Type} [DecidableEq K] {t T e:TypeId} {enc:K→Value}
structure KeyT (P:Program) (t:TypeId) (enc:K→Value):Prop where
 agg:∀ x,∃ cs,enc x = .agg cs
 kind:∃ fs,P.underlying t=some (.struct fs)
 eq:∀ x y w,(Op.equal t (enc x) (enc y)).run P w = .ok (decide (x=y)) w
 chk:∀ b x w,(Instr.checkKey b 10000 t (enc x)).run P w = .ok () w
 same:∀ x,Instr.sameBits 10000 (enc x) (enc x)=true
 inj:∀ x y,enc x=enc y→x=y
def findI(q:K):List (K × Value)→Nat→Option (Nat × Value)
 | [],_=>none
 | e:: es,i=>if q=e.1 then some (i,e.2)else findI q es (i+1)
def lookK(ents:List (K × Value))(q:K):Option Value:=(findI q ents 0).map (·.2)
theorem findI_shift(q:K):∀ (ents:List (K × Value)) (i:Nat),findI q ents (i+1)=(findI q ents i).map fun x=>(x.1+1,x.2)
 | [],_=>rfl
 | e:: es,i=>by
   unfold findI
   split
   · rfl
   · exact findI_shift q es (i+1)
theorem lookK_cons(x:K × Value)(ents:List (K × Value))(q:K):lookK (x:: ents) q=if q=x.1 then some x.2 else lookK ents q:=by
 unfold lookK;rw[findI]
 split
 · rfl
 · rw[findI_shift];simp[Option.map_map,Function.comp_def]
theorem lookK_nil(q:K):lookK ([]:List (K × Value)) q=none:=rfl
theorem lookK_snoc(ents:List (K × Value))(q r:K)(v:Value)(h:lookK ents q=none):lookK (ents++[(q,v)]) r=if r=q then some v else lookK ents r:=by
 induction ents with
 | nil=>rw[List.nil_append,lookK_cons,lookK_nil]
 | cons x xs ih=>
   rw[lookK_cons]at h;have hq:q≠x.1:=by intro hq;rw[if_pos hq]at h;cases h
   rw[if_neg hq]at h;rw[List.cons_append,lookK_cons,lookK_cons,ih h]
   by_cases hr:r=x.1
   · rw[if_pos hr,if_pos hr,if_neg (by rw[hr];exact fun h=>hq h.symm)]
   · rw[if_neg hr,if_neg hr]
theorem findI_some{q:K} : ∀ {ents:List (K × Value)} {i:Nat} {v:Value},findI q ents 0=some (i,v)→ents[i]? = some (q,v)
 | [],_,_,h=>by cases h
 | x:: xs,i,v,h=>by
   unfold findI at h
   split at h
   · rename_i hq
     injection h with h;injection h with h1 h2
     subst h1 h2 hq;rfl
   · rw[findI_shift]at h;obtain⟨⟨j,u⟩,hj,he⟩:=Option.map_eq_some_iff.1 h;injection he with h1 h2
     subst h1 h2;exact findI_some (ents:=xs) hj
theorem findI_none{q:K}{ents:List (K × Value)}{i:Nat}(h:findI q ents i=none):lookK ents q=none:=by
 unfold lookK;have:∀ (l:List (K × Value)) (i j:Nat),findI q l i=none→findI q l j=none:=by
  intro l
  induction l with
  | nil=>intros;rfl
  | cons x xs ih=>
    intro i j h;unfold findI at h ⊢
    split at h
    · cases h
    · rename_i hq;rw[if_neg hq];exact ih _ _ h
 rw[this ents i 0 h];rfl
theorem lookK_modify(q r:K)(v:Value):∀ (ents:List (K × Value)) (i:Nat) (u:Value),findI q ents 0=some (i,u)→lookK (ents.modify i fun _=>(q,v)) r=if r=q then some v else lookK ents r
 | [],_,_,h=>by cases h
 | x:: xs,i,u,h=>by
   unfold findI at h
   split at h
   · rename_i hq
     injection h with h;injection h with h1 h2
     subst h1;rw[List.modify_zero_cons,lookK_cons,lookK_cons,← hq]
     split <;> rfl
   · rename_i hq
     rw[findI_shift]at h;obtain⟨⟨j,u'⟩,hj,he⟩:=Option.map_eq_some_iff.1 h;injection he with h1 h2
     subst h1;rw[List.modify_succ_cons,lookK_cons,lookK_cons,lookK_modify q r v xs j u' hj]
     by_cases hr:r=x.1
     · rw[if_pos hr,if_pos hr,if_neg (by rw[hr];exact fun h=>hq h.symm)]
     · rw[if_neg hr,if_neg hr]
theorem run_findAsking(kt:KeyT P t enc)(q:K)(w:World):∀ (es:List MapEntry) (ents:List (K × Value)) (i:Nat),es.map (fun e=>(e.key,e.val))=ents.map (fun e=>(enc e.1,e.2))→
    (Instr.findAsking t (enc q) es i).run P w = .ok (findI q ents i) w
 | [],[],_,_=>rfl
 | [],_:: _,_,h=>by simp at h
 | _:: _,[],_,h=>by simp at h
 | x:: xs,y:: ys,i,h=>by
   simp only[List.map_cons,List.cons.injEq,Prod.mk.injEq]at h;obtain⟨⟨hk,hv⟩,ht⟩:=h;have heq:=kt.eq q y.1 w;have ih:=run_findAsking kt q w xs ys (i+1) ht;unfold Instr.findAsking findI;rw[hk]
   by_cases hq:q=y.1
   · rw[decide_eq_true hq]at heq;simp[hq,hv]at *;simp[heq]
   · rw[decide_eq_false hq]at heq;simp[heq,hq,ih]
theorem run_findKey(kt:KeyT P t enc)(q:K)(w:World)(es:List MapEntry)(ents:List (K × Value))(h:es.map (fun e=>(e.key,e.val))=ents.map (fun e=>(enc e.1,e.2))):
    (Instr.findKey t (enc q) es).run P w = .ok (findI q ents 0) w:=by
 have h1:=run_findAsking kt q w es ents 0 h;obtain⟨fs,hk⟩:=kt.kind;unfold Instr.findKey
 cases es with
 | nil=>
   cases ents with
   | nil=>simp[run_underlying hk,Instr.findNow,findI]
   | cons=>simp at h
 | cons x xs=>simp[run_underlying hk,Instr.findNow,Instr.sameNow,h1]
def MapF(enc:K→Value)(w:World)(b:Nat)(m:K→Option Value):Prop:=
 ∃ es clock,∃ ents:List (K × Value),w.heap[b]? = some (.map es clock)∧es.toList.map (fun e=>(e.key,e.val))=ents.map (fun e=>(enc e.1,e.2))∧(ents.map (·.1)).Nodup∧(∀ q,lookK ents q=m q)∧(∀ x,x∈es.toList→x.born < clock)∧(es.toList.map (·.born)).Nodup
theorem MapF.lt{w:World}{b:Nat}{m:K→Option Value}(h:MapF enc w b m):b < w.heap.size:=by
 obtain⟨es,clock,ents,hb,_⟩:=h;exact(Array.getElem?_eq_some_iff.1 hb).1
theorem MapF.kept{w w':World}{b:Nat}{m:K→Option Value}{row:Option Nat}(h:MapF enc w b m)(hg:w.grownBy w' row)(hne:row≠some b):MapF enc w' b m:=by
 have hl:=h.lt;obtain⟨es,clock,ents,hb,h2⟩:=h;exact⟨es,clock,ents,(hg.block b hl (fun h=>hne h.symm)).trans hb,h2⟩
theorem MapF.ext{w w':World}{b:Nat}{m:K→Option Value}(h:MapF enc w b m)(hx:Ext w w'):MapF enc w' b m:=h.kept (hx.by_ none) (by simp)
theorem MapF.alloc{w:World}{b:Nat}{m:K→Option Value}(h:MapF enc w b m)(o:Obj):MapF enc (w.alloc o) b m:=h.ext ((Ext.refl w).alloc o)
theorem MapF.setCell{w:World}{b:Nat}{m:K→Option Value}(h:MapF enc w b m){p:Addr}(hp:b≠p.block)(u:Value):MapF enc (w.setCell p u) b m:=by
 obtain⟨es,clock,ents,hb,h2⟩:=h;exact⟨es,clock,ents,(heap_setCell_other w p b u hp).trans hb,h2⟩
theorem MapF.cong{w:World}{b:Nat}{m m':K→Option Value}(h:MapF enc w b m)(hm:∀ q,m q=m' q):MapF enc w b m':=by
 obtain⟨es,clock,ents,h1,h2,h3,h4,h5⟩:=h;exact⟨es,clock,ents,h1,h2,h3,fun q=>(h4 q).trans (hm q),h5⟩
theorem MapF.made(w:World):MapF enc (w.alloc (.map #[] 0)) w.heap.size (fun _:K=>none):=
 ⟨#[],0,[],heap_alloc_new w _,rfl,List.nodup_nil,fun _=>rfl,fun x hx=>by simp at hx,List.nodup_nil⟩
theorem MapF.look{w:World}{b:Nat}{m:K→Option Value}(h:MapF enc w b m)(kt:KeyT P t enc)(ht:P.underlying T=some (.map t e)){z:Value}(hz:(zeroValue e).run P w = .ok z w)(q:K)(c:Bool):
    (Instr.lookup T (.map (some b)) (enc q) c).run P w = .ok (if c then .tuple #[(m q).getD z,.bool (m q).isSome]else(m q).getD z) w:=by
 obtain⟨es,clock,ents,hb,hes,_,hm,_⟩:=h;have h1:=run_findKey kt q w es.toList ents hes;have h2:=kt.chk es.isEmpty q w;have h3:=hm q;unfold lookK at h3;unfold Instr.lookup
 cases hf:findI q ents 0 with
 | none=>
   rw[hf]at h1 h3;simp only[Option.map_none]at h3;simp[run_underlying ht,MapKept.run_getObj_map hb,h2,h1,hz,← h3]
 | some x=>
   rw[hf]at h1 h3;simp only[Option.map_some]at h3;simp[run_underlying ht,MapKept.run_getObj_map hb,h2,h1,← h3]
theorem run_keyStays(kt:KeyT P t enc)(q:K)(w:World):(Instr.keyThatStays (enc q) (enc q)).run P w = .ok (enc q) w:=by
 unfold Instr.keyThatStays;simp[kt.same q]
theorem grown_setObj(w:World)(b:Nat)(o:Obj):w.grownBy {w with heap:=w.heap.setIfInBounds b o } (some b):=
 ⟨rfl,rfl,rfl,by simp,fun k _ hne=>by
   simp only[Array.getElem?_setIfInBounds];rw[if_neg (by rintro rfl;exact hne rfl)]⟩
theorem MapF.update{w:World}{b:Nat}{m:K→Option Value}(h:MapF enc w b m)(kt:KeyT P t enc)(ht:P.underlying T=some (.map t e))(q:K)(v:Value):
    ∃ w',(Instr.mapUpdate T (.map (some b)) (enc q) v).run P w = .ok () w'∧MapF enc w' b (fun r=>if r=q then some v else m r)∧w.grownBy w' (some b):=by
 have hl:=h.lt;obtain⟨es,clock,ents,hb,hes,hnd,hm,hbo,hbn⟩:=h;have h1:=run_findKey kt q w es.toList ents hes;have h2:=kt.chk false q w
 cases hf:findI q ents 0 with
 | none=>
   rw[hf]at h1;have hno:=findI_none hf;refine⟨{w with heap:=w.heap.setIfInBounds b (.map (es.push {key:=enc q,val:=v,born:=clock }) (clock+1)) },?_,⟨es.push {key:=enc q,val:=v,born:=clock },clock+1,ents++[(q,v)],?_,?_,?_,?_,?_,?_⟩,grown_setObj _ _ _⟩
   · unfold Instr.mapUpdate;simp[run_underlying ht,MapKept.run_getObj_map hb,MapKept.run_setObj_map _ hb,h2,h1]
   · simp[hl]
   · simp[hes]
   · rw[List.map_append,List.nodup_append];refine⟨hnd,by simp,?_⟩;intro a ha c hc;simp at hc;subst hc;rintro rfl;have:lookK ents a≠none:=by
      clear hno h1 hes hm hf hnd
      induction ents with
      | nil=>simp at ha
      | cons x xs ih=>
        rw[lookK_cons]
        split
        · simp
        · rename_i hne
          simp only[List.map_cons,List.mem_cons]at ha;exact ih (ha.resolve_left hne)
     exact this hno
   · intro r;rw[lookK_snoc _ _ _ _ hno,hm r]
   · intro x hx;simp only[Array.toList_push,List.mem_append,List.mem_singleton]at hx
     rcases hx with hx | rfl
     · have:=hbo x hx;omega
     · simp
   · rw[Array.toList_push,List.map_append,List.nodup_append];refine⟨hbn,by simp,?_⟩;intro a ha c hc;simp at hc;subst hc;obtain⟨x,hx,rfl⟩:=List.mem_map.1 ha;have:=hbo x hx;omega
 | some x=>
   obtain⟨i,u⟩:=x;rw[hf]at h1;have hat:=findI_some hf;have hkey:es.toList[i]?.map (fun e=>(e.key,e.val))=some (enc q,u):=by
    have:=congrArg (fun l=>l[i]?) hes;simp only[List.getElem?_map,hat,Option.map_some]at this;exact this
   obtain⟨me,hme,hmk⟩:=Option.map_eq_some_iff.1 hkey;injection hmk with hmk hmv
   have hme2:es[i]? = some me:=by simpa using hme
   have h3:=run_keyStays kt q w;refine⟨{w with heap:=w.heap.setIfInBounds b (.map (es.modify i fun e=>{e with key:=enc q,val:=v }) clock) },?_,⟨es.modify i fun e=>{e with key:=enc q,val:=v },clock,ents.modify i (fun _=>(q,v)),?_,?_,?_,?_,?_,?_⟩,grown_setObj _ _ _⟩
   · unfold Instr.mapUpdate;simp[run_underlying ht,MapKept.run_getObj_map hb,MapKept.run_setObj_map _ hb,h2,h1,hme2,hmk,h3]
   · simp[hl]
   · apply List.ext_getElem?;intro j;have h5:=congrArg (fun l=>l[j]?) hes;simp only[List.getElem?_map,Array.getElem?_toList]at h5;simp only[List.getElem?_map,Array.getElem?_toList,List.getElem?_modify,Array.getElem?_modify]
     by_cases hij:i=j
     · subst hij;simp[hme2,hat]
     · simp[hij,h5]
   · have:(ents.modify i (fun _=>(q,v))).map (·.1)=ents.map (·.1):=by
       apply List.ext_getElem?;intro j;simp only[List.getElem?_map,List.getElem?_modify]
       by_cases hij:i=j
       · subst hij;simp[hat]
       · simp[hij]
     rw[this];exact hnd
   · intro r;rw[lookK_modify q r v ents i u hf,hm r]
   · intro x hx;obtain⟨j,hj⟩:=List.getElem?_of_mem hx;rw[Array.getElem?_toList,Array.getElem?_modify]at hj
     split at hj
     · obtain⟨y,hy,rfl⟩:=Option.map_eq_some_iff.1 hj;exact hbo y (by rw[← Array.getElem?_toList]at hy;exact List.mem_of_getElem? hy)
     · exact hbo x (by rw[← Array.getElem?_toList]at hj;exact List.mem_of_getElem? hj)
   · have:(es.modify i fun e=>{e with key:=enc q,val:=v }).toList.map (·.born)=es.toList.map (·.born):=by
       apply List.ext_getElem?;intro j;simp only[List.getElem?_map,Array.getElem?_toList,Array.getElem?_modify]
       by_cases hij:i=j
       · subst hij;simp[hme2]
       · simp[hij]
     rw[this];exact hbn
theorem wpList_mapUpdate_F{w:World}{ops:Array Oper}{rest:List Oper}{o:Oper}{a:Act}{Q:Exit→Act→World→Prop}(hg:o.guard=none)(mo x y:Operand)(hop:o.op = .mapUpdate T mo x y)
    {b:Nat} {m:K→Option Value} (h:MapF enc w b m) (kt:KeyT P t enc) (ht:P.underlying T=some (.map t e)) (q:K) (v:Value) (hm:a.eval mo = .map (some b)) (hx:a.eval x=enc q) (hv:a.eval y=v)
    (hK:∀ w',MapF enc w' b (fun r=>if r=q then some v else m r)→w.grownBy w' (some b)→wpList P ops Q rest (a.put o.dst undef) w'):wpList P ops Q (o:: rest) a w:=by
 refine wpList_plain hg fun K' hK'=>?_;obtain⟨w',hrun,r1,r2⟩:=h.update kt ht q v;unfold Oper.wp;simp[execOp,hop,hm,hx,hv,hrun,Result.andThen];exact hK' _ _ (hK w' r1 r2)
theorem wpList_insert_F{w:World}{ops:Array Oper}{rest:List Oper}{o:Oper}{a:Act}{Q:Exit→Act→World→Prop}(hg:o.guard=none)(mo x y:Operand)(hop:o.op = .insert T mo x y)
    {b:Nat} {m:K→Option Value} (h:MapF enc w b m) (kt:KeyT P t enc) (ht:P.underlying T=some (.map t e)) (q:K) (v:Value) (hm:a.eval mo = .map (some b)) (hx:a.eval x=enc q) (hv:a.eval y=v)
    (hK:∀ w',MapF enc w' b (fun r=>if r=q then some v else m r)→w.grownBy w' (some b)→wpList P ops Q rest (a.put o.dst undef) w'):wpList P ops Q (o:: rest) a w:=by
 refine wpList_plain hg fun K' hK'=>?_;obtain⟨w',hrun,r1,r2⟩:=h.update kt ht q v;unfold Oper.wp;simp[execOp,hop,hm,hx,hv,hrun,Result.andThen];exact hK' _ _ (hK w' r1 r2)
end
theorem Sv.lit(w:World)(e:TypeId)(k:Nat)(xs:List (List Value))(hr:Rwk k xs)(hm:xs.length≤maxLen):Sv (w.alloc (.cells xs.flatten.toArray e)) (w.alloc (.cells xs.flatten.toArray e)).heap.size k (some ⟨w.heap.size,0,none⟩) xs.length xs:=
 ⟨Nat.le_refl _,hm,hr,fun _=>⟨w.heap.size,0,rfl,by simp,fun j u hu=>by
   rw[Nat.zero_add,cell_of_row _ _ _ _ _ _ (heap_alloc_new w _)];simpa using hu⟩⟩
end Go.Proofs.YtoecbicdahbccaaGreatDoor
