/- A part of the walk of the layer of apply: contracts and plain laws that a row's text leans on. -/
import Derived.Laws.AppendOwnNone
import Derived.Laws.CopyOwn
import Derived.Lib.SmallJoins
import Derived.Test.YtoecbicdahbccaaGreatDoorZa1
set_option maxRecDepth 100000
set_option maxHeartbeats 16000000
namespace Go.Proofs.YtoecbicdahbccaaGreatDoor
open Go Go.RowKit
section
variable {P:Program} {ops:Array Oper} {md:Region.Mode} {Q:Exit→Act→World→Prop}
def dstOf(ops:Array Oper)(i:Nat):Option Nat:=(ops[i]?).bind (·.dst)
def fillN(ops:Array Oper)(V:Nat→Value)(listed:Array Bool)(a:Act):Nat→Act
 | 0=>a
 | n+1=>if listed.getD n true then(fillN ops V listed a n).put (dstOf ops n) (V n)else fillN ops V listed a n
def fill(ops:Array Oper)(V:Nat→Value)(listed:Array Bool)(a:Act):Act:=fillN ops V listed a ops.size
def Slots(ops:Array Oper):Prop:=∀ i j d,dstOf ops i=some d→dstOf ops j=some d→i=j
theorem put_size(a:Act)(o:Option Tmp)(v:Value):(a.put o v).tmps.size=a.tmps.size:=by cases o <;> simp[Act.put]
theorem put_defers(a:Act)(o:Option Tmp)(v:Value):(a.put o v).defers=a.defers:=by cases o <;> rfl
theorem put_get(a:Act)(o:Option Tmp)(v:Value)(d:Nat):(a.put o v).tmps[d]? = if o=some d∧d < a.tmps.size then some v else a.tmps[d]?:=by
 cases o with
 | none=>simp[Act.put]
 | some e=>
   simp only[Act.put,Array.getElem?_setIfInBounds,Option.some.injEq]
   by_cases h:e=d
   · subst h
     by_cases h2:e < a.tmps.size
     · simp[h2]
     · simp[h2]
   · simp[h]
variable {V V':Nat→Value} {listed:Array Bool} {a:Act}
theorem fillN_size:∀ n,(fillN ops V listed a n).tmps.size=a.tmps.size
 | 0=>rfl
 | n+1=>by unfold fillN;split <;> simp[put_size,fillN_size n]
theorem fillN_defers:∀ n,(fillN ops V listed a n).defers=a.defers
 | 0=>rfl
 | n+1=>by unfold fillN;split <;> simp[put_defers,fillN_defers n]
theorem fillN_hit(hs:Slots ops){i d:Nat}(hl:listed.getD i true=true)(hd:dstOf ops i=some d)(hds:d < a.tmps.size):∀ n,i < n→(fillN ops V listed a n).tmps[d]? = some (V i)
 | 0,h=>by omega
 | n+1,h=>by
   unfold fillN
   by_cases hin:i=n
   · subst hin;rw[if_pos hl,put_get,if_pos ⟨hd,by rw[fillN_size];exact hds⟩]
   · have ih:=fillN_hit hs hl hd hds n (by omega)
     split
     · rw[put_get,if_neg (fun h=>hin (hs i n d hd h.1)),ih]
     · exact ih
theorem fillN_miss{d:Nat} : ∀ n,(∀ i,i < n→listed.getD i true=true→dstOf ops i≠some d)→(fillN ops V listed a n).tmps[d]? = a.tmps[d]?
 | 0,_=>rfl
 | n+1,h=>by
   have ih:=fillN_miss n (fun i hi=>h i (by omega));unfold fillN
   split
   · rename_i hl
     rw[put_get,if_neg (fun hh=>h n (by omega) hl hh.1),ih]
   · exact ih
theorem fill_hit(hs:Slots ops){i d:Nat}(hi:i < ops.size)(hl:listed.getD i true=true)(hd:dstOf ops i=some d)(hds:d < a.tmps.size):(fill ops V listed a).tmps[d]? = some (V i):=fillN_hit hs hl hd hds _ hi
theorem fill_miss{d:Nat}(h:∀ i,i < ops.size→listed.getD i true=true→dstOf ops i≠some d):(fill ops V listed a).tmps[d]? = a.tmps[d]?:=fillN_miss _ h
theorem act_ext{x y:Act}(h1:x.defers=y.defers)(h2:∀ d:Nat,x.tmps[d]? = y.tmps[d]?):x=y:=by
 cases x;cases y
 simp only at h1 h2;subst h1;congr 1
 exact Array.ext_getElem? h2
theorem fill_put(hs:Slots ops){i:Nat}(hi:i < ops.size)(hun:listed.getD i true=false):
    (fill ops V listed a).put (dstOf ops i) (V i)=fill ops V (listed.setIfInBounds i true) a:=by
 have hil:i < listed.size:=by
  by_cases h:i < listed.size
  · exact h
  · simp[Array.getD,h]at hun
 have hset:∀ j,(listed.setIfInBounds i true).getD j true=true↔(j=i∨listed.getD j true=true):=fun j=>by
  by_cases h:i=j
  · subst h;simp[Array.getD,hil]
  · rw[getD_set_ne true h];constructor
    · exact .inr
    · rintro(h2 | h2)
      · exact absurd h2.symm h
      · exact h2
 refine act_ext (by rw[put_defers];unfold fill;rw[fillN_defers,fillN_defers]) fun d=>?_;rw[put_get];have hsz:(fill ops V listed a).tmps.size=a.tmps.size:=fillN_size _;rw[hsz]
 by_cases hd:dstOf ops i=some d
 · by_cases hds:d < a.tmps.size
   · rw[if_pos ⟨hd,hds⟩,fill_hit hs hi ((hset i).2 (.inl rfl)) hd hds]
   · rw[if_neg (fun h=>hds h.2),Array.getElem?_eq_none (by rw[hsz];omega),Array.getElem?_eq_none (by unfold fill;rw[fillN_size];omega)]
 · rw[if_neg (fun h=>hd h.1)]
   by_cases hds:d < a.tmps.size
   · by_cases hj:∃ j,j < ops.size∧listed.getD j true=true∧dstOf ops j=some d
     · obtain⟨j,h1,h2,h3⟩:=hj;rw[fill_hit hs h1 h2 h3 hds,fill_hit hs h1 ((hset j).2 (.inr h2)) h3 hds]
     · rw[fill_miss (fun j h1 h2 h3=>hj ⟨j,h1,h2,h3⟩),fill_miss (fun j h1 h2 h3=>by
         rcases (hset j).1 h2 with h4 | h4
         · subst h4;exact hd h3
         · exact hj ⟨j,h1,h4,h3⟩)]
   · rw[Array.getElem?_eq_none (by rw[hsz];omega),Array.getElem?_eq_none (by unfold fill;rw[fillN_size];omega)]
theorem fill_congr(h:∀ i,listed.getD i true=true→i < ops.size→V i=V' i):fill ops V listed a=fill ops V' listed a:=by
 have:∀ n,n≤ops.size→fillN ops V listed a n=fillN ops V' listed a n:=by
  intro n
  induction n with
  | zero=>intro _;rfl
  | succ n ih=>
    intro hn;unfold fillN;rw[ih (by omega)]
    split
    · rename_i hl;rw[h n hl (by omega)]
    · rfl
 exact this _ (Nat.le_refl _)
def fillAllN(ops:Array Oper)(V:Nat→Value)(a:Act):Nat→Act
 | 0=>a
 | n+1=>(fillAllN ops V a n).put (dstOf ops n) (V n)
theorem fill_done{l:List Oper}(h:∀ i,i < l.length→listed.getD i true=true):fill l.toArray V listed a=fillAllN l.toArray V a l.length:=by
 have:∀ n,n≤l.length→fillN l.toArray V listed a n=fillAllN l.toArray V a n:=by
  intro n
  induction n with
  | zero=>intro _;rfl
  | succ n ih=>
    intro hn;unfold fillN fillAllN;rw[ih (by omega),if_pos (h n (by omega))]
 have:=this l.length (Nat.le_refl _);simpa[fill]using this
def Back(ops:Array Oper):Prop:=∀ (i:Nat) (o:Oper),ops[i]? = some o→∀ e,e∈o.after→e.on < i
theorem all_done(hb:Back ops){listed:Array Bool}(hr:Region.ready md ops listed = []):∀ i,i < ops.size→listed.getD i true=true:=by
 intro i
 induction i using Nat.strongRecOn with
 | ind i ih=>
   intro hi
   by_cases h:listed.getD i true=true
   · exact h
   · exfalso
     have h1:i∈Region.ready md ops listed:=mem_ready.2 ⟨by simpa using h,ops[i],Array.getElem?_eq_getElem hi,fun e he _=>by
      have h2:=hb i _ (Array.getElem?_eq_getElem hi) e he;have h3:=ih e.on h2 (by omega);have hsz:∀ k,listed.getD k true=true→listed.getD i true=false→k < i→listed.getD k false=true:=fun k h4 h5 h6=>by
       have hil:i < listed.size:=by
        by_cases h7:i < listed.size
        · exact h7
        · simp[Array.getD,h7]at h5
       have hkl:k < listed.size:=by omega
       simpa[Array.getD,hkl]using h4
      exact hsz e.on h3 (by simpa using h) h2⟩
     rw[hr]at h1
     cases h1
theorem wp_region_tab{G:Type}{id:Nat}{a:Act}{w:World}{l:List Oper}(V:G→Nat→Value)(R:World→Array Bool→G→World→Prop)(g0:G)(hm:P.follows .mixedOrders=true)(hs:Slots l.toArray)(hb:Back l.toArray)
    (hg:∀ (i:Nat) (o:Oper),l[i]? = some o→o.guard=none) (h0:R w (Array.replicate l.length false) g0 w.drew)
    (hstep:∀ listed g w1 i o,l[i]? = some o→listed.getD i true=false→(∀ e,e∈o.after→Region.binds .any e=true→listed.getD e.on false=true)→R w listed g w1→
      ∀ K:Act→World→Prop,(∀ g' w',R w (listed.setIfInBounds i true) g' w'→(∀ j,j < l.length→listed.getD j true=true→V g' j=V g j)→K ((fill l.toArray (V g) listed a).put o.dst (V g' i)) w')→o.wp P (fill l.toArray (V g) listed a) w1 K Q)
    (hend:∀ listed g w1,(∀ i,i < l.length→listed.getD i true=true)→R w listed g w1→Q .normal (fill l.toArray (V g) listed a) w1):(Code.region id l.toArray true).wp P Q a w:=by
 refine wp_region_inv (fun listed b w1=>∃ g,b=fill l.toArray (V g) listed a∧R w listed g w1) hm ⟨g0,?_,h0⟩ ?_ ?_
 · have:∀ n,fillN l.toArray (V g0) (Array.replicate l.length false) a n=a∨l.length < n:=by
     intro n
     induction n with
     | zero=>exact .inl rfl
     | succ n ih=>
       by_cases hn:l.length < n+1
       · exact .inr hn
       · rcases ih with ih | ih
         · refine .inl ?_;unfold fillN;rw[if_neg (by simp[Array.getD];omega),ih]
         · omega
   rcases this l.toArray.size with h | h
   · exact h.symm
   · simp at h
 · rintro listed b w1 i ⟨g,rfl,hR⟩ hi;obtain⟨hun,o,ho,hdeps⟩:=mem_ready.1 hi;have ho':l[i]? = some o:=by simpa using ho
   have hi2:i < l.toArray.size:=(Array.getElem?_eq_some_iff.1 ho).1;refine wpOp_step ho fun K hK=>?_;rw[if_pos (by simp[Region.wanted,hg i o ho'])];refine hstep listed g w1 i o ho' hun hdeps hR K fun g' w' hR' hV=>?_;refine hK _ _ ⟨g',?_,hR'⟩;have hd:dstOf l.toArray i=o.dst:=by simp[dstOf,ho']
   rw[← hd,fill_congr (V':=V g') (fun j hl hj=>(hV j (by simpa using hj) hl).symm),fill_put hs hi2 hun]
 · rintro listed b w1 ⟨g,rfl,hR⟩ hr;exact hend listed g w1 (fun i hi=>all_done hb hr i (by simpa using hi)) hR
def missB(ops:Array Oper)(d:Nat):Bool:=(List.range ops.size).all fun i=>!(dstOf ops i == some d)
theorem missB_spec{d:Nat}(h:missB ops d=true):∀ i,i < ops.size→dstOf ops i≠some d:=fun i hi=>by
 unfold missB at h;simp only[List.all_eq_true,List.mem_range,Bool.not_eq_true',beq_eq_false_iff_ne]at h;exact h i hi
def slotsB(ops:Array Oper):Bool:=(List.range ops.size).all fun i=>(List.range ops.size).all fun j=>i == j || (dstOf ops i).isNone || !(dstOf ops i == dstOf ops j)
theorem slotsB_spec(h:slotsB ops=true):Slots ops:=fun i j d hi hj=>by
 have lt:∀ k,dstOf ops k=some d→k < ops.size:=fun k hk=>by
  unfold dstOf at hk
  cases ho:ops[k]? with
  | none=>rw[ho]at hk;simp at hk
  | some o=>exact(Array.getElem?_eq_some_iff.1 ho).1
 unfold slotsB at h;simp only[List.all_eq_true,List.mem_range,Bool.or_eq_true,beq_iff_eq,Bool.not_eq_true',beq_eq_false_iff_ne]at h
 rcases h i (lt i hi) j (lt j hj)with(h1 | h1) | h1
 · exact h1
 · rw[hi]at h1;simp at h1
 · exact absurd (hi.trans hj.symm) h1
def backB(ops:Array Oper):Bool:=(List.range ops.size).all fun i=>match ops[i]? with | some o=>o.after.all fun e=>decide (e.on < i) | none=>true
theorem backB_spec(h:backB ops=true):Back ops:=fun i o ho e he=>by
 unfold backB at h;simp only[List.all_eq_true,List.mem_range]at h;have h1:=h i (Array.getElem?_eq_some_iff.1 ho).1;rw[ho]at h1;simp only[Array.all_eq_true']at h1;simpa using h1 e he
theorem getD_up{l:Array Bool}{k:Nat}(h:l.getD k false=true):l.getD k true=true:=by
 by_cases hk:k < l.size
 · simpa[Array.getD,hk]using h
 · simp[Array.getD,hk]
theorem wp_region_slots{G:Type}{id:Nat}{a:Act}{w:World}{l:List Oper}(V:G→Nat→Value)(R:World→Array Bool→G→World→Prop)(g0:G)(hm:P.follows .mixedOrders=true)(hs:slotsB l.toArray=true)(hb:backB l.toArray=true)
    (hg:∀ (i:Nat) (o:Oper),l[i]? = some o→o.guard=none) (h0:R w (Array.replicate l.length false) g0 w.drew)
    (hstep:∀ listed g w1 i o,l[i]? = some o→listed.getD i true=false→(∀ e,e∈o.after→Region.binds .any e=true→listed.getD e.on false=true)→R w listed g w1→
      ∀ (b:Act) (K:Act→World→Prop),(∀ d:Nat,missB l.toArray d=true→b.tmps[d]? = a.tmps[d]?)→(∀ j d,j < l.length→listed.getD j true=true→dstOf l.toArray j=some d→d < a.tmps.size→b.tmps[d]? = some (V g j))→
      (∀ g' w',R w (listed.setIfInBounds i true) g' w'→(∀ j,j < l.length→listed.getD j true=true→V g' j=V g j)→K (b.put o.dst (V g' i)) w')→o.wp P b w1 K Q)
    (hend:∀ listed g w1,(∀ i,i < l.length→listed.getD i true=true)→R w listed g w1→Q .normal (fill l.toArray (V g) listed a) w1):(Code.region id l.toArray true).wp P Q a w:=
 wp_region_tab V R g0 hm (slotsB_spec hs) (backB_spec hb) hg h0
  (fun listed g w1 i o ho hun hdep hR K hK=>hstep listed g w1 i o ho hun hdep hR (fill l.toArray (V g) listed a) K (fun d hd=>fill_miss (fun i hi _=>missB_spec hd i hi)) (fun j d hj hl hd hds=>fill_hit (slotsB_spec hs) (by simpa using hj) hl hd hds) hK) hend
end
section
variable {w w':World} {base B k n c g:Nat} {e:TypeId} {A:Option Addr} {v:Value} {xs:List (List Value)}
theorem Sl.of_own(h:w.ownsRow base e k (.slice A n c) n xs.flatten)(hr:Rws k xs)(hn:xs.length=n):Sl w w.heap.size k A c xs:=by
 subst hn
 rcases h.2 with⟨h1,h2⟩ | ⟨g,cap,cur,hv,hg,hgg,hle,hmax,hsz,htk⟩
 · have hx:xs = []:=List.eq_nil_of_length_eq_zero h2;subst hx;injection h1 with _ _ hc
   subst hc;exact⟨by simp,by simp,hr,fun h=>absurd h (by simp)⟩
 · injection hv with hA _ hc
   subst hA hc;refine⟨hle,hmax,hr,fun _=>⟨g,0,rfl,(Array.getElem?_eq_some_iff.1 hgg).1,fun j u h3=>?_⟩⟩;rw[Nat.zero_add,cell_of_row w g _ cur e (0,0) hgg];rw[← htk,List.getElem?_take]at h3
   split at h3
   · simpa using h3
   · cases h3
theorem own_form(h:w.ownsRow base e k v n (xs.flatten)):∃ A c,v = .slice A n c∧n≤c∧c≤maxLen:=by
 rcases h.2 with⟨rfl,rfl⟩ | ⟨g,cap,cur,rfl,_,_,hle,hmax,_⟩
 · exact⟨none,0,rfl,Nat.le_refl _,by simp⟩
 · exact⟨_,cap,rfl,hle,hmax⟩
theorem add_lit(b off j:Nat):(⟨b,off,none⟩:Addr).add j=⟨b,off+j,none⟩:=by unfold Addr.add;split <;> simp_all
theorem Sl.news{a:Addr}(h:Sl w B k (some a) c xs):∀ j u,xs.flatten[j]? = some u→w.cell? (a.add j)=some u:=fun j u hu=>by
 have hpos:0 < xs.length:=by
  rcases Nat.eq_zero_or_pos xs.length with h0 | h0
  · rw[List.eq_nil_of_length_eq_zero h0]at hu;simp at hu
  · exact h0
 obtain⟨b,off,e,_,hc⟩:=h.mem hpos;injection e with e
 subst e;rw[add_lit];exact hc j u hu
end
theorem Ext.by_{w w':World}(h:Ext w w')(row:Option Nat):w.grownBy w' row:=⟨h.below.os,h.below.tape,h.below.output,h.below.size,fun k hk _=>h.below.block k hk⟩
def idx(p:List Value→Bool)(xs:List (List Value)):Int:=match xs.findIdx? p with | some i=>i | none=>-1
theorem idx_no{p:List Value→Bool}{xs:List (List Value)}(h:∀ (i:Nat) (x:List Value),xs[i]? = some x→p x=false):idx p xs = -1:=by
 unfold idx;rw[List.findIdx?_eq_none_iff.2 (fun x hx=>by obtain⟨i,hi⟩:=List.getElem?_of_mem hx;simp[h i x hi])]
theorem idx_at{p:List Value→Bool}{xs:List (List Value)}{j:Nat}{x:List Value}(h:∀ (i:Nat) (x:List Value),i < j→xs[i]? = some x→p x=false)(hx:xs[j]? = some x)(hp:p x=true):idx p xs=j:=by
 unfold idx;obtain⟨hj,rfl⟩:=List.getElem?_eq_some_iff.1 hx;rw[List.findIdx?_eq_some_iff_getElem.2 ⟨hj,hp,fun i hi=>by simp[h i xs[i] hi (List.getElem?_eq_getElem _)]⟩]
theorem grown_refl(w:World)(row:Option Nat):w.grownBy w row:=⟨rfl,rfl,rfl,Nat.le_refl _,fun _ _ _=>rfl⟩
theorem grown_trans{a b c:World}{row:Option Nat}(h:a.grownBy b row)(k:b.grownBy c row):a.grownBy c row:=
 ⟨k.os.trans h.os,k.tape.trans h.tape,k.output.trans h.output,Nat.le_trans h.size k.size,fun i hi hn=>(k.block i (Nat.lt_of_lt_of_le hi h.size) hn).trans (h.block i hi hn)⟩
theorem grown_ext{a b c:World}{row:Option Nat}(h:a.grownBy b row)(k:Ext b c):a.grownBy c row:=grown_trans h (k.by_ row)
theorem grown_set{a w:World}{g:Nat}(h:a.grownBy w (some g))(o:Nat)(u:Value):a.grownBy (w.setCell ⟨g,o,none⟩ u) (some g):=
 ⟨h.os,h.tape,h.output,by simpa[World.setCell]using h.size,fun i hi hne=>(Below.heap_setCell w ⟨g,o,none⟩ u i (by rintro rfl;exact hne rfl)).trans (h.block i hi hne)⟩
theorem grown_row{a w:World}{g:Nat}(h:a.grownBy w (some g))(cs:Array Value):a.grownBy (w.setRow g cs) (some g):=
 ⟨h.os,h.tape,h.output,by simpa[World.setRow]using h.size,fun i hi hne=>(setRow_other w g i cs (by rintro rfl;exact hne rfl)).trans (h.block i hi hne)⟩
theorem own_ext{w w':World}{base n k:Nat}{e:TypeId}{v:Value}{zs:List Value}(h:w.ownsRow base e k v n zs)(hx:Ext w w'):w'.ownsRow base e k v n zs:=
 h.kept (hx.by_ none) (by cases hv:v.ownBlock <;> simp)
theorem set_flatten{k:Nat} : ∀ (ys:List (List Value)) (i:Nat) (x:List Value),(∀ y,y∈ys→y.length=k)→x.length=k→i < ys.length→(ys.set i x).flatten=splice ys.flatten (i * k) x
 | [],_,_,_,_,hi=>absurd hi (by simp)
 | y:: ys,0,x,hy,hx,_=>by
   have h1:=hy y (List.mem_cons_self ..);simp[splice,hx,← h1]
 | y:: ys,i+1,x,hy,hx,hi=>by
   have h1:=hy y (List.mem_cons_self ..);have ih:=set_flatten ys i x (fun z hz=>hy z (List.mem_cons_of_mem _ hz)) hx (by simpa using hi);rw[List.set_cons_succ,List.flatten_cons,ih,List.flatten_cons];unfold splice;have e1:(i+1) * k=y.length+i * k:=by rw[h1,Nat.succ_mul];omega
   rw[e1,List.take_length_add_append,Nat.add_assoc,List.drop_length_add_append];simp
theorem splice_nil(l:List Value)(o:Nat):splice l o []=l:=by simp[splice]
theorem splice_step(l:List Value)(o:Nat)(v:Value)(rest:List Value)(h:o+(rest.length+1)≤l.length):splice (l.set o v) (o+1) rest=splice l o (v:: rest):=by
 have:=list_seg_step l o v rest h;simpa[splice,List.append_assoc]using this
section
variable {P:Program}
theorem wpList_clear_rows{n:Nat}{w:World}{ops:Array Oper}{rest:List Oper}{o:Oper}{a:Act}{Q:Exit→Act→World→Prop}(hgd:o.guard=none)(s:Operand)(t:TypeId)
    (ho:o.op = .call {callee:=.builtin .clear,args:=#[s],argTypes:=#[t] }) (e:TypeId) (k:Nat) (z:Value) (ht:P.underlying t=some (.slice e)) (hv:∀ w,(zeroValue e).run P w = .ok z w)
    (hz:z.cells.size=k) (h1:∀ u,u∈(Builtin.zeroCells z.cells (n+1)).toList→u.oneCell'=true) (g off c:Nat) (hs:a.eval s = .slice (some ⟨g,off,none⟩) (n+1) c)
    (cur:List Value) (te:TypeId) (hg:w.heap[g]? = some (.cells cur.toArray te (0,0))) (hfit:off+(n+1) * k≤cur.length)
    (h:wpList P ops Q rest (a.put o.dst (.tuple #[])) (w.setRow g (splice cur off (Builtin.zeroCells z.cells (n+1)).toList).toArray)):wpList P ops Q (o:: rest) a w:=by
 refine wpList_plain hgd fun K hK=>?_;have hl:(Builtin.zeroCells z.cells (n+1)).toList.length=(n+1) * k:=by rw[Array.length_toList,size_zeroCells,hz]
 have hst:=run_storeCells_at P g off te (Builtin.zeroCells z.cells (n+1)).toList 0 cur.toArray w hg (by rw[hl];simpa using hfit) h1;simp only[Nat.add_zero]at hst;have hrun:(Builtin.clear_ #[t] o.type #[.slice (some ⟨g,off,none⟩) (n+1) c]).run P w = .ok (.tuple #[]) (w.setRow g (splice cur off (Builtin.zeroCells z.cells (n+1)).toList).toArray):=by
  simp[Builtin.clear_,run_underlying ht,hv,hst,splice]
 unfold Oper.wp;simp[execOp,ho,resolve,invoke,builtin,hs,hrun,Result.andThen];exact hK _ _ h
end
theorem own_cur{w:World}{base n k c g:Nat}{e:TypeId}{zs:List Value}(h:w.ownsRow base e k (.slice (some ⟨g,0,none⟩) n c) n zs):
    ∃ cur:List Value,base≤g∧w.heap[g]? = some (.cells cur.toArray e (0,0))∧n≤c∧c≤maxLen∧cur.length=c * k∧cur.take (n * k)=zs:=by
 rcases h.2 with⟨hv,_⟩ | ⟨g',cap,cur,hv,hg,hgg,hle,hmax,hsz,htk⟩
 · cases hv
 · injection hv with hA _ hc
   injection hA with hA
   injection hA with hA
   subst hA hc;exact⟨cur.toList,hg,hgg,hle,hmax,by simpa using hsz,htk⟩
theorem own_of_cur{w:World}{base n k c g:Nat}{e:TypeId}{zs cur:List Value}(hb:base≤g)(hg:w.heap[g]? = some (.cells cur.toArray e (0,0)))(hn:n≤c)(hc:c≤maxLen)(hl:cur.length=c * k)(ht:cur.take (n * k)=zs):
    w.ownsRow base e k (.slice (some ⟨g,0,none⟩) n c) n zs:=by
 have hm:n * k≤c * k:=Nat.mul_le_mul_right _ hn;exact⟨by rw[← ht,List.length_take,hl];omega,.inr ⟨g,c,cur.toArray,rfl,hb,hg,hn,hc,by simpa using hl,by simpa using ht⟩⟩
theorem own_slot{w:World}{base n k c g:Nat}{e:TypeId}{zs:List Value}(h:w.ownsRow base e k (.slice (some ⟨g,0,none⟩) n c) n zs)(j:Nat)(hj:j < n * k):∃ v,w.cell? ⟨g,j,none⟩=some v:=by
 have hl:j < zs.length:=by rw[h.1];exact hj
 exact⟨zs[j],by rw[h.cellAt j hj];exact List.getElem?_eq_getElem hl⟩
theorem flatten_take{k:Nat} : ∀ (ys:List (List Value)) (i:Nat),(∀ y,y∈ys→y.length=k)→i≤ys.length→(ys.take i).flatten=ys.flatten.take (i * k)
 | _,0,_,_=>by simp
 | [],i+1,_,hi=>absurd hi (by simp)
 | y:: ys,i+1,h,hi=>by
   have h1:=h y (List.mem_cons_self ..);rw[List.take_succ_cons,List.flatten_cons,flatten_take ys i (fun z hz=>h z (List.mem_cons_of_mem _ hz)) (by simpa using hi),List.flatten_cons,show(i+1) * k=y.length+i * k by rw[h1,Nat.succ_mul];omega,List.take_length_add_append]
theorem zeros_one(z:Array Value)(n:Nat)(hz:0 < z.size)(h:∀ i,i < z.size→z[i]!.oneCell'=true):∀ u,u∈(Builtin.zeroCells z n).toList→u.oneCell'=true:=fun u hu=>by
 simp only[Builtin.zeroCells,Array.toList_map,List.mem_map]at hu;obtain⟨i,_,rfl⟩:=hu;exact h _ (Nat.mod_lt _ hz)
theorem splice_take(l:List Value)(o:Nat)(cs:List Value)(h:o≤l.length):(splice l o cs).take o=l.take o:=by
 unfold splice;rw[List.take_append_of_le_length (by simp;omega),List.take_take];congr 1;omega
theorem news_new(w:World)(cs:List Value)(e:TypeId):∀ (j:Nat) (u:Value),cs[j]? = some u→(w.alloc (.cells cs.toArray e)).cell? ((⟨w.heap.size,0,none⟩:Addr).add j)=some u:=fun j u hu=>by
 rw[add_lit,Nat.zero_add,cell_of_row _ _ _ _ _ _ (heap_alloc_new w _)];simpa using hu
theorem Ext.own{a w w':World}{base n k:Nat}{e:TypeId}{v:Value}{zs:List Value}(h:Ext a w)(ho:w.ownsRow base e k v n zs)(hg:w.grownBy w' v.ownBlock)(hb:a.heap.size≤base):Ext a w':=
 h.grown hg fun k hk=>Nat.le_trans hb (ho.lt k hk).1
end Go.Proofs.YtoecbicdahbccaaGreatDoor
namespace Go.Proofs.YtoecbicdahbccaaGreatDoor
open Go Go.RowKit Go.ChangeShapes Go.WideShapes Go.ChangeAt
section
variable {P:Program}
def IntsT(P:Program)(t:TypeId):Prop:=∀ (H:Type) (enc:TypeId × Value→H) (w:World) (base:Nat) (spare:Nat→Bool) (held:Bool) (fuel:Nat) (cs:List Value) (x:DataW H × List MemPlace),
 DataW.trod enc P w base spare held fuel t cs=some x→cs.length=P.cellsOf t∧∀ (c:Value),c∈cs→∃ n:Int,c = .int .i64 n∧(Lit.int .i64 n).wf=true
theorem ints_int{t:TypeId}(ht:P.underlying t=some (.int .i64))(hc:P.cellsOf t=1):IntsT P t:=fun H enc w base spare held fuel cs x h=>by
 obtain⟨n,rfl,_,hw⟩:=DataW.trod_int ht h;exact⟨by rw[hc];rfl,fun c hc=>by simp only[List.mem_singleton]at hc;exact⟨n,hc,hw⟩⟩
theorem ints_struct{t:TypeId}{fs:Array Field}(ht:P.underlying t=some (.struct fs))(hf:∀ (i:Nat) (f:Field),fs[i]? = some f→IntsT P f.type)
    (hcov:∀ j,j < P.cellsOf t→∃ (i:Nat) (f:Field),fs[i]? = some f∧f.offset≤j∧j < f.offset+P.cellsOf f.type):IntsT P t:=fun H enc w base spare held fuel cs x h=>by
 obtain⟨xs,n,_,_,hlen,hxl,hg⟩:=DataW.trod_struct ht h;refine⟨hlen,fun c hc=>?_⟩;obtain⟨j,hj⟩:=List.getElem?_of_mem hc;have hjl:=(List.getElem?_eq_some_iff.1 hj).1;obtain⟨i,f,hif,h1,h2⟩:=hcov j (by omega);have hx:∃ y,xs[i]? = some y:=⟨xs[i]'(by rw[hxl];exact(Array.getElem?_eq_some_iff.1 hif).1),List.getElem?_eq_getElem _⟩;obtain⟨y,hy⟩:=hx;have h3:=hg i f hif;rw[hy]at h3;obtain⟨_,h5⟩:=hf i f hif H enc w base spare held n _ y h3;refine h5 c ?_;have:((cs.drop f.offset).take (P.cellsOf f.type))[j - f.offset]? = some c:=by
  rw[List.getElem?_take,if_pos (by omega),List.getElem?_drop,show f.offset+(j - f.offset)=j by omega,hj]
 exact List.mem_of_getElem? this
theorem ints_list{cs:List Value}(h:∀ (c:Value),c∈cs→∃ n:Int,c = .int .i64 n∧(Lit.int .i64 n).wf=true):∃ l:List Int,cs=l.map (Value.int .i64)∧∀ n,n∈l→(Lit.int .i64 n).wf=true:=by
 induction cs with
 | nil=>exact⟨[],rfl,fun n hn=>by simp at hn⟩
 | cons c cs ih=>
   obtain⟨n,rfl,hw⟩:=h c (List.mem_cons_self ..);obtain⟨l,rfl,hl⟩:=ih (fun d hd=>h d (List.mem_cons_of_mem _ hd));exact⟨n:: l,rfl,fun m hm=>by rcases List.mem_cons.1 hm with rfl | hm;exact hw;exact hl m hm⟩
variable {H:Type} {enc:TypeId × Value→H} {W:World}
theorem args_below(hl:laidOutB P=true):∀ (ts:List TypeId) (vs:List Value) (ds:List (DataW H)) (ps:List MemPlace) (W':World),(∀ t,t∈ts→P.readableRec t=true∧t < P.types.size)→
    DataW.TrodAll enc P W 0 (fun _=>true) true ts vs ds ps→Below W.heap.size W W'→(∀ x,x∈ps→x.block < W.heap.size)→DataW.TrodAll enc P W' 0 (fun b=>decide (b < W.heap.size)) true ts vs ds ps
 | [],vs,ds,ps,W',_,h,_,_=>by
   obtain⟨rfl,rfl,rfl⟩:=trodAll_nil h;exact rfl
 | t:: ts,vs,ds,ps,W',hr,h,hb,hlt=>by
   obtain⟨v,vs',d,ds',p,q,rfl,rfl,rfl,h1,h2⟩:=trodAll_cons h;obtain⟨r1,r2⟩:=hr t (List.mem_cons_self ..);exact⟨p,q,Below.trod hl r1 r2 h1 hb (fun x hx=>hlt x (List.mem_append.2 (.inl hx))),args_below hl ts vs' ds' q W' (fun t ht=>hr t (List.mem_cons_of_mem _ ht)) h2 hb (fun x hx=>hlt x (List.mem_append.2 (.inr hx))),rfl⟩
end
end Go.Proofs.YtoecbicdahbccaaGreatDoor
namespace Go.Proofs.YtoecbicdahbccaaGreatDoor
open Go Go.RowKit
theorem ret_bool{a b:Bool}(h:a=b):Ending.returned (.bool a) = .returned (.bool b):=by rw[h]
theorem ret_int{k:IntKind}{a b:Int}(h:a=b):Ending.returned (.int k a) = .returned (.int k b):=by rw[h]
theorem mixed:Tryz.prog.follows .mixedOrders=true:=by kernel_rfl
structure Pt where
 x:Int
 y:Int
 z:Int
 deriving DecidableEq
structure Bx where
 lo:Pt
 hi:Pt
 deriving DecidableEq
def Pt.cells(p:Pt):List Value:=[.int .i64 p.x,.int .i64 p.y,.int .i64 p.z]
def Bx.cells(b:Bx):List Value:=[.int .i64 b.lo.x,.int .i64 b.lo.y,.int .i64 b.lo.z,.int .i64 b.hi.x,.int .i64 b.hi.y,.int .i64 b.hi.z]
def inP(p:Pt)(b:Bx):Bool:=decide (b.lo.x≤p.x) && (decide (p.x < b.hi.x) && (decide (b.lo.y≤p.y) && (decide (p.y < b.hi.y) && (decide (b.lo.z≤p.z) && decide (p.z < b.hi.z)))))
def emptyB(b:Bx):Bool:=!inP b.lo b
theorem In_any(p:Pt)(b:Bx)(w:World):
    Calls Tryz.prog 74 #[.agg #[.int .i64 p.x,.int .i64 p.y,.int .i64 p.z],.agg #[.int .i64 b.lo.x,.int .i64 b.lo.y,.int .i64 b.lo.z,.int .i64 b.hi.x,.int .i64 b.hi.y,.int .i64 b.hi.z]] w fun e w'=>e = .returned (.bool (inP p b))∧Ext w w':=by
 go_enter Tryz.func74,Tryz.ntmps74
 go_wp2
 all_goals
  go_ret
  refine⟨ret_bool ?_,((Ext.refl w).alloc _).alloc _⟩;rw[Bool.eq_iff_iff];simp[inP]
  try omega
theorem Empty_any(b:Bx)(w:World):
    Calls Tryz.prog 73 #[.agg #[.int .i64 b.lo.x,.int .i64 b.lo.y,.int .i64 b.lo.z,.int .i64 b.hi.x,.int .i64 b.hi.y,.int .i64 b.hi.z]] w fun e w'=>e = .returned (.bool (emptyB b))∧Ext w w':=by
 go_enter Tryz.func73,Tryz.ntmps73
 go_wp2_with (go_at_call 74;refine(In_any b.lo b _).mono ?_;rintro e w1 ⟨rfl,x1⟩)
 go_ret
 exact⟨rfl,x1.un⟩
theorem list_any(x y z:Int)(w:World):
    Calls Tryz.prog 160 #[.agg #[.int .i64 x,.int .i64 y,.int .i64 z]] w fun e w'=>e = .returned (.agg #[.int .i64 x,.int .i64 y,.int .i64 z])∧Ext w w':=by
 go_enter Tryz.func160,Tryz.ntmps160
 go_wp2
 exact bodyPost_ret (v:=.agg #[.int .i64 x,.int .i64 y,.int .i64 z]) (by simp[results,Tryz.results160,go_sem]) rfl ⟨rfl,((Ext.refl w).alloc _).alloc _⟩
theorem greater_any(x y:Int)(w:World):
    Calls Tryz.prog 143 #[.int .i64 x,.int .i64 y] w fun e w'=>e = .returned (.int .i64 (max x y))∧Ext w w':=by
 go_enter Tryz.func143,Tryz.ntmps143
 go_wp2
 go_ret
 exact⟨rfl,Ext.refl w⟩
theorem lesser_any(x y:Int)(w:World):
    Calls Tryz.prog 144 #[.int .i64 x,.int .i64 y] w fun e w'=>e = .returned (.int .i64 (min x y))∧Ext w w':=by
 go_enter Tryz.func144,Tryz.ntmps144
 go_wp2
 go_ret
 exact⟨rfl,Ext.refl w⟩
theorem Cube_any(n:Int)(w:World):
    Calls Tryz.prog 69 #[.int .i64 n] w fun e w'=>e = .returned (.agg #[.int .i64 0,.int .i64 0,.int .i64 0,.int .i64 n,.int .i64 n,.int .i64 n])∧Ext w w':=by
 go_enter Tryz.func69,Tryz.ntmps69
 go_wp2
 exact bodyPost_ret (v:=.agg #[.int .i64 0,.int .i64 0,.int .i64 0,.int .i64 n,.int .i64 n,.int .i64 n]) (by simp[results,Tryz.results69,go_sem]) rfl ⟨rfl,((Ext.refl w).alloc _)⟩
def Arr(w:World)(b:Nat)(t:TypeId)(vs:List Value):Prop:=w.heap[b]? = some (.cells vs.toArray t (0,0))
theorem Arr.lt{w:World}{b:Nat}{t:TypeId}{vs:List Value}(h:Arr w b t vs):b < w.heap.size:=(Array.getElem?_eq_some_iff.1 h).1
theorem Arr.cell{w:World}{b:Nat}{t:TypeId}{vs:List Value}(h:Arr w b t vs)(j:Nat):w.cell? ⟨b,j,none⟩=vs[j]?:=by
 rw[cell_of_row _ _ _ _ _ _ h];simp
theorem Arr.frozen{w:World}{b:Nat}{t:TypeId}{vs:List Value}(h:Arr w b t vs)(j:Nat):w.frozen? ⟨b,j,none⟩=false:=frozen_of_row w b j _ t h
theorem Arr.ext{w w':World}{b:Nat}{t:TypeId}{vs:List Value}(h:Arr w b t vs)(hx:Ext w w'):Arr w' b t vs:=by
 unfold Arr at *;rw[hx.below.block b (Arr.lt h)];exact h
theorem Arr.set{w:World}{b:Nat}{t:TypeId}{vs:List Value}(h:Arr w b t vs)(j:Nat)(v:Value):Arr (w.setCell ⟨b,j,none⟩ v) b t (vs.set j v):=by
 have h1:=heap_setCell_same w b j _ t v h;unfold Arr;rw[h1];simp
theorem Arr.other{w:World}{b:Nat}{t:TypeId}{vs:List Value}(h:Arr w b t vs){p:Addr}(hp:b≠p.block)(v:Value):Arr (w.setCell p v) b t vs:=by
 unfold Arr;rw[heap_setCell_other w p b v hp];exact h
theorem Arr.new(w:World)(t:TypeId)(vs:List Value):Arr (w.alloc (.cells vs.toArray t)) w.heap.size t vs:=heap_alloc_new w _
theorem Arr.new1(w:World)(o:Obj)(t:TypeId)(vs:List Value):Arr ((w.alloc o).alloc (.cells vs.toArray t)) (w.heap.size+1) t vs:=by
 have h:=Arr.new (w.alloc o) t vs;have e:(w.alloc o).heap.size=w.heap.size+1:=by simp
 rw[e]at h;exact h
theorem Arr.alloc{w:World}{b:Nat}{t:TypeId}{vs:List Value}(h:Arr w b t vs)(o:Obj):Arr (w.alloc o) b t vs:=by
 unfold Arr;rw[heap_alloc_old w o (Arr.lt h)];exact h
theorem wpList_load_blk{P:Program}{ops:Array Oper}{rest:List Oper}{o:Oper}{a:Act}{w:World}{Q:Exit→Act→World→Prop}(ty:TypeId)(x:Operand)(ho:o.op = .load ty x)(hw:Region.wanted o (yielded ops a.tmps)=true)
    {b:Nat} {t:TypeId} {vs:List Value} (hB:Arr w b t vs) (hx:a.eval x = .pointer (some ⟨b,0,none⟩)) (d:TypeDesc) (hu:P.underlying ty=some d)
    (hd:(match d with | .struct _ | .array _ _=>true | _=>false)=true) (hi:(P.info? ty).map (·.size)=some vs.length) (h:wpList P ops Q rest (a.put o.dst (.agg vs.toArray)) w):wpList P ops Q (o:: rest) a w:=by
 refine wpList_step fun K hK=>?_;rw[if_pos hw];exact wp_load_row ty x ho b hx t vs.toArray (0,0) d hB hu hd (by simpa using hi) (hK _ _ h)
theorem ldB{P:Program}{ops:Array Oper}{rest:List Oper}{o:Oper}{a:Act}{w:World}{Q:Exit→Act→World→Prop}(ty:TypeId)(s:Nat){b:Nat}{t:TypeId}{vs:List Value}(hB:Arr w b t vs){d:TypeDesc}(hu:P.underlying ty=some d)
    (h:wpList P ops Q rest (a.put o.dst (.agg vs.toArray)) w) (ho:o.op = .load ty (.tmp s):=by rfl) (hw:Region.wanted o (yielded ops a.tmps)=true:=by rfl) (hx:a.eval (.tmp s) = .pointer (some ⟨b,0,none⟩):=by rfl)
    (hd:(match d with | .struct _ | .array _ _=>true | _=>false)=true:=by rfl) (hi:(P.info? ty).map (·.size)=some vs.length:=by kernel_rfl):wpList P ops Q (o:: rest) a w:=
 wpList_load_blk ty (.tmp s) ho hw hB hx d hu hd hi h
theorem Arr.look{w w':World}{b:Nat}{t:TypeId}{vs:List Value}(h:Arr w b t vs)(hx:Ext w w'):Arr w' b t vs∧(∀ j,w'.cell? ⟨b,j,none⟩=vs[j]?)∧(∀ j,w'.frozen? ⟨b,j,none⟩=false)∧b < w'.heap.size:=
 ⟨h.ext hx,(h.ext hx).cell,(h.ext hx).frozen,(h.ext hx).lt⟩
theorem Arr.setRow{w:World}{b:Nat}{t:TypeId}{vs:List Value}(h:Arr w b t vs)(cs:List Value):Arr (w.setRow b cs.toArray) b t cs:=setRow_heap w b _ _ t (0,0) h
theorem Arr.setRow_other{w:World}{b g:Nat}{t:TypeId}{vs:List Value}(h:Arr w b t vs)(hne:b≠g)(cs:Array Value):Arr (w.setRow g cs) b t vs:=by
 unfold Arr;rw[Go.setRow_other w g b cs hne];exact h
theorem Ext.setRow{a w:World}(h:Ext a w){g:Nat}(hg:a.heap.size≤g)(cs:Array Value):Ext a (w.setRow g cs):=
 ⟨⟨h.below.os,h.below.tape,h.below.output,by simpa[World.setRow]using h.below.size,fun k hk=>(Go.setRow_other w g k cs (by omega)).trans (h.below.block k hk)⟩⟩
theorem byX{a w:World}(h:Ext a w:=by repeat (first | with_reducible exact Ext.refl _ | with_reducible assumption | with_reducible refine Ext.alloc ?_ _ | with_reducible refine Ext.drew ?_ | (with_reducible refine Ext.setCell ?_ ?_ _;rotate_left;focus (first | (simp;done) | (simp;omega) | omega)) | (with_reducible refine Ext.setRow ?_ ?_ _;rotate_left;focus (first | (simp;done) | (simp;omega) | omega)) | with_reducible refine Ext.trans ?_ (by with_reducible assumption))):Ext a w:=h
theorem wpList_store_blk{P:Program}{ops:Array Oper}{rest:List Oper}{o:Oper}{a:Act}{w:World}{Q:Exit→Act→World→Prop}(ty:TypeId)(x y:Operand)(ho:o.op = .store ty x y)(hw:Region.wanted o (yielded ops a.tmps)=true)
    {b:Nat} {t:TypeId} {vs:List Value} (hB:Arr w b t vs) (cs:List Value) (hx:a.eval x = .pointer (some ⟨b,0,none⟩)) (hy:a.eval y = .agg cs.toArray) (hi:(P.info? ty).map (·.size)=some cs.length)
    (hl:vs.length=cs.length) (h1:cs.all (·.oneCell')=true) (h:wpList P ops Q rest (a.put o.dst undef) (w.setRow b cs.toArray)):wpList P ops Q (o:: rest) a w:=by
 refine wpList_step fun K hK=>?_;rw[if_pos hw];exact wp_store_row ty x y ho b cs.toArray hx hy t vs.toArray hB (by simpa using hi) (by simpa using hl) (by simpa using h1) (hK _ _ h)
theorem inP_iff(p:Pt)(b:Bx):inP p b=true↔((b.lo.x≤p.x∧p.x < b.hi.x)∧(b.lo.y≤p.y∧p.y < b.hi.y)∧b.lo.z≤p.z∧p.z < b.hi.z):=by
 unfold inP;simp only[Bool.and_eq_true,decide_eq_true_eq];omega
end Go.Proofs.YtoecbicdahbccaaGreatDoor
