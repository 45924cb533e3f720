/- A part of the walk of the layer of apply: contracts and plain laws that a row's text leans on. -/
import Derived.Test.YtoecbicdahbccaaGreatDoorZa33
set_option maxRecDepth 100000
set_option maxHeartbeats 16000000
namespace Go.Proofs.YtoecbicdahbccaaGreatDoor
open Go Go.RowKit Go.ChangeShapes Go.WideShapes Go.ChangeAt
section
variable {P:Program}
variable {H:Type} {enc:TypeId × Value→H} {W:World}
theorem read_rows{t e:TypeId}{k:Nat}(ht:P.underlying t=some (.slice e))(hc:P.cellsOf e=k)(hk:0 < k)(hi:IntsT P e){base:Nat}{r:Go.Reach}{v:Value}{d:DataW H}{ps:List MemPlace}
    (hv:Value.okWide P W r base t v) (h:DataW.Trod enc P W 0 (fun _=>true) true t v d ps):
    ∃ (A:Option Addr) (c:Nat) (ls:List (List Int)),v = .slice A ls.length c∧Sl W W.heap.size k A c (ls.map fun l=>l.map (Value.int .i64))∧∀ l,l∈ls→l.length=k∧∀ n,n∈l→(Lit.int .i64 n).wf=true:=by
 obtain⟨a0,len0,cap0,rfl⟩:=okWide_slice ht hv;obtain⟨fuel,hf⟩:=h;have hf':DataW.trod enc P W 0 (fun _=>true) true fuel t [.slice a0 len0 cap0]=some (d,ps):=by simpa[Value.cells]using hf
 rcases Go.Deep.open_slice ht hf' with⟨hcs,_⟩ | ⟨a,len,cap,m,n,D,Pl,hcs,_,hl,hm,hmm,_,hel⟩
 · simp only[List.cons.injEq,and_true,Value.slice.injEq]at hcs;obtain⟨rfl,rfl,rfl⟩:=hcs;exact⟨none,0,[],rfl,Sl.nil _ _ _,fun l hl=>by simp at hl⟩
 · simp only[List.cons.injEq,and_true,Value.slice.injEq]at hcs;obtain⟨rfl,rfl,rfl⟩:=hcs;have hmc:len0≤m:=by rw[hmm];simp;exact hl
   have hall:∀ i,∃ l:List Int,i < len0→l.length=k∧(∀ n,n∈l→(Lit.int .i64 n).wf=true)∧∀ (j:Nat) (u:Value),(l.map (Value.int .i64))[j]? = some u→W.cell? (a.add (i * k+j))=some u:=by
    intro i
    by_cases hi2:i < len0
    · obtain⟨cs',hcells,htr⟩:=hel i (by omega);rw[hc]at hcells;obtain⟨h1,h2⟩:=hi H enc W 0 (fun _=>true) true n cs' _ htr;obtain⟨l,rfl,hw⟩:=ints_list h2;obtain⟨_,h3,h4⟩:=World.cells?_some hcells;refine⟨l,fun _=>⟨by simpa using h3,hw,fun j u hu=>?_⟩⟩;have hj:j < k:=by have:=(List.getElem?_eq_some_iff.1 hu).1;simp at this h3;omega
      rw[← Go.Deep.add_add,h4 j hj];exact hu
    · exact⟨[],fun h=>absurd h hi2⟩
   obtain⟨f,hfs⟩:=Classical.axiomOfChoice hall;refine⟨some a,cap0,(List.range len0).map f,by simp,⟨by simpa using hl,hm,?_,fun hpos=>?_⟩,?_⟩
   · intro x hx;simp only[List.map_map,List.mem_map,List.mem_range,Function.comp]at hx;obtain⟨i,hi2,rfl⟩:=hx;exact⟨f i,(hfs i hi2).1,rfl⟩
   · have hpos':0 < len0:=by simpa using hpos
     have h0:∃ u,W.cell? a=some u:=by
      obtain⟨h1,_,h3⟩:=hfs 0 hpos';have hl0:0 < ((f 0).map (Value.int .i64)).length:=by simp;omega
      have:=h3 0 _ (List.getElem?_eq_getElem hl0);simp only[Nat.zero_mul,Nat.add_zero]at this;have ha:a.add 0=a:=by unfold Addr.add;simp
      rw[ha]at this;exact⟨_,this⟩
     obtain⟨u0,h0⟩:=h0;have hsp:=World.cell?_spot h0;obtain⟨b,off,spot⟩:=a;simp only at hsp;subst hsp;refine⟨b,off,rfl,World.block_lt_of_cell? W _ h0,fun j u hu=>?_⟩;have hlen:∀ x,x∈((List.range len0).map f).map (fun l=>l.map (Value.int .i64))→x.length=k:=by
      intro x hx;simp only[List.map_map,List.mem_map,List.mem_range,Function.comp]at hx;obtain⟨i,hi2,rfl⟩:=hx;simpa using (hfs i hi2).1
     have hjl:j < (((List.range len0).map f).map (fun l=>l.map (Value.int .i64))).flatten.length:=(List.getElem?_eq_some_iff.1 hu).1;rw[flatten_length _ hlen]at hjl;simp only[List.length_map,List.length_range]at hjl;have hi2:j / k < len0:=Nat.div_lt_of_lt_mul (by rw[Nat.mul_comm];exact hjl);have hr:j % k < k:=Nat.mod_lt _ hk;have hj:j=j / k * k+j % k:=by rw[Nat.mul_comm];exact(Nat.div_add_mod j k).symm
     have hrow:(((List.range len0).map f).map (fun l=>l.map (Value.int .i64)))[j / k]? = some ((f (j / k)).map (Value.int .i64)):=by
      simp[hi2]
     have hrl:j % k < ((f (j / k)).map (Value.int .i64)).length:=by simp[(hfs _ hi2).1];exact hr
     have h5:=flatten_at _ hlen (j / k) _ hrow (j % k) _ (List.getElem?_eq_getElem hrl);rw[← hj,hu]at h5;have h6:=(hfs _ hi2).2.2 (j % k) _ (List.getElem?_eq_getElem hrl);rw[add_lit,← hj]at h6;rw[h5];exact h6
   · intro l hl2;simp only[List.mem_map,List.mem_range]at hl2;obtain⟨i,hi2,rfl⟩:=hl2;exact⟨(hfs i hi2).1,(hfs i hi2).2.1⟩
end
end Go.Proofs.YtoecbicdahbccaaGreatDoor
namespace Go.Proofs.YtoecbicdahbccaaGreatDoor
open Go Go.RowKit
def PutAt(l:List Chg)(c:Chg)(i:Nat):Prop:=(∀ k d,k < i→l[k]? = some d→befP d.at_ c.at_=true)∧(i=l.length∨∃ d,l[i]? = some d∧befP d.at_ c.at_=false)
theorem putC_mem{l:List Chg}{c:Chg}{i:Nat}{d:Chg} : d∈putC l c i↔d=c∨d∈l:=by
 unfold putC;rw[List.mem_append,List.mem_cons];constructor
 · rintro(h | h | h)
   · exact .inr (List.mem_of_mem_take h)
   · exact .inl h
   · exact .inr (List.mem_of_mem_drop h)
 · rintro(h | h)
   · exact .inr (.inl h)
   · rw[← List.take_append_drop i l,List.mem_append]at h
     rcases h with h | h
     · exact .inl h
     · exact .inr (.inr h)
theorem putC_sort{l:List Chg}{c:Chg}{i:Nat}(h:SortC l)(hi:PutAt l c i)(hn:∀ d,d∈l→d.at_≠c.at_):SortC (putC l c i):=by
 have h0:SortC (l.take i++l.drop i):=by rw[List.take_append_drop];exact h
 unfold SortC at h h0 ⊢;unfold putC;rw[List.pairwise_append]at h0;have h1:∀ x,x∈l.take i→befP x.at_ c.at_=true:=fun x hx=>by
  obtain⟨m,hm⟩:=List.getElem?_of_mem hx;have hml:=(List.getElem?_eq_some_iff.1 hm).1;rw[List.length_take]at hml;rw[List.getElem?_take,if_pos (by omega)]at hm;exact hi.1 m x (by omega) hm
 have h2:∀ x,x∈l.drop i→befP c.at_ x.at_=true:=fun x hx=>by
  rcases hi.2 with hl | ⟨d,hd,hb⟩
  · rw[hl,List.drop_length]at hx;cases hx
  · have hcd:befP c.at_ d.at_=true:=befP_total hb (fun e=>hn d (List.mem_of_getElem? hd) (by rw[e]));have hil:=(List.getElem?_eq_some_iff.1 hd).1;obtain⟨_,e⟩:=List.getElem?_eq_some_iff.1 hd;rw[List.drop_eq_getElem_cons hil,e]at hx;have h3:=h0.2.1;rw[List.drop_eq_getElem_cons hil,e,List.pairwise_cons]at h3
    rcases List.mem_cons.1 hx with rfl | hx
    · exact hcd
    · exact befP_trans hcd (h3.1 x hx)
 rw[List.pairwise_append,List.pairwise_cons];refine⟨h0.1,⟨h2,h0.2.1⟩,fun x hx y hy=>?_⟩
 rcases List.mem_cons.1 hy with rfl | hy
 · exact h1 x hx
 · exact h0.2.2 x hx y hy
def idxC(l:List Chg)(p:Pt):Int:=match l.findIdx? (fun c=>decide (c.at_=p))with | some i=>(i:Int) | none=>-1
theorem idxC_some{l:List Chg}{p:Pt}{i:Nat}{c:Chg}(h:l[i]? = some c)(hc:c.at_=p)(hb:∀ k d,k < i→l[k]? = some d→d.at_≠p):idxC l p=i:=by
 have hi:=(List.getElem?_eq_some_iff.1 h);obtain⟨h1,h2⟩:=hi;unfold idxC;have:l.findIdx? (fun c=>decide (c.at_=p))=some i:=by
  rw[List.findIdx?_eq_some_iff_getElem];refine⟨h1,by rw[h2,decide_eq_true hc],fun j hj=>?_⟩;rw[decide_eq_true_eq];exact hb j _ hj (List.getElem?_eq_getElem _)
 rw[this]
theorem idxC_none{l:List Chg}{p:Pt}(hb:∀ d,d∈l→d.at_≠p):idxC l p = -1:=by
 unfold idxC;have:l.findIdx? (fun c=>decide (c.at_=p))=none:=by
  rw[List.findIdx?_eq_none_iff];intro x hx;rw[decide_eq_false_iff_not];exact hb x hx
 rw[this]
theorem idxC_cases(l:List Chg)(p:Pt):(idxC l p = -1∧∀ d,d∈l→d.at_≠p)∨∃ (i:Nat) (c:Chg),idxC l p=i∧l[i]? = some c∧c.at_=p:=by
 cases h:l.findIdx? (fun c=>decide (c.at_=p))with
 | none=>
   rw[List.findIdx?_eq_none_iff]at h;have h2:∀ d,d∈l→d.at_≠p:=fun d hd=>by
    have:=h d hd
    rwa [decide_eq_false_iff_not]at this
   exact .inl ⟨idxC_none h2,h2⟩
 | some i=>
   right;have h1:=h;rw[List.findIdx?_eq_some_iff_getElem]at h1;obtain⟨hl,hp,_⟩:=h1;refine⟨i,l[i],?_,List.getElem?_eq_getElem hl,by rwa [decide_eq_true_eq]at hp⟩;unfold idxC;rw[h]
def withB(b:List Chg)(x:Chg):Chg:=match b[(idxC b x.at_).toNat]? with | some y=>if 0≤idxC b x.at_ then⟨x.at_,x.old,y.new⟩else x | none=>x
theorem withB_at(b:List Chg)(x:Chg):(withB b x).at_=x.at_∧(withB b x).old=x.old:=by
 unfold withB
 split
 · split <;> exact⟨rfl,rfl⟩
 · exact⟨rfl,rfl⟩
theorem withB_new{b:List Chg}(hb:OnceC b)(x:Chg)(v:Int):(withB b x).new=v↔(∃ y,y∈b∧y.at_=x.at_∧y.new=v)∨((∀ y,y∈b→y.at_≠x.at_)∧x.new=v):=by
 rcases idxC_cases b x.at_ with⟨h1,h2⟩ | ⟨i,c,h1,h2,h3⟩
 · have e:withB b x=x:=by
     unfold withB;rw[h1]
     split
     · rw[if_neg (by omega)]
     · rfl
   rw[e];constructor
   · intro h;exact .inr ⟨h2,h⟩
   · rintro(⟨y,k1,k2,_⟩ | ⟨_,k⟩)
     · exact absurd k2 (h2 y k1)
     · exact k
 · have e:withB b x=⟨x.at_,x.old,c.new⟩:=by
     unfold withB;rw[h1];have:((i:Nat):Int).toNat=i:=by omega
     rw[this,h2];show(if (0:Int)≤(i:Int)then _ else _)=_;rw[if_pos (by omega)]
   have hc:=List.mem_of_getElem? h2;rw[e];constructor
   · intro h;exact .inl ⟨c,hc,h3,h⟩
   · rintro(⟨y,k1,k2,k3⟩ | ⟨k,_⟩)
     · have:=hb.uniq hc k1 (h3.trans k2.symm);rw[this];exact k3
     · exact absurd h3 (k c hc)
structure RJ1 (b la out:List Chg):Prop where
 srt:SortC out
 mem:∀ d,d∈out↔d.old≠d.new∧∃ x,x∈la∧d=withB b x
structure RJ2 (a b lb out:List Chg):Prop where
 srt:SortC out
 mem:∀ d,d∈out↔d.old≠d.new∧((∃ x,x∈a∧d=withB b x)∨(d∈lb∧∀ x,x∈a→x.at_≠d.at_))
theorem rj1_start(b:List Chg):RJ1 b [] []:=⟨List.Pairwise.nil,fun d=>⟨fun h=>(by cases h),fun⟨_,x,h,_⟩=>(by cases h)⟩⟩
theorem rj1_step{b la out:List Chg}{x:Chg}(h:RJ1 b la out)(ho:OnceC (la++[x])):((withB b x).old=(withB b x).new→RJ1 b (la++[x]) out)∧∀ i,PutAt out (withB b x) i→(withB b x).old≠(withB b x).new→RJ1 b (la++[x]) (putC out (withB b x) i):=by
 have hx:∀ y,y∈la→y.at_≠x.at_:=fun y hy e=>by
  unfold OnceC at ho;rw[List.map_append,List.nodup_append]at ho;exact ho.2.2 y.at_ (List.mem_map.2 ⟨y,hy,rfl⟩) x.at_ (by simp) e
 constructor
 · intro he;refine⟨h.srt,fun d=>(h.mem d).trans ?_⟩;constructor
   · rintro⟨k,y,k1,k2⟩;exact⟨k,y,List.mem_append_left _ k1,k2⟩
   · rintro⟨k,y,k1,k2⟩
     rcases List.mem_append.1 k1 with k1 | k1
     · exact⟨k,y,k1,k2⟩
     · rw[List.mem_singleton]at k1;rw[k1]at k2;rw[k2]at k;exact absurd he k
 · intro i hi hne;refine⟨putC_sort h.srt hi (fun d hd e=>?_),fun d=>putC_mem.trans ?_⟩
   · obtain⟨_,y,k1,k2⟩:=(h.mem d).1 hd;rw[k2,(withB_at b y).1,(withB_at b x).1]at e;exact hx y k1 e
   · constructor
     · rintro(k | k)
       · rw[k];exact⟨hne,x,by simp,rfl⟩
       · obtain⟨m,y,k1,k2⟩:=(h.mem d).1 k;exact⟨m,y,List.mem_append_left _ k1,k2⟩
     · rintro⟨k,y,k1,k2⟩
       rcases List.mem_append.1 k1 with k1 | k1
       · exact .inr ((h.mem d).2 ⟨k,y,k1,k2⟩)
       · rw[List.mem_singleton]at k1;rw[k1]at k2;exact .inl k2
theorem rj2_start{a b out:List Chg}(h:RJ1 b a out):RJ2 a b [] out:=⟨h.srt,fun d=>(h.mem d).trans (by simp)⟩
theorem rj2_step{a b lb out:List Chg}{y:Chg}(h:RJ2 a b lb out)(ho:OnceC (lb++[y])):((¬ idxC a y.at_ < 0∨y.old=y.new)→RJ2 a b (lb++[y]) out)∧∀ i,PutAt out y i→idxC a y.at_ < 0→y.old≠y.new→RJ2 a b (lb++[y]) (putC out y i):=by
 have hx:∀ z,z∈lb→z.at_≠y.at_:=fun z hz e=>by
  unfold OnceC at ho;rw[List.map_append,List.nodup_append]at ho;exact ho.2.2 z.at_ (List.mem_map.2 ⟨z,hz,rfl⟩) y.at_ (by simp) e
 constructor
 · intro hc;refine⟨h.srt,fun d=>(h.mem d).trans ?_⟩;constructor
   · rintro⟨k,k1 | ⟨k1,k2⟩⟩
     · exact⟨k,.inl k1⟩
     · exact⟨k,.inr ⟨List.mem_append_left _ k1,k2⟩⟩
   · rintro⟨k,k1 | ⟨k1,k2⟩⟩
     · exact⟨k,.inl k1⟩
     · rcases List.mem_append.1 k1 with k1 | k1
       · exact⟨k,.inr ⟨k1,k2⟩⟩
       · rw[List.mem_singleton]at k1;rw[k1]at k k2
         rcases hc with hc | hc
         · exact absurd (by rw[idxC_none k2];decide) hc
         · exact absurd hc k
 · intro i hi hneg hne;have hna:∀ x,x∈a→x.at_≠y.at_:=by
    rcases idxC_cases a y.at_ with⟨_,k⟩ | ⟨j,c,k,_⟩
    · exact k
    · exfalso;omega
   refine⟨putC_sort h.srt hi (fun d hd e=>?_),fun d=>putC_mem.trans ?_⟩
   · obtain⟨_,⟨x,k1,k2⟩ | ⟨k1,_⟩⟩:=(h.mem d).1 hd
     · rw[k2,(withB_at b x).1]at e;exact hna x k1 e
     · exact hx d k1 e
   · constructor
     · rintro(k | k)
       · rw[k];exact⟨hne,.inr ⟨by simp,hna⟩⟩
       · obtain⟨m,k1 | ⟨k1,k2⟩⟩:=(h.mem d).1 k
         · exact⟨m,.inl k1⟩
         · exact⟨m,.inr ⟨List.mem_append_left _ k1,k2⟩⟩
     · rintro⟨k,k1 | ⟨k1,k2⟩⟩
       · exact .inr ((h.mem d).2 ⟨k,.inl k1⟩)
       · rcases List.mem_append.1 k1 with k1 | k1
         · exact .inr ((h.mem d).2 ⟨k,.inr ⟨k1,k2⟩⟩)
         · rw[List.mem_singleton]at k1;exact .inl k1
theorem rj_is{a b out:List Chg}(h:RJ2 a b b out)(hb:OnceC b):IsJoin a b out:=by
 refine⟨h.srt,fun c=>(h.mem c).trans ?_⟩;constructor
 · rintro⟨k,⟨x,k1,k2⟩ | ⟨k1,k2⟩⟩
   · refine⟨k,.inl ⟨x,k1,?_,?_,?_⟩⟩
     · rw[k2,(withB_at b x).1]
     · rw[k2,(withB_at b x).2]
     · have:=(withB_new hb x c.new).1 (by rw[k2]);have e:c.at_=x.at_:=by rw[k2,(withB_at b x).1]
       rw[e];exact this
   · exact⟨k,.inr ⟨k2,k1⟩⟩
 · rintro⟨k,⟨x,k1,k2,k3,k4⟩ | ⟨k1,k2⟩⟩
   · refine⟨k,.inl ⟨x,k1,?_⟩⟩;rw[← k2]at k4;have hn:=(withB_new hb x c.new).2 k4;have ha:=withB_at b x
     revert hn ha
     generalize withB b x=w;intro hn ha;obtain⟨p,o,n⟩:=c;obtain⟨p2,o2,n2⟩:=w;simp only at *;rw[ha.1,ha.2,hn,k2,k3]
   · exact⟨k,.inr ⟨k2,k1⟩⟩
end Go.Proofs.YtoecbicdahbccaaGreatDoor
namespace Go.Proofs.YtoecbicdahbccaaGreatDoor
open Go Go.RowKit Go.ChangeShapes Go.WideShapes Go.ChangeAt
theorem cells_Ch:Tryz.prog.cellsOf 58=5:=by kernel_rfl
theorem ints_Ch:IntsT Tryz.prog 58:=by
 refine ints_struct Tryz.underlying58 (fun i f h=>?_) (fun j hj=>?_)
 · match i,h with
   | 0,h=>injection h with h;subst h;exact ints_Pt
   | 1,h=>injection h with h;subst h;exact ints_int_
   | 2,h=>injection h with h;subst h;exact ints_int_
   | i+3,h=>simp at h
 · exact cover_of (by kernel_rfl) j hj
theorem read_Chs{H:Type}{enc:TypeId × Value→H}{W:World}{base:Nat}{r:Go.Reach}{v:Value}{d:DataW H}{ps:List MemPlace}
    (hv:Value.okWide Tryz.prog W r base 38 v) (h:DataW.Trod enc Tryz.prog W 0 (fun _=>true) true 38 v d ps):
    ∃ (A:Option Addr) (c:Nat) (l:List Chg),v = .slice A l.length c∧Sv W W.heap.size 5 A c (rowsC l)∧∀ y,y∈l→∀ n,n∈y.ints→(Lit.int .i64 n).wf=true:=by
 obtain⟨A,c,ls,rfl,hs,hl⟩:=read_rows Tryz.underlying38 cells_Ch (by decide) ints_Ch hv h;obtain⟨l,hll,hfit⟩:∃ l:List Chg,ls.map (fun l=>l.map (Value.int .i64))=rowsC l∧∀ y,y∈l→∀ n,n∈y.ints→(Lit.int .i64 n).wf=true:=by
  clear hs hv h
  induction ls with
  | nil=>exact⟨[],rfl,by simp⟩
  | cons x xs ih=>
    obtain⟨l,hl',hfit⟩:=ih (fun y hy=>hl y (List.mem_cons_of_mem _ hy));obtain⟨h3,h4⟩:=hl x (List.mem_cons_self ..)
    match x,h3,h4 with
    | [a0,a1,a2,a3,a4],_,h4=>exact⟨⟨⟨a0,a1,a2⟩,a3,a4⟩:: l,by unfold rowsC at hl' ⊢;simp only[List.map_cons,hl'];rfl,fun y hy=>by
      rcases List.mem_cons.1 hy with rfl | hy
      · exact h4
      · exact hfit y hy⟩
 rw[hll]at hs;have hlen:=congrArg List.length hll;unfold rowsC at hlen;simp only[List.length_map]at hlen;exact⟨A,c,l,by rw[hlen],hs.sv,hfit⟩
end Go.Proofs.YtoecbicdahbccaaGreatDoor
namespace Go.Proofs.YtoecbicdahbccaaGreatDoor
open Go Go.RowKit
theorem index26_any{A:Option Addr}{c:Nat}{l:List Chg}{p:Pt}(w:World)(hs:Sv w w.heap.size 5 A c (rowsC l)):
    Calls Tryz.prog 44 #[.slice A l.length c,.agg #[.int .i64 p.x,.int .i64 p.y,.int .i64 p.z]] w fun e w'=>e = .returned (.int .i64 (idxC l p))∧Ext w w':=by
 have hm:=mixed;have hG:=near_old;have hln:l.length≤9223372036854775807:=by have h:=hs.len;rw[rowsC_length]at h;exact h
 have HS:=Lib.hid hs;have HSM:=Lib.hid (fun(i:Nat) (c:Chg)=>idxC_some (l:=l) (p:=p) (i:=i) (c:=c));have HNO:=Lib.hid (idxC_none (l:=l) (p:=p));clear hs;generalize idxC l p=r at HSM HNO
 go_enter Tryz.func44,Tryz.ntmps44
 go_wp2
 go_loopw [5] (fun i wr=>∃ j:Nat,j≤l.length∧i = .int .i64 j∧(∀ (i:Nat) (y:Chg),i < j→l[i]? = some y→y.at_≠p)∧Arr wr w.heap.size 23 [.int .i64 p.x,.int .i64 p.y,.int .i64 p.z]∧Ext w wr) (fun i _=>l.length - (intOf i).toNat)
 case atStart=>exact⟨0,Nat.zero_le _,rfl,fun i y hi=>by omega,Arr.new w _ _,(Ext.refl w).alloc _⟩
 case round=>
  obtain⟨j,hj,rfl,hno,hB,hx⟩:=hrel;have HN:=Lib.hid hno;clear hno;have p0:=hB.cell 0;have p1:=hB.cell 1;have p2:=hB.cell 2;simp only[List.getElem?_cons_zero,List.getElem?_cons_succ]at p0 p1 p2;have lB:=hB.lt;have HB:=Lib.hid hB;have HX:=Lib.hid hx;clear hB
  by_cases hlt:j < l.length
  · obtain⟨x,hxj⟩:∃ x,l[j]? = some x:=⟨_,List.getElem?_eq_getElem hlt⟩;obtain⟨b',off,rfl,hbl,r0,r1,r2,r3,r4⟩:=chg_row (HS.out.ext hx) hxj;have hn:=eqPt_run x.at_ p;have HXJ:=Lib.hid hxj;clear hxj hx r3 r4
    by_cases he:x.at_=p
    · have HR:=Lib.hid (HSM.out j x HXJ.out he HN.out);rw[decide_eq_true he]at hn;clear he
      go_wp2_with fail
      refine wp_region_near (by assumption) (by kernel_rfl) ?_
      repeat (go_big_quiet_step (fail))
      refine wpQuiet_nil ?_;intro w1 hw1;have hy:=Ext.of_near hw1;clear hw1;go_wp2
      go_ret
      exact⟨ret_int HR.out.symm,HX.out.trans hy⟩
    · have HE:=Lib.hid he;rw[decide_eq_false he]at hn;clear he
      go_wp2_with fail
      refine wp_region_near (by assumption) (by kernel_rfl) ?_
      repeat (go_big_quiet_step (fail))
      refine wpQuiet_nil ?_;intro w1 hw1;have hy:=Ext.of_near hw1;clear hw1;go_wp2
      go_roundw
      case rel=>
       refine⟨j+1,by omega,by go_num,fun i y hi h=>?_,HB.out.ext hy,HX.out.trans hy⟩
       rcases Nat.lt_succ_iff_lt_or_eq.1 hi with h1 | rfl
       · exact HN.out i y h1 h
       · rw[HXJ.out]at h;injection h with h;subst h;exact HE.out
      case measure=>simp[intOf];omega
  · obtain rfl:j=l.length:=by omega
    have HR:=Lib.hid (HNO.out (fun d hd=>by obtain⟨i,hi⟩:=List.getElem?_of_mem hd;exact HN.out i d (List.getElem?_eq_some_iff.1 hi).1 hi));go_wp2
    go_ret
    exact⟨ret_int HR.out.symm,HX.out⟩
theorem once_take{l:List Chg}{j:Nat}{x:Chg}(h:l[j]? = some x)(ho:OnceC (l.take j)):(¬ 0≤idxC (l.take j) x.at_→OnceC (l.take (j+1)))∧(0≤idxC (l.take j) x.at_→¬ OnceC l):=by
 obtain⟨hj,rfl⟩:=List.getElem?_eq_some_iff.1 h;have ht:OnceC (l.take (j+1))↔∀ d,d∈l.take j→d.at_≠(l[j]).at_:=by
  rw[List.take_succ_eq_append_getElem hj];unfold OnceC at ho ⊢;rw[List.map_append,List.nodup_append];constructor
  · rintro⟨_,_,k⟩ d hd;exact k d.at_ (List.mem_map.2 ⟨d,hd,rfl⟩) (l[j]).at_ (by simp)
  · intro k;refine⟨ho,by simp,fun a ha b hb=>?_⟩;obtain⟨d,hd,rfl⟩:=List.mem_map.1 ha;simp only[List.map_cons,List.map_nil,List.mem_singleton]at hb;subst hb;exact k d hd
 rcases idxC_cases (l.take j) (l[j]).at_ with⟨h1,h2⟩ | ⟨i,c,h1,h2,h3⟩
 · exact⟨fun _=>ht.2 h2,fun k=>by omega⟩
 · have hne:¬ OnceC (l.take (j+1)):=fun k=>ht.1 k c (List.mem_of_getElem? h2) h3;refine⟨fun k=>absurd (by omega) k,fun _ k=>hne ?_⟩;unfold OnceC at k ⊢;rw[List.map_take];exact k.sublist (List.take_sublist ..)
theorem rowsC_take(l:List Chg)(i:Nat):rowsC (l.take i)=(rowsC l).take i:=by simp[rowsC,List.map_take]
theorem rowsC_drop(l:List Chg)(i:Nat):rowsC (l.drop i)=(rowsC l).drop i:=by simp[rowsC,List.map_drop]
theorem once26_any{A:Option Addr}{c:Nat}{l:List Chg}(hl:l.length≤200)(w:World)(hs:Sv w w.heap.size 5 A c (rowsC l)):
    Calls Tryz.prog 22 #[.slice A l.length c] w fun e w'=>(∃ b,e = .returned (.bool b)∧(b=true↔OnceC l))∧Ext w w':=by
 have hm:=mixed;have hG:=near_old;have hle:=hs.le;rw[rowsC_length]at hle;have hmx:=hs.max;unfold maxLen at hmx;have HS:=Lib.hid hs;have HT:=Lib.hid (fun(j:Nat) (x:Chg)=>once_take (l:=l) (j:=j) (x:=x));clear hs
 go_enter Tryz.func22,Tryz.ntmps22
 go_wp2
 go_loopw [3] (fun i wr=>∃ j:Nat,j≤l.length∧i = .int .i64 j∧OnceC (l.take j)∧Ext w wr) (fun i _=>l.length - (intOf i).toNat)
 case atStart=>exact⟨0,Nat.zero_le _,rfl,by simp[OnceC],Ext.refl w⟩
 case round=>
  obtain⟨j,hj,rfl,hno,hx⟩:=hrel;have HN:=Lib.hid hno;clear hno;have HX:=Lib.hid hx
  by_cases hlt:j < l.length
  · obtain⟨x,hxj⟩:∃ x,l[j]? = some x:=⟨_,List.getElem?_eq_getElem hlt⟩;obtain⟨b',off,rfl,hbl,r0,r1,r2,r3,r4⟩:=chg_row (HS.out.ext hx) hxj;have HTT:=Lib.hid (HT.out j x hxj HN.out);have hlj:(l.take j).length=j:=by rw[List.length_take];omega
    have HI:=Lib.hid (fun(W:World) (hx2:Ext wr W)=>index26_any (l:=l.take j) (p:=x.at_) (c:=c) W (by rw[rowsC_take];exact(HS.out.ext (hx.trans hx2)).take j));rw[hlj]at HI;generalize idxC (l.take j) x.at_=r at HI HTT;clear hxj hx r3 r4 hlj;have hcj:j≤c:=by omega
    by_cases hr:0≤r
    · have HR:=Lib.hid (HTT.out.2 hr)
      go_wp2_with fail
      refine wp_region_near (by assumption) (by kernel_rfl) ?_
      repeat (go_big_quiet_step ((go_at_call 44;exact near_call (HI.out _ (Ext.of_near ⟨⟨_,_⟩,rfl⟩)))))
      refine wpQuiet_nil ?_;intro w1 hw1;have hy:=Ext.of_near hw1;clear hw1;go_wp2
      go_ret
      exact⟨⟨_,rfl,by simp[HR.out]⟩,HX.out.trans hy⟩
    · have HR:=Lib.hid hr
      go_wp2_with fail
      refine wp_region_near (by assumption) (by kernel_rfl) ?_
      repeat (go_big_quiet_step ((go_at_call 44;exact near_call (HI.out _ (Ext.of_near ⟨⟨_,_⟩,rfl⟩)))))
      refine wpQuiet_nil ?_;intro w1 hw1;have hy:=Ext.of_near hw1;clear hw1;go_wp2
      go_roundw
      case rel=>
       exact⟨j+1,by omega,by go_num,HTT.out.1 HR.out,HX.out.trans hy⟩
      case measure=>simp[intOf];omega
  · obtain rfl:j=l.length:=by omega
    go_wp2
    go_ret
    refine⟨⟨_,rfl,?_⟩,HX.out⟩;have:=HN.out;rw[List.take_length]at this;simp[this]
theorem revC_cons(x:Chg)(l:List Chg):revC (x:: l)=revC l++[swapC x]:=by simp[revC]
theorem revC_drop{l:List Chg}{k:Nat}{x:Chg}(h:l[k]? = some x):revC (l.drop k)=revC (l.drop (k+1))++[swapC x]:=by
 obtain⟨hk,rfl⟩:=List.getElem?_eq_some_iff.1 h;rw[List.drop_eq_getElem_cons hk,revC_cons]
theorem revert26_any{A:Option Addr}{c:Nat}{l:List Chg}(hl:l.length≤100000)(w:World)(hs:Sv w w.heap.size 5 A c (rowsC l)):
    Calls Tryz.prog 21 #[.slice A l.length c] w fun e w'=>∃ v,e = .returned v∧OwC w.heap.size (revC l) v w'∧Ext w w':=by
 have hm:=mixed;have hG:=near_old;have HS:=Lib.hid hs;clear hs
 go_enter Tryz.func21,Tryz.ntmps21
 go_wp2
 go_loopw [3,4] (fun v i wr=>∃ j:Nat,j≤l.length∧i = .int .i64 ((j:Int) - 1)∧Hid (CgS w w.heap.size (revC (l.drop j)) v wr)) (fun _ i _=>(intOf i+1).toNat)
 case atStart=>exact⟨l.length,Nat.le_refl _,by go_num,Lib.hid ⟨by rw[List.drop_length];exact OwC.nil _ _,Ext.refl w,Nat.le_refl _,Nat.le_refl _⟩⟩
 case round=>
  obtain⟨j,hj,rfl,HC⟩:=hrel
  rcases Nat.eq_zero_or_pos j with rfl | hpos
  · rw[List.drop_zero]at HC;go_wp2
    go_ret
    exact⟨_,rfl,HC.out.row,HC.out.ext⟩
  · obtain⟨k,rfl⟩:∃ k,j=k+1:=⟨j - 1,by omega⟩;obtain⟨x,hxk⟩:∃ x,l[k]? = some x:=⟨_,List.getElem?_eq_getElem (by omega)⟩;obtain⟨b',off,rfl,hbl,hr⟩:=chg_rng (HS.out.ext HC.out.ext) hxk;have HR:=Lib.hid (fun(w1:World) (hx:Ext wr w1) (i:Nat) (v:Value) (h:x.cells[i]? = some v)=>(hx.cell (p:=⟨b',off+k * 5+i,none⟩) hbl).trans (hr i v h));have HD:=Lib.hid (revC_drop hxk);have HL:=Lib.hid (show(revC (l.drop (k+1))).length+1≤1000000 by rw[revC_len,List.length_drop];omega);generalize revC (l.drop (k+1))=o at HC HD HL;have hk:((k+1:Nat):Int) - 1=(k:Int):=by omega
    have hkl:k < l.length:=by omega
    rw[hk];clear hxk hk hpos hr hbl
    go_wp2_with fail
    (try simp only[Act.put,List.setIfInBounds_toArray,List.set_cons_zero,List.set_cons_succ])
    refine wp_region_app1 (w:=wr) [some _,some (.slice (some ⟨b',off,none⟩) l.length c),some (.int .i64 k),some (.pointer (some ⟨b',off+k * 5,none⟩)),some (.pointer (some ⟨b',off+k * 5,none⟩)),some (.agg #[.int .i64 x.at_.x,.int .i64 x.at_.y,.int .i64 x.at_.z]),some (.slice (some ⟨b',off,none⟩) l.length c),some (.int .i64 k),some (.pointer (some ⟨b',off+k * 5,none⟩)),some (.pointer (some ⟨b',off+k * 5+4,none⟩)),some (.int .i64 x.new),some (.slice (some ⟨b',off,none⟩) l.length c),some (.int .i64 k),some (.pointer (some ⟨b',off+k * 5,none⟩)),some (.pointer (some ⟨b',off+k * 5+3,none⟩)),some (.int .i64 x.old),some (.agg #[.int .i64 x.at_.x,.int .i64 x.at_.y,.int .i64 x.at_.z,.int .i64 x.new,.int .i64 x.old])] 17 38 58 28 12 29 30 16 0 [.int .i64 x.at_.x,.int .i64 x.at_.y,.int .i64 x.at_.z,.int .i64 x.new,.int .i64 x.old] (rowsC o).flatten hm HC.out.row HC.out.base.2 infoCh Tryz.underlying38 HL.out ?_ ?_
    · refine c_ s_mv ?_;refine c_ s_mv ?_;refine c_ s_mv ?_;refine c_ (s_ix hkl Tryz.underlying38) ?_;refine c_ (s_run1 15 (hr:=fun b w1 _ e=>by unfold execOp;simp[e,Act.eval,go_sem])) ?_;refine c_ (s_mid (fun w1 hx i v h=>HR.out w1 hx i v (pre3 i v h)) Tryz.underlying23) ?_;refine c_ s_mv ?_;refine c_ s_mv ?_;refine c_ (s_ix hkl Tryz.underlying38) ?_;refine c_ (s_run1 20 (hr:=fun b w1 _ e=>by unfold execOp;simp[e,Act.eval,go_sem])) ?_;refine c_ (s_cell 21 (fun w1 hx=>HR.out w1 hx 4 _ rfl) (hr:=fun b w1 e hc=>by unfold execOp;simp[e,hc,Act.eval,go_sem])) ?_;refine c_ s_mv ?_;refine c_ s_mv ?_;refine c_ (s_ix hkl Tryz.underlying38) ?_;refine c_ (s_run1 25 (hr:=fun b w1 _ e=>by unfold execOp;simp[e,Act.eval,go_sem])) ?_;refine c_ (s_cell 26 (fun w1 hx=>HR.out w1 hx 3 _ rfl) (hr:=fun b w1 e hc=>by unfold execOp;simp[e,hc,Act.eval,go_sem])) ?_;refine c_ (s_run3 17 22 27 (hr:=fun b w1 _ e f k=>by unfold execOp;simp[e,f,k,Act.eval,go_sem])) ?_;exact trivial
    intro g9 v9 w8 w9 hx8 hg9 ho9 _;simp only[fillM,Act.put,List.getElem?_cons_zero,List.getElem?_cons_succ,Option.join_some,Option.getD_some,List.setIfInBounds_toArray,List.set_cons_zero,List.set_cons_succ,Nat.zero_add,Nat.reduceAdd,Nat.reduceLT,Nat.reduceEqDiff,Nat.lt_irrefl,if_true,if_false];have HC2:=Lib.hid ((HC.out.more hx8).app (x:=swapC x) ho9 hg9);clear hx8 hg9 ho9;go_wp2
    go_roundw
    case rel=>exact⟨k,by omega,by go_num,Lib.hid (by rw[HD.out];exact HC2.out)⟩
    case measure=>simp[intOf]
end Go.Proofs.YtoecbicdahbccaaGreatDoor
