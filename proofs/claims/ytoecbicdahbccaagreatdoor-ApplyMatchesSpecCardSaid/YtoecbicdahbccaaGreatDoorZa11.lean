/- A part of the walk of the layer of apply: contracts and plain laws that a row's text leans on. -/
import Derived.Test.YtoecbicdahbccaaGreatDoorZa10
set_option maxRecDepth 100000
set_option maxHeartbeats 16000000
namespace Go.Proofs.YtoecbicdahbccaaGreatDoor
open Go Go.RowKit
abbrev TC:=Chg × Nat
def swpF{β:Type}(D:Nat→β)(i j:Nat):Nat→β:=fun k=>if k=i then D j else if k=j then D i else D k
def swRF{β:Type}(D:Nat→β)(a b n:Nat):Nat→β:=fun k=>if a≤k∧k < a+n then D (k - a+b)else if b≤k∧k < b+n then D (k - b+a)else D k
def rotF{β:Type}(D:Nat→β)(s m e:Nat):Nat→β:=fun k=>if s≤k∧k < s+(e - m)then D (k - s+m)else if s+(e - m)≤k∧k < e then D (k - (e - m))else D k
def shF{β:Type}(D:Nat→β)(j i:Nat):Nat→β:=fun k=>if k=j then D i else if j < k∧k≤i then D (k - 1)else D k
def shR{β:Type}(D:Nat→β)(a k:Nat):Nat→β:=fun x=>if x=k then D a else if a≤x∧x < k then D (x+1)else D x
section
variable {β:Type} (D:Nat→β)
theorem swRF_zero(a b:Nat):swRF D a b 0=D:=by
 funext k
 unfold swRF;rw[if_neg (by omega),if_neg (by omega)]
theorem swRF_succ{a b n:Nat}(h:a+n < b):swpF (swRF D a b n) (a+n) (b+n)=swRF D a b (n+1):=by
 funext k
 unfold swpF swRF
 repeat' split
 all_goals first | (exfalso;omega) | (congr 1 <;> omega)
theorem rot_gt{m i j:Nat}(hi:i≤m)(h:j < i):rotF (swRF D (m - i) m j) (m - (i - j)) m (m+j)=rotF D (m - i) m (m+j):=by
 funext k
 unfold rotF swRF
 repeat' split
 all_goals first | (exfalso;omega) | (congr 1 <;> omega)
theorem rot_lt{m i j:Nat}(hi:i≤m)(h:i < j):rotF (swRF D (m - i) (m+j - i) i) (m - i) m (m+(j - i))=rotF D (m - i) m (m+j):=by
 funext k
 unfold rotF swRF
 repeat' split
 all_goals first | (exfalso;omega) | (congr 1 <;> omega)
theorem rot_eq{m i:Nat}(hi:i≤m):swRF D (m - i) m i=rotF D (m - i) m (m+i):=by
 funext k
 unfold rotF swRF
 repeat' split
 all_goals first | (exfalso;omega) | (congr 1 <;> omega)
theorem rot_none{s m e:Nat}(h1:s≤m)(h2:m≤e)(h:s=m∨m=e):rotF D s m e=D:=by
 funext k
 unfold rotF
 repeat' split
 all_goals first | (exfalso;omega) | (congr 1 <;> omega)
theorem shF_self(i:Nat):shF D i i=D:=by
 funext k
 unfold shF
 repeat' split
 all_goals first | (exfalso;omega) | (congr 1 <;> omega)
theorem shF_step{j i:Nat}(h0:0 < j)(h:j≤i):swpF (shF D j i) j (j - 1)=shF D (j - 1) i:=by
 funext k
 unfold swpF shF
 repeat' split
 all_goals first | (exfalso;omega) | (congr 1 <;> omega)
theorem shR_self(a:Nat):shR D a a=D:=by
 funext k
 unfold shR
 repeat' split
 all_goals first | (exfalso;omega) | (congr 1 <;> omega)
theorem shR_step{a k:Nat}(h:a≤k):swpF (shR D a k) k (k+1)=shR D a (k+1):=by
 funext x
 unfold swpF shR
 repeat' split
 all_goals first | (exfalso;omega) | (congr 1 <;> omega)
end
structure SameOn {β:Type} (D E:Nat→β) (a b:Nat):Prop where
 out:∀ k,k < a∨b≤k→E k=D k
 tuo:∀ k,a≤k→k < b→∃ j,a≤j∧j < b∧E k=D j
 fro:∀ k,a≤k→k < b→∃ j,a≤j∧j < b∧D k=E j
namespace SameOn
variable {β:Type} {D E F:Nat→β} {a b c d:Nat}
theorem refl(D:Nat→β)(a b:Nat):SameOn D D a b:=⟨fun _ _=>rfl,fun k h1 h2=>⟨k,h1,h2,rfl⟩,fun k h1 h2=>⟨k,h1,h2,rfl⟩⟩
theorem trans(h:SameOn D E a b)(k:SameOn E F a b):SameOn D F a b:=by
 refine⟨fun x hx=>(k.out x hx).trans (h.out x hx),fun x h1 h2=>?_,fun x h1 h2=>?_⟩
 · obtain⟨j,k1,k2,k3⟩:=k.tuo x h1 h2;obtain⟨i,m1,m2,m3⟩:=h.tuo j k1 k2;exact⟨i,m1,m2,k3.trans m3⟩
 · obtain⟨j,k1,k2,k3⟩:=h.fro x h1 h2;obtain⟨i,m1,m2,m3⟩:=k.fro j k1 k2;exact⟨i,m1,m2,k3.trans m3⟩
theorem wide(h:SameOn D E a b)(h1:c≤a)(h2:b≤d):SameOn D E c d:=by
 refine⟨fun x hx=>h.out x (by omega),fun x k1 k2=>?_,fun x k1 k2=>?_⟩
 · by_cases hx:a≤x∧x < b
   · obtain⟨j,m1,m2,m3⟩:=h.tuo x hx.1 hx.2;exact⟨j,by omega,by omega,m3⟩
   · exact⟨x,k1,k2,h.out x (by omega)⟩
 · by_cases hx:a≤x∧x < b
   · obtain⟨j,m1,m2,m3⟩:=h.fro x hx.1 hx.2;exact⟨j,by omega,by omega,m3⟩
   · exact⟨x,k1,k2,(h.out x (by omega)).symm⟩
theorem of_maps(h1:∀ k,k < a∨b≤k→E k=D k)(f g:Nat→Nat)(hf:∀ k,a≤k→k < b→(a≤f k∧f k < b)∧E k=D (f k))(hg:∀ k,a≤k→k < b→(a≤g k∧g k < b)∧D k=E (g k)):SameOn D E a b:=
 ⟨h1,fun k k1 k2=>⟨f k,(hf k k1 k2).1.1,(hf k k1 k2).1.2,(hf k k1 k2).2⟩,fun k k1 k2=>⟨g k,(hg k k1 k2).1.1,(hg k k1 k2).1.2,(hg k k1 k2).2⟩⟩
end SameOn
theorem rotF_same{β:Type}(D:Nat→β){s m e a b:Nat}(h1:a≤s)(h2:s≤m)(h3:m≤e)(h4:e≤b):SameOn D (rotF D s m e) a b:=by
 refine SameOn.of_maps (fun k hk=>?_) (fun k=>if s≤k∧k < s+(e - m)then k - s+m else if s+(e - m)≤k∧k < e then k - (e - m)else k)
  (fun k=>if m≤k∧k < e then k - m+s else if s≤k∧k < m then k+(e - m)else k) (fun k k1 k2=>?_) (fun k k1 k2=>?_)
 · unfold rotF;rw[if_neg (by omega),if_neg (by omega)]
 · simp only[rotF]
   repeat' split
   all_goals first | (exfalso;omega) | (refine⟨by omega,?_⟩;congr 1 <;> omega) | exact⟨by omega,rfl⟩
 · simp only[rotF]
   by_cases c1:m≤k∧k < e
   · rw[if_pos c1];refine⟨by omega,?_⟩;rw[if_pos (by omega)];congr 1;omega
   · rw[if_neg c1]
     by_cases c2:s≤k∧k < m
     · rw[if_pos c2];refine⟨by omega,?_⟩;rw[if_neg (by omega),if_pos (by omega)];congr 1;omega
     · rw[if_neg c2];refine⟨by omega,?_⟩;rw[if_neg (by omega),if_neg (by omega)]
theorem shF_same{β:Type}(D:Nat→β){j i a b:Nat}(h1:a≤j)(h2:j≤i)(h3:i < b):SameOn D (shF D j i) a b:=by
 refine SameOn.of_maps (fun k hk=>?_) (fun k=>if k=j then i else if j < k∧k≤i then k - 1 else k) (fun k=>if k=i then j else if j≤k∧k < i then k+1 else k) (fun k k1 k2=>?_) (fun k k1 k2=>?_)
 · unfold shF;rw[if_neg (by omega),if_neg (by omega)]
 · simp only[shF]
   repeat' split
   all_goals first | (exfalso;omega) | exact⟨by omega,rfl⟩
 · simp only[shF]
   by_cases c1:k=i
   · rw[if_pos c1];refine⟨by omega,?_⟩;rw[if_pos rfl,c1]
   · rw[if_neg c1]
     by_cases c2:j≤k∧k < i
     · rw[if_pos c2];refine⟨by omega,?_⟩;rw[if_neg (by omega),if_pos (by omega)];congr 1
     · rw[if_neg c2];refine⟨by omega,?_⟩;rw[if_neg (by omega),if_neg (by omega)]
theorem shR_same{β:Type}(D:Nat→β){c k a b:Nat}(h1:a≤c)(h2:c≤k)(h3:k < b):SameOn D (shR D c k) a b:=by
 refine SameOn.of_maps (fun x hx=>?_) (fun x=>if x=k then c else if c≤x∧x < k then x+1 else x) (fun x=>if x=c then k else if c < x∧x≤k then x - 1 else x) (fun x k1 k2=>?_) (fun x k1 k2=>?_)
 · unfold shR;rw[if_neg (by omega),if_neg (by omega)]
 · simp only[shR]
   repeat' split
   all_goals first | (exfalso;omega) | exact⟨by omega,rfl⟩
 · simp only[shR]
   by_cases c1:x=c
   · rw[if_pos c1];refine⟨by omega,?_⟩;rw[if_pos rfl,c1]
   · rw[if_neg c1]
     by_cases c2:c < x∧x≤k
     · rw[if_pos c2];refine⟨by omega,?_⟩;rw[if_neg (by omega),if_pos (by omega)];congr 1;omega
     · rw[if_neg c2];refine⟨by omega,?_⟩;rw[if_neg (by omega),if_neg (by omega)]
def SrtT(D:Nat→TC)(a b:Nat):Prop:=∀ i j,a≤i→i < j→j < b→ltT (D i) (D j)
def CrsT(D:Nat→TC)(a m b:Nat):Prop:=∀ i j,a≤i→i < m→m≤j→j < b→(D i).2 < (D j).2
def ltQ(x y:TC):Bool:=befP x.1.at_ y.1.at_
theorem ltQ_lt{x y:TC}(h:ltQ x y=true):ltT x y:=.inl h
theorem ltQ_ge{x y:TC}(h:ltQ y x=false)(ht:x.2 < y.2):ltT x y:=by
 by_cases e:x.1.at_=y.1.at_
 · exact .inr ⟨e,ht⟩
 · exact .inl (befP_total h fun h2=>e h2.symm)
theorem SrtT.congr{D E:Nat→TC}{a b:Nat}(h:SrtT D a b)(he:∀ k,a≤k→k < b→E k=D k):SrtT E a b:=fun i j k1 k2 k3=>by
 rw[he i k1 (by omega),he j (by omega) k3];exact h i j k1 k2 k3
theorem SrtT.one(D:Nat→TC){a b:Nat}(h:b≤a+1):SrtT D a b:=fun i j k1 k2 k3=>by exfalso;omega
theorem SrtT.upto{D:Nat→TC}{a b i j:Nat}(h:SrtT D a b)(h1:a≤i)(h2:i≤j)(h3:j < b){y:TC}(hy:ltT (D j) y):ltT (D i) y:=by
 by_cases e:i=j
 · subst e;exact hy
 · exact ltT_trans (h i j h1 (by omega) h3) hy
theorem SrtT.from_{D:Nat→TC}{a b i j:Nat}(h:SrtT D a b)(h1:a≤i)(h2:i≤j)(h3:j < b){y:TC}(hy:ltT y (D i)):ltT y (D j):=by
 by_cases e:i=j
 · subst e;exact hy
 · exact ltT_trans hy (h i j h1 (by omega) h3)
theorem srt_shF{D:Nat→TC}{a j i:Nat}(hj:a≤j)(hji:j≤i)(hs:SrtT D a i)(h1:∀ k,j≤k→k < i→ltT (D i) (D k))(h2:j=a∨ltT (D (j - 1)) (D i)):SrtT (shF D j i) a (i+1):=by
 have h3:∀ k,a≤k→k < j→ltT (D k) (D i):=fun k k1 k2=>by
  rcases h2 with h2 | h2
  · exfalso;omega
  · exact hs.upto k1 (by omega) (by omega) h2
 intro x y k1 k2 k3;unfold shF
 by_cases c1:x=j
 · rw[if_pos c1,if_neg (by omega),if_pos (by omega)];exact h1 _ (by omega) (by omega)
 · rw[if_neg c1]
   by_cases c2:j < x∧x≤i
   · rw[if_pos c2,if_neg (by omega),if_pos (by omega)];exact hs _ _ (by omega) (by omega) (by omega)
   · rw[if_neg c2]
     by_cases c3:y=j
     · rw[if_pos c3];exact h3 x k1 (by omega)
     · rw[if_neg c3]
       by_cases c4:j < y∧y≤i
       · rw[if_pos c4];exact hs _ _ k1 (by omega) (by omega)
       · rw[if_neg c4];exact hs _ _ k1 k2 (by omega)
theorem srt_shR{D:Nat→TC}{a k b:Nat}(hk:a≤k)(hb:k < b)(hs:SrtT D (a+1) b)(h1:k=a∨ltT (D k) (D a))(h2:k+1=b∨ltT (D a) (D (k+1))):SrtT (shR D a k) a b:=by
 have h3:∀ x,a < x→x≤k→ltT (D x) (D a):=fun x k1 k2=>by
  rcases h1 with h1 | h1
  · exfalso;omega
  · exact hs.upto (by omega) k2 hb h1
 have h4:∀ x,k < x→x < b→ltT (D a) (D x):=fun x k1 k2=>by
  rcases h2 with h2 | h2
  · exfalso;omega
  · exact hs.from_ (i:=k+1) (by omega) (by omega) k2 h2
 intro x y k1 k2 k3;unfold shR
 by_cases c1:x=k
 · rw[if_pos c1,if_neg (by omega),if_neg (by omega)];exact h4 y (by omega) k3
 · rw[if_neg c1]
   by_cases c2:a≤x∧x < k
   · rw[if_pos c2]
     by_cases c3:y=k
     · rw[if_pos c3];exact h3 _ (by omega) (by omega)
     · rw[if_neg c3]
       by_cases c4:a≤y∧y < k
       · rw[if_pos c4];exact hs _ _ (by omega) (by omega) (by omega)
       · rw[if_neg c4];exact hs _ _ (by omega) (by omega) (by omega)
   · rw[if_neg c2,if_neg (by omega),if_neg (by omega)];exact hs _ _ (by omega) (by omega) (by omega)
theorem srt_join{D:Nat→TC}{a m b:Nat}(h1:SrtT D a m)(h2:SrtT D m b)(h:∀ i j,a≤i→i < m→m≤j→j < b→ltT (D i) (D j)):SrtT D a b:=fun i j k1 k2 k3=>by
 by_cases c1:j < m
 · exact h1 i j k1 k2 c1
 · by_cases c2:i < m
   · exact h i j k1 c2 (by omega) k3
   · exact h2 i j (by omega) k2 k3
structure CutT (D:Nat→TC) (a s mid e b:Nat):Prop where
 u1:SrtT D a s
 v1:SrtT D s mid
 c1:CrsT D a s mid
 u2:SrtT D mid e
 v2:SrtT D e b
 c2:CrsT D mid e b
 apart:∀ i j,a≤i→i < mid→mid≤j→j < b→ltT (D i) (D j)
theorem cut_rot{D:Nat→TC}{a m b s e:Nat}(hu:SrtT D a m)(hv:SrtT D m b)(hc:CrsT D a m b)(has:a≤s)(hsm:s≤m)(hme:m≤e)(heb:e≤b)
    (h1:s=a∨e=b∨ltQ (D e) (D (s - 1))=false) (h2:e=m∨s=m∨ltQ (D (e - 1)) (D s)=true):CutT (rotF D s m e) a s (s+(e - m)) e b:=by
 have r1:∀ k,k < s→rotF D s m e k=D k:=fun k hk=>by unfold rotF;rw[if_neg (by omega),if_neg (by omega)]
 have r2:∀ k,s≤k→k < s+(e - m)→rotF D s m e k=D (k - s+m):=fun k k1 k2=>by unfold rotF;rw[if_pos ⟨k1,k2⟩]
 have r3:∀ k,s+(e - m)≤k→k < e→rotF D s m e k=D (k - (e - m)):=fun k k1 k2=>by unfold rotF;rw[if_neg (by omega),if_pos ⟨k1,k2⟩]
 have r4:∀ k,e≤k→rotF D s m e k=D k:=fun k hk=>by unfold rotF;rw[if_neg (by omega),if_neg (by omega)]
 have x1:∀ i j,a≤i→i < s→e≤j→j < b→ltT (D i) (D j):=fun i j k1 k2 k3 k4=>by
  rcases h1 with h | h | h
  · exfalso;omega
  · exfalso;omega
  · have:=ltQ_ge h (hc (s - 1) e (by omega) (by omega) hme (by omega));exact hu.upto k1 (by omega) (by omega) (hv.from_ hme k3 k4 this)
 have x2:∀ i j,m≤i→i < e→s≤j→j < m→ltT (D i) (D j):=fun i j k1 k2 k3 k4=>by
  rcases h2 with h | h | h
  · exfalso;omega
  · exfalso;omega
  · exact hv.upto k1 (by omega) (by omega) (hu.from_ has k3 k4 (ltQ_lt h))
 constructor
 · intro i j k1 k2 k3;rw[r1 _ (by omega),r1 _ k3];exact hu i j k1 k2 (by omega)
 · intro i j k1 k2 k3;rw[r2 _ k1 (by omega),r2 _ (by omega) k3];exact hv _ _ (by omega) (by omega) (by omega)
 · intro i j k1 k2 k3 k4;rw[r1 _ k2,r2 _ k3 k4];exact hc _ _ k1 (by omega) (by omega) (by omega)
 · intro i j k1 k2 k3;rw[r3 _ k1 (by omega),r3 _ (by omega) k3];exact hu _ _ (by omega) (by omega) (by omega)
 · intro i j k1 k2 k3;rw[r4 _ k1,r4 _ (by omega)];exact hv _ _ (by omega) k2 k3
 · intro i j k1 k2 k3 k4;rw[r3 _ k1 k2,r4 _ k3];exact hc _ _ (by omega) (by omega) (by omega) k4
 · intro i j k1 k2 k3 k4
   by_cases ci:i < s
   · rw[r1 _ ci]
     by_cases cj:j < e
     · rw[r3 _ k3 cj];exact hu _ _ k1 (by omega) (by omega)
     · rw[r4 _ (by omega)];exact x1 i j k1 ci (by omega) k4
   · rw[r2 _ (by omega) k2]
     by_cases cj:j < e
     · rw[r3 _ k3 cj];exact x2 _ _ (by omega) (by omega) (by omega) (by omega)
     · rw[r4 _ (by omega)];exact hv _ _ (by omega) (by omega) k4
theorem CutT.done{D E F:Nat→TC}{a s mid e b:Nat}(h:CutT D a s mid e b)(ham:a≤mid)(hmb:mid≤b)(h1:SameOn D E a mid)(s1:SrtT E a mid)(h2:SameOn E F mid b)(s2:SrtT F mid b):SameOn D F a b∧SrtT F a b:=by
 refine⟨(h1.wide (Nat.le_refl _) hmb).trans (h2.wide ham (Nat.le_refl _)),srt_join (s1.congr fun k _ k2=>h2.out k (.inl k2)) s2 fun i j k1 k2 k3 k4=>?_⟩;rw[h2.out i (.inl k2)];obtain⟨i2,m1,m2,m3⟩:=h1.tuo i k1 k2;obtain⟨j2,n1,n2,n3⟩:=h2.tuo j k3 k4;rw[m3,n3,h1.out j2 (.inr n1)];exact h.apart i2 j2 m1 m2 n1 n2
theorem CrsT.same{D E:Nat→TC}{a m b:Nat}(h:CrsT D a m b)(h1:SameOn D E a m):CrsT E a m b:=fun i j k1 k2 k3 k4=>by
 obtain⟨i2,m1,m2,m3⟩:=h1.tuo i k1 k2;rw[m3,h1.out j (.inr k3)];exact h i2 j m1 m2 k3 k4
section
variable {P:Program} {Q:Exit→Act→World→Prop} {l:List Oper} {vs:List (Option Value)} {a:Act} {w:World}
theorem take_at{n i:Nat}{o:Oper}(h:l[i]? = some o)(hi:i < n):(l.take n)[i]? = some o:=by rw[List.getElem?_take,if_pos hi];exact h
theorem step_of{n:Nat}(hb:backB2 l.toArray=true)(hg:(l.all fun o=>o.guard.isNone)=true)(hfit:((List.range l.length).all fun j=>match dstOf l.toArray j with | some d=>decide (d < a.tmps.size) | none=>true)=true)
    (hall:((List.range n).all fun i=>(vs[i]?).join.isSome)=true) (hsteps:StepsM P Q l vs (fun _ _ _=>True) a w 0 (l.take n)) (hn:n≤l.length)
    (listed:Array Bool) (w1:World) (i:Nat) (o:Oper) (ho:l[i]? = some o) (hi:i < n) (hdep:∀ e,e∈o.after→Region.binds .any e=true→listed.getD e.on false=true) (hx:Ext w w1)
    (b:Act) (K:Act→World→Prop) (E0:∀ d:Nat,missB l.toArray d=true→b.tmps[d]? = a.tmps[d]?) (E1:∀ j d,j < n→listed.getD j true=true→dstOf l.toArray j=some d→d < a.tmps.size→b.tmps[d]? = some (((vs[j]?).join).getD undef))
    (hK:∀ w',Ext w1 w'→K (b.put o.dst (((vs[i]?).join).getD undef)) w'):o.wp P b w1 K Q:=by
 have h:=steps_at hsteps i o (take_at ho hi);rw[Nat.zero_add]at h;have some_:∀ j,j < n→∃ u,(vs[j]?).join=some u:=fun j hj=>by
  have:=List.all_eq_true.1 hall j (List.mem_range.2 hj)
  cases hq:(vs[j]?).join with
  | none=>rw[hq]at this;cases this
  | some u=>exact⟨u,rfl⟩
 have h1:=h b w1 ⟨hx,E0,fun j hj=>?_⟩ K (fun v w' hx' hv=>?_)
 · rw[if_pos (by simp[Region.wanted,noGuardD hg i o ho])]at h1;exact h1
 · obtain⟨e,he,rfl,hbd⟩:=waits_spec hj;have hlt:=backB2_spec hb i o (by simpa using ho) e he hbd;obtain⟨u,hu⟩:=some_ e.on (by omega);refine⟨u,by unfold GdM;rw[hu],fun d hd=>?_⟩;have hds:d < a.tmps.size:=by
    have h3:=List.all_eq_true.1 hfit e.on (List.mem_range.2 (by omega));rw[hd]at h3;simpa using h3
   have h2:=E1 e.on d (by omega) (getD_up (hdep e he hbd)) hd hds;rw[hu]at h2;exact h2
 · obtain⟨u,hu⟩:=some_ i hi;unfold GdM at hv;rw[hu]at hv;subst hv;have h2:=hK w' hx';rw[hu]at h2;exact h2
theorem wp_region_two_val{id:Nat}(vs:List (Option Value))(n T d0 d1 sv0 sv1 iv0 iv1:Nat)(zs c0 c1:List Value)(hm:P.follows .mixedOrders=true)
    (hz:∃ i z,P.info? T=some i∧i.zero=some z∧z.cells.toList=zs) (hi:(P.info? T).map (·.size)=some zs.length)
    (hsteps:StepsM P Q l vs (fun _ _ _=>True) a w 0 (l.take n))
    (hend:∀ (g0 g1:Nat) w1,Ext w w1→w.heap.size≤g0→w.heap.size≤g1→Arr w1 g0 T c0→Arr w1 g1 T c1→g0≠g1→Q .normal (fillAllN l.toArray (box2V (fun i=>((vs[i]?).join).getD undef) n (g0,g1)) a l.length) w1)
    (hs:slotsB l.toArray=true:=by kernel_rfl) (hb:backB2 l.toArray=true:=by kernel_rfl)
    (hg:(l.all fun o=>o.guard.isNone)=true:=by kernel_rfl) (hln:l.length=n+4:=by rfl)
    (ha0:∃ o,l[n]? = some o∧o.op = .alloc T∧o.dst=some d0:=by exact⟨_,rfl,rfl,rfl⟩) (ha1:∃ o,l[n+1]? = some o∧o.op = .alloc T∧o.dst=some d1:=by exact⟨_,rfl,rfl,rfl⟩)
    (hs0:∃ o,l[n+2]? = some o∧o.op = .store T (.tmp d0) (.tmp sv0)∧o.dst=none∧waits o n=true∧waits o iv0=true:=by exact⟨_,rfl,rfl,rfl,rfl,rfl⟩)
    (hs1:∃ o,l[n+3]? = some o∧o.op = .store T (.tmp d1) (.tmp sv1)∧o.dst=none∧waits o (n+1)=true∧waits o iv1=true:=by exact⟨_,rfl,rfl,rfl,rfl,rfl⟩)
    (hi0:iv0 < n:=by decide) (hi1:iv1 < n:=by decide) (hv0:dstOf l.toArray iv0=some sv0:=by rfl) (hv1:dstOf l.toArray iv1=some sv1:=by rfl) (hb0:sv0 < a.tmps.size:=by simp) (hb1:sv1 < a.tmps.size:=by simp) (hd0:d0 < a.tmps.size:=by simp) (hd1:d1 < a.tmps.size:=by simp)
    (hV0:(vs[iv0]?).join=some (.agg c0.toArray):=by rfl) (hV1:(vs[iv1]?).join=some (.agg c1.toArray):=by rfl)
    (hz0:c0.length=zs.length:=by rfl) (hz1:c1.length=zs.length:=by rfl) (ho0:c0.all (·.oneCell')=true:=by rfl) (ho1:c1.all (·.oneCell')=true:=by rfl)
    (hfit:((List.range l.length).all fun j=>match dstOf l.toArray j with | some d=>decide (d < a.tmps.size) | none=>true)=true:=by rfl)
    (hall:((List.range n).all fun i=>(vs[i]?).join.isSome)=true:=by rfl):(Code.region id l.toArray true).wp P Q a w:=
 wp_region_two3 (fun i=>((vs[i]?).join).getD undef) n T d0 d1 sv0 sv1 iv0 iv1 zs c0 c1 hm hs hb (noGuardD hg) hln ha0 ha1 hs0 hs1 hi0 hi1 hv0 hv1 hb0 hb1 hd0 hd1 (by rw[hV0];rfl) (by rw[hV1];rfl) hz hi hz0 hz1 ho0 ho1
  (fun listed w1 i o ho hi hdep hx b K E0 E1 hK=>step_of hb hg hfit hall hsteps (by omega) listed w1 i o ho hi hdep hx b K E0 E1 hK)
  (fun g w1 hx h0 h1 A0 A1 hne=>hend g.1 g.2 w1 hx h0 h1 A0 A1 hne)
end
end Go.Proofs.YtoecbicdahbccaaGreatDoor
