/- A part of the walk of the layer of apply: contracts and plain laws that a row's text leans on. -/
import Derived.Test.YtoecbicdahbccaaGreatDoorZa11
set_option maxRecDepth 100000
set_option maxHeartbeats 16000000
namespace Go.Proofs.YtoecbicdahbccaaGreatDoor
open Go Go.RowKit
def TagIn(D:Nat→TC)(a b:Nat):Prop:=∀ i,a≤i→i < b→a≤(D i).2∧(D i).2 < b
theorem TagIn.same{D E:Nat→TC}{a b:Nat}(h:TagIn D a b)(k:SameOn D E a b):TagIn E a b:=fun i h1 h2=>by
 obtain⟨j,m1,m2,m3⟩:=k.tuo i h1 h2;rw[m3];exact h j m1 m2
theorem TagIn.congr{D E:Nat→TC}{a b:Nat}(h:TagIn D a b)(he:∀ k,a≤k→k < b→E k=D k):TagIn E a b:=fun i h1 h2=>by
 rw[he i h1 h2];exact h i h1 h2
theorem TagIn.join{D:Nat→TC}{a m b:Nat}(h:TagIn D a m)(k:TagIn D m b)(h1:a≤m)(h2:m≤b):TagIn D a b:=fun i k1 k2=>by
 by_cases c:i < m
 · have:=h i k1 c;omega
 · have:=k i (by omega) k2;omega
theorem TagIn.crs{D:Nat→TC}{a m b:Nat}(h:TagIn D a m)(k:TagIn D m b):CrsT D a m b:=fun i j h1 h2 h3 h4=>by
 have:=h i h1 h2;have:=k j h3 h4;omega
structure Ph1 (D0 D:Nat→TC) (n t:Nat):Prop where
 done:∀ s,s < t→SrtT D (20 * s) (20 * s+20)∧TagIn D (20 * s) (20 * s+20)
 rest:∀ k,20 * t≤k→D k=D0 k
 all:SameOn D0 D 0 n
structure Ph2 (D0 D:Nat→TC) (n bs t:Nat):Prop where
 done:∀ s,s < t→SrtT D (2 * bs * s) (2 * bs * s+2 * bs)∧TagIn D (2 * bs * s) (2 * bs * s+2 * bs)
 rest:∀ s,2 * t≤s→bs * s < n→SrtT D (bs * s) (min (bs * s+bs) n)∧TagIn D (bs * s) (min (bs * s+bs) n)
 all:SameOn D0 D 0 n
theorem ph1_start{D0:Nat→TC}{n:Nat} : Ph1 D0 D0 n 0:=⟨fun s h=>absurd h (by omega),fun _ _=>rfl,.refl _ _ _⟩
theorem ph1_step{D0 D E:Nat→TC}{n t:Nat}(h0:∀ i,i < n→(D0 i).2=i)(h:Ph1 D0 D n t)(hn:20 * t+20≤n)(hs:SameOn D E (20 * t) (20 * t+20))(hE:SrtT E (20 * t) (20 * t+20)):Ph1 D0 E n (t+1):=by
 refine⟨fun s k=>?_,fun k hk=>?_,h.all.trans (hs.wide (Nat.zero_le _) hn)⟩
 · by_cases e:s=t
   · subst e;refine⟨hE,TagIn.same (D:=D) (fun i k1 k2=>?_) hs⟩;rw[h.rest i k1,h0 i (by omega)];exact⟨k1,k2⟩
   · have hd:=h.done s (by omega);have he:∀ x,20 * s≤x→x < 20 * s+20→E x=D x:=fun x _ k2=>hs.out x (.inl (by omega));exact⟨hd.1.congr he,hd.2.congr he⟩
 · rw[hs.out k (.inr (by omega))];exact h.rest k (by omega)
theorem ph1_end{D0 D E:Nat→TC}{n t:Nat}(h0:∀ i,i < n→(D0 i).2=i)(h:Ph1 D0 D n t)(h1:20 * t≤n)(h2:n < 20 * t+20)(hs:SameOn D E (20 * t) n)(hE:SrtT E (20 * t) n):Ph2 D0 E n 20 0:=by
 refine⟨fun s k=>absurd k (by omega),fun s _ k=>?_,h.all.trans (hs.wide (Nat.zero_le _) (Nat.le_refl _))⟩
 by_cases e:s=t
 · subst e;rw[Nat.min_eq_right (by omega)];refine⟨hE,TagIn.same (D:=D) (fun i k1 k2=>?_) hs⟩;rw[h.rest i k1,h0 i k2];exact⟨k1,k2⟩
 · have hst:s < t:=by omega
   have hd:=h.done s hst;have he:∀ x,20 * s≤x→x < 20 * s+20→E x=D x:=fun x _ k2=>hs.out x (.inl (by omega));rw[Nat.min_eq_left (by omega)];exact⟨hd.1.congr he,hd.2.congr he⟩
theorem two_blk(bs t:Nat):bs * (2 * t)=2 * bs * t∧bs * (2 * t+1)=2 * bs * t+bs∧bs * (2 * (t+1))=2 * bs * t+2 * bs:=by
 have h:bs * (2 * t)=2 * bs * t:=by rw[Nat.mul_left_comm,Nat.mul_assoc]
 refine⟨h,by rw[Nat.mul_succ,h],?_⟩;rw[Nat.mul_succ 2 t,Nat.mul_add,h];omega
theorem ph2_parts{D0 D:Nat→TC}{n bs t:Nat}(h:Ph2 D0 D n bs t)(hn:2 * bs * t+bs < n):SrtT D (2 * bs * t) (2 * bs * t+bs)∧SrtT D (2 * bs * t+bs) (min (2 * bs * t+2 * bs) n)∧CrsT D (2 * bs * t) (2 * bs * t+bs) (min (2 * bs * t+2 * bs) n)∧TagIn D (2 * bs * t) (min (2 * bs * t+2 * bs) n):=by
 obtain⟨e1,e2,e3⟩:=two_blk bs t;have h1:=h.rest (2 * t) (Nat.le_refl _) (by omega);have h2:=h.rest (2 * t+1) (by omega) (by omega);rw[e1,Nat.min_eq_left (by omega)]at h1;have e4:2 * bs * t+bs+bs=2 * bs * t+2 * bs:=by omega
 rw[e2,e4]at h2;exact⟨h1.1,h2.1,h1.2.crs h2.2,h1.2.join h2.2 (by omega) (by omega)⟩
theorem ph2_step{D0 D E:Nat→TC}{n bs t:Nat}(h:Ph2 D0 D n bs t)(hn:2 * bs * t+2 * bs≤n)(hb:0 < bs)(hs:SameOn D E (2 * bs * t) (2 * bs * t+2 * bs))(hE:SrtT E (2 * bs * t) (2 * bs * t+2 * bs)):Ph2 D0 E n bs (t+1):=by
 obtain⟨e1,e2,e3⟩:=two_blk bs t;have hp:=ph2_parts h (by omega);rw[Nat.min_eq_left hn]at hp;refine⟨fun s k=>?_,fun s k1 k2=>?_,h.all.trans (hs.wide (Nat.zero_le _) hn)⟩
 · by_cases e:s=t
   · subst e;exact⟨hE,hp.2.2.2.same hs⟩
   · have hd:=h.done s (by omega);have hle:2 * bs * (s+1)≤2 * bs * t:=Nat.mul_le_mul_left _ (by omega);rw[Nat.mul_succ]at hle;have he:∀ x,2 * bs * s≤x→x < 2 * bs * s+2 * bs→E x=D x:=fun x _ k2=>hs.out x (.inl (by omega));exact⟨hd.1.congr he,hd.2.congr he⟩
 · have hd:=h.rest s (by omega) k2;have hle:bs * (2 * (t+1))≤bs * s:=Nat.mul_le_mul_left _ k1;have he:∀ x,bs * s≤x→x < min (bs * s+bs) n→E x=D x:=fun x k1 _=>hs.out x (.inr (by omega));exact⟨hd.1.congr he,hd.2.congr he⟩
theorem ph2_end{D0 D E:Nat→TC}{n bs t:Nat}(h:Ph2 D0 D n bs t)(h0:2 * bs * t≤n)(h1:n < 2 * bs * t+2 * bs)(hE:(n≤2 * bs * t+bs∧E=D)∨(2 * bs * t+bs < n∧SameOn D E (2 * bs * t) n∧SrtT E (2 * bs * t) n)):Ph2 D0 E n (2 * bs) 0:=by
 obtain⟨e1,e2,e3⟩:=two_blk bs t;have hdone:∀ s,s < t→2 * bs * s+2 * bs≤2 * bs * t:=fun s k=>by
  have hle:2 * bs * (s+1)≤2 * bs * t:=Nat.mul_le_mul_left _ (by omega);rw[Nat.mul_succ]at hle;exact hle
 have hlast:∀ s,2 * bs * s < n→s≤t:=fun s k=>Decidable.byContradiction fun hn=>by
  have hle:2 * bs * (t+1)≤2 * bs * s:=Nat.mul_le_mul_left _ (by omega);rw[Nat.mul_succ]at hle;omega
 refine⟨fun s k=>absurd k (by omega),fun s _ k=>?_,?_⟩
 · have hst:=hlast s k
   rcases hE with⟨h2,rfl⟩ | ⟨h2,hs,hE⟩
   · by_cases e:s=t
     · subst e;have hr:=h.rest (2 * s) (Nat.le_refl _) (by omega);rw[e1,Nat.min_eq_right (by omega)]at hr;rw[Nat.min_eq_right (by omega)];exact hr
     · have hd:=h.done s (by omega);have:=hdone s (by omega);rw[Nat.min_eq_left (by omega)];exact hd
   · by_cases e:s=t
     · subst e;have hp:=ph2_parts h h2;rw[Nat.min_eq_right (by omega)]at hp;rw[Nat.min_eq_right (by omega)];exact⟨hE,hp.2.2.2.same hs⟩
     · have hd:=h.done s (by omega);have hle:=hdone s (by omega);rw[Nat.min_eq_left (by omega)];have he:∀ x,2 * bs * s≤x→x < 2 * bs * s+2 * bs→E x=D x:=fun x _ k2=>hs.out x (.inl (by omega));exact⟨hd.1.congr he,hd.2.congr he⟩
 · rcases hE with⟨_,rfl⟩ | ⟨_,hs,_⟩
   · exact h.all
   · exact h.all.trans (hs.wide (Nat.zero_le _) (Nat.le_refl _))
theorem ph2_sorted{D0 D:Nat→TC}{n bs:Nat}(h:Ph2 D0 D n bs 0)(hb:n≤bs):SrtT D 0 n:=by
 by_cases hn:n=0
 · subst hn;exact SrtT.one D (by omega)
 · have h1:=h.rest 0 (by omega) (by omega);rw[Nat.mul_zero,Nat.zero_add,Nat.min_eq_right hb]at h1;exact h1.1
def tagD(l:List Chg):Nat→TC:=fun i=>(l.getD i ⟨⟨0,0,0⟩,0,0⟩,i)
theorem stab_done{l:List Chg}{D:Nat→TC}(h:SameOn (tagD l) D 0 l.length)(hs:SrtT D 0 l.length):StabC l ((List.range l.length).map fun i=>(D i).1):=by
 have e:((List.range l.length).map fun i=>(D i).1)=((List.range l.length).map D).map (·.1):=by rw[List.map_map];rfl
 rw[e];refine stab_of_tags (fun x=>?_) ?_
 · rw[List.mem_map,List.mem_zipIdx_iff_getElem?];have hg:∀ j,j < l.length→(l[j]? = some (tagD l j).1∧(tagD l j).2=j):=fun j hj=>by
    refine⟨?_,rfl⟩;unfold tagD;rw[List.getD_eq_getElem?_getD,List.getElem?_eq_getElem hj];rfl
   constructor
   · rintro⟨i,hi,rfl⟩;obtain⟨j,_,k2,k3⟩:=h.tuo i (Nat.zero_le _) (List.mem_range.1 hi);rw[k3,(hg j k2).2];exact(hg j k2).1
   · intro hx;have hlt:x.2 < l.length:=(List.getElem?_eq_some_iff.1 hx).1;obtain⟨j,_,k2,k3⟩:=h.fro x.2 (Nat.zero_le _) hlt;refine⟨j,List.mem_range.2 k2,?_⟩;rw[← k3];have h1:=hg x.2 hlt;rw[hx]at h1;injection h1.1 with h2
     exact Prod.ext h2.symm h1.2
 · rw[List.pairwise_map];refine List.pairwise_lt_range.imp_of_mem fun {i j} hi hj hij=>?_;exact hs i j (Nat.zero_le _) hij (List.mem_range.1 hj)
end Go.Proofs.YtoecbicdahbccaaGreatDoor
