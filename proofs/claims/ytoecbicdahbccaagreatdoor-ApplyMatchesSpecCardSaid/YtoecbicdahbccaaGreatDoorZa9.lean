/- A part of the walk of the layer of apply: contracts and plain laws that a row's text leans on. -/
import Derived.Test.YtoecbicdahbccaaGreatDoorZa8
set_option maxRecDepth 100000
set_option maxHeartbeats 16000000
namespace Go.Proofs.YtoecbicdahbccaaGreatDoor
open Go Go.RowKit
theorem atB_num(b:Bx){k j i:Nat}(hi:i < (b.hi.x - b.lo.x).toNat)(hj:j < (b.hi.y - b.lo.y).toNat):atB b ((k * (b.hi.y - b.lo.y).toNat+j) * (b.hi.x - b.lo.x).toNat+i)=⟨b.lo.x+(i:Int),b.lo.y+(j:Int),b.lo.z+(k:Int)⟩:=by
 unfold atB;generalize (b.hi.x - b.lo.x).toNat=sx at hi ⊢;generalize (b.hi.y - b.lo.y).toNat=sy at hj ⊢;have h1:((k * sy+j) * sx+i) % sx=i:=by rw[Nat.mul_add_mod_self_right,Nat.mod_eq_of_lt hi]
 have h2:((k * sy+j) * sx+i) / sx=k * sy+j:=by rw[Nat.mul_comm,Nat.mul_add_div (by omega),Nat.div_eq_of_lt hi,Nat.add_zero]
 have h3:(k * sy+j) % sy=j:=by rw[Nat.mul_add_mod_self_right,Nat.mod_eq_of_lt hj]
 have h4:(k * sy+j) / sy=k:=by rw[Nat.mul_comm,Nat.mul_add_div (by omega),Nat.div_eq_of_lt hj,Nat.add_zero]
 rw[h1,h2,h3,h4]
theorem num_lt(b:Bx){k j i:Nat}(hi:i < (b.hi.x - b.lo.x).toNat)(hj:j < (b.hi.y - b.lo.y).toNat)(hk:k < (b.hi.z - b.lo.z).toNat):(k * (b.hi.y - b.lo.y).toNat+j) * (b.hi.x - b.lo.x).toNat+i < volN b:=by
 unfold volN;generalize (b.hi.x - b.lo.x).toNat=sx at hi ⊢;generalize (b.hi.y - b.lo.y).toNat=sy at hj ⊢;generalize (b.hi.z - b.lo.z).toNat=sz at hk ⊢;have h1:k * sy+j < sz * sy:=by
  have:(k+1) * sy≤sz * sy:=Nat.mul_le_mul_right _ hk;rw[Nat.succ_mul]at this;omega
 have h2:(k * sy+j+1) * sx≤sz * sy * sx:=Nat.mul_le_mul_right _ h1;rw[Nat.succ_mul]at h2;omega
def boxF(b:Bx)(f:Pt→Bool)(n:Nat):List Pt:=((boxL b).take n).filter f
theorem boxF_zero(b:Bx)(f:Pt→Bool):boxF b f 0 = []:=by unfold boxF;simp
theorem boxF_step{b:Bx}{n:Nat}(f:Pt→Bool)(h:n < volN b):boxF b f (n+1)=boxF b f n++if f (atB b n)then [atB b n]else []:=by
 unfold boxF;rw[List.take_add_one,boxL_get b h,List.filter_append];congr 1
 show List.filter f [atB b n]=_;rw[List.filter_cons,List.filter_nil]
theorem boxF_all(b:Bx)(f:Pt→Bool){n:Nat}(h:volN b≤n):boxF b f n=(boxL b).filter f:=by unfold boxF;rw[List.take_of_length_le (by rw[boxL_length];exact h)]
theorem boxF_len(b:Bx)(f:Pt→Bool)(n:Nat):(boxF b f n).length≤volN b:=by
 unfold boxF;refine Nat.le_trans (List.length_filter_le ..) ?_;rw[List.length_take,boxL_length];exact Nat.min_le_right ..
theorem row_num(b:Bx)(k j:Nat):(k * (b.hi.y - b.lo.y).toNat+j) * (b.hi.x - b.lo.x).toNat+(b.hi.x - b.lo.x).toNat=(k * (b.hi.y - b.lo.y).toNat+(j+1)) * (b.hi.x - b.lo.x).toNat:=by
 rw[← Nat.add_assoc,Nat.succ_mul]
theorem plane_num(b:Bx)(k:Nat):(k * (b.hi.y - b.lo.y).toNat+(b.hi.y - b.lo.y).toNat) * (b.hi.x - b.lo.x).toNat=((k+1) * (b.hi.y - b.lo.y).toNat+0) * (b.hi.x - b.lo.x).toNat:=by
 rw[Nat.succ_mul,Nat.add_zero]
theorem all_num(b:Bx):((b.hi.z - b.lo.z).toNat * (b.hi.y - b.lo.y).toNat+0) * (b.hi.x - b.lo.x).toNat=volN b:=by unfold volN;rw[Nat.add_zero]
theorem vol_le{b:Bx}{s:Nat}(h1:b.hi.x - b.lo.x≤s)(h2:b.hi.y - b.lo.y≤s)(h3:b.hi.z - b.lo.z≤s):volN b≤s * s * s:=by
 unfold volN;exact Nat.mul_le_mul (Nat.mul_le_mul (by omega) (by omega)) (by omega)
def atB_(q:Pt)(l:List Chg):List Chg:=l.filter fun c=>decide (c.at_=q)
structure StabC (l s:List Chg):Prop where
 srt:s.Pairwise fun x y=>befP y.at_ x.at_=false
 same:∀ q,atB_ q s=atB_ q l
def joinStep(out:List Chg)(c:Chg):List Chg:=match out.getLast? with
 | some d=>if d.at_=c.at_ then out.dropLast++[⟨d.at_,d.old,c.new⟩]else out++[c]
 | none=>[c]
def joinA(l:List Chg):List Chg:=l.foldl joinStep []
theorem joinA_snoc(l:List Chg)(c:Chg):joinA (l++[c])=joinStep (joinA l) c:=by unfold joinA;rw[List.foldl_append];rfl
def oneC(l:List Chg):List Chg:=match l with
 | []=>[]
 | x:: xs=>[⟨x.at_,x.old,((x:: xs).getLast (by simp)).new⟩]
theorem atB_append(q:Pt)(l m:List Chg):atB_ q (l++m)=atB_ q l++atB_ q m:=List.filter_append ..
theorem atB_mem{q:Pt}{l:List Chg}{c:Chg} : c∈atB_ q l↔c∈l∧c.at_=q:=by unfold atB_;rw[List.mem_filter,decide_eq_true_eq]
theorem oneC_snoc(l:List Chg)(c:Chg):oneC (l++[c])=match l with | []=>[c] | x:: _=>[⟨x.at_,x.old,c.new⟩]:=by
 cases l with
 | nil=>rfl
 | cons x xs=>
   unfold oneC;have e:((x:: xs)++[c]).getLast (by simp)=c:=by rw[List.getLast_append_of_ne_nil _ (by simp)];rfl
   show [(⟨x.at_,x.old,(((x:: xs)++[c]).getLast (by simp)).new⟩:Chg)]=_;rw[e]
structure JoinInv (s out:List Chg):Prop where
 srt:SortC out
 one:∀ q,atB_ q out=oneC (atB_ q s)
theorem SortC.at_one{l:List Chg}(h:SortC l){q:Pt}{c:Chg}(hc:c∈l)(e:c.at_=q):atB_ q l = [c]:=by
 have hm:c∈atB_ q l:=atB_mem.2 ⟨hc,e⟩;have hs:SortC (atB_ q l):=h.sublist List.filter_sublist
 cases hq:atB_ q l with
 | nil=>rw[hq]at hm;cases hm
 | cons x xs=>
   have hx:x∈atB_ q l:=by rw[hq];exact List.mem_cons_self ..
   have h1:=h.at_uniq (atB_mem.1 hx).1 hc ((atB_mem.1 hx).2.trans e.symm);subst h1
   cases xs with
   | nil=>rfl
   | cons y ys=>
     have hy:y∈atB_ q l:=by rw[hq];simp
     rw[hq]at hs;unfold SortC at hs;rw[List.pairwise_cons]at hs;have:=hs.1 y (List.mem_cons_self ..);rw[(atB_mem.1 hy).2,e,befP_irr]at this
     cases this
theorem atB_nil{q:Pt}{l:List Chg}(h:∀ c,c∈l→c.at_≠q):atB_ q l = []:=by
 unfold atB_;rw[List.filter_eq_nil_iff];intro c hc;rw[decide_eq_true_eq];exact h c hc
theorem JoinInv.last{s out:List Chg}(h:JoinInv s out)(_hs:s.Pairwise fun x y=>befP y.at_ x.at_=false){c:Chg}(hc:∀ x,x∈s→befP c.at_ x.at_=false){x:Chg}(hx:x∈out):befP c.at_ x.at_=false:=by
 have h1:x∈atB_ x.at_ out:=atB_mem.2 ⟨hx,rfl⟩;rw[h.one]at h1
 cases hq:atB_ x.at_ s with
 | nil=>rw[hq]at h1;cases h1
 | cons y ys=>
   have hy:y∈atB_ x.at_ s:=by rw[hq];exact List.mem_cons_self ..
   have:=hc y (atB_mem.1 hy).1
   rwa [(atB_mem.1 hy).2]at this
theorem snoc_ind{α:Type}{M:List α→Prop}(h0:M [])(h1:∀ l x,M l→M (l++[x]))(l:List α):M l:=by
 have h:∀ r:List α,M r.reverse:=fun r=>by
  induction r with
  | nil=>exact h0
  | cons x xs ih=>rw[List.reverse_cons];exact h1 _ _ ih
 have h2:=h l.reverse
 rwa [List.reverse_reverse]at h2
theorem joinA_inv(s:List Chg):(s.Pairwise fun x y=>befP y.at_ x.at_=false)→JoinInv s (joinA s):=by
 refine snoc_ind (M:=fun s=>(s.Pairwise fun x y=>befP y.at_ x.at_=false)→JoinInv s (joinA s)) (fun _=>⟨List.Pairwise.nil,fun _=>rfl⟩) ?_ s
 · intro s c ih hs;rw[List.pairwise_append]at hs;have I:=ih hs.1;have hc:∀ x,x∈s→befP c.at_ x.at_=false:=fun x hx=>hs.2.2 x hx c (List.mem_singleton.2 rfl);have hl:=fun x hx=>I.last hs.1 hc (x:=x) hx;rw[joinA_snoc];generalize joinA s=out at I hl;unfold joinStep
   cases hg:out.getLast? with
   | none=>
     have ho:out = []:=List.getLast?_eq_none_iff.1 hg;subst ho;refine⟨List.pairwise_singleton ..,fun q=>?_⟩;have hn:∀ q,atB_ q s = []:=fun q=>by
      cases hq:atB_ q s with
      | nil=>rfl
      | cons x xs=>
        have:=I.one q;rw[hq]at this
        cases this
     rw[atB_append,hn q]
     by_cases hq:c.at_=q
     · have e:atB_ q [c] = [c]:=by unfold atB_;simp[hq]
       rw[e];rfl
     · have e:atB_ q [c] = []:=atB_nil (by simpa using hq);rw[e];rfl
   | some d=>
     simp only;have ho:out=out.dropLast++[d]:=by
      have hne:out≠[]:=by rintro rfl;cases hg
      have h1:=List.dropLast_concat_getLast hne;rw[List.getLast?_eq_some_getLast hne]at hg;injection hg with hg
      rw[hg]at h1;exact h1.symm
     have hdm:d∈out:=by rw[ho];simp
     by_cases hd:d.at_=c.at_
     · rw[if_pos hd];have hsrt:=I.srt;rw[ho]at hsrt;unfold SortC at hsrt;rw[List.pairwise_append]at hsrt;refine⟨?_,fun q=>?_⟩
       · unfold SortC;rw[List.pairwise_append];refine⟨hsrt.1,List.pairwise_singleton ..,fun x hx y hy=>?_⟩;rw[List.mem_singleton]at hy;rw[hy];exact hsrt.2.2 x hx d (List.mem_singleton.2 rfl)
       · have h1:=I.one q;rw[ho,atB_append]at h1;rw[atB_append,atB_append]
         by_cases hq:d.at_=q
         · have e1:atB_ q out.dropLast = []:=atB_nil fun x hx e=>by
             have:=hsrt.2.2 x hx d (List.mem_singleton.2 rfl);rw[e,hq,befP_irr]at this
             cases this
           have e2:atB_ q [d] = [d]:=by unfold atB_;simp[hq]
           have e3:atB_ q [(⟨d.at_,d.old,c.new⟩:Chg)] = [⟨d.at_,d.old,c.new⟩]:=by unfold atB_;simp[hq]
           have e4:atB_ q [c] = [c]:=by unfold atB_;simp[← hd,hq]
           rw[e1,e2,List.nil_append]at h1;rw[e1,e3,e4,oneC_snoc,List.nil_append]
           cases hz:atB_ q s with
           | nil=>rw[hz]at h1;cases h1
           | cons y ys=>
             rw[hz]at h1;unfold oneC at h1;injection h1 with h1 _
             simp only;rw[h1]
         · have e2:atB_ q [d] = []:=atB_nil (by simpa using hq);have e3:atB_ q [(⟨d.at_,d.old,c.new⟩:Chg)] = []:=atB_nil (by simpa using hq);have e4:atB_ q [c] = []:=atB_nil (by simpa[← hd]using hq);rw[e2,List.append_nil]at h1;rw[e3,e4,List.append_nil,List.append_nil];exact h1
     · rw[if_neg hd];have hlt:∀ x,x∈out→befP x.at_ c.at_=true:=fun x hx=>by
        have h1:=hl x hx;refine befP_total h1 fun e=>?_;rw[ho]at hx
        rcases List.mem_append.1 hx with hx | hx
        · have hsrt:=I.srt;rw[ho]at hsrt;unfold SortC at hsrt;rw[List.pairwise_append]at hsrt;have h2:=hsrt.2.2 x hx d (List.mem_singleton.2 rfl);rw[← e,hl d hdm]at h2
          cases h2
        · rw[List.mem_singleton]at hx;rw[hx]at e;exact hd e.symm
       refine⟨?_,fun q=>?_⟩
       · unfold SortC;rw[List.pairwise_append];exact⟨I.srt,List.pairwise_singleton ..,fun x hx y hy=>by rw[List.mem_singleton]at hy;rw[hy];exact hlt x hx⟩
       · rw[atB_append,atB_append,I.one q]
         by_cases hq:c.at_=q
         · have e0:atB_ q out = []:=atB_nil fun x hx e=>by
             have:=hlt x hx;rw[e,hq,befP_irr]at this
             cases this
           have e1:=I.one q;rw[e0]at e1;have e5:atB_ q [c] = [c]:=by unfold atB_;simp[hq]
           rw[e5]
           cases hz:atB_ q s with
           | nil=>rfl
           | cons y ys=>rw[hz]at e1;cases e1
         · have e4:atB_ q [c] = []:=atB_nil (by simpa using hq);rw[e4,List.append_nil,List.append_nil]
theorem OnceC.at_one{l:List Chg}(h:OnceC l){q:Pt}{c:Chg}(hc:c∈l)(e:c.at_=q):atB_ q l = [c]:=by
 induction l with
 | nil=>cases hc
 | cons z zs ih=>
   have h2:=h;unfold OnceC at h;rw[List.map_cons,List.nodup_cons]at h;have e0:atB_ q (z:: zs)=atB_ q [z]++atB_ q zs:=atB_append q [z] zs;rw[e0]
   rcases List.mem_cons.1 hc with e1 | hc1
   · subst e1;have h3:atB_ q zs = []:=atB_nil fun x hx ex=>h.1 (List.mem_map.2 ⟨x,hx,ex.trans e.symm⟩);have h4:atB_ q [c] = [c]:=by unfold atB_;simp[e]
     rw[h3,h4];rfl
   · have h4:atB_ q [z] = []:=atB_nil fun x hx ex=>by
       rw[List.mem_singleton]at hx;subst hx;exact h.1 (List.mem_map.2 ⟨c,hc1,e.trans ex.symm⟩)
     rw[h4,ih h.2 hc1];rfl
def offC(l:List Chg):List Chg:=l.filter fun c=>!decide (c.old=c.new)
theorem join_is{a b s:List Chg}(hs:StabC (a++b) s)(ha:OnceC a)(hb:OnceC b):IsJoin a b (offC (joinA s)):=by
 have I:=joinA_inv s hs.srt;refine⟨I.srt.sublist List.filter_sublist,fun c=>?_⟩;have h1:c∈joinA s↔c∈oneC (atB_ c.at_ a++atB_ c.at_ b):=by
  rw[← atB_append,← hs.same,← I.one,atB_mem];exact⟨fun h=>⟨h,rfl⟩,fun h=>h.1⟩
 unfold offC;rw[List.mem_filter,h1,Bool.not_eq_true',decide_eq_false_iff_not,and_comm];refine and_congr_right fun hne=>?_
 by_cases hxa:∃ x,x∈a∧x.at_=c.at_
 · obtain⟨x,hx,ex⟩:=hxa;rw[ha.at_one hx ex]
   by_cases hyb:∃ y,y∈b∧y.at_=c.at_
   · obtain⟨y,hy,ey⟩:=hyb;rw[hb.at_one hy ey];have e:oneC ([x]++[y]) = [⟨x.at_,x.old,y.new⟩]:=rfl;rw[e,List.mem_singleton];constructor
     · intro h;rw[h];exact .inl ⟨x,hx,rfl,rfl,.inl ⟨y,hy,ey.trans ex.symm,rfl⟩⟩
     · rintro(⟨x2,k1,k2,k3,k4⟩ | ⟨k1,_⟩)
       · have e2:=ha.uniq k1 hx (k2.trans ex.symm);subst e2
         rcases k4 with⟨y2,m1,m2,m3⟩ | ⟨m1,_⟩
         · have e3:=hb.uniq m1 hy (m2.trans ey.symm);subst e3;obtain⟨p,o,n⟩:=c;simp only at k2 k3 m3;rw[k2,k3,m3]
         · exact absurd ey (m1 y hy)
       · exact absurd ex (k1 x hx)
   · have e0:atB_ c.at_ b = []:=atB_nil fun y hy e=>hyb ⟨y,hy,e⟩;rw[e0];have e:oneC ([x]++[]) = [⟨x.at_,x.old,x.new⟩]:=rfl;rw[e,List.mem_singleton];constructor
     · intro h;rw[h];refine .inl ⟨x,hx,rfl,rfl,.inr ⟨fun y hy ey=>hyb ⟨y,hy,?_⟩,rfl⟩⟩;rw[ey];exact ex
     · rintro(⟨x2,k1,k2,k3,k4⟩ | ⟨k1,_⟩)
       · have e2:=ha.uniq k1 hx (k2.trans ex.symm);subst e2
         rcases k4 with⟨y2,m1,m2,m3⟩ | ⟨_,m1⟩
         · exact absurd ⟨y2,m1,m2⟩ hyb
         · obtain⟨p,o,n⟩:=c;simp only at k2 k3 m1;rw[k2,k3,m1]
       · exact absurd ex (k1 x hx)
 · have e0:atB_ c.at_ a = []:=atB_nil fun x hx e=>hxa ⟨x,hx,e⟩;rw[e0,List.nil_append]
   by_cases hyb:∃ y,y∈b∧y.at_=c.at_
   · obtain⟨y,hy,ey⟩:=hyb;rw[hb.at_one hy ey];have e:oneC [y] = [⟨y.at_,y.old,y.new⟩]:=rfl;rw[e,List.mem_singleton];constructor
     · intro h;refine .inr ⟨fun x hx ex=>hxa ⟨x,hx,ex⟩,?_⟩;have h2:c=y:=h;rw[h2];exact hy
     · rintro(⟨x2,k1,k2,_⟩ | ⟨_,k2⟩)
       · exact absurd ⟨x2,k1,k2⟩ hxa
       · exact hb.uniq k2 hy ey.symm
   · have e1:atB_ c.at_ b = []:=atB_nil fun y hy e=>hyb ⟨y,hy,e⟩;rw[e1];constructor
     · intro h;cases h
     · rintro(⟨x2,k1,k2,_⟩ | ⟨_,k2⟩)
       · exact absurd ⟨x2,k1,k2⟩ hxa
       · exact absurd ⟨c,k2,rfl⟩ hyb
theorem chg_rng{w:World}{B c j:Nat}{A:Option Addr}{l:List Chg}{x:Chg}(h:Sv w B 5 A c (rowsC l))(hp:l[j]? = some x):
    ∃ b off,A=some ⟨b,off,none⟩∧b < B∧∀ i v,x.cells[i]? = some v→w.cell? ⟨b,off+j * 5+i,none⟩=some v:=h.row (i:=j) (x:=x.cells) (by simp[rowsC,hp])
theorem pre3{a b c:Value}{r:List Value}(i:Nat)(v:Value)(h:[a,b,c][i]? = some v):(a:: b:: c:: r)[i]? = some v:=by
 match i,h with
 | 0,h=>exact h
 | 1,h=>exact h
 | 2,h=>exact h
 | i+3,h=>simp at h
theorem revC_len(l:List Chg):(revC l).length=l.length:=by simp[revC]
section
variable {P:Program}
theorem wp_region_slots2{G:Type}{Q:Exit→Act→World→Prop}{id:Nat}{a:Act}{w:World}{l:List Oper}(V:G→Nat→Value)(R:World→Array Bool→G→World→Prop)(g0:G)(hm:P.follows .mixedOrders=true)(hs:slotsB l.toArray=true)(hb:backB2 l.toArray=true)
    (hg:∀ (i:Nat) (o:Oper),l[i]? = some o→o.guard=none) (h0:R w (Array.replicate l.length false) g0 w.drew)
    (hstep:∀ listed g w1 i o,l[i]? = some o→listed.getD i true=false→(∀ e,e∈o.after→Region.binds .any e=true→listed.getD e.on false=true)→R w listed g w1→
      ∀ (b:Act) (K:Act→World→Prop),(∀ d:Nat,missB l.toArray d=true→b.tmps[d]? = a.tmps[d]?)→(∀ j d,j < l.length→listed.getD j true=true→dstOf l.toArray j=some d→d < a.tmps.size→b.tmps[d]? = some (V g j))→
      (∀ g' w',R w (listed.setIfInBounds i true) g' w'→(∀ j,j < l.length→listed.getD j true=true→V g' j=V g j)→K (b.put o.dst (V g' i)) w')→o.wp P b w1 K Q)
    (hend:∀ listed g w1,(∀ i,i < l.length→listed.getD i true=true)→R w listed g w1→Q .normal (fill l.toArray (V g) listed a) w1):(Code.region id l.toArray true).wp P Q a w:=
 wp_region_tabg2 V R g0 hm (slotsB_spec hs) (backB2_spec hb) h0
  (fun listed g w1 i o ho hun hdep hR K hK=>want_none (hg i o ho) (hstep listed g w1 i o ho hun hdep hR (fill l.toArray (V g) listed a) K (fun d hd=>fill_miss (fun i hi _=>missB_spec hd i hi)) (fun j d hj hl hd hds=>fill_hit (slotsB_spec hs) (by simpa using hj) hl hd hds) hK)) hend
end
structure Box3 (T:TypeId) (n:Nat) (zs c0 c1:List Value) (W:World) (listed:Array Bool) (g:Nat × Nat) (w:World):Prop where
 ext:Ext W w
 l0:listed.getD n true=true→W.heap.size≤g.1∧Arr w g.1 T (if listed.getD (n+2) true=true then c0 else zs)
 l1:listed.getD (n+1) true=true→W.heap.size≤g.2∧Arr w g.2 T (if listed.getD (n+3) true=true then c1 else zs)
 ne:listed.getD n true=true→listed.getD (n+1) true=true→g.1≠g.2
 s0:listed.getD (n+2) true=true→listed.getD n true=true
 s1:listed.getD (n+3) true=true→listed.getD (n+1) true=true
theorem Box3.keep{T n:Nat}{zs c0 c1:List Value}{W w w':World}{listed:Array Bool}{g:Nat × Nat}(h:Box3 T n zs c0 c1 W listed g w){i:Nat}(hi:i < n)(hx:Ext w w'):Box3 T n zs c0 c1 W (listed.setIfInBounds i true) g w':=by
 have h1:∀ k,n≤k→(listed.setIfInBounds i true).getD k true=listed.getD k true:=fun k hk=>getD_set_ne true (by omega);refine⟨h.ext.trans hx,?_,?_,?_,?_,?_⟩
 · rw[h1 n (Nat.le_refl _),h1 (n+2) (by omega)];intro h3;exact⟨(h.l0 h3).1,(h.l0 h3).2.ext hx⟩
 · rw[h1 (n+1) (by omega),h1 (n+3) (by omega)];intro h3;exact⟨(h.l1 h3).1,(h.l1 h3).2.ext hx⟩
 · rw[h1 n (Nat.le_refl _),h1 (n+1) (by omega)];exact h.ne
 · rw[h1 n (Nat.le_refl _),h1 (n+2) (by omega)];exact h.s0
 · rw[h1 (n+1) (by omega),h1 (n+3) (by omega)];exact h.s1
section
variable {P:Program}
theorem wp_region_two3{id:Nat}{Q:Exit→Act→World→Prop}{a:Act}{w:World}{l:List Oper}(V:Nat→Value)(n T d0 d1 sv0 sv1 iv0 iv1:Nat)(zs c0 c1:List Value)(hm:P.follows .mixedOrders=true)(hs:slotsB l.toArray=true)(hb:backB2 l.toArray=true)
    (hg:∀ (i:Nat) (o:Oper),l[i]? = some o→o.guard=none) (hln:l.length=n+4)
    (ha0:∃ o,l[n]? = some o∧o.op = .alloc T∧o.dst=some d0) (ha1:∃ o,l[n+1]? = some o∧o.op = .alloc T∧o.dst=some d1)
    (hs0:∃ o,l[n+2]? = some o∧o.op = .store T (.tmp d0) (.tmp sv0)∧o.dst=none∧waits o n=true∧waits o iv0=true)
    (hs1:∃ o,l[n+3]? = some o∧o.op = .store T (.tmp d1) (.tmp sv1)∧o.dst=none∧waits o (n+1)=true∧waits o iv1=true)
    (hi0:iv0 < n) (hi1:iv1 < n) (hv0:dstOf l.toArray iv0=some sv0) (hv1:dstOf l.toArray iv1=some sv1) (hb0:sv0 < a.tmps.size) (hb1:sv1 < a.tmps.size) (hd0:d0 < a.tmps.size) (hd1:d1 < a.tmps.size) (hV0:V iv0 = .agg c0.toArray) (hV1:V iv1 = .agg c1.toArray)
    (hz:∃ i z,P.info? T=some i∧i.zero=some z∧z.cells.toList=zs) (hi:(P.info? T).map (·.size)=some zs.length) (hz0:c0.length=zs.length) (hz1:c1.length=zs.length) (ho0:c0.all (·.oneCell')=true) (ho1:c1.all (·.oneCell')=true)
    (hhead:∀ (listed:Array Bool) (w1:World) (i:Nat) (o:Oper),l[i]? = some o→i < n→(∀ e,e∈o.after→Region.binds .any e=true→listed.getD e.on false=true)→Ext w w1→
      ∀ (b:Act) (K:Act→World→Prop),(∀ d:Nat,missB l.toArray d=true→b.tmps[d]? = a.tmps[d]?)→(∀ j d,j < n→listed.getD j true=true→dstOf l.toArray j=some d→d < a.tmps.size→b.tmps[d]? = some (V j))→
      (∀ w',Ext w1 w'→K (b.put o.dst (V i)) w')→o.wp P b w1 K Q)
    (hend:∀ (g:Nat × Nat) w1,Ext w w1→w.heap.size≤g.1→w.heap.size≤g.2→Arr w1 g.1 T c0→Arr w1 g.2 T c1→g.1≠g.2→Q .normal (fillAllN l.toArray (box2V V n g) a l.length) w1):(Code.region id l.toArray true).wp P Q a w:=by
 refine wp_region_slots2 (box2V V n) (Box3 T n zs c0 c1) (0,0) hm hs hb hg ?_ ?_ ?_
 · have h0:∀ k,k < l.length→(Array.replicate l.length false).getD k true=false:=fun k hk=>by simp[Array.getD,hk]
   exact⟨(Ext.refl _).drew,fun h=>(by rw[h0 n (by omega)]at h;cases h),fun h=>(by rw[h0 (n+1) (by omega)]at h;cases h),fun h=>(by rw[h0 n (by omega)]at h;cases h),fun h=>(by rw[h0 (n+2) (by omega)]at h;cases h),fun h=>(by rw[h0 (n+3) (by omega)]at h;cases h)⟩
 · intro listed g w1 i o ho hun hdep hR b K E0 E1 hK;have hil:i < l.length:=(List.getElem?_eq_some_iff.1 ho).1;obtain⟨ie,z,hie,hzz,hzl2⟩:=hz;have hzc:z.cells=zs.toArray:=by rw[← hzl2]
   have hlist:∀ k,k≠i→(listed.setIfInBounds i true).getD k true=listed.getD k true:=fun k hk=>getD_set_ne true (Ne.symm hk);have hset:(listed.setIfInBounds i true).getD i true=true:=by
    by_cases h:i < listed.size <;> simp[Array.getD,h]
   have hwait:∀ j,waits o j=true→listed.getD j true=true:=fun j hj=>by
    obtain⟨e,he,rfl,hbd⟩:=waits_spec hj;exact getD_up (hdep e he hbd)
   by_cases hin:i < n
   · refine hhead listed w1 i o ho hin hdep hR.ext b K E0 (fun j d hj hl hd hds=>?_) (fun w' hx=>?_)
     · have h:=E1 j d (by omega) hl hd hds;rw[h];unfold box2V;rw[if_pos hj]
     · have h:=hK g w' (hR.keep hin hx) (fun _ _ _=>rfl);unfold box2V at h;rw[if_pos hin]at h;exact h
   · rcases (show i=n∨i=n+1∨i=n+2∨i=n+3 by omega)with rfl | rfl | rfl | rfl
     · obtain⟨o2,ho2,hop,hdst⟩:=ha0;rw[ho]at ho2;injection ho2 with ho2;subst ho2
       have hnext:listed.getD (i+2) true=false:=by
        cases hq:listed.getD (i+2) true
        · rfl
        · have:=hR.s0 hq;rw[this]at hun;cases hun
       have hK2:=hK (w1.heap.size,g.2) (w1.alloc (.cells zs.toArray T)) ⟨hR.ext.alloc _,fun _=>⟨hR.ext.size,by rw[hlist _ (by omega),hnext];exact Arr.new w1 T zs⟩,fun h=>(by
           rw[hlist _ (by omega)]at h;rw[hlist _ (by omega)];exact⟨(hR.l1 h).1,(hR.l1 h).2.alloc _⟩),fun _ h=>(by
           rw[hlist _ (by omega)]at h;have:=(hR.l1 h).2.lt;simp only;omega),fun _=>hset,fun h=>(by rw[hlist _ (by omega)]at h;rw[hlist _ (by omega)];exact hR.s1 h)⟩ (fun j hj hl=>by
           have hne:j≠i:=fun e=>by subst e;rw[hl]at hun;cases hun
           unfold box2V;simp only[if_neg hne])
       have hbv:box2V V i (w1.heap.size,g.2) i = .pointer (some ⟨w1.heap.size,0,none⟩):=by unfold box2V;simp
       rw[hbv]at hK2;have hrun:(execOp b.eval o).run P w1 = .ok (.value (.pointer (some ⟨w1.heap.size,0,none⟩))) (w1.alloc (.cells zs.toArray T)):=by
        unfold execOp;simp only[hop];simp[Instr.alloc,zeroValue,typeInfo,hie,hzz,newVar,newRow,hzc]
       unfold Oper.wp;rw[hrun];exact hK2
     · obtain⟨o2,ho2,hop,hdst⟩:=ha1;rw[ho]at ho2;injection ho2 with ho2;subst ho2
       have hnext:listed.getD (n+3) true=false:=by
        cases hq:listed.getD (n+3) true
        · rfl
        · have:=hR.s1 hq;rw[this]at hun;cases hun
       have hK2:=hK (g.1,w1.heap.size) (w1.alloc (.cells zs.toArray T)) ⟨hR.ext.alloc _,fun h=>(by
           rw[hlist _ (by omega)]at h;rw[hlist _ (by omega)];exact⟨(hR.l0 h).1,(hR.l0 h).2.alloc _⟩),fun _=>⟨hR.ext.size,by rw[hlist _ (by omega),hnext];exact Arr.new w1 T zs⟩,fun h _=>(by
           rw[hlist _ (by omega)]at h;have:=(hR.l0 h).2.lt;simp only;omega),fun h=>(by rw[hlist _ (by omega)]at h;rw[hlist _ (by omega)];exact hR.s0 h),fun _=>hset⟩ (fun j hj hl=>by
           have hne:j≠n+1:=fun e=>by subst e;rw[hl]at hun;cases hun
           unfold box2V;simp only[if_neg hne])
       have hbv:box2V V n (g.1,w1.heap.size) (n+1) = .pointer (some ⟨w1.heap.size,0,none⟩):=by unfold box2V;rw[if_neg (by omega),if_neg (by omega),if_pos rfl]
       rw[hbv]at hK2;have hrun:(execOp b.eval o).run P w1 = .ok (.value (.pointer (some ⟨w1.heap.size,0,none⟩))) (w1.alloc (.cells zs.toArray T)):=by
        unfold execOp;simp only[hop];simp[Instr.alloc,zeroValue,typeInfo,hie,hzz,newVar,newRow,hzc]
       unfold Oper.wp;rw[hrun];exact hK2
     · obtain⟨o2,ho2,hop,hdst,hw1,hw2⟩:=hs0;rw[ho]at ho2;injection ho2 with ho2;subst ho2
       have hl1:=hwait _ hw1;have hl2:=hwait _ hw2;obtain⟨q1,q2⟩:=hR.l0 hl1;rw[hun]at q2;simp only[Bool.false_eq_true,if_false]at q2;obtain⟨oa,hoa,hopa,hdsta⟩:=ha0;have hda:dstOf l.toArray n=some d0:=by simp[dstOf,hoa,hdsta]
       have t1:=E1 n d0 (by omega) hl1 hda hd0;have t2:=E1 iv0 sv0 (by omega) hl2 hv0 hb0;have bv1:box2V V n g n = .pointer (some ⟨g.1,0,none⟩):=by unfold box2V;simp
       have bv2:box2V V n g iv0 = .agg c0.toArray:=by unfold box2V;rw[if_pos hi0,hV0]
       rw[bv1]at t1;rw[bv2]at t2;have hK2:=hK g (w1.setRow g.1 c0.toArray) ⟨hR.ext.setRow q1 _,fun _=>⟨q1,by rw[hset];exact q2.setRow c0⟩,fun h=>(by
           rw[hlist _ (by omega)]at h;rw[hlist _ (by omega)];exact⟨(hR.l1 h).1,(hR.l1 h).2.setRow_other (Ne.symm (hR.ne hl1 h)) _⟩),fun h k=>(by rw[hlist _ (by omega)]at h k;exact hR.ne h k),fun _=>by rw[hlist n (by omega)];exact hl1,fun h=>(by rw[hlist _ (by omega)]at h;rw[hlist _ (by omega)];exact hR.s1 h)⟩ (fun _ _ _=>rfl)
       have bv3:box2V V n g (n+2)=undef:=by unfold box2V;rw[if_neg (by omega),if_neg (by omega),if_neg (by omega)]
       rw[bv3]at hK2;exact wp_store_row T (.tmp d0) (.tmp sv0) hop g.1 c0.toArray (by simp[Act.eval,Array.getD_eq_getD_getElem?,t1]) (by simp[Act.eval,Array.getD_eq_getD_getElem?,t2]) T zs.toArray q2 (by rw[hi];simp[hz0]) (by simp[hz0]) (by simpa using ho0) hK2
     · obtain⟨o2,ho2,hop,hdst,hw1,hw2⟩:=hs1;rw[ho]at ho2;injection ho2 with ho2;subst ho2
       have hl1:=hwait _ hw1;have hl2:=hwait _ hw2;obtain⟨q1,q2⟩:=hR.l1 hl1;rw[hun]at q2;simp only[Bool.false_eq_true,if_false]at q2;obtain⟨oa,hoa,hopa,hdsta⟩:=ha1;have hda:dstOf l.toArray (n+1)=some d1:=by simp[dstOf,hoa,hdsta]
       have t1:=E1 (n+1) d1 (by omega) hl1 hda hd1;have t2:=E1 iv1 sv1 (by omega) hl2 hv1 hb1;have bv1:box2V V n g (n+1) = .pointer (some ⟨g.2,0,none⟩):=by unfold box2V;rw[if_neg (by omega),if_neg (by omega),if_pos rfl]
       have bv2:box2V V n g iv1 = .agg c1.toArray:=by unfold box2V;rw[if_pos hi1,hV1]
       rw[bv1]at t1;rw[bv2]at t2;have hK2:=hK g (w1.setRow g.2 c1.toArray) ⟨hR.ext.setRow q1 _,fun h=>(by
           rw[hlist _ (by omega)]at h;rw[hlist _ (by omega)];exact⟨(hR.l0 h).1,(hR.l0 h).2.setRow_other (hR.ne h hl1) _⟩),fun _=>⟨q1,by rw[hset];exact q2.setRow c1⟩,fun h k=>(by rw[hlist _ (by omega)]at h k;exact hR.ne h k),fun h=>(by rw[hlist _ (by omega)]at h;rw[hlist _ (by omega)];exact hR.s0 h),fun _=>by rw[hlist (n+1) (by omega)];exact hl1⟩ (fun _ _ _=>rfl)
       have bv3:box2V V n g (n+3)=undef:=by unfold box2V;rw[if_neg (by omega),if_neg (by omega),if_neg (by omega)]
       rw[bv3]at hK2;exact wp_store_row T (.tmp d1) (.tmp sv1) hop g.2 c1.toArray (by simp[Act.eval,Array.getD_eq_getD_getElem?,t1]) (by simp[Act.eval,Array.getD_eq_getD_getElem?,t2]) T zs.toArray q2 (by rw[hi];simp[hz1]) (by simp[hz1]) (by simpa using ho1) hK2
 · intro listed g w1 hall hR;rw[fill_done hall];obtain⟨q1,q2⟩:=hR.l0 (hall n (by omega));obtain⟨q3,q4⟩:=hR.l1 (hall (n+1) (by omega));rw[if_pos (hall (n+2) (by omega))]at q2;rw[if_pos (hall (n+3) (by omega))]at q4;exact hend g w1 hR.ext q1 q3 q2 q4 (hR.ne (hall n (by omega)) (hall (n+1) (by omega)))
end
section
variable {P:Program}
theorem wp_region_box2{id:Nat}{Q:Exit→Act→World→Prop}{a:Act}{w:World}{l:List Oper}(V:Nat→Value)(n T d sv iv:Nat)(zs cs:List Value)(hm:P.follows .mixedOrders=true)(hs:slotsB l.toArray=true)(hb:backB2 l.toArray=true)
    (hg:∀ (i:Nat) (o:Oper),l[i]? = some o→o.guard=none) (hln:l.length=n+2)
    (halloc:∃ o,l[n]? = some o∧o.op = .alloc T∧o.dst=some d) (hstore:∃ o,l[n+1]? = some o∧o.op = .store T (.tmp d) (.tmp sv)∧o.dst=none∧(∃ e,e∈o.after∧e.on=n∧Region.binds .any e=true)∧(∃ e,e∈o.after∧e.on=iv∧Region.binds .any e=true))
    (hiv:iv < n) (hdv:dstOf l.toArray iv=some sv) (hds:sv < a.tmps.size) (hdd:d < a.tmps.size) (hV:V iv = .agg cs.toArray)
    (hz:∃ i z,P.info? T=some i∧i.zero=some z∧z.cells.toList=zs) (hi:(P.info? T).map (·.size)=some cs.length) (hzl:zs.length=cs.length) (hone:cs.all (·.oneCell')=true)
    (hhead:∀ (listed:Array Bool) (w1:World) (i:Nat) (o:Oper),l[i]? = some o→i < n→(∀ e,e∈o.after→Region.binds .any e=true→listed.getD e.on false=true)→Ext w w1→
      ∀ (b:Act) (K:Act→World→Prop),(∀ d:Nat,missB l.toArray d=true→b.tmps[d]? = a.tmps[d]?)→(∀ j d,j < n→listed.getD j true=true→dstOf l.toArray j=some d→d < a.tmps.size→b.tmps[d]? = some (V j))→
      (∀ w',Ext w1 w'→K (b.put o.dst (V i)) w')→o.wp P b w1 K Q)
    (hend:∀ g w1,Ext w w1→w.heap.size≤g→Arr w1 g T cs→Q .normal (fillAllN l.toArray (boxV V n g) a l.length) w1):(Code.region id l.toArray true).wp P Q a w:=by
 refine wp_region_slots2 (boxV V n) (BoxR T n zs cs) 0 hm hs hb hg ?_ ?_ ?_
 · have h0:∀ k,k < l.length→(Array.replicate l.length false).getD k true=false:=fun k hk=>by simp[Array.getD,hk]
   exact⟨(Ext.refl _).drew,fun h=>(by rw[h0 n (by omega)]at h;cases h),fun h=>(by rw[h0 (n+1) (by omega)]at h;cases h)⟩
 · intro listed g w1 i o ho hun hdep hR b K E0 E1 hK;have hil:i < l.length:=(List.getElem?_eq_some_iff.1 ho).1
   by_cases hin:i < n
   · refine hhead listed w1 i o ho hin hdep hR.ext b K E0 (fun j d hj hl hd hds=>?_) (fun w' hx=>?_)
     · have h:=E1 j d (by omega) hl hd hds;rw[h];unfold boxV;rw[if_pos hj]
     · have h:=hK g w' (hR.keep hin hx) (fun _ _ _=>rfl);unfold boxV at h;rw[if_pos hin]at h;exact h
   · by_cases hie:i=n
     · subst hie;obtain⟨o2,ho2,hop,hdst⟩:=halloc;rw[ho]at ho2;injection ho2 with ho2
       subst ho2;obtain⟨ie,z,hie,hzz,hzl2⟩:=hz;have hlist:∀ k,k≠i→(listed.setIfInBounds i true).getD k true=listed.getD k true:=fun k hk=>getD_set_ne true (Ne.symm hk);have hnext:listed.getD (i+1) true=false:=by
        cases hq:listed.getD (i+1) true
        · rfl
        · have:=hR.st hq;rw[this]at hun;cases hun
       have hK2:=hK w1.heap.size (w1.alloc (.cells zs.toArray T)) ⟨hR.ext.alloc _,fun _=>⟨hR.ext.size,by
           rw[hlist _ (by omega),hnext];exact Arr.new w1 T zs⟩,fun h=>(by rw[hlist _ (by omega),hnext]at h;cases h)⟩ (fun j hj hl=>by
           have hne:j≠i:=fun e=>by subst e;rw[hl]at hun;cases hun
           unfold boxV;simp only[if_neg hne])
       have hbv:boxV V i w1.heap.size i = .pointer (some ⟨w1.heap.size,0,none⟩):=by unfold boxV;simp
       rw[hbv]at hK2;have hzc:z.cells=zs.toArray:=by rw[← hzl2]
       have hrun:(execOp b.eval o).run P w1 = .ok (.value (.pointer (some ⟨w1.heap.size,0,none⟩))) (w1.alloc (.cells zs.toArray T)):=by
        unfold execOp;simp only[hop];simp[Instr.alloc,zeroValue,typeInfo,hie,hzz,newVar,newRow,hzc]
       unfold Oper.wp;rw[hrun];exact hK2
     · have hie2:i=n+1:=by omega
       subst hie2;obtain⟨o2,ho2,hop,hdst,⟨e1,he1,hon1,hbd1⟩,⟨e2,he2,hon2,hbd2⟩⟩:=hstore;rw[ho]at ho2;injection ho2 with ho2
       subst ho2;have hl1:=getD_up (hon1 ▸ hdep e1 he1 hbd1);have hl2:=getD_up (hon2 ▸ hdep e2 he2 hbd2);obtain⟨q1,q2⟩:=hR.laid hl1;rw[hun]at q2;simp only[Bool.false_eq_true,if_false]at q2;obtain⟨oa,hoa,hopa,hdsta⟩:=halloc;have hda:dstOf l.toArray n=some d:=by simp[dstOf,hoa,hdsta]
       have t1:=E1 n d (by omega) hl1 hda hdd;have t2:=E1 iv sv (by omega) hl2 hdv hds;have bv1:boxV V n g n = .pointer (some ⟨g,0,none⟩):=by unfold boxV;simp
       have bv2:boxV V n g iv = .agg cs.toArray:=by unfold boxV;rw[if_pos hiv,hV]
       rw[bv1]at t1;rw[bv2]at t2;have hlist:∀ k,k≠n+1→(listed.setIfInBounds (n+1) true).getD k true=listed.getD k true:=fun k hk=>getD_set_ne true (Ne.symm hk);have hset:(listed.setIfInBounds (n+1) true).getD (n+1) true=true:=by
        by_cases h:n+1 < listed.size
        · simp[Array.getD,h]
        · simp[Array.getD,h]
       have hK2:=hK g (w1.setRow g cs.toArray) ⟨hR.ext.setRow q1 _,fun _=>⟨q1,by rw[hset];exact q2.setRow cs⟩,fun _=>by rw[hlist n (by omega)];exact hl1⟩ (fun _ _ _=>rfl);have bv3:boxV V n g (n+1)=undef:=by unfold boxV;rw[if_neg (by omega),if_neg (by omega)]
       rw[bv3]at hK2;exact wp_store_row T (.tmp d) (.tmp sv) hop g cs.toArray (by simp[Act.eval,Array.getD_eq_getD_getElem?,t1]) (by simp[Act.eval,Array.getD_eq_getD_getElem?,t2]) T zs.toArray q2 (by simpa using hi) (by simpa using hzl) (by simpa using hone) hK2
 · intro listed g w1 hall hR;rw[fill_done hall];obtain⟨q1,q2⟩:=hR.laid (hall n (by omega));rw[if_pos (hall (n+1) (by omega))]at q2;exact hend g w1 hR.ext q1 q2
theorem results_cell_row2{fn:Func}{p u:Tmp}{ty:TypeId}(h:fn.results = #[.cell p ty,.tmp u])(tmps:Array Value)(w:World)(g:Nat)(t:TypeId)(cs:Array Value)(fr:Nat × Nat)(d:TypeDesc)
    (hp:tmps.getD p undef = .pointer (some ⟨g,0,none⟩)) (hg:w.heap[g]? = some (.cells cs t fr))
    (hu:P.underlying ty=some d) (hd:(match d with | .struct _ | .array _ _=>true | _=>false)=true) (hi:(P.info? ty).map (·.size)=some cs.size):
    (results fn tmps).run P w = .ok (.tuple #[.agg cs,tmps.getD u undef]) w:=by
 rw[results_cell_tmp h];have hp':tmps[p]?.getD undef = .pointer (some ⟨g,0,none⟩):=by simpa using hp
 simp[hp',asAddr,run_loadVar_row w g t ty cs fr d hg hu hd hi]
end
end Go.Proofs.YtoecbicdahbccaaGreatDoor
