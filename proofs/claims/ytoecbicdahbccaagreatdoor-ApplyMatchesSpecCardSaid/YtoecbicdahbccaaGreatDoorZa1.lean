/- A part of the walk of the layer of apply: contracts and plain laws that a row's text leans on. -/
import Derived.Lib.Hide
import Derived.Shelf.SlSortCmp.NoneTotal
import Derived.Shelf.SlicesE.Clone
import Derived.StillTail
import Derived.Test.YtoecbicdahbccaaGreatDoorRows
import Derived.WalkLawsBesides
import Derived.WalkSpells
set_option maxRecDepth 100000
set_option maxHeartbeats 16000000
namespace Go.Proofs.YtoecbicdahbccaaGreatDoor
open Go Go.RowKit
section
variable {P:Program} {ops:Array Oper} {md:Region.Mode} {C:World→Prop}
def headQ(P:Program)(md:Region.Mode)(ops:Array Oper)(C:World→Prop)(n:Nat)(L:Array Bool→Act→Prop):Nat→Array Bool→Act→Prop
 | 0,listed,a=>L listed a
 | f+1,listed,a=>
   Region.ready md ops listed≠[]∧∀ i∈Region.ready md ops listed,i < n∧qOp P ops C i (headQ P md ops C n L f (listed.setIfInBounds i true)) a
theorem wpAny_of_headQ{n g:Nat}{L:Array Bool→Act→Prop}{Q':Exit→Act→World→Prop}(hL:∀ listed a w,C w→L listed a→wpAny P md ops Q' g listed a w):
    ∀ (f:Nat) (listed:Array Bool) (a:Act) (w:World),C w→headQ P md ops C n L f listed a→wpAny P md ops Q' (f+g) listed a w
 | 0,listed,a,w,hw,h=>by rw[Nat.zero_add];exact hL _ _ _ hw h
 | f+1,listed,a,w,hw,h=>by
   rw[show f+1+g=(f+g)+1 by omega];exact⟨fun h0=>absurd h0 h.1,fun i hi=>wpOp_of_qOp hw (fun a' w' hw' h'=>wpAny_of_headQ hL f _ a' w' hw' h') (h.2 i hi).2⟩
theorem headQ_first{n i:Nat}{oi:Oper}{v:Value}{L:Array Bool→Act→Prop}(hi:ops[i]? = some oi)(hsel:∀ (j:Nat) (o:Oper) cs b,ops[j]? = some o→o.op≠.select cs b)
    (hs:Region.sinkB md ops n=true) (hc:Region.chainB md ops n=true) (hn:n < ops.size) (hin:i < n)
    (hdone:∀ listed a,L listed a→∀ j∈Region.ready md ops listed,n≤j):
    ∀ (f:Nat) (listed:Array Bool) (a:Act),HeadInv md ops n listed→
      (∀ j oj,ops[j]? = some oj→j≠i→listed.getD j true=false→(∀ e∈oj.after,Region.binds md e=true→e.on≠i)→oi.apart ops oj=true)→
      i∈Region.ready md ops listed→YieldsIn P ops C oi v a→
      headQ P md ops C n L f (listed.setIfInBounds i true) (a.put oi.dst v)→headQ P md ops C n L (f+1) listed a:=by
 intro f
 induction f with
 | zero=>
   intro listed a inv _ hr hy H;refine⟨fun h=>(by rw[h]at hr;cases hr),fun j hj=>?_⟩;have hjn:j < n:=(Nat.lt_or_ge j n).resolve_right fun h=>absurd hj (tail_waits hs hc hn inv _ i rfl hin (mem_ready.1 hr).1 j h);refine⟨hjn,?_⟩
   by_cases hji:j=i
   · subst hji;exact hy.qOp hi H
   · have:=hdone _ _ H j (ready_mono hj hji);omega
 | succ f ih=>
   intro listed a inv hfree hr hy H;have hun:=(mem_ready.1 hr).1;refine⟨fun h=>(by rw[h]at hr;cases hr),fun j hj=>?_⟩;have hjn:j < n:=(Nat.lt_or_ge j n).resolve_right fun h=>absurd hj (tail_waits hs hc hn inv _ i rfl hin hun j h);refine⟨hjn,?_⟩
   by_cases hji:j=i
   · subst hji;exact hy.qOp hi H
   · have h1:=(H.2 j (ready_mono hj hji)).2;obtain⟨hjun,oj,hoj,hall⟩:=mem_ready.1 hj;have hnot:∀ e∈oj.after,Region.binds md e=true→e.on≠i:=fun e he hb heq=>by
      have h1:=hall e he hb;rw[heq,getD_both hun]at h1
      cases h1
     have h2:=qOp_put hoj (hfree j oj hoj hji hjun hnot) (fun cs b=>hsel i oi cs b hi) (fun cs b=>hsel j oj cs b hoj) hy h1;have hfree':∀ k ok,ops[k]? = some ok→k≠i→(listed.setIfInBounds j true).getD k true=false→
         (∀ e∈ok.after,Region.binds md e=true→e.on≠i)→oi.apart ops ok=true:=fun k ok hk hki hun hno=>by
      refine hfree k ok hk hki ?_ hno
      by_cases hjk:j=k
      · subst hjk;exact hjun
      · rw[getD_set_ne true hjk]at hun;exact hun
     refine qOp_mono (fun a' h3=>ih (listed.setIfInBounds j true) a' (inv.set hj hjn) hfree' (ready_mono hr (Ne.symm hji)) h3.1 ?_) h2;rw[Array.setIfInBounds_comm _ _ hji];exact h3.2
theorem headQ_lex{n g:Nat}{Lq:Act→Prop}(hsel:Region.noSelect ops=true)(hs:Region.sinkB md ops n=true)(hc:Region.chainB md ops n=true)(hn:n < ops.size):
    ∀ (l:List Oper) (k:Nat) (listed:Array Bool) (a:Act),(∀ j,j < l.length→l[j]? = ops[k+j]?)→k+l.length=n→HeadInv md ops n listed→
    Region.lexHead md ops g l.length k listed=true→wpQuiet P ops C Lq l a→
    headQ P md ops C n (fun listed' a'=>Region.seqB md ops g n listed'=true∧Lq a') l.length listed a
 | [],k,listed,a,_,hk,_,hB,h=>by
   obtain rfl:k=n:=by simpa using hk
   exact⟨by simpa[Region.lexHead]using hB,h⟩
 | o:: l,k,listed,a,hl,hk,inv,hB,h=>by
   have h0:ops[k]? = some o:=by simpa using (hl 0 (by simp)).symm
   simp only[List.length_cons,Region.lexHead,Bool.and_eq_true]at hB;obtain⟨⟨hr,hf⟩,hB'⟩:=hB;have hkn:k < n:=by simp only[List.length_cons]at hk;omega
   have hr':k∈Region.ready md ops listed:=by simpa using hr
   have hst:qOp P ops C k (wpQuiet P ops C Lq l) a:=by unfold qOp;simp only[h0];exact h
   obtain⟨v,hy,hK⟩:=yieldsIn_of_qOp h0 hst;exact headQ_first h0 (Region.noSelect_spec hsel) hs hc hn hkn (fun listed' a' hL=>seqB_ready hL.1) l.length listed a inv (Region.free_spec h0 hf) hr' hy
    (headQ_lex hsel hs hc hn l (k+1) _ _ (fun j hj=>by have:=hl (j+1) (by simp;omega);simpa[Nat.add_assoc,Nat.add_comm 1 j]using this) (by simp only[List.length_cons]at hk;omega) (inv.set hr' hkn) hB' hK)
theorem wp_region_head{id:Nat}{Q:Exit→Act→World→Prop}{a:Act}{w:World}{l:List Oper}(n:Nat)(hm:P.follows .mixedOrders=true)(hB:Region.lexTailB .any l.toArray n=true)(hC:C w.drew)
    (h:wpQuiet P l.toArray C (fun a'=>∀ w',C w'→wpList P l.toArray Q (l.drop n) a' w') (l.take n) a):(Code.region id l.toArray true).wp P Q a w:=by
 simp only[Region.lexTailB,Bool.and_eq_true,decide_eq_true_eq]at hB;obtain⟨⟨⟨⟨hsel,hn⟩,hs⟩,hc⟩,hlex⟩:=hB;have hn':n < l.length:=by simpa using hn
 have htl:(l.take n).length=n:=by simp;omega
 have hdl:(l.drop n).length=l.toArray.size - n:=by simp
 have inv0:HeadInv .any l.toArray n (Array.replicate l.toArray.size false):=
  ⟨by simp,fun j oj _ hl=>(by rw[getD_replicate_false]at hl;cases hl),fun t _ ht=>getD_in (by simpa using ht) (getD_replicate_false _ _)⟩
 have H:=headQ_lex (md:=.any) (g:=l.toArray.size - n) hsel hs hc hn (l.take n) 0 _ a (fun j hj=>by
  have hj':j < n:=by rw[htl]at hj;exact hj
  simp[hj']) (by simpa using htl) inv0 (by rw[htl];exact hlex) h
 refine wp_region_any hm ?_;have:=wpAny_of_headQ (Q':=Q) (g:=l.toArray.size - n) (fun listed a' w' hw' hL=>by
  have:=wpAny_of_seq (md:=.any) (Q':=Q) (l.drop n) n listed a' w' (fun j=>by simp[List.getElem?_drop]) (by rw[hdl];exact hL.1) (hL.2 _ hw')
  rwa [hdl]at this) _ _ _ w.drew hC H
 rw[htl,show n+(l.toArray.size - n)=l.toArray.size by omega]at this;exact this
end
def near(w:World)(n:Nat)(os:Array Obj):World:={w with heap:=w.heap++os,drawn:=n }
structure Near where
 n:Nat
 os:Array Obj
 deriving Inhabited
theorem near_drew(w:World):near w (w.drawn+1) #[]=w.drew:=by unfold near World.drew;rw[Array.append_empty]
theorem near_old(w:World)(n:Nat)(os:Array Obj)(b o:Nat)(h:b < w.heap.size):(near w n os).cell? ⟨b,o,none⟩=w.cell? ⟨b,o,none⟩:=by
 simp only[World.cell?,near,Array.getElem?_append,h,if_true]
theorem near_obj(w:World)(n:Nat)(os:Array Obj)(b:Nat)(h:b < w.heap.size):(near w n os).heap[b]? = w.heap[b]?:=by
 simp only[near,Array.getElem?_append,h,if_true]
theorem wp_region_near{P:Program}{id:Nat}{Q:Exit→Act→World→Prop}{a:Act}{w:World}{l:List Oper}(hm:P.follows .mixedOrders=true)(hB:Region.lexB .any l.toArray=true)
    (h:wpQuiet P l.toArray (fun w'=>∃ p:Near,w'=near w p.n p.os) (fun a'=>∀ w',(∃ p:Near,w'=near w p.n p.os)→Q .normal a' w') l a):(Code.region id l.toArray true).wp P Q a w:=
 wp_region_quiet (C:=fun w'=>∃ p:Near,w'=near w p.n p.os) hm hB ⟨⟨w.drawn+1,#[]⟩,(near_drew w).symm⟩ (by simpa using h)
theorem wp_region_near_tail{P:Program}{id:Nat}{Q:Exit→Act→World→Prop}{a:Act}{w:World}{l:List Oper}(n:Nat)(hm:P.follows .mixedOrders=true)(hB:Region.lexTailB .any l.toArray n=true)
    (h:wpQuiet P l.toArray (fun w'=>∃ p:Near,w'=near w p.n p.os) (fun a'=>∀ w',(∃ p:Near,w'=near w p.n p.os)→wpList P l.toArray Q (l.drop n) a' w') (l.take n) a):(Code.region id l.toArray true).wp P Q a w:=
 wp_region_head n hm hB ⟨⟨w.drawn+1,#[]⟩,(near_drew w).symm⟩ h
structure Ext (w w':World):Prop where
 below:Below w.heap.size w w'
theorem Ext.refl(w:World):Ext w w:=⟨Below.refl _ _⟩
theorem Ext.trans{a b c:World}(h:Ext a b)(k:Ext b c):Ext a c:=⟨h.below.trans (k.below.mono h.below.size)⟩
theorem Ext.drew{a w:World}(h:Ext a w):Ext a w.drew:=⟨h.below.drew⟩
theorem Ext.drewN{a w:World}(h:Ext a w)(n:Nat):Ext a (w.drewN n):=⟨⟨h.below.os,h.below.tape,h.below.output,h.below.size,h.below.block⟩⟩
theorem Ext.alloc{a w:World}(h:Ext a w)(o:Obj):Ext a (w.alloc o):=⟨h.below.alloc h.below.size o⟩
theorem Ext.setCell{a w:World}(h:Ext a w){p:Addr}(hp:a.heap.size≤p.block)(u:Value):Ext a (w.setCell p u):=⟨h.below.setCell hp u⟩
theorem Ext.grown{a w w':World}{row:Option Nat}(h:Ext a w)(hg:w.grownBy w' row)(hr:∀ k,row=some k→a.heap.size≤k):Ext a w':=⟨h.below.grown hg h.below.size hr⟩
theorem Ext.of_near{w w':World}(h:∃ p:Near,w'=near w p.n p.os):Ext w w':=by
 obtain⟨⟨n,os⟩,rfl⟩:=h;exact⟨⟨rfl,rfl,rfl,by simp[near],fun k hk=>near_obj w n os k hk⟩⟩
theorem Ext.near{w w':World}(h:Ext w w'):∃ p:Near,w'=Go.Proofs.YtoecbicdahbccaaGreatDoor.near w p.n p.os:=by
 refine⟨⟨w'.drawn,w'.heap.extract w.heap.size w'.heap.size⟩,?_⟩;have h1:w'.heap=w.heap++w'.heap.extract w.heap.size w'.heap.size:=by
  apply Array.ext_getElem?;intro k;rw[Array.getElem?_append]
  split
  · exact h.below.block k (by assumption)
  · have:=h.below.size;rw[Array.getElem?_extract]
    split
    · congr 1;omega
    · rw[Array.getElem?_eq_none];omega
 have h3:=h.below.os;have h4:=h.below.tape;have h5:=h.below.output
 cases w;cases w'
 simp only[Go.Proofs.YtoecbicdahbccaaGreatDoor.near]at *;subst h3 h4 h5;congr 1
theorem Ext.cell{w w':World}(h:Ext w w'){p:Addr}(hp:p.block < w.heap.size):w'.cell? p=w.cell? p:=h.below.cell hp
theorem Ext.box{w w':World}{cs:Array Value}{t:TypeId}{m:Nat × Nat}(h:Ext (w.alloc (.cells cs t m)) w')(i:Nat):w'.cell? ⟨w.heap.size,i,none⟩=cs[i]?:=by
 rw[h.cell (by simp)];exact cell_of_row _ _ _ _ _ _ (heap_alloc_new w _)
theorem Ext.look{w w':World}(h:Ext w w'):(∀ b o,b < w.heap.size→w'.cell? ⟨b,o,none⟩=w.cell? ⟨b,o,none⟩)∧(∀ b o,b < w.heap.size→w'.frozen? ⟨b,o,none⟩=w.frozen? ⟨b,o,none⟩)∧
    (∀ b,b < w.heap.size→b < w'.heap.size)∧(∀ b,b < w.heap.size→b≤w'.heap.size)∧(∀ b,b < w.heap.size→¬ (b=w'.heap.size))∧(∀ b,b < w.heap.size→¬ (w'.heap.size=b)):=
 ⟨fun b o k=>h.below.cell (p:=⟨b,o,none⟩) k,fun b o k=>h.below.frozen (p:=⟨b,o,none⟩) k,fun b k=>by have:=h.below.size;omega,fun b k=>by have:=h.below.size;omega,
   fun b k=>by have:=h.below.size;omega,fun b k=>by have:=h.below.size;omega⟩
theorem Ext.one{w w':World}(h:Ext w w'){b:Nat}(hb:b < w.heap.size):(∀ o,w'.cell? ⟨b,o,none⟩=w.cell? ⟨b,o,none⟩)∧(∀ o,w'.frozen? ⟨b,o,none⟩=w.frozen? ⟨b,o,none⟩)∧
    b < w'.heap.size∧b≤w'.heap.size∧¬ (b=w'.heap.size)∧¬ (w'.heap.size=b):=
 ⟨fun o=>h.look.1 b o hb,fun o=>h.look.2.1 b o hb,h.look.2.2.1 b hb,h.look.2.2.2.1 b hb,h.look.2.2.2.2.1 b hb,h.look.2.2.2.2.2 b hb⟩
theorem _root_.Go.World.size_setCell_(w:World)(p:Addr)(v:Value):(w.setCell p v).heap.size=w.heap.size:=by simp[World.setCell]
theorem _root_.Go.World.size_alloc_(w:World)(o:Obj):(w.alloc o).heap.size=w.heap.size+1:=by simp
theorem Ext.size{w w':World}(h:Ext w w'):w.heap.size≤w'.heap.size:=h.below.size
theorem Ext.un{w w':World}{o:Obj}(h:Ext (w.alloc o) w'):Ext w w':=((Ext.refl w).alloc o).trans h
theorem near_call{P:Program}{f:FuncId}{args:Array Value}{w:World}{n:Nat}{os:Array Obj}{v:Value}
    (h:Calls P f args (near w n os) fun e w'=>e = .returned v∧Ext (near w n os) w'):Calls P f args (near w n os) fun e w''=>e = .returned v∧∃ p:Near,w''=near w p.n p.os:=
 h.mono fun _ _ ⟨he,hx⟩=>⟨he,((Ext.of_near ⟨⟨n,os⟩,rfl⟩).trans hx).near⟩
abbrev strV(l:List UInt8):Value:=.string ⟨l.toArray⟩
end Go.Proofs.YtoecbicdahbccaaGreatDoor
namespace Go.Proofs.YtoecbicdahbccaaGreatDoor
open Go.Shelf
def Tryz.sortPt_ren:Go.Shelf.Ren:=⟨fun | 6=>122 | 15=>152 | 14=>151 | 28=>174 | 29=>175 | 20=>166 | 21=>167 | 22=>168 | 23=>169 | 24=>170 | 25=>171 | 26=>172 | 27=>173 | 46=>182 | 47=>183 | 48=>184 | 49=>185 | 50=>186 | 57=>188 | n=>n,fun | 22=>62 | 24=>23 | 25=>141 | 3=>3 | 39=>162 | 0=>0 | 53=>176 | 55=>178 | 4=>4 | 46=>170 | 45=>169 | 50=>45 | 5=>5 | 9=>9 | 66=>183 | 70=>187 | 76=>189 | 77=>105 | n=>n,fun | n=>n⟩
theorem Tryz.sortPt:Go.Proofs.SlLaysF0.n6 Tryz.prog Tryz.sortPt_ren:={
 mixed:=by kernel_rfl
 f6:=⟨Tryz.f122.name,by decide,Tryz.func122.trans (congrArg some (by kernel_rfl))⟩
 f14:=⟨Tryz.f151.name,by decide,Tryz.func151.trans (congrArg some (by kernel_rfl))⟩
 f15:=Tryz.func152.trans (congrArg some (by kernel_rfl))
 f20:=⟨Tryz.f166.name,by decide,Tryz.func166.trans (congrArg some (by kernel_rfl))⟩
 f21:=⟨Tryz.f167.name,by decide,Tryz.func167.trans (congrArg some (by kernel_rfl))⟩
 f22:=⟨Tryz.f168.name,by decide,Tryz.func168.trans (congrArg some (by kernel_rfl))⟩
 f23:=⟨Tryz.f169.name,by decide,Tryz.func169.trans (congrArg some (by kernel_rfl))⟩
 f24:=⟨Tryz.f170.name,by decide,Tryz.func170.trans (congrArg some (by kernel_rfl))⟩
 f25:=⟨Tryz.f171.name,by decide,Tryz.func171.trans (congrArg some (by kernel_rfl))⟩
 f26:=⟨Tryz.f172.name,by decide,Tryz.func172.trans (congrArg some (by kernel_rfl))⟩
 f27:=⟨Tryz.f173.name,by decide,Tryz.func173.trans (congrArg some (by kernel_rfl))⟩
 f28:=Tryz.func174.trans (congrArg some (by kernel_rfl))
 f29:=Tryz.func175.trans (congrArg some (by kernel_rfl))
 f46:=⟨Tryz.f182.name,by decide,Tryz.func182.trans (congrArg some (by kernel_rfl))⟩
 f47:=Tryz.func183.trans (congrArg some (by kernel_rfl))
 f48:=Tryz.func184.trans (congrArg some (by kernel_rfl))
 f49:=⟨Tryz.f185.name,by decide,Tryz.func185.trans (congrArg some (by kernel_rfl))⟩
 f50:=⟨Tryz.f186.name,by decide,Tryz.func186.trans (congrArg some (by kernel_rfl))⟩
 f57:=⟨Tryz.f188.name,by decide,Tryz.func188.trans (congrArg some (by kernel_rfl))⟩
 t0:=Tryz.underlying0
 a0:=Tryz.isAgg0
 z0:=Tryz.sizeOf0
 v0:=Tryz.zeroValue0
 t3:=Tryz.underlying3
 a3:=Tryz.isAgg3
 z3:=Tryz.sizeOf3
 v3:=Tryz.zeroValue3
 t4:=Tryz.underlying4
 a4:=Tryz.isAgg4
 z4:=Tryz.sizeOf4
 v4:=Tryz.zeroValue4
 t5:=Tryz.underlying5
 a5:=Tryz.isAgg5
 z5:=Tryz.sizeOf5
 v5:=Tryz.zeroValue5
 t9:=Tryz.underlying9
 a9:=Tryz.isAgg9
 z9:=Tryz.sizeOf9
 v9:=Tryz.zeroValue9
 t22:=Tryz.underlying62
 a22:=Tryz.isAgg62
 z22:=Tryz.sizeOf62
 v22:=Tryz.zeroValue62
 t25:=Tryz.underlying141
 a25:=Tryz.isAgg141
 z25:=Tryz.sizeOf141
 v25:=Tryz.zeroValue141
 t39:=Tryz.underlying162
 a39:=Tryz.isAgg162
 z39:=Tryz.sizeOf162
 v39:=Tryz.zeroValue162
 t45:=Tryz.underlying169
 a45:=Tryz.isAgg169
 z45:=Tryz.sizeOf169
 v45:=Tryz.zeroValue169
 t46:=Tryz.underlying170
 a46:=Tryz.isAgg170
 z46:=Tryz.sizeOf170
 v46:=Tryz.zeroValue170
 t50:=Tryz.underlying45
 a50:=Tryz.isAgg45
 z50:=Tryz.sizeOf45
 v50:=Tryz.zeroValue45
 t53:=Tryz.underlying176
 a53:=Tryz.isAgg176
 z53:=Tryz.sizeOf176
 v53:=Tryz.zeroValue176
 t55:=Tryz.underlying178
 a55:=Tryz.isAgg178
 z55:=Tryz.sizeOf178
 v55:=Tryz.zeroValue178
 t66:=Tryz.underlying183
 a66:=Tryz.isAgg183
 z66:=Tryz.sizeOf183
 v66:=Tryz.zeroValue183
 t70:=Tryz.underlying187
 a70:=Tryz.isAgg187
 z70:=Tryz.sizeOf187
 v70:=Tryz.zeroValue187
 t76:=Tryz.underlying189
 a76:=Tryz.isAgg189
 z76:=Tryz.sizeOf189
 v76:=Tryz.zeroValue189
 t77:=Tryz.underlying105
 a77:=Tryz.isAgg105
 z77:=Tryz.sizeOf105
 v77:=Tryz.zeroValue105 }
def Tryz.revCh_ren:Go.Shelf.Ren:=⟨fun | 35=>43 | n=>n,fun | 22=>38 | 23=>58 | 3=>3 | 4=>4 | 0=>0 | n=>n,fun | n=>n⟩
theorem Tryz.revCh:Go.Proofs.SlLaysE0.n35 Tryz.prog Tryz.revCh_ren:={
 mixed:=by kernel_rfl
 f35:=⟨Tryz.f43.name,by decide,Tryz.func43.trans (congrArg some (by kernel_rfl))⟩
 t0:=Tryz.underlying0
 a0:=Tryz.isAgg0
 z0:=Tryz.sizeOf0
 v0:=Tryz.zeroValue0
 t3:=Tryz.underlying3
 a3:=Tryz.isAgg3
 z3:=Tryz.sizeOf3
 v3:=Tryz.zeroValue3
 t4:=Tryz.underlying4
 a4:=Tryz.isAgg4
 z4:=Tryz.sizeOf4
 v4:=Tryz.zeroValue4
 t22:=Tryz.underlying38
 a22:=Tryz.isAgg38
 z22:=Tryz.sizeOf38
 v22:=Tryz.zeroValue38 }
def Tryz.insCh_ren:Go.Shelf.Ren:=⟨fun | 20=>133 | n=>n,fun | 24=>58 | 22=>38 | 3=>3 | 25=>86 | 4=>4 | 0=>0 | n=>n,fun | n=>n⟩
theorem Tryz.insCh:Go.Proofs.SlLaysF0.n20 Tryz.prog Tryz.insCh_ren:={
 mixed:=by kernel_rfl
 f20:=⟨Tryz.f133.name,by decide,Tryz.func133.trans (congrArg some (by kernel_rfl))⟩
 t0:=Tryz.underlying0
 a0:=Tryz.isAgg0
 z0:=Tryz.sizeOf0
 v0:=Tryz.zeroValue0
 t3:=Tryz.underlying3
 a3:=Tryz.isAgg3
 z3:=Tryz.sizeOf3
 v3:=Tryz.zeroValue3
 t4:=Tryz.underlying4
 a4:=Tryz.isAgg4
 z4:=Tryz.sizeOf4
 v4:=Tryz.zeroValue4
 t22:=Tryz.underlying38
 a22:=Tryz.isAgg38
 z22:=Tryz.sizeOf38
 v22:=Tryz.zeroValue38
 t25:=Tryz.underlying86
 a25:=Tryz.isAgg86
 z25:=Tryz.sizeOf86
 v25:=Tryz.zeroValue86 }
end Go.Proofs.YtoecbicdahbccaaGreatDoor
namespace Go.Proofs.YtoecbicdahbccaaGreatDoor
open Go.RowKit
theorem flatten_at{k:Nat} : ∀ (xs:List (List Value)),(∀ x,x∈xs→x.length=k)→∀ (i:Nat) (x:List Value),xs[i]? = some x→∀ j u,x[j]? = some u→xs.flatten[i * k+j]? = some u
 | [],_,i,x,hx,_,_,_=>by simp at hx
 | y:: ys,h,0,x,hx,j,u,hu=>by
   simp only[List.getElem?_cons_zero,Option.some.injEq]at hx;subst hx;have hj:j < y.length:=(List.getElem?_eq_some_iff.1 hu).1;rw[List.flatten_cons,Nat.zero_mul,Nat.zero_add,List.getElem?_append_left hj];exact hu
 | y:: ys,h,i+1,x,hx,j,u,hu=>by
   have hy:=h y (List.mem_cons_self ..);rw[List.flatten_cons,List.getElem?_append_right (by rw[hy,Nat.succ_mul];omega),hy,show(i+1) * k+j - k=i * k+j by rw[Nat.succ_mul];omega];exact flatten_at ys (fun z hz=>h z (List.mem_cons_of_mem _ hz)) i x (by simpa using hx) j u hu
theorem flatten_length{k:Nat} : ∀ (xs:List (List Value)),(∀ x,x∈xs→x.length=k)→xs.flatten.length=xs.length * k
 | [],_=>by simp
 | y:: ys,h=>by
   rw[List.flatten_cons,List.length_append,flatten_length ys (fun z hz=>h z (List.mem_cons_of_mem _ hz)),h y (List.mem_cons_self ..),List.length_cons,Nat.succ_mul];omega
def Rws(k:Nat)(xs:List (List Value)):Prop:=∀ x,x∈xs→∃ l:List Int,l.length=k∧x=l.map (Value.int .i64)
theorem Rws.len{k:Nat}{xs:List (List Value)}(h:Rws k xs):∀ x,x∈xs→x.length=k:=fun x hx=>by
 obtain⟨l,h1,rfl⟩:=h x hx;simpa using h1
theorem Rws.one{k:Nat}{xs:List (List Value)}(h:Rws k xs):∀ u,u∈xs.flatten→u.oneCell'=true:=fun u hu=>by
 obtain⟨x,hx,hu⟩:=List.mem_flatten.1 hu;obtain⟨l,_,rfl⟩:=h x hx;obtain⟨n,_,rfl⟩:=List.mem_map.1 hu;rfl
theorem Rws.sub{k:Nat}{xs ys:List (List Value)}(h:Rws k xs)(hs:∀ x,x∈ys→x∈xs):Rws k ys:=fun x hx=>h x (hs x hx)
theorem Rws.set{k:Nat}{xs:List (List Value)}(h:Rws k xs){i:Nat}{x:List Value}(hx:∃ l:List Int,l.length=k∧x=l.map (Value.int .i64)):Rws k (xs.set i x):=fun y hy=>by
 rcases List.mem_or_eq_of_mem_set hy with h1 | rfl
 · exact h y h1
 · exact hx
structure Sl (w:World) (B k:Nat) (A:Option Addr) (c:Nat) (xs:List (List Value)):Prop where
 le:xs.length≤c
 max:c≤maxLen
 rows:Rws k xs
 mem:0 < xs.length→∃ b off,A=some ⟨b,off,none⟩∧b < B∧∀ (j:Nat) (u:Value),xs.flatten[j]? = some u→w.cell? ⟨b,off+j,none⟩=some u
section
variable {w w':World} {B B' k c:Nat} {A:Option Addr} {xs:List (List Value)}
theorem Sl.keep(h:Sl w B k A c xs)(hk:∀ p:Addr,p.block < B→w'.cell? p=w.cell? p):Sl w' B k A c xs:=
 ⟨h.le,h.max,h.rows,fun hn=>by
   obtain⟨b,off,e,hb,hc⟩:=h.mem hn;exact⟨b,off,e,hb,fun j u hu=>(hk _ hb).trans (hc j u hu)⟩⟩
theorem Sl.more(h:Sl w B k A c xs)(hB:B≤B'):Sl w B' k A c xs:=
 ⟨h.le,h.max,h.rows,fun hn=>by
   obtain⟨b,off,e,hb,hc⟩:=h.mem hn;exact⟨b,off,e,by omega,hc⟩⟩
theorem Sl.below(h:Sl w B k A c xs)(hb:Below B w w'):Sl w' B k A c xs:=h.keep fun _ hp=>hb.cell hp
theorem Sl.drew(h:Sl w B k A c xs):Sl w.drew B k A c xs:=⟨h.le,h.max,h.rows,h.mem⟩
theorem Sl.drewN(h:Sl w B k A c xs)(n:Nat):Sl (w.drewN n) B k A c xs:=⟨h.le,h.max,h.rows,h.mem⟩
theorem Sl.alloc(h:Sl w B k A c xs)(hB:B≤w.heap.size)(o:Obj):Sl (w.alloc o) B k A c xs:=h.keep fun p hp=>World.cell?_alloc_lt w o p (by omega)
theorem Sl.setCell(h:Sl w B k A c xs){p:Addr}(hB:B≤p.block)(u:Value):Sl (w.setCell p u) B k A c xs:=
 h.keep fun q hq=>World.cell?_setCell_other w p q u (fun e=>by subst e;omega)
theorem Sl.ext(h:Sl w B k A c xs)(hx:Ext w w')(hB:B≤w.heap.size):Sl w' B k A c xs:=h.below (hx.below.mono hB)
theorem Sl.nil(w:World)(B k:Nat):Sl w B k none 0 []:=⟨by simp,by simp,fun _ h=>by simp at h,fun h=>absurd h (by simp)⟩
theorem Sl.len(h:Sl w B k A c xs):xs.length≤9223372036854775807:=by have h1:=h.le;have h2:=h.max;unfold maxLen at h2;omega
end
end Go.Proofs.YtoecbicdahbccaaGreatDoor
namespace Go.Proofs.YtoecbicdahbccaaGreatDoor
open Go Go.RowKit
section
variable {P:Program} {ops:Array Oper} {md:Region.Mode} {Q:Exit→Act→World→Prop}
def undone(ops:Array Oper)(listed:Array Bool):Nat:=(List.range ops.size).countP fun i=>!listed.getD i true
theorem ready_undone{listed:Array Bool}{i:Nat}(h:i∈Region.ready md ops listed):i < ops.size∧listed.getD i true=false:=by
 obtain⟨h1,oi,h2,_⟩:=mem_ready.1 h;exact⟨(Array.getElem?_eq_some_iff.1 h2).1,h1⟩
theorem undone_set{listed:Array Bool}{i:Nat}(hi:i < ops.size)(hl:listed.getD i true=false):undone ops (listed.setIfInBounds i true)+1=undone ops listed:=by
 unfold undone;have hil:i < listed.size:=by
  by_cases h:i < listed.size
  · exact h
  · simp[Array.getD,h]at hl
 have key:∀ (n:Nat),i < n→(List.range n).countP (fun j=>!(listed.setIfInBounds i true).getD j true)+1=(List.range n).countP (fun j=>!listed.getD j true):=by
  intro n
  induction n with
  | zero=>intro h;omega
  | succ n ih=>
    intro h;rw[List.range_succ,List.countP_append,List.countP_append]
    by_cases hin:i=n
    · subst hin;have e1:(List.range i).countP (fun j=>!(listed.setIfInBounds i true).getD j true)=(List.range i).countP (fun j=>!listed.getD j true):=by
       apply List.countP_congr;intro j hj;have:i≠j:=by have:=List.mem_range.1 hj;omega
       rw[getD_set_ne true this]
      rw[e1];have e2:(listed.setIfInBounds i true).getD i true=true:=by simp[Array.getD,hil]
      simp only[List.countP_cons,List.countP_nil,e2,hl];rfl
    · have:=ih (by omega);rw[← this];have e3:(listed.setIfInBounds i true).getD n true=listed.getD n true:=getD_set_ne true hin;simp only[List.countP_cons,List.countP_nil,e3];omega
 exact key ops.size hi
theorem undone_zero{listed:Array Bool}(h:undone ops listed=0):Region.ready md ops listed = []:=by
 rw[List.eq_nil_iff_forall_not_mem];intro i hi;obtain⟨h1,h2⟩:=ready_undone hi;unfold undone at h;rw[List.countP_eq_zero]at h;exact h i (List.mem_range.2 h1) (by simp[h2])
theorem wpAny_inv{I:Array Bool→Act→World→Prop}
    (hstep:∀ listed a w i,I listed a w→i∈Region.ready md ops listed→wpOp P ops Q i (I (listed.setIfInBounds i true)) a w)
    (hend:∀ listed a w,I listed a w→Region.ready md ops listed = []→Q .normal a w):
    ∀ (fuel:Nat) (listed:Array Bool) (a:Act) (w:World),undone ops listed≤fuel→I listed a w→wpAny P md ops Q fuel listed a w
 | 0,listed,a,w,hu,h=>by
   have hr:=undone_zero (md:=md) (by omega:undone ops listed=0);exact⟨hr,hend _ _ _ h hr⟩
 | fuel+1,listed,a,w,hu,h=>by
   refine⟨fun hr=>hend _ _ _ h hr,fun i hi=>?_⟩;obtain⟨h1,h2⟩:=ready_undone hi;have:=undone_set h1 h2;exact wpOp_mono (fun a' w' h'=>wpAny_inv hstep hend fuel _ a' w' (by omega) h') (hstep _ _ _ _ h hi)
theorem undone_le(listed:Array Bool):undone ops listed≤ops.size:=by
 unfold undone;have:=List.countP_le_length (p:=fun i=>!listed.getD i true) (l:=List.range ops.size);simpa using this
theorem wp_region_inv{id:Nat}{a:Act}{w:World}{l:List Oper}(I:Array Bool→Act→World→Prop)(hm:P.follows .mixedOrders=true)
    (h0:I (Array.replicate l.length false) a w.drew)
    (hstep:∀ listed a w i,I listed a w→i∈Region.ready .any l.toArray listed→wpOp P l.toArray Q i (I (listed.setIfInBounds i true)) a w)
    (hend:∀ listed a w,I listed a w→Region.ready .any l.toArray listed = []→Q .normal a w):(Code.region id l.toArray true).wp P Q a w:=by
 refine wp_region_any hm ?_;exact wpAny_inv hstep hend _ _ _ _ (undone_le _) (by simpa using h0)
end
theorem World_ask_drawn{α:Type} : ∀ (x:Ask α) (w:World),w.drawn≤(w.ask x).2.drawn
 | .done a,w=>by unfold World.ask;exact Nat.le_refl _
 | .ask what range k,w=>by
   unfold World.ask
   dsimp only
   split
   · exact World_ask_drawn (k 0) w
   · exact Nat.le_trans (Nat.le_succ _) (World_ask_drawn (k _) {w with drawn:=w.drawn+1 })
theorem World_sys_drawn(w:World)(c:Sys):w.drawn≤(w.sys c).2.drawn:=by
 have h:=World_ask_drawn (Kernel.perform c w.os) w;unfold World.sys;generalize w.ask (Kernel.perform c w.os)=r at h;obtain⟨⟨a,os⟩,w1⟩:=r
 cases a <;> first | exact Nat.le_refl _ | exact h
theorem World_viewStore_drawn{w w':World}{p:Program}{at_:Addr}{u:TypeId}{a:Addr}{v:Value}{b:Bool}{l:List Addr}(h:w.viewStore p at_ u a v b = .ok (w',l)):w'.drawn=w.drawn:=by
 unfold World.viewStore at h;simp only[bind,Except.bind,pure,Except.pure]at h
 repeat (split at h;any_goals (first | cases h;done | skip))
 all_goals (try cases h)
 all_goals (try rfl)
theorem Sem_run_drawn{α:Type}(p:Program):∀ (x:Sem α) (w w':World) (r:α),x.run p w = .ok r w'→w.drawn≤w'.drawn:=by
 intro x
 induction x with
 | pure a=>intro w w' r h;simp only[Sem.run,Result.ok.injEq]at h;obtain⟨_,rfl⟩:=h;exact Nat.le_refl _
 | load m a k ih=>
   intro w w' r h;simp only[Sem.run]at h
   split at h
   · exact ih _ _ _ _ h
   · split at h
     · exact ih _ _ _ _ h
     · cases h
 | store m a v k ih=>
   intro w w' r h;have key:∀ w1:World,w1.drawn=w.drawn→k.run p w1 = .ok r w'→w.drawn≤w'.drawn:=fun w1 h1 h2=>h1 ▸ ih _ _ _ h2
   cases v with
   | agg cs=>simp[Sem.run]at h
   | tuple cs=>simp[Sem.run]at h
   | _=>
     simp only[Sem.run]at h
     split at h
     · split at h
       · cases h
       · exact key (w.setCell a _) rfl h
     · split at h
       · rename_i hf
         refine key _ ?_ h;unfold World.farStore at hf
         split at hf
         · split at hf
           · rename_i hv
             injection hf with hf
             subst hf;exact World_viewStore_drawn hv
           · cases hf
         · cases hf
       · cases h
 | new o k ih=>intro w w' r h;simp only[Sem.run]at h;exact ih w.heap.size {w with heap:=w.heap.push o } w' r h
 | shape q k ih=>intro w w' r h;simp only[Sem.run]at h;exact ih _ _ _ _ h
 | freeze a n k ih=>
   intro w w' r h;simp only[Sem.run]at h;have h1:=ih _ _ _ h;have h2:(w.freeze a n).drawn=w.drawn:=by unfold World.freeze;(repeat' split) <;> rfl
   rw[h2]at h1;exact h1
 | frozen a k ih=>intro w w' r h;simp only[Sem.run]at h;exact ih _ _ _ _ h
 | getObj q k ih=>
   intro w w' r h;simp only[Sem.run]at h
   split at h
   · cases h
   · exact ih _ _ _ _ h
   · cases h
 | setObj q o k ih=>
   intro w w' r h;simp only[Sem.run]at h
   split at h
   · cases h
   · exact ih {w with heap:=w.heap.setIfInBounds q o } w' r h
   · cases h
 | choose q k ih=>
   intro w w' r h;simp only[Sem.run]at h
   split at h
   · exact ih _ _ _ _ h
   · have:=ih _ _ _ _ h;simp at this;omega
 | sys c k ih=>intro w w' r h;simp only[Sem.run]at h;exact Nat.le_trans (World_sys_drawn w c) (ih _ _ _ _ h)
 | program k ih=>intro w w' r h;simp only[Sem.run]at h;exact ih _ _ _ _ h
 | mark m k ih=>intro w w' r h;simp only[Sem.run]at h;exact ih _ _ _ h
 | halt h=>intro w w' r h;simp[Sem.run]at h
end Go.Proofs.YtoecbicdahbccaaGreatDoor
