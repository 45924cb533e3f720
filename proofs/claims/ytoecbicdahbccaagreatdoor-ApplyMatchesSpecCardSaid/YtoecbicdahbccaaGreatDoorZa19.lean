/- A part of the walk of the layer of apply: contracts and plain laws that a row's text leans on. -/
import Derived.Test.YtoecbicdahbccaaGreatDoorZa18
set_option maxRecDepth 100000
set_option maxHeartbeats 16000000
namespace Go.Proofs.YtoecbicdahbccaaGreatDoor
open Go Go.RowKit
structure FieldV (B:Nat) (D:TypeId) (rv rv':Value) (K:FuncId) (F:Pt→Option Int) (fbo:Option Nat) (Cnt:Nat→World→Prop):Prop where
 meth:∀ w,(method 308 D rv "Cell").run Tryz.prog w = .ok (K,rv') w
 enters:∀ args w,(callFunc K args).run Tryz.prog w = .ok (.enter K args) w
 low:∀ k,fbo=some k→k < B
 keep:∀ n w w',Cnt n w→(∀ b,b < B→w'.heap[b]? = w.heap[b]?)→Cnt n w'
 call:∀ q n w,B≤w.heap.size→n≤1000000→Cnt n w→Calls Tryz.prog K #[rv',.agg #[.int .i64 q.x,.int .i64 q.y,.int .i64 q.z]] w fun e w'=>(∃ u,e = .returned (.tuple #[.int .i64 u,.bool (F q).isSome])∧∀ v,F q=some v→u=v)∧Cnt (n+1) w'∧w.grownBy w' fbo
structure Fs where
 seen:List Pt
 l:List Pt
 bd:List Pt
def visitS(F:Pt→Option Int)(c:Int)(s:Fs)(q:Pt):Fs:=
 match F q with
 | some v=>if v=c then {s with l:=s.l++[q] } else {s with bd:=s.bd++[q] }
 | none=>s
def ptV(p:Pt):Value:=.agg #[.int .i64 p.x,.int .i64 p.y,.int .i64 p.z]
structure Bs where
 f:Nat
 at_:Nat
 bd:Nat
 cell:Nat
 wv:Nat
 walk:Nat
 map:Nat
 base:Nat
structure Bs.Ok (K:Bs) (B:Nat):Prop where
 nd:[K.f,K.at_,K.bd,K.cell,K.wv,K.walk,K.map].Nodup
 lo:∀ b,b∈[K.f,K.at_,K.bd,K.cell,K.wv,K.walk,K.map]→B≤b∧b < K.base
abbrev Prot:=List (Nat × TypeId × List Value)
structure FSx (B:Nat) (K:Bs) (Pr:Prot) (fv:Value) (a:Pt) (c:Int) (s:Fs) (lv bv:Value) (w:World):Prop where
 ok:K.Ok B
 af:Arr w K.f 36 [fv]
 aa:Arr w K.at_ 23 [.int .i64 a.x,.int .i64 a.y,.int .i64 a.z]
 ab:Arr w K.bd 62 [bv]
 ac:Arr w K.cell 3 [.int .i64 c]
 aw:Arr w K.wv 153 [.pointer (some ⟨K.walk,0,none⟩)]
 as_:Arr w K.walk 156 [.map (some K.map),lv]
 am:MapF ptV w K.map (fun q=>if q∈s.seen then some (.bool true)else none)
 rl:w.ownsRow K.base 23 3 lv s.l.length (rowsP s.l).flatten
 rb:w.ownsRow K.base 23 3 bv s.bd.length (rowsP s.bd).flatten
 apart:∀ b,lv.ownBlock=some b→bv.ownBlock≠some b
 hb:K.base≤w.heap.size
 pr:∀ b t vs,(b,t,vs)∈Pr→Arr w b t vs∧B≤b∧(b≠K.bd∧b≠K.walk∧b≠K.map)∧lv.ownBlock≠some b∧bv.ownBlock≠some b
section
variable {B:Nat} {K:Bs} {Pr:Prot} {fv:Value} {a:Pt} {c:Int} {s:Fs} {lv bv:Value} {w w':World}
theorem Bs.Ok.ne(h:K.Ok B):K.f≠K.bd∧K.f≠K.walk∧K.f≠K.map∧K.at_≠K.bd∧K.at_≠K.walk∧K.at_≠K.map∧K.bd≠K.cell∧K.bd≠K.wv∧K.bd≠K.walk∧K.bd≠K.map∧K.cell≠K.walk∧K.cell≠K.map∧K.wv≠K.walk∧K.wv≠K.map∧K.walk≠K.map:=by
 have:=h.nd;simp only[List.nodup_cons,List.mem_cons,List.not_mem_nil,or_false,not_or,List.nodup_nil,not_false_eq_true,and_true]at this;omega
theorem Bs.Ok.low(h:K.Ok B):(B≤K.f∧K.f < K.base)∧(B≤K.at_∧K.at_ < K.base)∧(B≤K.bd∧K.bd < K.base)∧(B≤K.cell∧K.cell < K.base)∧(B≤K.wv∧K.wv < K.base)∧(B≤K.walk∧K.walk < K.base)∧(B≤K.map∧K.map < K.base):=
 ⟨h.lo _ (by simp),h.lo _ (by simp),h.lo _ (by simp),h.lo _ (by simp),h.lo _ (by simp),h.lo _ (by simp),h.lo _ (by simp)⟩
theorem FSx.kept(h:FSx B K Pr fv a c s lv bv w){row:Option Nat}(hg:w.grownBy w' row)(hr:∀ k,row=some k→k < B):FSx B K Pr fv a c s lv bv w':=by
 obtain⟨l1,l2,l3,l4,l5,l6,l7⟩:=h.ok.low;have ne:∀ b,B≤b→row≠some b:=fun b hb e=>by have:=hr b e;omega
 refine⟨h.ok,h.af.kept hg (ne _ l1.1),h.aa.kept hg (ne _ l2.1),h.ab.kept hg (ne _ l3.1),h.ac.kept hg (ne _ l4.1),h.aw.kept hg (ne _ l5.1),h.as_.kept hg (ne _ l6.1),h.am.kept hg (ne _ l7.1),own_keep h.rl hg (fun b hb hv=>?_),own_keep h.rb hg (fun b hb hv=>?_),h.apart,Nat.le_trans h.hb hg.size,fun b t vs hm=>by
  obtain⟨p1,p2,p3⟩:=h.pr b t vs hm;exact⟨p1.kept hg (ne _ p2),p2,p3⟩⟩
 · have:=own_low h.rl b hv;have:=hr b hb;omega
 · have:=own_low h.rb b hv;have:=hr b hb;omega
theorem FSx.ext(h:FSx B K Pr fv a c s lv bv w)(hx:Ext w w'):FSx B K Pr fv a c s lv bv w':=h.kept (hx.by_ none) (fun k hk=>by cases hk)
theorem below_grown{g:Nat}(hg:w.grownBy w' (some g))(hb:B≤g)(hs:B≤w.heap.size):Below B w w':=
 ⟨hg.os,hg.tape,hg.output,hg.size,fun k hk=>hg.block k (by omega) (by simp;omega)⟩
theorem below_own{base n k:Nat}{e:TypeId}{v:Value}{zs:List Value}(h:w.ownsRow base e k v n zs)(hg:w.grownBy w' v.ownBlock)(hb:B≤base)(hs:B≤w.heap.size):Below B w w':=
 ⟨hg.os,hg.tape,hg.output,hg.size,fun k hk=>hg.block k (by omega) (fun e=>by have:=own_low h k e.symm;omega)⟩
theorem mem_snoc(q r:Pt)(l:List Pt):(r∈l++[q])↔r=q∨r∈l:=by simp[or_comm]
theorem FSx.see(h:FSx B K Pr fv a c s lv bv w){q:Pt}(hm:MapF ptV w' K.map (fun r=>if r=q then some (.bool true)else if r∈s.seen then some (.bool true)else none))(hg:w.grownBy w' (some K.map)):FSx B K Pr fv a c {s with seen:=s.seen++[q] } lv bv w'∧Below B w w':=by
 obtain⟨l1,l2,l3,l4,l5,l6,l7⟩:=h.ok.low;obtain⟨n1,n2,n3,n4,n5,n6,n7,n8,n9,n10,n11,n12,n13,n14,n15⟩:=h.ok.ne;have ne:∀ b,b≠K.map→some K.map≠some b:=fun b hb e=>hb (Option.some.inj e).symm;refine⟨⟨h.ok,h.af.kept hg (ne _ n3),h.aa.kept hg (ne _ n6),h.ab.kept hg (ne _ n10),h.ac.kept hg (ne _ n12),h.aw.kept hg (ne _ n14),h.as_.kept hg (ne _ n15),hm.cong fun r=>?_,own_keep h.rl hg (fun b hb hv=>?_),own_keep h.rb hg (fun b hb hv=>?_),h.apart,Nat.le_trans h.hb hg.size,fun b t vs hm=>by
  obtain⟨p1,p2,p3,p4⟩:=h.pr b t vs hm;exact⟨p1.kept hg (ne _ p3.2.2),p2,p3,p4⟩⟩,below_grown hg l7.1 (by have:=h.hb;omega)⟩
 · simp only[mem_snoc]
   by_cases hr:r=q <;> simp[hr]
 · have:=own_low h.rl b hv;injection hb with hb;omega
 · have:=own_low h.rb b hv;injection hb with hb;omega
theorem rowsP_snoc(l:List Pt)(q:Pt):(rowsP (l++[q])).flatten=(rowsP l).flatten++q.cells:=by simp[rowsP]
theorem FSx.push(h:FSx B K Pr fv a c s lv bv w){q:Pt}{v':Value}{w1:World}(hg:w.grownBy w1 lv.ownBlock)(ho:w1.ownsRow K.base 23 3 v' (s.l.length+1) ((rowsP s.l).flatten++q.cells))(hv:v'.ownBlock=lv.ownBlock∨∀ b,v'.ownBlock=some b→w.heap.size≤b):
    FSx B K Pr fv a c {s with l:=s.l++[q] } v' bv (w1.setCell ⟨K.walk,1,none⟩ v')∧Below B w (w1.setCell ⟨K.walk,1,none⟩ v'):=by
 obtain⟨l1,l2,l3,l4,l5,l6,l7⟩:=h.ok.low;obtain⟨n1,n2,n3,n4,n5,n6,n7,n8,n9,n10,n11,n12,n13,n14,n15⟩:=h.ok.ne;have ne:∀ b,b < K.base→lv.ownBlock≠some b:=fun b hb e=>by have:=own_low h.rl b e;omega
 have hs1:=hg.size;have hb0:=h.hb;refine⟨⟨h.ok,(h.af.kept hg (ne _ l1.2)).other n2 _,(h.aa.kept hg (ne _ l2.2)).other n5 _,(h.ab.kept hg (ne _ l3.2)).other n9 _,(h.ac.kept hg (ne _ l4.2)).other n11 _,(h.aw.kept hg (ne _ l5.2)).other n13 _,(h.as_.kept hg (ne _ l6.2)).set 1 v',(h.am.kept hg (ne _ l7.2)).setCell (fun e=>n15 e.symm) _,?_,?_,?_,by rw[World.size_setCell_];omega,fun b t vs hm=>by
  obtain⟨p1,p2,p3,p4,p5⟩:=h.pr b t vs hm;have hlt:=p1.lt;refine⟨(p1.kept hg p4).other p3.2.1 _,p2,p3,fun e=>?_,p5⟩
  rcases hv with hv | hv
  · exact p4 (hv ▸ e)
  · have:=hv b e;omega⟩,?_⟩
 · rw[rowsP_snoc,List.length_append];exact own_keep ho (grown_set (grown_refl w1 _) 1 v') (fun b hb hv=>by have:=own_low ho b hv;injection hb with hb;omega)
 · exact own_keep (own_keep h.rb hg (fun b hb hv=>h.apart b hb hv)) (grown_set (grown_refl w1 _) 1 v') (fun b hb hv=>by have:=own_low h.rb b hv;injection hb with hb;omega)
 · intro b hb hbv
   rcases hv with hv | hv
   · exact h.apart b (by rw[← hv];exact hb) hbv
   · have h1:=hv b hb;have h2:=(h.rb.lt b hbv).2;omega
 · exact(below_own h.rl hg (by omega) (by omega)).setCell l6.1 _
theorem FSx.edge(h:FSx B K Pr fv a c s lv bv w){q:Pt}{v':Value}{w1:World}(hg:w.grownBy w1 bv.ownBlock)(ho:w1.ownsRow K.base 23 3 v' (s.bd.length+1) ((rowsP s.bd).flatten++q.cells))(hv:v'.ownBlock=bv.ownBlock∨∀ b,v'.ownBlock=some b→w.heap.size≤b):
    FSx B K Pr fv a c {s with bd:=s.bd++[q] } lv v' (w1.setCell ⟨K.bd,0,none⟩ v')∧Below B w (w1.setCell ⟨K.bd,0,none⟩ v'):=by
 obtain⟨l1,l2,l3,l4,l5,l6,l7⟩:=h.ok.low;obtain⟨n1,n2,n3,n4,n5,n6,n7,n8,n9,n10,n11,n12,n13,n14,n15⟩:=h.ok.ne;have ne:∀ b,b < K.base→bv.ownBlock≠some b:=fun b hb e=>by have:=own_low h.rb b e;omega
 have hs1:=hg.size;have hb0:=h.hb;refine⟨⟨h.ok,(h.af.kept hg (ne _ l1.2)).other n1 _,(h.aa.kept hg (ne _ l2.2)).other n4 _,(h.ab.kept hg (ne _ l3.2)).set 0 v',(h.ac.kept hg (ne _ l4.2)).other (fun e=>n7 e.symm) _,(h.aw.kept hg (ne _ l5.2)).other (fun e=>n8 e.symm) _,(h.as_.kept hg (ne _ l6.2)).other (fun e=>n9 e.symm) _,(h.am.kept hg (ne _ l7.2)).setCell (fun e=>n10 e.symm) _,?_,?_,?_,by rw[World.size_setCell_];omega,fun b t vs hm=>by
  obtain⟨p1,p2,p3,p4,p5⟩:=h.pr b t vs hm;have hlt:=p1.lt;refine⟨(p1.kept hg p5).other p3.1 _,p2,p3,p4,fun e=>?_⟩
  rcases hv with hv | hv
  · exact p5 (hv ▸ e)
  · have:=hv b e;omega⟩,?_⟩
 · exact own_keep (own_keep h.rl hg (fun b hb hv=>h.apart b hv hb)) (grown_set (grown_refl w1 _) 0 v') (fun b hb hv=>by have:=own_low h.rl b hv;injection hb with hb;omega)
 · rw[rowsP_snoc,List.length_append];exact own_keep ho (grown_set (grown_refl w1 _) 0 v') (fun b hb hv=>by have:=own_low ho b hv;injection hb with hb;omega)
 · intro b hb hbv
   rcases hv with hv | hv
   · exact h.apart b hb (by rw[← hv];exact hbv)
   · have h1:=hv b hbv;have h2:=(h.rl.lt b hb).2;omega
 · exact(below_own h.rb hg (by omega) (by omega)).setCell l3.1 _
end
structure FW (B:Nat) (K:Bs) (Pr:Prot) (fv:Value) (a:Pt) (c:Int) (fbo:Option Nat) (Cnt:Nat→World→Prop) (w0:World) (s:Fs) (n:Nat) (w:World):Prop where
 st:∃ lv bv,FSx B K Pr fv a c s lv bv w
 cnt:Cnt n w
 grown:w0.grownBy w fbo
theorem grown_below{w0 w w':World}{fbo:Option Nat}(h:w0.grownBy w fbo)(hb:Below w0.heap.size w w'):w0.grownBy w' fbo:=
 ⟨hb.os.trans h.os,hb.tape.trans h.tape,hb.output.trans h.output,Nat.le_trans h.size hb.size,fun k hk hne=>(hb.block k hk).trans (h.block k hk hne)⟩
section
variable {K:Bs} {Pr:Prot} {fv:Value} {a:Pt} {c:Int} {fbo:Option Nat} {Cnt:Nat→World→Prop} {w0 w w':World} {s s':Fs} {n:Nat} {D:TypeId} {rv rv':Value} {G:FuncId} {F:Pt→Option Int}
theorem FW.step(V:FieldV w0.heap.size D rv rv' G F fbo Cnt)(h:FW w0.heap.size K Pr fv a c fbo Cnt w0 s n w){lv bv:Value}(hs:FSx w0.heap.size K Pr fv a c s' lv bv w')(hb:Below w0.heap.size w w'):FW w0.heap.size K Pr fv a c fbo Cnt w0 s' n w':=
 ⟨⟨lv,bv,hs⟩,V.keep n w w' h.cnt hb.block,grown_below h.grown hb⟩
theorem FW.ext(V:FieldV w0.heap.size D rv rv' G F fbo Cnt)(h:FW w0.heap.size K Pr fv a c fbo Cnt w0 s n w)(hx:Ext w w'):FW w0.heap.size K Pr fv a c fbo Cnt w0 s n w':=by
 obtain⟨lv,bv,hs⟩:=h.st;have hsz:=h.grown.size;exact h.step V (hs.ext hx) (hx.below.mono hsz)
theorem FW.asked(V:FieldV w0.heap.size D rv rv' G F fbo Cnt)(h:FW w0.heap.size K Pr fv a c fbo Cnt w0 s n w)(hc:Cnt (n+1) w')(hg:w.grownBy w' fbo):FW w0.heap.size K Pr fv a c fbo Cnt w0 s (n+1) w':=by
 obtain⟨lv,bv,hs⟩:=h.st;exact⟨⟨lv,bv,hs.kept hg V.low⟩,hc,grown_trans h.grown hg⟩
theorem FW.protect(V:FieldV w0.heap.size D rv rv' G F fbo Cnt)(h:FW w0.heap.size K Pr fv a c fbo Cnt w0 s n w)(t:TypeId)(vs:List Value):FW w0.heap.size K ((w.heap.size,t,vs):: Pr) fv a c fbo Cnt w0 s n (w.alloc (.cells vs.toArray t)):=by
 have h1:=h.ext V ((Ext.refl w).alloc (.cells vs.toArray t));obtain⟨lv,bv,hs⟩:=h.st;have hs1:=hs.ext ((Ext.refl w).alloc (.cells vs.toArray t));obtain⟨l1,l2,l3,l4,l5,l6,l7⟩:=hs.ok.low;have hb:=hs.hb;refine⟨⟨lv,bv,⟨hs1.ok,hs1.af,hs1.aa,hs1.ab,hs1.ac,hs1.aw,hs1.as_,hs1.am,hs1.rl,hs1.rb,hs1.apart,hs1.hb,fun b t' vs' hm=>?_⟩⟩,h1.cnt,h1.grown⟩
 rcases List.mem_cons.1 hm with e | hm
 · injection e with e1 e2
   injection e2 with e2 e3
   subst e1 e2 e3;exact⟨Arr.new w _ _,by omega,by omega,fun e=>by have:=(hs.rl.lt _ e).2;omega,fun e=>by have:=(hs.rb.lt _ e).2;omega⟩
 · exact hs1.pr b t' vs' hm
theorem FW.drop{x:Nat × TypeId × List Value}(h:FW w0.heap.size K (x:: Pr) fv a c fbo Cnt w0 s n w):FW w0.heap.size K Pr fv a c fbo Cnt w0 s n w:=by
 obtain⟨lv,bv,hs⟩:=h.st;exact⟨⟨lv,bv,⟨hs.ok,hs.af,hs.aa,hs.ab,hs.ac,hs.aw,hs.as_,hs.am,hs.rl,hs.rb,hs.apart,hs.hb,fun b t vs hm=>hs.pr b t vs (List.mem_cons_of_mem _ hm)⟩⟩,h.cnt,h.grown⟩
theorem FW.prot{b:Nat}{t:TypeId}{vs:List Value}(h:FW w0.heap.size K Pr fv a c fbo Cnt w0 s n w)(hm:(b,t,vs)∈Pr):Arr w b t vs:=by
 obtain⟨lv,bv,hs⟩:=h.st;exact(hs.pr b t vs hm).1
end
end Go.Proofs.YtoecbicdahbccaaGreatDoor
namespace Go.Proofs.YtoecbicdahbccaaGreatDoor
open Go Go.RowKit Go.Sort
instance:Inhabited Pt:=⟨⟨0,0,0⟩⟩
theorem Or_three(a b c:Int)(g:Nat)(w:World)(h0:w.cell? ⟨g,0,none⟩=some (.int .i64 a))(h1:w.cell? ⟨g,1,none⟩=some (.int .i64 b))(h2:w.cell? ⟨g,2,none⟩=some (.int .i64 c)):
    Calls Tryz.prog 95 #[.slice (some ⟨g,0,none⟩) 3 3] w fun e w'=>e = .returned (.int .i64 (orI a (orI b c)))∧w=w':=by
 go_enter Tryz.func95,Tryz.ntmps95
 go_wp2
 go_loop [8] (fun i=>∃ k:Nat,k≤3∧i = .int .i64 k∧(0 < k→a=0)∧(1 < k→b=0)∧(2 < k→c=0)) (fun i=>3 - (intOf i).toNat)
 case atStart=>exact⟨0,by omega,rfl,by omega,by omega,by omega⟩
 case round=>
  obtain⟨k,hk,rfl,g0,g1,g2⟩:=hrel;obtain rfl | rfl | rfl | rfl:k=0∨k=1∨k=2∨k=3:=by omega
  · by_cases ha:a=0
    · subst ha;go_wp2
      go_round
      case rel=>exact⟨1,by omega,rfl,fun _=>trivial,by omega,by omega⟩
      case measure=>simp[intOf]
    · have hb:(a != 0)=true:=by simpa using ha
      go_wp2
      go_ret
      exact⟨ret_int (by unfold orI;rw[if_neg ha]),rfl⟩
  · obtain rfl:=g0 (by omega)
    by_cases ha:b=0
    · subst ha;go_wp2
      go_round
      case rel=>exact⟨2,by omega,rfl,fun _=>trivial,fun _=>trivial,by omega⟩
      case measure=>simp[intOf]
    · have hb:(b != 0)=true:=by simpa using ha
      go_wp2
      go_ret
      exact⟨ret_int (by unfold orI;simp[ha]),rfl⟩
  · obtain rfl:=g0 (by omega);obtain rfl:=g1 (by omega)
    by_cases ha:c=0
    · subst ha;go_wp2
      go_round
      case rel=>exact⟨3,by omega,rfl,fun _=>trivial,fun _=>trivial,fun _=>trivial⟩
      case measure=>simp[intOf]
    · have hb:(c != 0)=true:=by simpa using ha
      go_wp2
      go_ret
      exact⟨ret_int (by unfold orI;simp),rfl⟩
  · go_wp2
    go_ret
    exact⟨ret_int (by have h0:=g0 (by omega);have h1:=g1 (by omega);have h2:=g2 (by omega);subst h0 h1 h2;rfl),rfl⟩
def cmpP(x y:Pt):Int:=orI (cmpI x.z y.z) (orI (cmpI x.y y.y) (cmpI x.x y.x))
theorem compareP_any(x y:Pt)(w:World):
    Calls Tryz.prog 123 #[.agg #[.int .i64 x.x,.int .i64 x.y,.int .i64 x.z],.agg #[.int .i64 y.x,.int .i64 y.y,.int .i64 y.z]] w fun e w'=>e = .returned (.int .i64 (cmpP x y))∧∃ q os,w'=grow (w.drewN q) os:=by
 have hm:=mixed;have hG:=nearG_old
 go_enter Tryz.func123,Tryz.ntmps123
 go_wp2
 refine wp_region_nearG_tail 15 (by assumption) (by kernel_rfl) ?_;simp only[List.take_succ_cons,List.take_zero,List.drop_succ_cons,List.drop_zero]
 repeat (go_big_quiet_step ((go_at_call 96;exact nearG_same (Compare_any _ _ _))))
 refine wpQuiet_nil ?_;intro w1 hw1;obtain⟨⟨n,os⟩,hw1⟩:=hw1;have HW1:=Lib.hid hw1;clear hw1
 go_wp2_with (go_at_call 95;refine(Or_three (cmpI x.z y.z) (cmpI x.y y.y) (cmpI x.x y.x) _ _ (by simp[go_sem]) (by simp[go_sem]) (by simp[go_sem])).mono ?_;rintro e w' ⟨rfl,rfl⟩)
 go_ret
 refine⟨rfl,?_⟩;rw[HW1.out];obtain⟨q,os',e⟩:=nearG_alloc ((w.alloc (.cells #[.int .i64 x.x,.int .i64 x.y,.int .i64 x.z] 23)).alloc (.cells #[.int .i64 y.x,.int .i64 y.y,.int .i64 y.z] 23)) n os (.cells #[.int .i64 (cmpI x.z y.z),.int .i64 (cmpI x.y y.y),.int .i64 (cmpI x.x y.x)] 3);obtain⟨q2,os2,e2⟩:=grown_alloc2 w (.cells #[.int .i64 x.x,.int .i64 x.y,.int .i64 x.z] 23) (.cells #[.int .i64 y.x,.int .i64 y.y,.int .i64 y.z] 23) q os';exact⟨q2,os2,e.trans e2⟩
theorem cmpP_lt(x y:Pt):ltOf cmpP x y=befP x y:=by
 unfold ltOf;rw[Bool.eq_iff_iff,decide_eq_true_eq,befP_iff];unfold cmpP orI cmpI;constructor
 · intro h
   repeat' split at h
   all_goals omega
 · intro h
   repeat' split
   all_goals omega
theorem swoP:SWO (ltOf cmpP) where
 irrefl x:=by rw[cmpP_lt,befP_irr]
 trans x y z h k:=by rw[cmpP_lt]at *;exact befP_trans h k
 ntrans x y z h k:=by
  rw[cmpP_lt]at *;rw[Bool.eq_false_iff]at *;intro g;rw[ne_eq,befP_iff]at *;omega
def sortL(l:List Pt):List Pt:=l.mergeSort fun x y=>!befP y x
theorem sortL_length(l:List Pt):(sortL l).length=l.length:=List.length_mergeSort ..
theorem sortL_perm(l:List Pt):(sortL l).Perm l:=List.mergeSort_perm ..
theorem sortL_mem(l:List Pt)(q:Pt):q∈sortL l↔q∈l:=(sortL_perm l).mem_iff
theorem sortL_le(l:List Pt):(sortL l).Pairwise fun x y=>befP y x=false:=by
 have h:=List.pairwise_mergeSort (le:=fun x y=>!befP y x) (fun a b c h k=>by
  simp only[Bool.not_eq_true',Bool.eq_false_iff]at *;intro g;rw[ne_eq,befP_iff]at *;omega) (fun a b=>by
  cases h:befP b a
  · simp
  · simp[befP_asymm h]) l
 exact h.imp fun h=>by simpa using h
theorem sortL_sort{l:List Pt}(h:l.Nodup):SortP (sortL l):=by
 have hn:(sortL l).Nodup:=(sortL_perm l).nodup_iff.2 h;unfold SortP;refine(sortL_le l).imp₂ ?_ hn;intro x y h k;exact befP_total h (fun e=>k e.symm)
theorem SortPt_any(l:List Pt)(v:Value)(base:Nat)(w:World)(h:w.ownsRow base 23 3 v l.length (rowsP l).flatten)(hb:l.length≤100000):
    Calls Tryz.prog 122 #[v,.func (.func 123) #[] #[]] w fun e w'=>e = .returned (.tuple #[])∧w'.ownsRow base 23 3 v l.length (rowsP (sortL l)).flatten∧w.grownBy w' v.ownBlock:=by
 rcases h.2 with⟨rfl,h0⟩ | ⟨g,cap,cur,rfl,hg,hgg,_⟩
 · have hl:l = []:=List.eq_nil_of_length_eq_zero h0;subst hl;have hcon:=AnyF.slices_SortFunc_none {Tryz.sortPt with } none 0 (.func (.func 123) #[] #[]) w;exact hcon.mono fun e w' ⟨he,hw⟩=>⟨he,by subst hw;simpa[sortL]using h,by subst hw;exact grown_refl _ _⟩
 · have eg:∀ args w,(callFunc 123 args).run Tryz.prog w = .ok (.enter 123 args) w:=fun _ _=>by kernel_rfl
   have hcmp:CmpLays Tryz.prog 123 #[] Pt.cells 3 cmpP g 0 l.toArray.size w:=fun m os dk hs x y=>compareP_any x y _;have hsz:l.toArray.size < 4611686018427387904:=by simp;omega
   have hcon:=AnyQ.slices_SortFunc_total Tryz.sortPt 3 Tryz.isAgg23 Tryz.sizeOf23 Pt.cells (fun _=>rfl) (fun x u hu=>by simp[Pt.cells]at hu;rcases hu with rfl | rfl | rfl <;> rfl) cmpP swoP 123 #[] g 0 cap l.toArray w eg hcmp (holds_of_own (enc:=Pt.cells) (fun _=>rfl) h rfl) ((Array.getElem?_eq_some_iff.1 hgg).1) hsz (fun x y h1 h2=>by
    rw[cmpP_lt]at h1 h2;apply Classical.byContradiction;intro hne;rw[befP_total h1 hne]at h2
    cases h2)
   refine hcon.mono fun e w' ⟨he,n,os,hw⟩=>?_;have hsl:(l.toArray.toList.mergeSort fun x y=>!(ltOf cmpP) y x)=sortL l:=by
    unfold sortL;simp only[cmpP_lt]
   rw[hsl]at hw;obtain⟨r1,r2⟩:=own_put (enc:=Pt.cells) (m:=n) (os:=os) (d':=sortL l) (fun _=>rfl) h rfl (sortL_length l);rw[hw];exact⟨he,r1,r2⟩
end Go.Proofs.YtoecbicdahbccaaGreatDoor
namespace Go.Proofs.YtoecbicdahbccaaGreatDoor
open Go Go.RowKit
def ballQ(a:Pt)(n:Int)(p:Pt):Bool:=isS n && decide (4 * ((subP p a).x * (subP p a).x+(subP p a).y * (subP p a).y+(subP p a).z * (subP p a).z)≤n * n)
theorem sq_rng{a:Int}(h:-40000≤a∧a≤40000):0≤a * a∧a * a≤1600000000:=by
 have h1:0≤a * a:=by
  rcases Int.le_total 0 a with h2 | h2
  · exact Int.mul_nonneg h2 h2
  · exact Int.mul_nonneg_of_nonpos_of_nonpos h2 h2
 refine⟨h1,?_⟩
 rcases Int.le_total 0 a with h2 | h2
 · have h3:=Int.mul_le_mul h.2 h.2 h2 (by decide);omega
 · have h3:-a * -a≤40000 * 40000:=Int.mul_le_mul (by omega) (by omega) (by omega) (by omega);rw[Int.neg_mul_neg]at h3;omega
theorem sq_le{a n:Int}(hn:0≤n)(h:4 * (a * a)≤n * n):-(n / 2)≤a∧a≤n / 2:=by
 have key:∀ b:Int,0≤b→4 * (b * b)≤n * n→b≤n / 2:=by
  intro b hb h1;refine Decidable.byContradiction fun h2=>?_;have h3:n+1≤2 * b:=by omega
  have h4:=Int.mul_le_mul h3 h3 (by omega) (by omega);have e1:2 * b * (2 * b)=4 * (b * b):=by rw[Int.mul_assoc,Int.mul_left_comm b 2 b,← Int.mul_assoc];rfl
  have e2:(n+1) * (n+1)=n * n+2 * n+1:=by rw[Int.add_mul,Int.mul_add];omega
  rw[e1,e2]at h4;omega
 rcases Int.le_total 0 a with h2 | h2
 · have:=key a h2 h;omega
 · have:=key (-a) (by omega) (by rw[Int.neg_mul_neg];exact h);omega
def smlD(p:Pt):Prop:=(-40000≤p.x∧p.x≤40000)∧(-40000≤p.y∧p.y≤40000)∧(-40000≤p.z∧p.z≤40000)
def tinyP(p:Pt):Prop:=(0≤p.x∧p.x≤16384)∧(0≤p.y∧p.y≤16384)∧(0≤p.z∧p.z≤16384)
theorem subP_sml{a p:Pt}(ha:tinyP a)(hp:tinyP p):smlD (subP p a):=by
 unfold tinyP at *;simp only[smlD,subP,wrap64];omega
theorem refAt_any(b:Bx)(i V sx sy sz:Nat)(w:World)(hV:volP b=V)(hi:i < V)(hS:sizeP b=⟨sx,sy,sz⟩)(hx:0 < sx)(hy0:0 < sy)(hxx:sx≤4194304)(hyy:sy≤4194304)(hii:i≤4294967296):
    Calls Tryz.prog 87 #[.agg #[.int .i64 b.lo.x,.int .i64 b.lo.y,.int .i64 b.lo.z,.int .i64 b.hi.x,.int .i64 b.hi.y,.int .i64 b.hi.z],.int .i64 i] w fun e w'=>e = .returned (.tuple #[.agg #[.int .i64 (addP b.lo ⟨(i:Int) % sx,(i:Int) / sx % sy,(i:Int) / sx / sy⟩).x,.int .i64 (addP b.lo ⟨(i:Int) % sx,(i:Int) / sx % sy,(i:Int) / sx / sy⟩).y,.int .i64 (addP b.lo ⟨(i:Int) % sx,(i:Int) / sx % sy,(i:Int) / sx / sy⟩).z],.bool true])∧Ext w w':=by
 have hm:=mixed;have hG:=near_old;have HVol:=Lib.hid (fun w'=>refVolume_any b w');have HZ:=Lib.hid (fun w'=>refSize_any b w');rw[hV]at HVol;rw[hS]at HZ;have HA:=Lib.hid (fun w'=>refAdd_any b.lo ⟨(i:Int) % sx,(i:Int) / sx % sy,(i:Int) / sx / sy⟩ w');generalize hd:addP b.lo ⟨(i:Int) % sx,(i:Int) / sx % sy,(i:Int) / sx / sy⟩=d at HA;clear hV hS hd;have m0:(decide ((i:Int) < 0))=false:=by simp
 have m1:(decide (V≤i))=false:=by simp;omega
 have n1:0≤(i:Int) / sx:=Int.ediv_nonneg (by omega) (by omega);have n2:(i:Int) / sx≤i:=Int.ediv_le_self _ (by omega);have z1:((sx:Int) == 0)=false:=by simp;omega
 have z2:((sy:Int) == 0)=false:=by simp;omega
 clear hi
 go_enter Tryz.func87,Tryz.ntmps87
 go_upto_region 1 with fail
 have B0:=Arr.new w 25 [.int .i64 b.lo.x,.int .i64 b.lo.y,.int .i64 b.lo.z,.int .i64 b.hi.x,.int .i64 b.hi.y,.int .i64 b.hi.z];have HB0:=Lib.hid (B0.alloc (.cells #[.int .i64 0,.int .i64 0,.int .i64 0] 23));clear B0
 go_wp2_with (first | (refine ldB 25 2 HB0.out Tryz.underlying25 ?_) | (refine ldB 25 2 (HB0.out.alloc _) Tryz.underlying25 ?_) | (refine ldB 25 2 ((HB0.out.alloc _).alloc _) Tryz.underlying25 ?_) | (go_at_call 62;refine(HVol.out _).mono ?_;rintro e wx ⟨rfl,xx⟩;obtain⟨xc,xf,xl,xe,xn,xm⟩:=xx.look;have xz:=xx.size;(try simp only[World.size_alloc_]at xz);(try (have qh:=xx.one (b:=w.heap.size) (by(try simp only[World.size_alloc_]);omega);obtain⟨qc,qf,ql,qe,qn,qm⟩:=qh));(try (have qh:=xx.one (b:=w.heap.size+1) (by(try simp only[World.size_alloc_]);omega);obtain⟨qc,qf,ql,qe,qn,qm⟩:=qh));(try (have qh:=xx.one (b:=w.heap.size+1+1) (by(try simp only[World.size_alloc_]);omega);obtain⟨qc,qf,ql,qe,qn,qm⟩:=qh));(try (have qh:=xx.one (b:=w.heap.size+1+1+1) (by(try simp only[World.size_alloc_]);omega);obtain⟨qc,qf,ql,qe,qn,qm⟩:=qh))) | (go_at_call 92;refine(HZ.out _).mono ?_;rintro e wx ⟨rfl,xx⟩;obtain⟨xc,xf,xl,xe,xn,xm⟩:=xx.look;have xz:=xx.size;(try simp only[World.size_alloc_,World.size_setCell_]at xz);(try (have qh:=xx.one (b:=w.heap.size) (by(try simp only[World.size_alloc_,World.size_setCell_]);omega);obtain⟨qc,qf,ql,qe,qn,qm⟩:=qh));(try (have qh:=xx.one (b:=w.heap.size+1) (by(try simp only[World.size_alloc_,World.size_setCell_]);omega);obtain⟨qc,qf,ql,qe,qn,qm⟩:=qh));(try (have qh:=xx.one (b:=w.heap.size+1+1) (by(try simp only[World.size_alloc_,World.size_setCell_]);omega);obtain⟨qc,qf,ql,qe,qn,qm⟩:=qh));(try (have qh:=xx.one (b:=w.heap.size+1+1+1) (by(try simp only[World.size_alloc_,World.size_setCell_]);omega);obtain⟨qc,qf,ql,qe,qn,qm⟩:=qh))))
 refine wp_region_near_tail 22 (by assumption) (by kernel_rfl) ?_;simp only[List.take_succ_cons,List.take_zero,List.drop_succ_cons,List.drop_zero]
 repeat (go_big_quiet_step ((go_at_call 55;exact near_call (HA.out _))))
 refine wpQuiet_nil ?_;intro w1 hw1;have hy:=Ext.of_near hw1;clear hw1;obtain⟨xc,xf,xl,xe,xn,xm⟩:=hy.look;go_wp2
 refine bodyPost_ret (v:=.tuple #[.agg #[.int .i64 d.x,.int .i64 d.y,.int .i64 d.z],.bool true]) ?_ rfl ?_
 · simp (maxDischargeDepth:=9) only [results,Tryz.results87]
   first
    | (go_simp;done)
    | (go_simp;simp;done)
    | (simp (maxDischargeDepth:=9) [go_sem, *];done)
    | (simp (maxDischargeDepth:=9) [go_sem, *];simp)
 · exact⟨rfl,byX⟩
end Go.Proofs.YtoecbicdahbccaaGreatDoor
namespace Go.Proofs.YtoecbicdahbccaaGreatDoor
open Go Go.Shelf Go.RowKit Go.Lib Go.Sort
structure StC (P:Program) (k:Nat):Prop where
 mixed:P.follows .mixedOrders=true
 t0:P.underlying 0=some (.tuple #[])
 v0:∀ w,(zeroValue 0).run P w = .ok (Value.tuple #[]) w
 t3:P.underlying 3=some (.int .i64)
 a3:∀ w,(isAgg 3).run P w = .ok false w
 z3:∀ w,(Go.sizeOf 3).run P w = .ok 1 w
 v3:∀ w,(zeroValue 3).run P w = .ok (Value.int .i64 0) w
 t4:P.underlying 4=some (.bool)
 a4:∀ w,(isAgg 4).run P w = .ok false w
 z4:∀ w,(Go.sizeOf 4).run P w = .ok 1 w
 v4:∀ w,(zeroValue 4).run P w = .ok (Value.bool false) w
 t38:P.underlying 38=some (.slice 58)
 a38:∀ w,(isAgg 38).run P w = .ok false w
 z38:∀ w,(Go.sizeOf 38).run P w = .ok 1 w
 v38:∀ w,(zeroValue 38).run P w = .ok (Value.slice none 0 0) w
 t86:P.underlying 86=some (.func #[58,58] #[3] false)
 a86:∀ w,(isAgg 86).run P w = .ok false w
 z86:∀ w,(Go.sizeOf 86).run P w = .ok 1 w
 v86:∀ w,(zeroValue 86).run P w = .ok (Value.nilFunc) w
 t162:P.underlying 162=some (.int .u64)
 a162:∀ w,(isAgg 162).run P w = .ok false w
 z162:∀ w,(Go.sizeOf 162).run P w = .ok 1 w
 v162:∀ w,(zeroValue 162).run P w = .ok (Value.int .u64 0) w
 aE:∀ w,(isAgg 58).run P w = .ok true w
 zE:∀ w,(Go.sizeOf 58).run P w = .ok k w
 swf:P.funcs[181]? = some Tryz.f181
 eswf:∀ args w,(callFunc 181 args).run P w = .ok (.enter 181 args) w
 rof:P.funcs[159]? = some Tryz.f159
 erof:∀ args w,(callFunc 159 args).run P w = .ok (.enter 159 args) w
 syf:P.funcs[134]? = some Tryz.f134
 esyf:∀ args w,(callFunc 134 args).run P w = .ok (.enter 134 args) w
 inf:P.funcs[133]? = some Tryz.f133
 einf:∀ args w,(callFunc 133 args).run P w = .ok (.enter 133 args) w
 stf:P.funcs[94]? = some Tryz.f94
 estf:∀ args w,(callFunc 94 args).run P w = .ok (.enter 94 args) w
def RSt(enc:Chg→List Value)(k:Nat)(w0:World)(blk off n0:Nat)(D:Nat→TC)(W:World):Prop:=∃ dk,SWK enc k w0 blk off dk W∧RowT dk D n0
section
variable {P:Program} {k:Nat} {enc:Chg→List Value} {cf:Chg→Chg→Int} {g:Nat} {cb:Array Value} {blk off cap n0:Nat} {d0:Array Chg} {w0:World}
theorem swapRange_st(L:StC P k)(R:RowK enc k w0 blk off d0)(hs:d0.size=n0)(hsz:n0 < 4611686018427387904){D:Nat→TC}{a b n:Nat}(hab:a+n≤b)(hb:b+n≤n0)(fv:Value)(w:World)(S:RSt enc k w0 blk off n0 D w):
    Calls P 181 #[.slice (some ⟨blk,off,none⟩) n0 cap,.int .i64 a,.int .i64 b,.int .i64 n,fv] w fun e w'=>e = .returned (.tuple #[])∧RSt enc k w0 blk off n0 (swRF D a b n) w':=by
 have mixed:=L.mixed;have t0:=L.t0;have v0:=L.v0;have t3:=L.t3;have a3:=L.a3;have z3:=L.z3;have v3:=L.v3;have t4:=L.t4;have a4:=L.a4;have z4:=L.z4;have v4:=L.v4;have t38:=L.t38;have a38:=L.a38;have z38:=L.z38;have v38:=L.v38;have t86:=L.t86;have a86:=L.a86;have z86:=L.z86;have v86:=L.v86;have t162:=L.t162;have a162:=L.a162;have z162:=L.z162;have v162:=L.v162;have aE:=L.aE;have zE:=L.zE;have S0:Aside _:=S;clear S
 go_enter L.swf,Tryz.ntmps181
 clear L;go_wp2
 go_loopg [10] n (fun g1 v10 wr=>∃ i:Nat,v10 = .int .i64 i∧i≤n∧n - i≤g1∧Aside (RSt enc k w0 blk off n0 (swRF D a b i) wr))
 case atStart=>exact⟨0,rfl,Nat.zero_le _,Nat.le_refl _,(by rw[swRF_zero];exact S0)⟩
 case round=>
  clear S0;obtain⟨i,rfl,hin,hg1,S1⟩:=hrel
  by_cases hlt:i < n
  · have hlz:(i:Int) < (n:Int):=by omega
    obtain⟨dk,h2,hrow⟩:=S1.out;have S2:Aside (SWK enc k w0 blk off dk wr):=h2;have HR:=Lib.hid hrow;have hds:dk.size=n0:=hrow.1;clear h2 hrow S1
    go_wp2_with fail
    have ea10:((a:Int)+(i:Int)).toNat=(a+i):=by omega
    have pa10:(0:Int)≤(a:Int)+(i:Int):=by omega
    have ba10:(a:Int)+(i:Int) < (n0:Int):=by omega
    have ra10:IntKind.i64.wrap ((a:Int)+(i:Int))=(a:Int)+(i:Int):=by rw[IntKind.wrap_i64];omega
    have ea11:((b:Int)+(i:Int)).toNat=(b+i):=by omega
    have pa11:(0:Int)≤(b:Int)+(i:Int):=by omega
    have ba11:(b:Int)+(i:Int) < (n0:Int):=by omega
    have ra11:IntKind.i64.wrap ((b:Int)+(i:Int))=(b:Int)+(i:Int):=by rw[IntKind.wrap_i64];omega
    have Z1:Aside (SWK enc k w0 blk off (swp dk (a+i) (b+i)) ((wr.drew.setCells blk (off+(a+i) * k) (enc dk[(b+i)]!)).setCells blk (off+(b+i) * k) (enc dk[(a+i)]!))):=S2.out.swapped R (a+i) (b+i) (by omega) (by omega);have l1a:=S2.out.ld1 R (by omega) P (a+i) (by omega);have l1b:=S2.out.ld1 R (by omega) P (b+i) (by omega);have s1a:=S2.out.st1 R (by omega) P (a+i) (by omega) dk[(b+i)]!;have s1b:=S2.out.st2 R (by omega) P (a+i) (b+i) (by omega) (by omega) dk[(b+i)]! dk[(a+i)]!;have n1a:(enc dk[(a+i)]!).length=k:=R.hk _;have n1b:(enc dk[(b+i)]!).length=k:=R.hk _;generalize enc dk[(a+i)]! = cI1 at Z1 l1a s1b n1a;generalize enc dk[(b+i)]! = cJ1 at Z1 l1b s1a s1b n1b;clear S2
    go_wp2_with fail
    go_big_region_o
    clear l1a l1b s1a s1b;generalize (wr.drew.setCells blk (off+(a+i) * k) cJ1).setCells blk (off+(b+i) * k) cI1=w2 at Z1 ⊢;go_wp2
    go_roundg (n - (i+1))
    case measure=>omega
    case rel=>exact⟨i+1,by first | rfl | go_num | (congr 1;omega),by omega,Nat.le_refl _,(by exact⟨_,Z1.out,by rw[← swRF_succ D (by omega)];exact HR.out.swp (by omega) (by omega)⟩)⟩
  · have hlz:¬ (i:Int) < (n:Int):=by omega
    obtain rfl:i=n:=by omega
    go_wp2
    go_end0
    exact⟨rfl,S1.out⟩
theorem rotate_st(L:StC P k)(R:RowK enc k w0 blk off d0)(hs:d0.size=n0)(hsz:n0 < 4611686018427387904){D:Nat→TC}{a m b:Nat}(ham:a < m)(hmb:m < b)(hb:b≤n0)(fv:Value)(w:World)(S:RSt enc k w0 blk off n0 D w):
    Calls P 159 #[.slice (some ⟨blk,off,none⟩) n0 cap,.int .i64 a,.int .i64 m,.int .i64 b,fv] w fun e w'=>e = .returned (.tuple #[])∧RSt enc k w0 blk off n0 (rotF D a m b) w':=by
 have mixed:=L.mixed;have t0:=L.t0;have v0:=L.v0;have t3:=L.t3;have a3:=L.a3;have z3:=L.z3;have v3:=L.v3;have t4:=L.t4;have a4:=L.a4;have z4:=L.z4;have v4:=L.v4;have t38:=L.t38;have a38:=L.a38;have z38:=L.z38;have v38:=L.v38;have t86:=L.t86;have a86:=L.a86;have z86:=L.z86;have v86:=L.v86;have t162:=L.t162;have a162:=L.a162;have z162:=L.z162;have v162:=L.v162;have aE:=L.aE;have zE:=L.zE;have S0:Aside _:=S;clear S;have e1:=L.eswf;have HS:=Lib.hid (fun(D:Nat→TC) (a b n:Nat) (h1:a+n≤b) (h2:b+n≤n0) W (S:RSt enc k w0 blk off n0 D W)=>swapRange_st (cap:=cap) L R hs hsz h1 h2 fv W S)
 go_enter L.rof,Tryz.ntmps159
 clear L;go_wp2
 go_loopg [10,11] (m - a+(b - m)) (fun g1 v10 v11 wr=>∃ (i j:Nat) (E:Nat→TC),v10 = .int .i64 i∧v11 = .int .i64 j∧0 < i∧0 < j∧i≤m - a∧m+j≤b∧i+j≤g1∧Hid (rotF E (m - i) m (m+j)=rotF D a m b)∧Aside (RSt enc k w0 blk off n0 E wr))
 case atStart=>exact⟨m - a,b - m,D,by first | rfl | go_num | (congr 1;omega),by first | rfl | go_num | (congr 1;omega),by omega,by omega,Nat.le_refl _,by omega,Nat.le_refl _,Lib.hid (by congr 1 <;> omega),S0⟩
 case round=>
  clear S0;obtain⟨i,j,E,rfl,rfl,hi,hj,him,hjb,hg1,HE,S1⟩:=hrel;have r1:IntKind.i64.wrap ((m:Int) - (i:Int))=(m:Int) - (i:Int):=by rw[IntKind.wrap_i64];omega
  have z1:(m:Int) - (i:Int)=((m - i:Nat):Int):=by omega
  by_cases heq:i=j
  · subst heq;have hC:=HS.out E (m - i) m i (by omega) (by omega) _ S1.out;have he:=HE.out;rw[rot_eq E (by omega:i≤m),he]at hC;have HC:=Lib.hid hC;clear hC he
    go_wp2_with (go_at_fn 181;refine HC.out.mono ?_;rintro e W' ⟨rfl,hS⟩;have S2:Aside _:=hS;clear hS)
    go_end0
    exact⟨rfl,S2.out⟩
  · have hne:((i:Int) == (j:Int))=false:=beq_eq_false_iff_ne.2 (by omega);have hnd:decide ((i:Int)=(j:Int))=false:=decide_eq_false (by omega);have hne2:¬ (i:Int)=(j:Int):=by omega
    by_cases hgt:j < i
    · have hgz:(j:Int) < (i:Int):=by omega
      have hC:=HS.out E (m - i) m j (by omega) (by omega) _ S1.out;have he:=HE.out;rw[← rot_gt E (by omega) hgt]at he;have HC:=Lib.hid hC;have HE2:=Lib.hid he;clear hC he HE
      go_wp2_with (go_at_fn 181;refine HC.out.mono ?_;rintro e W' ⟨rfl,hS⟩;have S2:Aside _:=hS;clear hS)
      go_roundg (i - j+j)
      case measure=>omega
      case rel=>exact⟨i - j,j,_,by first | rfl | go_num | (congr 1;omega),rfl,by omega,by omega,by omega,by omega,Nat.le_refl _,HE2,S2⟩
    · have hgz:¬ (j:Int) < (i:Int):=by omega
      have r2:IntKind.i64.wrap ((m:Int)+(j:Int) - (i:Int))=(m:Int)+(j:Int) - (i:Int):=by rw[IntKind.wrap_i64];omega
      have z2:(m:Int)+(j:Int) - (i:Int)=((m+j - i:Nat):Int):=by omega
      have hC:=HS.out E (m - i) (m+j - i) i (by omega) (by omega) _ S1.out;have he:=HE.out;rw[← rot_lt E (by omega) (by omega:i < j)]at he;have HC:=Lib.hid hC;have HE2:=Lib.hid he;clear hC he HE
      go_wp2_with (go_at_fn 181;refine HC.out.mono ?_;rintro e W' ⟨rfl,hS⟩;have S2:Aside _:=hS;clear hS)
      go_roundg (i+(j - i))
      case measure=>omega
      case rel=>exact⟨i,j - i,_,rfl,by first | rfl | go_num | (congr 1;omega),by omega,by omega,by omega,by omega,Nat.le_refl _,HE2,S2⟩
end
end Go.Proofs.YtoecbicdahbccaaGreatDoor
