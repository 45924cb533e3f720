/- A part of the walk of the layer of apply: contracts and plain laws that a row's text leans on. -/
import Derived.Test.YtoecbicdahbccaaGreatDoorZa3
set_option maxRecDepth 100000
set_option maxHeartbeats 16000000
namespace Go.Proofs.YtoecbicdahbccaaGreatDoor
open Go Go.RowKit
def axQ(q k:Int):Int:=(((axisL q.toNat)[k.toNat]?.getD 120).toNat:Int) - 120
def axI(s k:Int):Int:=axQ (s / 8) k
def ngI(s k:Int):Bool:=decide (s / 2 ^ k.toNat % 2=1)
def cdP(p:Pt)(a:Int):Int:=if a=0 then p.x else if a=1 then p.y else p.z
def isT(s:Int):Bool:=decide (0≤s∧s < 48)
theorem axI_in(s k:Int)(hs:0≤s∧s < 48)(hk:0≤k∧k < 3):0≤axI s k∧axI s k≤2:=by
 have h:∀ q,q < 6→∀ j,j < 3→0≤axQ (q:Nat) (j:Nat)∧axQ (q:Nat) (j:Nat)≤2:=by decide+kernel
 have h1:=h (s / 8).toNat (by omega) k.toNat (by omega);rw[Int.toNat_of_nonneg (by omega),Int.toNat_of_nonneg (by omega)]at h1;exact h1
theorem isTurn_any(s:Int)(w:World):Calls Tryz.prog 153 #[.int .i64 s] w fun e w'=>e = .returned (.bool (isT s))∧Ext w w':=by
 by_cases h1:0≤s
 · go_enter Tryz.func153,Tryz.ntmps153
   go_wp2
   all_goals
    go_ret
    refine⟨ret_bool ?_,Ext.refl _⟩;rw[Bool.eq_iff_iff];simp[isT]
    try omega
 · go_enter Tryz.func153,Tryz.ntmps153
   go_wp2
   all_goals
    go_ret
    refine⟨ret_bool ?_,Ext.refl _⟩;rw[Bool.eq_iff_iff];simp[isT]
    try omega
theorem and1{s k:Int}(x:Int)(hx:0≤x∧x < 48)(h:s / 2 ^ k.toNat=x):(bits .and .i64 x 1 == 1)=ngI s k:=by
 have h1:∀ n:Nat,n < 48→(bits .and .i64 (n:Int) 1 == 1)=decide ((n:Int) % 2=1):=by decide+kernel
 have h2:=h1 x.toNat (by omega);rw[Int.toNat_of_nonneg hx.1]at h2;unfold ngI;rw[h,h2]
theorem axis_any(s k:Int)(hs:0≤s∧s < 48)(hk:0≤k∧k < 3)(w:World)(hA:AxesIn w):Calls Tryz.prog 155 #[.int .i64 s,.int .i64 k] w fun e w'=>e = .returned (.tuple #[.int .i64 (axI s k),.bool (ngI s k)])∧Ext w w':=by
 have hq:s.tdiv 8=s / 8:=Int.tdiv_eq_ediv_of_nonneg hs.1;unfold axI;obtain⟨q,hq2⟩:∃ q,s / 8=q:=⟨_,rfl⟩;have hql:0≤q∧q < 6:=by omega
 have c0:=hA.at_ q.toNat (by omega);have hl:=hA.lt;rw[hq2]at hq ⊢;obtain rfl | rfl | rfl:k=0∨k=1∨k=2:=by omega
 · obtain rfl | rfl | rfl | rfl | rfl | rfl:q=0∨q=1∨q=2∨q=3∨q=4∨q=5:=by omega
   · have c0:w.cell? ⟨2,0,none⟩=some (strV [120,121,122]):=c0;have hb:=and1 (s:=s) (k:=0) (s) (by omega) (by first | rfl | exact Int.ediv_one s);rw[← hb];clear hb
     go_enter Tryz.func155,Tryz.ntmps155
     go_upto_region 1 with fail
     go_region
     go_wp2_with fail
     exact bodyPost_ret (v:=.tuple #[.int .i64 0,.bool (bits .and .i64 (s) 1 == 1)]) (by simp[results,Tryz.results155,go_sem];rfl) rfl ⟨rfl,(Ext.refl _).drew⟩
   · have c0:w.cell? ⟨2,1,none⟩=some (strV [120,122,121]):=c0;have hb:=and1 (s:=s) (k:=0) (s) (by omega) (by first | rfl | exact Int.ediv_one s);rw[← hb];clear hb
     go_enter Tryz.func155,Tryz.ntmps155
     go_upto_region 1 with fail
     go_region
     go_wp2_with fail
     exact bodyPost_ret (v:=.tuple #[.int .i64 0,.bool (bits .and .i64 (s) 1 == 1)]) (by simp[results,Tryz.results155,go_sem];rfl) rfl ⟨rfl,(Ext.refl _).drew⟩
   · have c0:w.cell? ⟨2,2,none⟩=some (strV [121,120,122]):=c0;have hb:=and1 (s:=s) (k:=0) (s) (by omega) (by first | rfl | exact Int.ediv_one s);rw[← hb];clear hb
     go_enter Tryz.func155,Tryz.ntmps155
     go_upto_region 1 with fail
     go_region
     go_wp2_with fail
     exact bodyPost_ret (v:=.tuple #[.int .i64 1,.bool (bits .and .i64 (s) 1 == 1)]) (by simp[results,Tryz.results155,go_sem];rfl) rfl ⟨rfl,(Ext.refl _).drew⟩
   · have c0:w.cell? ⟨2,3,none⟩=some (strV [121,122,120]):=c0;have hb:=and1 (s:=s) (k:=0) (s) (by omega) (by first | rfl | exact Int.ediv_one s);rw[← hb];clear hb
     go_enter Tryz.func155,Tryz.ntmps155
     go_upto_region 1 with fail
     go_region
     go_wp2_with fail
     exact bodyPost_ret (v:=.tuple #[.int .i64 1,.bool (bits .and .i64 (s) 1 == 1)]) (by simp[results,Tryz.results155,go_sem];rfl) rfl ⟨rfl,(Ext.refl _).drew⟩
   · have c0:w.cell? ⟨2,4,none⟩=some (strV [122,120,121]):=c0;have hb:=and1 (s:=s) (k:=0) (s) (by omega) (by first | rfl | exact Int.ediv_one s);rw[← hb];clear hb
     go_enter Tryz.func155,Tryz.ntmps155
     go_upto_region 1 with fail
     go_region
     go_wp2_with fail
     exact bodyPost_ret (v:=.tuple #[.int .i64 2,.bool (bits .and .i64 (s) 1 == 1)]) (by simp[results,Tryz.results155,go_sem];rfl) rfl ⟨rfl,(Ext.refl _).drew⟩
   · have c0:w.cell? ⟨2,5,none⟩=some (strV [122,121,120]):=c0;have hb:=and1 (s:=s) (k:=0) (s) (by omega) (by first | rfl | exact Int.ediv_one s);rw[← hb];clear hb
     go_enter Tryz.func155,Tryz.ntmps155
     go_upto_region 1 with fail
     go_region
     go_wp2_with fail
     exact bodyPost_ret (v:=.tuple #[.int .i64 2,.bool (bits .and .i64 (s) 1 == 1)]) (by simp[results,Tryz.results155,go_sem];rfl) rfl ⟨rfl,(Ext.refl _).drew⟩
 · obtain rfl | rfl | rfl | rfl | rfl | rfl:q=0∨q=1∨q=2∨q=3∨q=4∨q=5:=by omega
   · have c0:w.cell? ⟨2,0,none⟩=some (strV [120,121,122]):=c0;have hb:=and1 (s:=s) (k:=1) (s / 2) (by omega) (by first | rfl | exact Int.ediv_one s);rw[← hb];clear hb
     go_enter Tryz.func155,Tryz.ntmps155
     go_upto_region 1 with fail
     go_region
     go_wp2_with fail
     exact bodyPost_ret (v:=.tuple #[.int .i64 1,.bool (bits .and .i64 (s / 2) 1 == 1)]) (by simp[results,Tryz.results155,go_sem];rfl) rfl ⟨rfl,(Ext.refl _).drew⟩
   · have c0:w.cell? ⟨2,1,none⟩=some (strV [120,122,121]):=c0;have hb:=and1 (s:=s) (k:=1) (s / 2) (by omega) (by first | rfl | exact Int.ediv_one s);rw[← hb];clear hb
     go_enter Tryz.func155,Tryz.ntmps155
     go_upto_region 1 with fail
     go_region
     go_wp2_with fail
     exact bodyPost_ret (v:=.tuple #[.int .i64 2,.bool (bits .and .i64 (s / 2) 1 == 1)]) (by simp[results,Tryz.results155,go_sem];rfl) rfl ⟨rfl,(Ext.refl _).drew⟩
   · have c0:w.cell? ⟨2,2,none⟩=some (strV [121,120,122]):=c0;have hb:=and1 (s:=s) (k:=1) (s / 2) (by omega) (by first | rfl | exact Int.ediv_one s);rw[← hb];clear hb
     go_enter Tryz.func155,Tryz.ntmps155
     go_upto_region 1 with fail
     go_region
     go_wp2_with fail
     exact bodyPost_ret (v:=.tuple #[.int .i64 0,.bool (bits .and .i64 (s / 2) 1 == 1)]) (by simp[results,Tryz.results155,go_sem];rfl) rfl ⟨rfl,(Ext.refl _).drew⟩
   · have c0:w.cell? ⟨2,3,none⟩=some (strV [121,122,120]):=c0;have hb:=and1 (s:=s) (k:=1) (s / 2) (by omega) (by first | rfl | exact Int.ediv_one s);rw[← hb];clear hb
     go_enter Tryz.func155,Tryz.ntmps155
     go_upto_region 1 with fail
     go_region
     go_wp2_with fail
     exact bodyPost_ret (v:=.tuple #[.int .i64 2,.bool (bits .and .i64 (s / 2) 1 == 1)]) (by simp[results,Tryz.results155,go_sem];rfl) rfl ⟨rfl,(Ext.refl _).drew⟩
   · have c0:w.cell? ⟨2,4,none⟩=some (strV [122,120,121]):=c0;have hb:=and1 (s:=s) (k:=1) (s / 2) (by omega) (by first | rfl | exact Int.ediv_one s);rw[← hb];clear hb
     go_enter Tryz.func155,Tryz.ntmps155
     go_upto_region 1 with fail
     go_region
     go_wp2_with fail
     exact bodyPost_ret (v:=.tuple #[.int .i64 0,.bool (bits .and .i64 (s / 2) 1 == 1)]) (by simp[results,Tryz.results155,go_sem];rfl) rfl ⟨rfl,(Ext.refl _).drew⟩
   · have c0:w.cell? ⟨2,5,none⟩=some (strV [122,121,120]):=c0;have hb:=and1 (s:=s) (k:=1) (s / 2) (by omega) (by first | rfl | exact Int.ediv_one s);rw[← hb];clear hb
     go_enter Tryz.func155,Tryz.ntmps155
     go_upto_region 1 with fail
     go_region
     go_wp2_with fail
     exact bodyPost_ret (v:=.tuple #[.int .i64 1,.bool (bits .and .i64 (s / 2) 1 == 1)]) (by simp[results,Tryz.results155,go_sem];rfl) rfl ⟨rfl,(Ext.refl _).drew⟩
 · obtain rfl | rfl | rfl | rfl | rfl | rfl:q=0∨q=1∨q=2∨q=3∨q=4∨q=5:=by omega
   · have c0:w.cell? ⟨2,0,none⟩=some (strV [120,121,122]):=c0;have hb:=and1 (s:=s) (k:=2) (s / 4) (by omega) (by first | rfl | exact Int.ediv_one s);rw[← hb];clear hb
     go_enter Tryz.func155,Tryz.ntmps155
     go_upto_region 1 with fail
     go_region
     go_wp2_with fail
     exact bodyPost_ret (v:=.tuple #[.int .i64 2,.bool (bits .and .i64 (s / 4) 1 == 1)]) (by simp[results,Tryz.results155,go_sem];rfl) rfl ⟨rfl,(Ext.refl _).drew⟩
   · have c0:w.cell? ⟨2,1,none⟩=some (strV [120,122,121]):=c0;have hb:=and1 (s:=s) (k:=2) (s / 4) (by omega) (by first | rfl | exact Int.ediv_one s);rw[← hb];clear hb
     go_enter Tryz.func155,Tryz.ntmps155
     go_upto_region 1 with fail
     go_region
     go_wp2_with fail
     exact bodyPost_ret (v:=.tuple #[.int .i64 1,.bool (bits .and .i64 (s / 4) 1 == 1)]) (by simp[results,Tryz.results155,go_sem];rfl) rfl ⟨rfl,(Ext.refl _).drew⟩
   · have c0:w.cell? ⟨2,2,none⟩=some (strV [121,120,122]):=c0;have hb:=and1 (s:=s) (k:=2) (s / 4) (by omega) (by first | rfl | exact Int.ediv_one s);rw[← hb];clear hb
     go_enter Tryz.func155,Tryz.ntmps155
     go_upto_region 1 with fail
     go_region
     go_wp2_with fail
     exact bodyPost_ret (v:=.tuple #[.int .i64 2,.bool (bits .and .i64 (s / 4) 1 == 1)]) (by simp[results,Tryz.results155,go_sem];rfl) rfl ⟨rfl,(Ext.refl _).drew⟩
   · have c0:w.cell? ⟨2,3,none⟩=some (strV [121,122,120]):=c0;have hb:=and1 (s:=s) (k:=2) (s / 4) (by omega) (by first | rfl | exact Int.ediv_one s);rw[← hb];clear hb
     go_enter Tryz.func155,Tryz.ntmps155
     go_upto_region 1 with fail
     go_region
     go_wp2_with fail
     exact bodyPost_ret (v:=.tuple #[.int .i64 0,.bool (bits .and .i64 (s / 4) 1 == 1)]) (by simp[results,Tryz.results155,go_sem];rfl) rfl ⟨rfl,(Ext.refl _).drew⟩
   · have c0:w.cell? ⟨2,4,none⟩=some (strV [122,120,121]):=c0;have hb:=and1 (s:=s) (k:=2) (s / 4) (by omega) (by first | rfl | exact Int.ediv_one s);rw[← hb];clear hb
     go_enter Tryz.func155,Tryz.ntmps155
     go_upto_region 1 with fail
     go_region
     go_wp2_with fail
     exact bodyPost_ret (v:=.tuple #[.int .i64 1,.bool (bits .and .i64 (s / 4) 1 == 1)]) (by simp[results,Tryz.results155,go_sem];rfl) rfl ⟨rfl,(Ext.refl _).drew⟩
   · have c0:w.cell? ⟨2,5,none⟩=some (strV [122,121,120]):=c0;have hb:=and1 (s:=s) (k:=2) (s / 4) (by omega) (by first | rfl | exact Int.ediv_one s);rw[← hb];clear hb
     go_enter Tryz.func155,Tryz.ntmps155
     go_upto_region 1 with fail
     go_region
     go_wp2_with fail
     exact bodyPost_ret (v:=.tuple #[.int .i64 0,.bool (bits .and .i64 (s / 4) 1 == 1)]) (by simp[results,Tryz.results155,go_sem];rfl) rfl ⟨rfl,(Ext.refl _).drew⟩
section
variable {P:Program} (w:World)
theorem run_append_mine(base:Nat)(t ty e:TypeId)(i:TypeInfo)(z:Value)(size bytes:Nat)(ht:P.underlying t=some (.slice e))(hi:P.info? e=some i)(hz:i.zero=some z)
    (hsize:i.size=size) (hby:i.bytes=bytes) (hzs:z.cells.size=size) (hsz:0 < size)
    (v:Value) (n:Nat) (xs:List Value) (hown:w.ownsRow base e size v n xs)
    (a:Addr) (m c:Nat) (news:List Value) (hl:news.length=m * size) (hnews:∀ j u,news[j]? = some u→w.cell? (a.add j)=some u) (h1:∀ u∈news,u.oneCell'=true)
    (h63:n+m≤maxLen) (hbytes:(n+m) * bytes≤140737488355328) (hbase:base≤w.heap.size):
    ∃ v' w',(Builtin.append_ #[t,t] ty #[v,.slice (some a) m c]).run P w = .ok v' w'∧w'.ownsRow base e size v' (n+m) (xs++news)∧w.grownBy w' v.ownBlock∧
      (v'.ownBlock=v.ownBlock∨∀ b,v'.ownBlock=some b→w.heap.size≤b):=by
 obtain⟨v',w',hr,ho,hg,_⟩:=run_append_own (P:=P) w base t ty e i z size bytes ht hi hz hsize hby hzs hsz v n xs hown a m c news hl hnews h1 h63 hbytes hbase;refine⟨v',w',hr,ho,hg,?_⟩
 rcases hown.2 with⟨rfl,rfl⟩ | ⟨g,cap,cur,rfl,hbg,hgc,hnc,hcm,hcs,htake⟩
 · have hx:xs = []:=List.eq_nil_of_length_eq_zero (by simpa using hown.1);subst hx;obtain⟨v2,w2,hr2,ho2,_,_⟩:=run_append_own (P:=P) w w.heap.size t ty e i z size bytes ht hi hz hsize hby hzs hsz (.slice none 0 0) 0 [] (World.ownsRow_nil _ _ _ _) a m c news hl hnews h1 h63 hbytes (Nat.le_refl _);rw[hr]at hr2;injection hr2 with e1 e2
   subst e1 e2;refine .inr fun b hb=>?_
   rcases ho2.2 with⟨rfl,_⟩ | ⟨g,cap,cur,rfl,hbg,_⟩
   · simp[Value.ownBlock]at hb
   · simp only[Value.ownBlock,Option.some.injEq]at hb;omega
 · by_cases hroom:n+m≤cap
   · obtain⟨w2,hr2,_,_⟩:=run_append_own_spare (P:=P) w base t ty e i size ht hi hsize g n cap xs hown a m c news hl hnews h1 hroom;rw[hr]at hr2;injection hr2 with e1 e2
     subst e1;exact .inl rfl
   · have holds:∀ j u,xs[j]? = some u→w.cell? ((⟨g,0,none⟩:Addr).add j)=some u:=hown.cells (g:=g) rfl;have hr2:=run_append_grow (P:=P) (w:=w) t ty e i z ht hi hz ⟨g,0,none⟩ n cap xs (by rw[hsize];exact hown.1) holds a m c news (by rw[hsize];exact hl) hnews (by omega) (by simp only[maxLen]at h63;omega) (growslice_fits (by omega) (by rw[hby];exact hbytes));rw[hr]at hr2;injection hr2 with e1 e2
     subst e1;refine .inr fun b hb=>?_;simp only[Value.ownBlock,Option.some.injEq]at hb;omega
theorem wpList_append_mine{ops:Array Oper}{rest:List Oper}{o:Oper}{a:Act}{Q:Exit→Act→World→Prop}(hgd:o.guard=none)(s x:Operand)(t:TypeId)
    (ho:o.op = .call {callee:=.builtin .append,args:=#[s,x],argTypes:=#[t,t] })
    (base:Nat) (e:TypeId) (i:TypeInfo) (z:Value) (size bytes:Nat) (ht:P.underlying t=some (.slice e)) (hi:P.info? e=some i) (hz:i.zero=some z)
    (hsize:i.size=size) (hby:i.bytes=bytes) (hzs:z.cells.size=size) (hsz:0 < size)
    (v:Value) (n:Nat) (xs:List Value) (hs:a.eval s=v) (hown:w.ownsRow base e size v n xs)
    (ad:Addr) (m c:Nat) (news:List Value) (hx:a.eval x = .slice (some ad) m c) (hl:news.length=m * size) (hnews:∀ j u,news[j]? = some u→w.cell? (ad.add j)=some u) (h1:∀ u∈news,u.oneCell'=true)
    (h63:n+m≤maxLen) (hbytes:(n+m) * bytes≤140737488355328) (hbase:base≤w.heap.size)
    (h:∀ v' w',w'.ownsRow base e size v' (n+m) (xs++news)→w.grownBy w' v.ownBlock→(v'.ownBlock=v.ownBlock∨∀ b,v'.ownBlock=some b→w.heap.size≤b)→wpList P ops Q rest (a.put o.dst v') w'):wpList P ops Q (o:: rest) a w:=by
 refine wpList_plain hgd fun K hK'=>?_;obtain⟨v',w',hrun,r1,r2,r3⟩:=run_append_mine (P:=P) w base t o.type e i z size bytes ht hi hz hsize hby hzs hsz v n xs hown ad m c news hl hnews h1 h63 hbytes hbase;unfold Oper.wp;simp[execOp,ho,resolve,invoke,builtin,hs,hx,hrun,Result.andThen];exact hK' _ _ (h v' w' r1 r2 r3)
end
section
variable {w w':World} {B k c:Nat} {A:Option Addr} {xs:List (List Value)}
def Apart(xs:List (List Value))(A:Option Addr)(v:Value):Prop:=0 < xs.length→∀ a:Addr,A=some a→v.ownBlock≠some a.block
theorem Sl.grown(h:Sl w w.heap.size k A c xs){v:Value}(hg:w.grownBy w' v.ownBlock)(ha:Apart xs A v):Sl w' w'.heap.size k A c xs:=
 ⟨h.le,h.max,h.rows,fun hn=>by
   obtain⟨b,off,e,hb,hc⟩:=h.mem hn;refine⟨b,off,e,Nat.lt_of_lt_of_le hb hg.size,fun j u hu=>?_⟩;have h1:=hc j u hu;have h2:=hg.block b hb (fun hh=>ha hn _ e hh.symm);unfold World.cell? at h1 ⊢;simp only at h1 ⊢;rw[h2];exact h1⟩
theorem Apart.grown{w:World}{k c:Nat}{v v':Value}(h:Apart xs A v)(hs:Sl w w.heap.size k A c xs)(hv:v'.ownBlock=v.ownBlock∨∀ b,v'.ownBlock=some b→w.heap.size≤b):Apart xs A v':=fun hn a ha hb=>by
 rcases hv with hv | hv
 · exact h hn a ha (by rw[← hv];exact hb)
 · have h1:=hv _ hb;obtain⟨b,off,e,hb2,_⟩:=hs.mem hn;rw[ha]at e;injection e with e
   subst e;simp only at h1;omega
theorem Apart.nil(v:Value):Apart xs none v:=fun _ _ h=>by cases h
end
theorem own_zero(w:World)(e:TypeId)(k:Nat):(w.alloc (.cells #[] e)).ownsRow w.heap.size e k (.slice (some ⟨w.heap.size,0,none⟩) 0 0) 0 []:=
 own_of_cur (cur:=[]) (Nat.le_refl _) (by simpa using heap_alloc_new w (.cells #[] e)) (Nat.le_refl _) (by decide) (by simp) (by simp)
end Go.Proofs.YtoecbicdahbccaaGreatDoor
namespace Go.Proofs.YtoecbicdahbccaaGreatDoor
open Go Go.RowKit Go.Sort
section
variable {α:Type} [Inhabited α] {enc:α→List Value} {k:Nat}
theorem flatK_list(hk:∀ x,(enc x).length=k)(d:List α):(flatK enc k d.toArray).toList=(d.map enc).flatten:=by
 have hl:∀ x,x∈d.map enc→x.length=k:=fun x hx=>by obtain⟨y,_,rfl⟩:=List.mem_map.1 hx;exact hk y
 apply List.ext_getElem?;intro t
 by_cases ht:t < d.length * k
 · have k0:0 < k:=Nat.pos_of_ne_zero (fun h=>by subst h;simp at ht);have hi:t / k < d.length:=Nat.div_lt_of_lt_mul (by rw[Nat.mul_comm];exact ht);have hj:t % k < k:=Nat.mod_lt _ k0;have h1:=flatten_at (d.map enc) hl (t / k) (enc d[t / k]) (by simp[hi]) (t % k) ((enc d[t / k])[t % k]'(by rw[hk];exact hj)) (List.getElem?_eq_getElem _);rw[Nat.mul_comm,Nat.div_add_mod]at h1;rw[h1];have h2:(flatK enc k d.toArray)[t]! = (enc d.toArray[t / k]!)[t % k]!:=get_flatK _ _ _ t (by simpa using ht);rw[getElem!_pos _ t (by simpa using ht)]at h2;rw[Array.getElem?_toList,Array.getElem?_eq_getElem (by simpa using ht),h2];congr 1
   rw[getElem!_pos d.toArray _ (by simpa using hi)];simp only[List.getElem_toArray];rw[getElem!_pos _ _ (by rw[hk];exact hj)]
 · rw[List.getElem?_eq_none (by simp;omega),List.getElem?_eq_none (by rw[flatten_length _ hl];simp;omega)]
theorem take_put(cur F:Array Value)(h:F.size≤cur.size):(putCells id 0 F cur).toList.take F.size=F.toList:=by
 apply List.ext_getElem?;intro t;rw[List.getElem?_take]
 by_cases ht:t < F.size
 · rw[if_pos ht];have:(putCells id 0 F cur)[t]? = some F[t]:=by
    unfold putCells;rw[Array.getElem?_mapIdx,Array.getElem?_eq_getElem (by omega)];simp[ht]
   simpa[ht]using this
 · rw[if_neg ht,List.getElem?_eq_none (by simpa using Nat.le_of_not_lt ht)]
theorem holds_of_own{w:World}{base n c g:Nat}{e:TypeId}{d:List α}(hk:∀ x,(enc x).length=k)(h:w.ownsRow base e k (.slice (some ⟨g,0,none⟩) n c) n (d.map enc).flatten)(hn:d.length=n):HoldsK enc k w g 0 d.toArray:=by
 obtain⟨cur,hb,hg,hc,hm,hl,ht⟩:=own_cur h;have hl2:∀ x,x∈d.map enc→x.length=k:=fun x hx=>by obtain⟨y,_,rfl⟩:=List.mem_map.1 hx;exact hk y
 intro j hj;have hj2:j < n * k:=by rw[size_flatK]at hj;simpa[hn]using hj
 refine⟨?_,frozen_of_row w g _ cur.toArray e hg⟩;rw[Nat.zero_add,cell_of_row w g _ cur.toArray e (0,0) hg];have h1:(flatK enc k d.toArray).toList[j]? = some (flatK enc k d.toArray)[j]:=by simp
 rw[flatK_list hk,← ht,List.getElem?_take,if_pos hj2]at h1;rw[getElem!_pos _ j hj];simpa using h1
theorem own_put{w:World}{base n c g m:Nat}{e:TypeId}{d d':List α}{os:Array Obj}(hk:∀ x,(enc x).length=k)(h:w.ownsRow base e k (.slice (some ⟨g,0,none⟩) n c) n (d.map enc).flatten)(_hn:d.length=n)(hd:d'.length=n):
    (sortWorldK enc k w g 0 m d'.toArray os).ownsRow base e k (.slice (some ⟨g,0,none⟩) n c) n (d'.map enc).flatten∧w.grownBy (sortWorldK enc k w g 0 m d'.toArray os) (some g):=by
 obtain⟨cur,hb,hg,hc,hm,hl,ht⟩:=own_cur h;have hgl:=(Array.getElem?_eq_some_iff.1 hg).1;have hnk:n * k≤cur.length:=by rw[hl];exact Nat.mul_le_mul_right _ hc
 have hbl:(sortWorldK enc k w g 0 m d'.toArray os).heap[g]? = some (.cells (putCells id 0 (flatK enc k d'.toArray) cur.toArray) e (0,0)):=by
  unfold sortWorldK grow putRowK putRow mapBlock Go.Sort.ahead;simp only[Array.getElem?_append,Array.size_modify,hgl,if_true,Array.getElem?_modify];rw[hg];rfl
 have hsz:(putCells id 0 (flatK enc k d'.toArray) cur.toArray).size=cur.length:=by simp[putCells]
 refine⟨own_of_cur (cur:=(putCells id 0 (flatK enc k d'.toArray) cur.toArray).toList) hb (by simpa using hbl) hc hm (by rw[Array.length_toList,hsz,hl]) ?_,?_⟩
 · have h1:=take_put cur.toArray (flatK enc k d'.toArray) (by simp[hd];exact hnk);rw[size_flatK]at h1;simp only[List.size_toArray,hd]at h1;rw[h1,flatK_list hk]
 · refine⟨rfl,rfl,rfl,?_,fun i hi hne=>?_⟩
   · simp[sortWorldK,grow,putRowK,putRow,mapBlock,Go.Sort.ahead]
   · unfold sortWorldK grow putRowK putRow mapBlock Go.Sort.ahead;simp only[Array.getElem?_append,Array.size_modify,hi,if_true,Array.getElem?_modify];rw[if_neg (by rintro rfl;exact hne rfl)]
end
def nearG(w:World)(n:Nat)(os:Array Obj):World:=grow (w.drewN n) os
theorem nearG_old(w:World)(n:Nat)(os:Array Obj)(b o:Nat)(h:b < w.heap.size):(nearG w n os).cell? ⟨b,o,none⟩=w.cell? ⟨b,o,none⟩:=by
 simp only[World.cell?,nearG,grow,World.drewN,Array.getElem?_append,h,if_true]
theorem nearG_drew(w:World):w.drew=nearG w 1 #[]:=by unfold nearG;rw[grow_empty];rfl
theorem wp_region_nearG_tail{P:Program}{id:Nat}{Q:Exit→Act→World→Prop}{a:Act}{w:World}{l:List Oper}(n:Nat)(hm:P.follows .mixedOrders=true)(hB:Region.lexTailB .any l.toArray n=true)
    (h:wpQuiet P l.toArray (fun w'=>∃ p:Near,w'=nearG w p.n p.os) (fun a'=>∀ w',(∃ p:Near,w'=nearG w p.n p.os)→wpList P l.toArray Q (l.drop n) a' w') (l.take n) a):(Code.region id l.toArray true).wp P Q a w:=
 wp_region_head n hm hB ⟨⟨1,#[]⟩,nearG_drew w⟩ h
theorem nearG_same{P:Program}{f:FuncId}{args:Array Value}{w:World}{n:Nat}{os:Array Obj}{v:Value}
    (h:Calls P f args (nearG w n os) fun e w'=>e = .returned v∧nearG w n os=w'):Calls P f args (nearG w n os) fun e w''=>e = .returned v∧∃ p:Near,w''=nearG w p.n p.os:=
 h.mono fun _ _ ⟨he,hx⟩=>⟨he,⟨⟨n,os⟩,hx.symm⟩⟩
theorem nearG_grow(w:World)(n:Nat)(os os':Array Obj):grow (nearG w n os) os'=grow (w.drewN n) (os++os'):=by unfold nearG;rw[grow_grow]
theorem nearG_alloc(w:World)(n:Nat)(os:Array Obj)(o:Obj):∃ q os',(nearG w n os).alloc o=grow (w.drewN q) os':=⟨n,os++#[o],by rw[alloc_eq_grow,nearG_grow]⟩
theorem grown_alloc2(w:World)(a b:Obj)(q:Nat)(os:Array Obj):∃ q' os',grow (((w.alloc a).alloc b).drewN q) os=grow (w.drewN q') os':=by
 refine⟨q,#[a]++#[b]++os,?_⟩;rw[alloc_eq_grow,alloc_eq_grow,grow_grow];show grow (grow (w.drewN q) _) os=_;rw[grow_grow]
end Go.Proofs.YtoecbicdahbccaaGreatDoor
namespace Go.Proofs.YtoecbicdahbccaaGreatDoor
open Go Go.RowKit
theorem first_at{p:List Value→Bool}{xs:List (List Value)}{i:Nat}(h:idx p xs=i):∃ x,xs[i]? = some x∧p x=true∧∀ (j:Nat) (y:List Value),j < i→xs[j]? = some y→p y=false:=by
 unfold idx at h
 split at h
 · rename_i k hk
   obtain rfl:k=i:=by omega
   obtain⟨hj,hp,hb⟩:=List.findIdx?_eq_some_iff_getElem.1 hk;refine⟨_,List.getElem?_eq_getElem hj,hp,fun j y hji hy=>?_⟩;obtain⟨h1,rfl⟩:=List.getElem?_eq_some_iff.1 hy;simpa using hb j hji
 · omega
theorem idx_or(p:List Value→Bool)(xs:List (List Value)):(idx p xs = -1∧∀ x,x∈xs→p x=false)∨∃ i:Nat,idx p xs=i∧i < xs.length:=by
 unfold idx
 cases h:xs.findIdx? p with
 | none=>exact .inl ⟨rfl,fun x hx=>by simpa using List.findIdx?_eq_none_iff.1 h x hx⟩
 | some i=>exact .inr ⟨i,rfl,by obtain⟨h1,_⟩:=List.findIdx?_eq_some_iff_getElem.1 h;exact h1⟩
def nots(p:List Value→Bool)(xs:List (List Value)):List (List Value):=xs.filter fun x=>!p x
theorem nots_all{p:List Value→Bool}{xs:List (List Value)}(h:∀ x,x∈xs→p x=false):nots p xs=xs:=by
 unfold nots;rw[List.filter_eq_self];intro x hx;simp[h x hx]
theorem nots_first{p:List Value→Bool}{xs:List (List Value)}{i:Nat}{x:List Value}(hx:xs[i]? = some x)(hp:p x=true)(hb:∀ (j:Nat) (y:List Value),j < i→xs[j]? = some y→p y=false):
    nots p (xs.take (i+1))=xs.take i:=by
 obtain⟨hi,rfl⟩:=List.getElem?_eq_some_iff.1 hx;rw[List.take_succ_eq_append_getElem hi];unfold nots;rw[List.filter_append,List.filter_eq_self.2]
 · simp[hp]
 · intro y hy;obtain⟨j,hj⟩:=List.getElem?_of_mem hy;rw[List.getElem?_take]at hj
   split at hj
   · simp[hb j y (by assumption) hj]
   · cases hj
theorem nots_step{p:List Value→Bool}{xs:List (List Value)}{j:Nat}{x:List Value}(hx:xs[j]? = some x):nots p (xs.take (j+1))=nots p (xs.take j)++if p x then []else [x]:=by
 obtain⟨hi,rfl⟩:=List.getElem?_eq_some_iff.1 hx;rw[List.take_succ_eq_append_getElem hi];unfold nots;rw[List.filter_append]
 cases h:p xs[j] <;> simp[h]
structure Mid (p:List Value→Bool) (xs ys:List (List Value)) (i j:Nat):Prop where
 len:ys.length=xs.length
 head:ys.take i=nots p (xs.take j)
 tail:ys.drop j=xs.drop j
 ij:i < j
 jn:j≤xs.length
theorem Mid.start{p:List Value→Bool}{xs:List (List Value)}{i:Nat}(h:idx p xs=i):Mid p xs xs i (i+1):=by
 obtain⟨x,hx,hp,hb⟩:=first_at h;exact⟨rfl,(nots_first hx hp hb).symm,rfl,by omega,(List.getElem?_eq_some_iff.1 hx).1⟩
theorem Mid.at_{p:List Value→Bool}{xs ys:List (List Value)}{i j:Nat}(h:Mid p xs ys i j)(hj:j < xs.length):∃ x,xs[j]? = some x∧ys[j]? = some x:=by
 refine⟨xs[j],List.getElem?_eq_getElem hj,?_⟩;have:=congrArg (fun l=>l[0]?) h.tail;simpa[hj]using this
theorem Mid.skip{p:List Value→Bool}{xs ys:List (List Value)}{i j:Nat}(h:Mid p xs ys i j){x:List Value}(hx:xs[j]? = some x)(hp:p x=true):Mid p xs ys i (j+1):=by
 have hj:=(List.getElem?_eq_some_iff.1 hx).1;refine⟨h.len,by rw[nots_step hx,hp];simpa using h.head,?_,by have:=h.ij;omega,hj⟩;rw[← List.drop_drop,← List.drop_drop,h.tail]
theorem Mid.put{p:List Value→Bool}{xs ys:List (List Value)}{i j:Nat}(h:Mid p xs ys i j){x:List Value}(hx:xs[j]? = some x)(hp:p x=false):Mid p xs (ys.set i x) (i+1) (j+1):=by
 have hj:=(List.getElem?_eq_some_iff.1 hx).1;have hij:=h.ij;have hl:=h.len;refine⟨by simpa using h.len,?_,?_,by omega,hj⟩
 · rw[nots_step hx,hp,← h.head,List.take_set];rw[List.take_succ_eq_append_getElem (by omega),List.set_append_right _ _ (by simp;omega)];simp;rw[Nat.min_eq_left (by omega)];simp
 · rw[List.drop_set_of_lt (by omega),← List.drop_drop,← List.drop_drop,h.tail]
theorem Mid.fin{p:List Value→Bool}{xs ys:List (List Value)}{i:Nat}(h:Mid p xs ys i xs.length):ys.take i=nots p xs:=by
 rw[h.head,List.take_length]
def boxL(b:Bx):List Pt:=(List.range (b.hi.z - b.lo.z).toNat).flatMap fun(k:Nat)=>(List.range (b.hi.y - b.lo.y).toNat).flatMap fun(j:Nat)=>(List.range (b.hi.x - b.lo.x).toNat).map fun(i:Nat)=>(⟨b.lo.x+(i:Int),b.lo.y+(j:Int),b.lo.z+(k:Int)⟩:Pt)
theorem boxL_mem(b:Bx)(p:Pt):p∈boxL b↔inP p b=true:=by
 unfold boxL;rw[inP_iff];simp only[List.mem_flatMap,List.mem_map,List.mem_range];constructor
 · rintro⟨k,hk,j,hj,i,hi,rfl⟩;simp only;omega
 · rintro⟨⟨h1,h2⟩,⟨h3,h4⟩,h5,h6⟩;refine⟨(p.z - b.lo.z).toNat,by omega,(p.y - b.lo.y).toNat,by omega,(p.x - b.lo.x).toNat,by omega,?_⟩;obtain⟨x,y,z⟩:=p;simp only[Pt.mk.injEq]at *;omega
theorem pairwise_range_flat{α:Type}(r:α→α→Prop)(n:Nat)(f:Nat→List α)(h1:∀ k,k < n→(f k).Pairwise r)(h2:∀ i j,i < j→j < n→∀ x,x∈f i→∀ y,y∈f j→r x y):((List.range n).flatMap f).Pairwise r:=by
 induction n with
 | zero=>simp
 | succ n ih=>
   rw[List.range_succ,List.flatMap_append,List.pairwise_append];refine⟨ih (fun k hk=>h1 k (by omega)) (fun i j hij hj=>h2 i j hij (by omega)),by simpa using h1 n (by omega),fun x hx y hy=>?_⟩;obtain⟨i,hi,hx⟩:=List.mem_flatMap.1 hx;simp only[List.flatMap_cons,List.flatMap_nil,List.append_nil]at hy;exact h2 i n (List.mem_range.1 hi) (by omega) x hx y hy
theorem boxL_sort(b:Bx):SortP (boxL b):=by
 unfold SortP boxL;refine pairwise_range_flat _ _ _ (fun k _=>pairwise_range_flat _ _ _ (fun j _=>?_) (fun i j hij _ x hx y hy=>?_)) (fun i j hij _ x hx y hy=>?_)
 · rw[List.pairwise_map];refine List.pairwise_lt_range.imp fun {i i'} h=>?_;rw[befP_iff];refine .inr ⟨rfl,.inr ⟨rfl,?_⟩⟩;show b.lo.x+(i:Int) < b.lo.x+(i':Int);omega
 · obtain⟨i1,_,rfl⟩:=List.mem_map.1 hx;obtain⟨i2,_,rfl⟩:=List.mem_map.1 hy;rw[befP_iff];refine .inr ⟨rfl,.inl ?_⟩;show b.lo.y+(i:Int) < b.lo.y+(j:Int);omega
 · obtain⟨j1,_,hx⟩:=List.mem_flatMap.1 hx;obtain⟨j2,_,hy⟩:=List.mem_flatMap.1 hy;obtain⟨i1,_,rfl⟩:=List.mem_map.1 hx;obtain⟨i2,_,rfl⟩:=List.mem_map.1 hy;rw[befP_iff];refine .inl ?_;show b.lo.z+(i:Int) < b.lo.z+(j:Int);omega
theorem SortP.filter{l:List Pt}(h:SortP l)(f:Pt→Bool):SortP (l.filter f):=h.sublist List.filter_sublist
theorem range_mul_map{α:Type}(f:Nat→α)(n m:Nat):(List.range (n * m)).map f=(List.range n).flatMap fun j=>(List.range m).map fun i=>f (j * m+i):=by
 induction n with
 | zero=>simp
 | succ n ih=>rw[Nat.add_mul,Nat.one_mul,List.range_add,List.map_append,ih,List.range_succ,List.flatMap_append,List.map_map];simp[Function.comp_def]
theorem range_mul_flat{α:Type}(f:Nat→List α)(n m:Nat):(List.range (n * m)).flatMap f=(List.range n).flatMap fun j=>(List.range m).flatMap fun i=>f (j * m+i):=by
 induction n with
 | zero=>simp
 | succ n ih=>rw[Nat.add_mul,Nat.one_mul,List.range_add,List.flatMap_append,ih,List.range_succ,List.flatMap_append,List.flatMap_map];simp
theorem flatMap_congr_{α β:Type}{f g:α→List β} : ∀ {l:List α},(∀ x,x∈l→f x=g x)→l.flatMap f=l.flatMap g
 | [],_=>rfl
 | x:: xs,h=>by rw[List.flatMap_cons,List.flatMap_cons,h x (List.mem_cons_self ..),flatMap_congr_ fun y hy=>h y (List.mem_cons_of_mem _ hy)]
def atB(b:Bx)(n:Nat):Pt:=⟨b.lo.x+((n % (b.hi.x - b.lo.x).toNat:Nat):Int),b.lo.y+((n / (b.hi.x - b.lo.x).toNat % (b.hi.y - b.lo.y).toNat:Nat):Int),b.lo.z+((n / (b.hi.x - b.lo.x).toNat / (b.hi.y - b.lo.y).toNat:Nat):Int)⟩
def volN(b:Bx):Nat:=(b.hi.z - b.lo.z).toNat * (b.hi.y - b.lo.y).toNat * (b.hi.x - b.lo.x).toNat
theorem boxL_at(b:Bx):boxL b=(List.range (volN b)).map (atB b):=by
 unfold boxL volN;rw[range_mul_map,range_mul_flat];refine flatMap_congr_ fun k _=>flatMap_congr_ fun j hj=>?_;refine List.map_congr_left fun i hi=>?_;rw[List.mem_range]at hi hj;unfold atB;generalize (b.hi.x - b.lo.x).toNat=sx at hi ⊢;generalize (b.hi.y - b.lo.y).toNat=sy at hj ⊢;have h1:((k * sy+j) * sx+i) % sx=i:=by rw[Nat.mul_add_mod_self_right,Nat.mod_eq_of_lt hi]
 have h2:((k * sy+j) * sx+i) / sx=k * sy+j:=by rw[Nat.mul_comm,Nat.mul_add_div (by omega),Nat.div_eq_of_lt hi,Nat.add_zero]
 have h3:(k * sy+j) % sy=j:=by rw[Nat.mul_add_mod_self_right,Nat.mod_eq_of_lt hj]
 have h4:(k * sy+j) / sy=k:=by rw[Nat.mul_comm,Nat.mul_add_div (by omega),Nat.div_eq_of_lt hj,Nat.add_zero]
 rw[h1,h2,h3,h4]
theorem boxL_length(b:Bx):(boxL b).length=volN b:=by rw[boxL_at];simp
theorem boxL_get(b:Bx){n:Nat}(h:n < volN b):(boxL b)[n]? = some (atB b n):=by rw[boxL_at];simp[h]
def Big(F:Pt→Option Int)(v:Int)(a:Pt)(most:Int):Prop:=∃ r:List Pt,r.Nodup∧(∀ q,q∈r→Reach F v a q)∧most < r.length
theorem nodup_sub:∀ {l m:List Pt},l.Nodup→(∀ x,x∈l→x∈m)→l.length≤m.length
 | [],_,_,_=>Nat.zero_le _
 | x:: xs,m,hd,hs=>by
   rw[List.nodup_cons]at hd;have hx:=hs x (List.mem_cons_self ..);have ih:=nodup_sub (l:=xs) (m:=m.erase x) hd.2 (fun y hy=>by
    have hne:y≠x:=by rintro rfl;exact hd.1 hy
    exact(List.mem_erase_of_ne hne).2 (hs y (List.mem_cons_of_mem _ hy)))
   rw[List.length_erase_of_mem hx]at ih;have:=List.length_pos_of_mem hx;simp only[List.length_cons];omega
theorem Big.no{F:Pt→Option Int}{v:Int}{a:Pt}{most:Int}{l:List Pt}(h:Big F v a most)(hl:IsReg F v a l)(hm:(l.length:Int)≤most):False:=by
 obtain⟨r,h1,h2,h3⟩:=h;have:=nodup_sub h1 (fun x hx=>(hl.mem x).2 (h2 x hx));omega
theorem IsReg.big{F:Pt→Option Int}{v:Int}{a:Pt}{most:Int}{l:List Pt}(h:IsReg F v a l)(hm:most < l.length):Big F v a most:=⟨l,h.sort.nodup,fun q hq=>(h.mem q).1 hq,hm⟩
def FloodOut(F:Pt→Option Int)(a:Pt)(most:Int)(l:List Pt)(er:Int):Prop:=
 (F a=none∧l = []∧er=9)∨∃ v,F a=some v∧((Big F v a most∧l = []∧er=2)∨(IsReg F v a l∧(l.length:Int)≤most∧er=0))
theorem FloodOut.uniq{F:Pt→Option Int}{a:Pt}{most:Int}{l l':List Pt}{er er':Int}(h:FloodOut F a most l er)(k:FloodOut F a most l' er'):l=l'∧er=er':=by
 rcases h with⟨h1,rfl,rfl⟩ | ⟨v,h1,h3⟩
 · rcases k with⟨k1,rfl,rfl⟩ | ⟨v',k1,k3⟩
   · exact⟨rfl,rfl⟩
   · rw[h1]at k1;cases k1
 · rcases k with⟨k1,rfl,rfl⟩ | ⟨v',k1,k3⟩
   · rw[h1]at k1;cases k1
   · rw[h1]at k1;injection k1 with k1;subst k1
     rcases h3 with⟨a1,rfl,rfl⟩ | ⟨a1,a2,rfl⟩ <;> rcases k3 with⟨b1,rfl,rfl⟩ | ⟨b1,b2,rfl⟩
     · exact⟨rfl,rfl⟩
     · exact(a1.no b1 b2).elim
     · exact(b1.no a1 a2).elim
     · exact⟨a1.uniq b1,rfl⟩
def BorderOut(F:Pt→Option Int)(a:Pt)(most:Int)(l:List Pt)(er:Int):Prop:=
 (F a=none∧l = []∧er=9)∨∃ v,F a=some v∧((Big F v a most∧l = []∧er=2)∨((∃ r,IsReg F v a r∧(r.length:Int)≤most)∧IsBrd F v a l∧er=0))
theorem BorderOut.uniq{F:Pt→Option Int}{a:Pt}{most:Int}{l l':List Pt}{er er':Int}(h:BorderOut F a most l er)(k:BorderOut F a most l' er'):l=l'∧er=er':=by
 rcases h with⟨h1,rfl,rfl⟩ | ⟨v,h1,h3⟩
 · rcases k with⟨k1,rfl,rfl⟩ | ⟨v',k1,k3⟩
   · exact⟨rfl,rfl⟩
   · rw[h1]at k1;cases k1
 · rcases k with⟨k1,rfl,rfl⟩ | ⟨v',k1,k3⟩
   · rw[h1]at k1;cases k1
   · rw[h1]at k1;injection k1 with k1;subst k1
     rcases h3 with⟨a1,rfl,rfl⟩ | ⟨⟨r,a1,a2⟩,hb,rfl⟩ <;> rcases k3 with⟨b1,rfl,rfl⟩ | ⟨⟨r',b1,b2⟩,kb,rfl⟩
     · exact⟨rfl,rfl⟩
     · exact(a1.no b1 b2).elim
     · exact(b1.no a1 a2).elim
     · exact⟨hb.uniq kb,rfl⟩
end Go.Proofs.YtoecbicdahbccaaGreatDoor
