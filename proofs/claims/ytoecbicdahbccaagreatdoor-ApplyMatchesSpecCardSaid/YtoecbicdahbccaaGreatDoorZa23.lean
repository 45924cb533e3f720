/- A part of the walk of the layer of apply: contracts and plain laws that a row's text leans on. -/
import Derived.LaidMore
import Derived.Lay
import Derived.Stop.Joined
import Derived.Test.YtoecbicdahbccaaGreatDoorZa19
set_option maxRecDepth 100000
set_option maxHeartbeats 16000000
namespace Go.Proofs.YtoecbicdahbccaaGreatDoor
open Go Go.RowKit
section
variable {D:TypeId} {rv rv':Value} {G:FuncId} {F:Pt→Option Int} {fbo:Option Nat} {Cnt:Nat→World→Prop} {w0:World} {K:Bs} {Pr:Prot} {fv:Value} {a:Pt} {c:Int} {s:Fs} {n:Nat}
theorem push_any(V:FieldV w0.heap.size D rv rv' G F fbo Cnt)(q:Pt)(nb:Nat)(w:World)(h:FW w0.heap.size K Pr fv a c fbo Cnt w0 s n w)(hN:Arr w nb 23 [.int .i64 q.x,.int .i64 q.y,.int .i64 q.z])(hl:s.l.length≤100000):
    Calls Tryz.prog 148 #[.pointer (some ⟨K.walk,0,none⟩),.slice (some ⟨nb,0,none⟩) 1 1] w fun e w'=>e = .returned (.tuple #[])∧FW w0.heap.size K Pr fv a c fbo Cnt w0 {s with l:=s.l++[q] } n w':=by
 obtain⟨lv,bv,hs⟩:=h.st;have hsz:=h.grown.size;have HH:=Lib.hid h;have HS:=Lib.hid hs;have HRL:=Lib.hid hs.rl;have HB:=Lib.hid hs.hb;obtain⟨LA,Lc,rfl⟩:=own_len hs.rl;obtain⟨l1,l2,l3,l4,l5,l6,l7⟩:=hs.ok.low;have as1:=hs.as_.cell 1;simp only[List.getElem?_cons_zero,List.getElem?_cons_succ]at as1;have HAS:=Lib.hid hs.as_;have HNE:=Lib.hid (show(Value.slice LA s.l.length Lc).ownBlock≠some K.walk from fun e=>by have:=own_low hs.rl _ e;omega);obtain⟨i0,hi,hz0,hz1,hz2⟩:=info_parts infoPt;have HI:=Lib.hid hi;have HZ:=Lib.hid hz0;have HZ1:=Lib.hid hz1;have HZ2:=Lib.hid hz2;have hNew:∀ j u,([.int .i64 q.x,.int .i64 q.y,.int .i64 q.z]:List Value)[j]? = some u→w.cell? ((⟨nb,0,none⟩:Addr).add j)=some u:=fun j u hu=>by
  rw[add_lit,Nat.zero_add,hN.cell];exact hu
 have HNew:=Lib.hid hNew;have hOne:∀ u,u∈([.int .i64 q.x,.int .i64 q.y,.int .i64 q.z]:List Value)→u.oneCell'=true:=fun u hu=>by simp at hu;rcases hu with rfl | rfl | rfl <;> rfl
 have HOne:=Lib.hid hOne;clear hi hz0 hz1 hz2 h hs hN hNew hOne
 go_enter Tryz.func148,Tryz.ntmps148
 go_wp2_with (at_builtin;refine wpList_append_mine _ rfl (.tmp 8) (.tmp 9) 62 rfl K.base 23 i0 (.agg #[.int .i64 0,.int .i64 0,.int .i64 0]) 3 24 Tryz.underlying62 HI.out HZ.out HZ1.out HZ2.out rfl (by decide) (.slice LA s.l.length Lc) s.l.length (rowsP s.l).flatten rfl HRL.out ⟨nb,0,none⟩ 1 1 [.int .i64 q.x,.int .i64 q.y,.int .i64 q.z] rfl rfl HNew.out HOne.out (by unfold maxLen;omega) (by omega) HB.out ?_)
 intro v' w1 ho hg hv;obtain⟨A1,m1,c1,rfl⟩:=store_form ho;have A1':=HAS.out.kept hg HNE.out;have as2:=A1'.cell 1;have fs2:=A1'.frozen 1;simp only[List.getElem?_cons_zero,List.getElem?_cons_succ]at as2;have HP:=Lib.hid (HS.out.push (q:=q) hg ho hv);clear ho hg hv A1';go_wp2
 go_end0
 exact⟨rfl,HH.out.step V HP.out.1 (HP.out.2)⟩
theorem vis_c{F:Pt→Option Int}{c v:Int}{s:Fs}{q:Pt}(h:F q=some v)(hv:v=c):visitS F c s q = {s with l:=s.l++[q] }:=by unfold visitS;rw[h];simp[hv]
theorem vis_o{F:Pt→Option Int}{c v:Int}{s:Fs}{q:Pt}(h:F q=some v)(hv:v≠c):visitS F c s q = {s with bd:=s.bd++[q] }:=by unfold visitS;rw[h];simp[hv]
theorem vis_n{F:Pt→Option Int}{c:Int}{s:Fs}{q:Pt}(h:F q=none):visitS F c s q=s:=by unfold visitS;rw[h]
theorem visit_none(V:FieldV w0.heap.size D rv rv' G F fbo Cnt)(q:Pt)(w:World)(h:FW w0.heap.size K Pr (.iface D rv) a c fbo Cnt w0 s n w)(_hl:s.l.length≤100000)(_hbd:s.bd.length≤100000)(hn:n≤1000000)(hF:F q=none):
    Calls Tryz.prog 150 #[.agg #[.int .i64 q.x,.int .i64 q.y,.int .i64 q.z],.pointer (some ⟨K.f,0,none⟩),.pointer (some ⟨K.cell,0,none⟩),.pointer (some ⟨K.wv,0,none⟩),.pointer (some ⟨K.bd,0,none⟩)] w fun e w'=>e = .returned (.tuple #[])∧FW w0.heap.size K Pr (.iface D rv) a c fbo Cnt w0 (s) (n+1) w':=by
 have HW0:=h.grown.size;have hx0:Ext w (w.alloc (.cells #[.int .i64 q.x,.int .i64 q.y,.int .i64 q.z] 23)):=(Ext.refl w).alloc _;have h1:=h.ext V hx0;have hsz:=h1.grown.size;have B5:=Arr.new w 23 [.int .i64 q.x,.int .i64 q.y,.int .i64 q.z];have hc:=V.call q n _ hsz hn h1.cnt;rw[hF]at hc;simp only[Option.isSome]at hc;have HCALL:=Lib.hid hc;have HM:=Lib.hid V.meth;have HE:=Lib.hid V.enters;have HV:=Lib.hid V;have HB5:=Lib.hid B5;have H1:=Lib.hid h1;clear hx0 h1 hsz B5 h V hF hc
 go_enter Tryz.func150,Tryz.ntmps150
 go_upto_region 1 with fail
 obtain⟨W1,hW⟩:∃ W,W=w.alloc (.cells #[.int .i64 q.x,.int .i64 q.y,.int .i64 q.z] 23):=⟨_,rfl⟩;rw[← hW]at HB5 H1 HCALL;rw[← hW];clear hW;have l5:=HB5.out.lt;have hm:=HM.out;have he:=HE.out;have af0:W1.cell? ⟨K.f,0,none⟩=some (.iface D rv):=by
  obtain⟨lv,bv,hs⟩:=H1.out.st;exact hs.af.cell 0
 go_upto_region 2 with(first
  | (refine wpList_load_blk 23 (.tmp 5) rfl rfl HB5.out rfl _ Tryz.underlying23 rfl (by kernel_rfl) ?_)
  | (go_at_fn G;refine HCALL.out.mono ?_;rintro e W2 ⟨⟨u,rfl,hu⟩,hc,hg⟩))
 have H2:=Lib.hid (H1.out.asked HV.out hc hg);have hne:∀ k,fbo=some k→k≠w.heap.size:=fun k hk e=>by
  have h1:=HV.out.low k hk;obtain⟨lv,bv,hs⟩:=H1.out.st;have h3:=H1.out.grown.size;have h4:=HW0;omega
 have HB6:=Lib.hid (HB5.out.kept hg (fun e=>hne _ e rfl));clear hc hg hm he af0 hne l5;clear hu;go_wp2
 go_end0
 exact⟨rfl,H2.out⟩
theorem visit_in(V:FieldV w0.heap.size D rv rv' G F fbo Cnt)(q:Pt)(w:World)(h:FW w0.heap.size K Pr (.iface D rv) a c fbo Cnt w0 s n w)(hl:s.l.length≤100000)(_hbd:s.bd.length≤100000)(hn:n≤1000000)(hF:F q=some c):
    Calls Tryz.prog 150 #[.agg #[.int .i64 q.x,.int .i64 q.y,.int .i64 q.z],.pointer (some ⟨K.f,0,none⟩),.pointer (some ⟨K.cell,0,none⟩),.pointer (some ⟨K.wv,0,none⟩),.pointer (some ⟨K.bd,0,none⟩)] w fun e w'=>e = .returned (.tuple #[])∧FW w0.heap.size K Pr (.iface D rv) a c fbo Cnt w0 ({s with l:=s.l++[q] }) (n+1) w':=by
 have HW0:=h.grown.size;have hx0:Ext w (w.alloc (.cells #[.int .i64 q.x,.int .i64 q.y,.int .i64 q.z] 23)):=(Ext.refl w).alloc _;have h1:=h.ext V hx0;have hsz:=h1.grown.size;have B5:=Arr.new w 23 [.int .i64 q.x,.int .i64 q.y,.int .i64 q.z];have hc:=V.call q n _ hsz hn h1.cnt;rw[hF]at hc;simp only[Option.isSome]at hc;have HCALL:=Lib.hid hc;have HM:=Lib.hid V.meth;have HE:=Lib.hid V.enters;have HV:=Lib.hid V;have HB5:=Lib.hid B5;have H1:=Lib.hid h1;clear hx0 h1 hsz B5 h V hF hc
 go_enter Tryz.func150,Tryz.ntmps150
 go_upto_region 1 with fail
 obtain⟨W1,hW⟩:∃ W,W=w.alloc (.cells #[.int .i64 q.x,.int .i64 q.y,.int .i64 q.z] 23):=⟨_,rfl⟩;rw[← hW]at HB5 H1 HCALL;rw[← hW];clear hW;have l5:=HB5.out.lt;have hm:=HM.out;have he:=HE.out;have af0:W1.cell? ⟨K.f,0,none⟩=some (.iface D rv):=by
  obtain⟨lv,bv,hs⟩:=H1.out.st;exact hs.af.cell 0
 go_upto_region 2 with(first
  | (refine wpList_load_blk 23 (.tmp 5) rfl rfl HB5.out rfl _ Tryz.underlying23 rfl (by kernel_rfl) ?_)
  | (go_at_fn G;refine HCALL.out.mono ?_;rintro e W2 ⟨⟨u,rfl,hu⟩,hc,hg⟩))
 have H2:=Lib.hid (H1.out.asked HV.out hc hg);have hne:∀ k,fbo=some k→k≠w.heap.size:=fun k hk e=>by
  have h1:=HV.out.low k hk;obtain⟨lv,bv,hs⟩:=H1.out.st;have h3:=H1.out.grown.size;have h4:=HW0;omega
 have HB6:=Lib.hid (HB5.out.kept hg (fun e=>hne _ e rfl));clear hc hg hm he af0 hne l5;obtain rfl:=hu _ rfl;have HH:=Lib.hid H2.out;obtain⟨lv,bv,hs⟩:=H2.out.st;have ac:=hs.ac.cell 0;have aw:=hs.aw.cell 0;simp only[List.getElem?_cons_zero]at ac aw;have l6:=HB6.out.lt;clear hs hu
 go_upto_region 3 with fail
 have hx3:Ext W2 (W2.alloc (.cells ([.int .i64 q.x,.int .i64 q.y,.int .i64 q.z]:List Value).toArray 23)):=(Ext.refl W2).alloc _;have HPU:=Lib.hid (push_any HV.out q W2.heap.size _ (HH.out.ext HV.out hx3) (Arr.new W2 23 [.int .i64 q.x,.int .i64 q.y,.int .i64 q.z]) hl);clear hx3
 go_wp2_with (first
  | (refine wpList_load_blk 23 (.tmp 5) rfl rfl HB6.out rfl _ Tryz.underlying23 rfl (by kernel_rfl) ?_)
  | (refine wpList_buildRow rfl 62 23 22 rfl 3 (by decide) (by decide) [.int .i64 q.x,.int .i64 q.y,.int .i64 q.z] rfl rfl Tryz.underlying62 (by kernel_rfl) (by kernel_rfl) ?_)
  | (go_at_call 148;refine HPU.out.mono ?_;rintro e W4 ⟨rfl,h4⟩))
 go_end0
 exact⟨rfl,h4⟩
theorem visit_out(V:FieldV w0.heap.size D rv rv' G F fbo Cnt)(q:Pt)(w:World)(h:FW w0.heap.size K Pr (.iface D rv) a c fbo Cnt w0 s n w)(_hl:s.l.length≤100000)(hbd:s.bd.length≤100000)(hn:n≤1000000){v:Int}(hF:F q=some v)(hv:v≠c):
    Calls Tryz.prog 150 #[.agg #[.int .i64 q.x,.int .i64 q.y,.int .i64 q.z],.pointer (some ⟨K.f,0,none⟩),.pointer (some ⟨K.cell,0,none⟩),.pointer (some ⟨K.wv,0,none⟩),.pointer (some ⟨K.bd,0,none⟩)] w fun e w'=>e = .returned (.tuple #[])∧FW w0.heap.size K Pr (.iface D rv) a c fbo Cnt w0 ({s with bd:=s.bd++[q] }) (n+1) w':=by
 have HW0:=h.grown.size;have hx0:Ext w (w.alloc (.cells #[.int .i64 q.x,.int .i64 q.y,.int .i64 q.z] 23)):=(Ext.refl w).alloc _;have h1:=h.ext V hx0;have hsz:=h1.grown.size;have B5:=Arr.new w 23 [.int .i64 q.x,.int .i64 q.y,.int .i64 q.z];have hc:=V.call q n _ hsz hn h1.cnt;rw[hF]at hc;simp only[Option.isSome]at hc;have HCALL:=Lib.hid hc;have HM:=Lib.hid V.meth;have HE:=Lib.hid V.enters;have HV:=Lib.hid V;have HB5:=Lib.hid B5;have H1:=Lib.hid h1;clear hx0 h1 hsz B5 h V hF hc
 go_enter Tryz.func150,Tryz.ntmps150
 go_upto_region 1 with fail
 obtain⟨W1,hW⟩:∃ W,W=w.alloc (.cells #[.int .i64 q.x,.int .i64 q.y,.int .i64 q.z] 23):=⟨_,rfl⟩;rw[← hW]at HB5 H1 HCALL;rw[← hW];clear hW;have l5:=HB5.out.lt;have hm:=HM.out;have he:=HE.out;have af0:W1.cell? ⟨K.f,0,none⟩=some (.iface D rv):=by
  obtain⟨lv,bv,hs⟩:=H1.out.st;exact hs.af.cell 0
 go_upto_region 2 with(first
  | (refine wpList_load_blk 23 (.tmp 5) rfl rfl HB5.out rfl _ Tryz.underlying23 rfl (by kernel_rfl) ?_)
  | (go_at_fn G;refine HCALL.out.mono ?_;rintro e W2 ⟨⟨u,rfl,hu⟩,hc,hg⟩))
 have H2:=Lib.hid (H1.out.asked HV.out hc hg);have hne:∀ k,fbo=some k→k≠w.heap.size:=fun k hk e=>by
  have h1:=HV.out.low k hk;obtain⟨lv,bv,hs⟩:=H1.out.st;have h3:=H1.out.grown.size;have h4:=HW0;omega
 have HB6:=Lib.hid (HB5.out.kept hg (fun e=>hne _ e rfl));clear hc hg hm he af0 hne l5;obtain rfl:=hu _ rfl;have HH:=Lib.hid H2.out;obtain⟨lv,bv,hs⟩:=H2.out.st;have hcne:(u == c)=false:=by simpa using hv
 have ac:=hs.ac.cell 0;have ab:=hs.ab.cell 0;simp only[List.getElem?_cons_zero]at ac ab;have l6:=HB6.out.lt;obtain⟨BA,Bc,rfl⟩:=own_len hs.rb;have HS:=Lib.hid (hs.ext ((Ext.refl W2).alloc (.cells ([.int .i64 q.x,.int .i64 q.y,.int .i64 q.z]:List Value).toArray 23)));have lbd:=hs.ab.lt;obtain⟨i0,hi,hz0,hz1,hz2⟩:=info_parts infoPt;have HI:=Lib.hid hi;have HZ:=Lib.hid hz0;have HZ1:=Lib.hid hz1;have HZ2:=Lib.hid hz2;have hNew:∀ j u,([.int .i64 q.x,.int .i64 q.y,.int .i64 q.z]:List Value)[j]? = some u→(W2.alloc (.cells ([.int .i64 q.x,.int .i64 q.y,.int .i64 q.z]:List Value).toArray 23)).cell? ((⟨W2.heap.size,0,none⟩:Addr).add j)=some u:=fun j u hu=>by
  rw[add_lit,Nat.zero_add,(Arr.new W2 23 [.int .i64 q.x,.int .i64 q.y,.int .i64 q.z]).cell];exact hu
 have HNew:=Lib.hid hNew;have hOne:∀ u,u∈([.int .i64 q.x,.int .i64 q.y,.int .i64 q.z]:List Value)→u.oneCell'=true:=fun u hu=>by simp at hu;rcases hu with rfl | rfl | rfl <;> rfl
 have HOne:=Lib.hid hOne;have HNE:=Lib.hid (show(Value.slice BA s.bd.length Bc).ownBlock≠some K.bd from fun e=>by have:=own_low hs.rb _ e;have:=hs.ok.low.2.2.1.2;omega);clear hi hz0 hz1 hz2 hNew hOne hs hv hu
 go_wp2_with (first
  | (refine wpList_load_blk 23 (.tmp 5) rfl rfl HB6.out rfl _ Tryz.underlying23 rfl (by kernel_rfl) ?_)
  | (refine wpList_buildRow rfl 62 23 28 rfl 3 (by decide) (by decide) [.int .i64 q.x,.int .i64 q.y,.int .i64 q.z] rfl rfl Tryz.underlying62 (by kernel_rfl) (by kernel_rfl) ?_)
  | (at_builtin;refine wpList_append_mine _ rfl (.tmp 27) (.tmp 29) 62 rfl K.base 23 i0 (.agg #[.int .i64 0,.int .i64 0,.int .i64 0]) 3 24 Tryz.underlying62 HI.out HZ.out HZ1.out HZ2.out rfl (by decide) (.slice BA s.bd.length Bc) s.bd.length (rowsP s.bd).flatten rfl HS.out.rb ⟨W2.heap.size,0,none⟩ 1 1 [.int .i64 q.x,.int .i64 q.y,.int .i64 q.z] rfl rfl HNew.out HOne.out (by unfold maxLen;omega) (by omega) HS.out.hb ?_))
 intro v' w1 ho hg hv;obtain⟨A1,m1,c1,rfl⟩:=store_form ho;have A1':=HS.out.ab.kept hg HNE.out;have as2:=A1'.cell 0;have fs2:=A1'.frozen 0;simp only[List.getElem?_cons_zero]at as2;have HP:=Lib.hid (HS.out.edge (q:=q) hg ho (hv.imp id (fun h b hb=>by rw[World.size_alloc_];exact h b hb)));clear ho hg hv A1';go_wp2
 go_end0
 exact⟨rfl,(HH.out.ext HV.out ((Ext.refl W2).alloc _)).step HV.out HP.out.1 HP.out.2⟩
theorem visit_any(V:FieldV w0.heap.size D rv rv' G F fbo Cnt)(q:Pt)(w:World)(h:FW w0.heap.size K Pr (.iface D rv) a c fbo Cnt w0 s n w)(hl:s.l.length≤100000)(hbd:s.bd.length≤100000)(hn:n≤1000000):
    Calls Tryz.prog 150 #[.agg #[.int .i64 q.x,.int .i64 q.y,.int .i64 q.z],.pointer (some ⟨K.f,0,none⟩),.pointer (some ⟨K.cell,0,none⟩),.pointer (some ⟨K.wv,0,none⟩),.pointer (some ⟨K.bd,0,none⟩)] w fun e w'=>e = .returned (.tuple #[])∧FW w0.heap.size K Pr (.iface D rv) a c fbo Cnt w0 (visitS F c s q) (n+1) w':=by
 cases hF:F q with
 | none=>rw[vis_n hF];exact visit_none V q w h hl hbd hn hF
 | some v=>
   by_cases hv:v=c
   · rw[vis_c hF hv];subst hv;exact visit_in V q w h hl hbd hn hF
   · rw[vis_o hF hv];exact visit_out V q w h hl hbd hn hF hv
end
def steps6:List Pt:=[⟨1,0,0⟩,⟨-1,0,0⟩,⟨0,1,0⟩,⟨0,-1,0⟩,⟨0,0,1⟩,⟨0,0,-1⟩]
def steps18:List Value:=[.int .i64 1,.int .i64 0,.int .i64 0,.int .i64 (-1),.int .i64 0,.int .i64 0,.int .i64 0,.int .i64 1,.int .i64 0,.int .i64 0,.int .i64 (-1),.int .i64 0,.int .i64 0,.int .i64 0,.int .i64 1,.int .i64 0,.int .i64 0,.int .i64 (-1)]
def StepsIn(w:World):Prop:=∃ t fr,w.heap[1]? = some (.cells steps18.toArray t fr)
theorem StepsIn.lt{w:World}(h:StepsIn w):1 < w.heap.size:=by
 obtain⟨t,fr,h⟩:=h;exact(Array.getElem?_eq_some_iff.1 h).1
theorem StepsIn.kept{w w':World}(h:StepsIn w){row:Option Nat}(hg:w.grownBy w' row)(hne:row≠some 1):StepsIn w':=by
 have hl:=h.lt;obtain⟨t,fr,h⟩:=h;exact⟨t,fr,(hg.block _ hl (fun h=>hne h.symm)).trans h⟩
theorem StepsIn.ext{w w':World}(h:StepsIn w)(hx:Ext w w'):StepsIn w':=h.kept (hx.by_ none) (by simp)
theorem wpList_load_fr{P:Program}{ops:Array Oper}{rest:List Oper}{o:Oper}{a:Act}{w:World}{Q:Exit→Act→World→Prop}(ty:TypeId)(x:Operand)(ho:o.op = .load ty x)(hw:Region.wanted o (yielded ops a.tmps)=true)
    {b:Nat} {t:TypeId} {fr:Nat × Nat} {vs:List Value} (hB:w.heap[b]? = some (.cells vs.toArray t fr)) (hx:a.eval x = .pointer (some ⟨b,0,none⟩)) (d:TypeDesc) (hu:P.underlying ty=some d)
    (hd:(match d with | .struct _ | .array _ _=>true | _=>false)=true) (hi:(P.info? ty).map (·.size)=some vs.length) (h:wpList P ops Q rest (a.put o.dst (.agg vs.toArray)) w):wpList P ops Q (o:: rest) a w:=by
 refine wpList_step fun K hK=>?_;rw[if_pos hw];exact wp_load_row ty x ho b hx t vs.toArray fr d hB hu hd (by simpa using hi) (hK _ _ h)
def stepS(F:Pt→Option Int)(c:Int)(p:Pt)(s:Fs)(d:Pt):Fs:=if addP p d∈s.seen then s else visitS F c {s with seen:=s.seen++[addP p d] } (addP p d)
def foldS(F:Pt→Option Int)(c:Int)(p:Pt)(s:Fs)(k:Nat):Fs:=(steps6.take k).foldl (stepS F c p) s
theorem foldS_succ{F:Pt→Option Int}{c:Int}{p:Pt}{s:Fs}{k:Nat}{d:Pt}(h:steps6[k]? = some d):foldS F c p s (k+1)=stepS F c p (foldS F c p s k) d:=by
 unfold foldS;obtain⟨hk,rfl⟩:=List.getElem?_eq_some_iff.1 h;rw[List.take_succ_eq_append_getElem hk,List.foldl_append];rfl
theorem visitS_seen(F:Pt→Option Int)(c:Int)(s:Fs)(q:Pt):(visitS F c s q).seen=s.seen:=by
 unfold visitS
 split
 · split <;> rfl
 · rfl
theorem visitS_len(F:Pt→Option Int)(c:Int)(s:Fs)(q:Pt):s.l.length≤(visitS F c s q).l.length∧(visitS F c s q).l.length≤s.l.length+1∧s.bd.length≤(visitS F c s q).bd.length∧(visitS F c s q).bd.length≤s.bd.length+1:=by
 unfold visitS
 split
 · split
   · simp
   · simp
 · simp
theorem stepS_len(F:Pt→Option Int)(c:Int)(p:Pt)(s:Fs)(d:Pt):(stepS F c p s d).l.length≤s.l.length+1∧(stepS F c p s d).bd.length≤s.bd.length+1∧(stepS F c p s d).seen.length≤s.seen.length+1:=by
 unfold stepS
 split
 · omega
 · have h:=visitS_len F c {s with seen:=s.seen++[addP p d] } (addP p d);simp only at h;refine⟨by omega,by omega,by rw[visitS_seen];simp⟩
theorem foldS_len(F:Pt→Option Int)(c:Int)(p:Pt)(s:Fs):∀ k,k≤6→(foldS F c p s k).l.length≤s.l.length+k∧(foldS F c p s k).bd.length≤s.bd.length+k∧(foldS F c p s k).seen.length≤s.seen.length+k
 | 0,_=>by simp[foldS]
 | k+1,hk=>by
   have ih:=foldS_len F c p s k (by omega);obtain⟨d,hd⟩:∃ d,steps6[k]? = some d:=⟨_,List.getElem?_eq_getElem (by simp[steps6];omega)⟩;rw[foldS_succ hd];have:=stepS_len F c p (foldS F c p s k) d;omega
theorem ktPt:KeyT Tryz.prog 23 ptV where
 agg p:=⟨_,rfl⟩
 kind:=⟨_,Tryz.underlying23⟩
 eq x y w:=by
  obtain⟨a1,a2,a3⟩:=x;obtain⟨b1,b2,b3⟩:=y;unfold Op.equal ptV;rw[show Op.maxDepth=9999+1 from rfl,run_equalIn_struct w _ _ _ _ (by kernel_rfl) (by kernel_rfl)];rw[show(9999:Nat)=9998+1 from rfl];simp[go_sem]
  by_cases h1:a1=b1
  · by_cases h2:a2=b2
    · by_cases h3:a3=b3 <;> simp[h1,h2,h3]
    · simp[h1,h2]
  · simp[h1]
 chk b x w:=by
  cases b <;> kernel_rfl
 same x:=by
  simp[ptV,Instr.sameBits]
 inj x y h:=by
  unfold ptV at h
  cases x;cases y
  simpa using h
end Go.Proofs.YtoecbicdahbccaaGreatDoor
namespace Go.Proofs.YtoecbicdahbccaaGreatDoor
open Go Go.RowKit Go.ChangeShapes Go.WideShapes Go.ChangeAt
section
variable {P:Program} {H:Type} {enc:TypeId × Value→H} {w:World} {spare:Nat→Bool} {held:Bool} {n:Nat}
theorem int_at{t:TypeId}(ht:P.underlying t=some (.int .i64)){cs:List Value}{off:Nat}{v:Int}{p:List MemPlace}(h:DataW.trod enc P w 0 spare held n t ((cs.drop off).take 1)=some (.lit (.int .i64 v),p)):cs[off]? = some (.int .i64 v):=by
 obtain⟨k,e1,e2,_⟩:=DataW.trod_int ht h;injection e2 with e2 _
 injection e2 with e2
 injection e2 with _ e2
 subst e2;have h1:((cs.drop off).take 1)[0]? = some (.int .i64 v):=by rw[e1];rfl
 rw[List.getElem?_take,if_pos (by decide),List.getElem?_drop]at h1;exact h1
theorem str_at{t:TypeId}(ht:P.underlying t=some .string){cs:List Value}{off:Nat}{l:List UInt8}{p:List MemPlace}(h:DataW.trod enc P w 0 spare held n t ((cs.drop off).take 1)=some (.lit (.string l),p)):cs[off]? = some (strV l):=by
 obtain⟨s,e1,e2,_⟩:=DataW.trod_string ht h;injection e2 with e2 _
 injection e2 with e2
 injection e2 with e2
 have e3:s=⟨l.toArray⟩:=by
  obtain⟨⟨x⟩⟩:=s;rw[e2]
 subst e3;have h1:((cs.drop off).take 1)[0]? = some (strV l):=by rw[e1];rfl
 rw[List.getElem?_take,if_pos (by decide),List.getElem?_drop]at h1;exact h1
theorem part_at{ds:List (DataW H)}{xs:List (DataW H × List MemPlace)}{p:List MemPlace}{q:List MemPlace}(hx:((DataW.agg ds,p):DataW H × List MemPlace)=(.agg (xs.map (·.1)),q)){i:Nat}{d:DataW H}(hd:ds[i]? = some d):∃ r,xs[i]? = some (d,r):=by
 injection hx with hx _
 injection hx with hx
 subst hx;rw[List.getElem?_map]at hd;obtain⟨x,hx,rfl⟩:=Option.map_eq_some_iff.1 hd;exact⟨x.2,hx⟩
end
theorem gRows:Tryz.prog.globalNamed "voxel/edit.rows" = some 0:=by kernel_rfl
theorem gAxes:Tryz.prog.globalNamed "voxel/point.axes" = some 2:=by kernel_rfl
theorem pt_at{H:Type}{enc:TypeId × Value→H}{w:World}{spare:Nat→Bool}{held:Bool}{n:Nat}{cs:List Value}{a b c:Int}{p:List MemPlace}(h:DataW.trod enc Tryz.prog w 0 spare held n 23 cs=some (.agg [.lit (.int .i64 a),.lit (.int .i64 b),.lit (.int .i64 c)],p)):
    cs[0]? = some (.int .i64 a)∧cs[1]? = some (.int .i64 b)∧cs[2]? = some (.int .i64 c):=by
 obtain⟨xs,m,_,hx,_,_,hg⟩:=DataW.trod_struct Tryz.underlying23 h;obtain⟨r0,h0⟩:=part_at hx (i:=0) rfl;obtain⟨r1,h1⟩:=part_at hx (i:=1) rfl;obtain⟨r2,h2⟩:=part_at hx (i:=2) rfl;have c1:Tryz.prog.cellsOf 3=1:=by kernel_rfl
 have g0:DataW.trod enc Tryz.prog w 0 spare held m 3 ((cs.drop 0).take (Tryz.prog.cellsOf 3))=xs[0]?:=hg 0 _ rfl;have g1:DataW.trod enc Tryz.prog w 0 spare held m 3 ((cs.drop 1).take (Tryz.prog.cellsOf 3))=xs[1]?:=hg 1 _ rfl;have g2:DataW.trod enc Tryz.prog w 0 spare held m 3 ((cs.drop 2).take (Tryz.prog.cellsOf 3))=xs[2]?:=hg 2 _ rfl;rw[h0]at g0;rw[h1]at g1;rw[h2]at g2;rw[c1]at g0 g1 g2;exact⟨int_at Tryz.underlying3 g0,int_at Tryz.underlying3 g1,int_at Tryz.underlying3 g2⟩
theorem gSteps:Tryz.prog.globalNamed "voxel/fill.steps" = some 1:=by kernel_rfl
def laidL:List (String × DataW Unit):=[("voxel/point.axes",Rows.laid_voxel_point_axes),("voxel/fill.steps",Rows.laid_voxel_fill_steps),("voxel/edit.rows",Rows.laid_voxel_edit_rows)]
theorem rows_of{W:World}{cs:Array Value}{f:Nat}{p:List MemPlace}{enc:TypeId × Value→Unit}{spare:Nat→Bool}{held:Bool}(hv:W.var? Tryz.prog "voxel/edit.rows" = some cs) (hd:DataW.trod enc Tryz.prog W 0 spare held f 134 cs.toList=some (Rows.laid_voxel_edit_rows,p)):RowsIn W:=by
 obtain⟨xs,m,_,hx,_,_,hg⟩:=DataW.trod_array Tryz.underlying134 hd;have c2:Tryz.prog.cellsOf 133=2:=by kernel_rfl
 have c1:Tryz.prog.cellsOf 3=1:=by kernel_rfl
 rw[c2]at hg;have key:∀ i,i < 9→W.cell? ⟨0,2 * i+1,none⟩=some (.int .i64 (rowF i)):=by
  intro i hi;have hpart:∃ s r,xs[i]? = some (.agg [.lit (.string s),.lit (.int .i64 (rowF i))],r):=by
   match i,hi with
   | 0,_=>exact⟨_,part_at hx (i:=0) rfl⟩
   | 1,_=>exact⟨_,part_at hx (i:=1) rfl⟩
   | 2,_=>exact⟨_,part_at hx (i:=2) rfl⟩
   | 3,_=>exact⟨_,part_at hx (i:=3) rfl⟩
   | 4,_=>exact⟨_,part_at hx (i:=4) rfl⟩
   | 5,_=>exact⟨_,part_at hx (i:=5) rfl⟩
   | 6,_=>exact⟨_,part_at hx (i:=6) rfl⟩
   | 7,_=>exact⟨_,part_at hx (i:=7) rfl⟩
   | 8,_=>exact⟨_,part_at hx (i:=8) rfl⟩
   | i+9,h=>omega
  obtain⟨s,r,hp⟩:=hpart;have g:=hg i hi;rw[hp]at g;obtain⟨ys,k,_,hy,_,_,hf⟩:=DataW.trod_struct Tryz.underlying133 g;obtain⟨r1,h1⟩:=part_at hy (i:=1) rfl;have f1:DataW.trod enc Tryz.prog W 0 spare held k 3 ((((cs.toList.drop (i * 2)).take 2).drop 1).take (Tryz.prog.cellsOf 3))=ys[1]?:=hf 1 _ rfl;rw[h1,c1]at f1;have q:=int_at Tryz.underlying3 f1;rw[List.getElem?_take,if_pos (by decide),List.getElem?_drop,Array.getElem?_toList]at q;rw[World.var?_cell gRows hv (2 * i+1),show 2 * i+1=i * 2+1 by omega];exact q
 exact⟨key,World.block_lt_of_cell? W _ (key 0 (by decide))⟩
theorem axes_of{W:World}{cs:Array Value}{f:Nat}{p:List MemPlace}{enc:TypeId × Value→Unit}{spare:Nat→Bool}{held:Bool}(hv:W.var? Tryz.prog "voxel/point.axes" = some cs) (hd:DataW.trod enc Tryz.prog W 0 spare held f 179 cs.toList=some (Rows.laid_voxel_point_axes,p)):AxesIn W:=by
 obtain⟨xs,m,_,hx,_,_,hg⟩:=DataW.trod_array Tryz.underlying179 hd;have c1:Tryz.prog.cellsOf 9=1:=by kernel_rfl
 rw[c1]at hg;have key:∀ i,i < 6→W.cell? ⟨2,i,none⟩=some (strV (axisL i)):=by
  intro i hi;have hpart:∃ r,xs[i]? = some (.lit (.string (axisL i)),r):=by
   match i,hi with
   | 0,_=>exact part_at hx (i:=0) rfl
   | 1,_=>exact part_at hx (i:=1) rfl
   | 2,_=>exact part_at hx (i:=2) rfl
   | 3,_=>exact part_at hx (i:=3) rfl
   | 4,_=>exact part_at hx (i:=4) rfl
   | 5,_=>exact part_at hx (i:=5) rfl
   | i+6,h=>omega
  obtain⟨r,hp⟩:=hpart;have g:=hg i hi;rw[hp]at g;have q:=str_at Tryz.underlying9 g;rw[Array.getElem?_toList]at q;rw[World.var?_cell gAxes hv i]
  rwa [Nat.mul_one]at q
 exact⟨key,World.block_lt_of_cell? W _ (key 0 (by decide))⟩
theorem steps_of{W:World}{cs:Array Value}{f:Nat}{p:List MemPlace}{enc:TypeId × Value→Unit}{spare:Nat→Bool}{held:Bool}(hv:W.var? Tryz.prog "voxel/fill.steps" = some cs) (hd:DataW.trod enc Tryz.prog W 0 spare held f 167 cs.toList=some (Rows.laid_voxel_fill_steps,p)):StepsIn W:=by
 obtain⟨xs,m,_,hx,hlen,_,hg⟩:=DataW.trod_array Tryz.underlying167 hd;have c3:Tryz.prog.cellsOf 23=3:=by kernel_rfl
 have c18:Tryz.prog.cellsOf 167=18:=by kernel_rfl
 have hcl:cs.toList.length=18:=by first | (rw[hlen,c18]) | (rw[hlen,c3]) | (rw[c3]at hlen;simpa using hlen)
 clear hlen;rw[c3]at hg;have e:∀ (o j:Nat) (v:Value),j < 3→((cs.toList.drop o).take 3)[j]? = some v→cs.toList[o+j]? = some v:=fun o j v hj h=>by
  rw[List.getElem?_take,if_pos hj,List.getElem?_drop]at h;exact h
 obtain⟨r0,h0⟩:=part_at hx (i:=0) rfl;have g0:=hg 0 (by decide);rw[h0]at g0;obtain⟨a0,b0,c0⟩:=pt_at (a:=1) (b:=0) (c:=0) g0;obtain⟨r1,h1⟩:=part_at hx (i:=1) rfl;have g1:=hg 1 (by decide);rw[h1]at g1;obtain⟨a1,b1,c1⟩:=pt_at (a:=-1) (b:=0) (c:=0) g1;obtain⟨r2,h2⟩:=part_at hx (i:=2) rfl;have g2:=hg 2 (by decide);rw[h2]at g2;obtain⟨a2,b2,c2⟩:=pt_at (a:=0) (b:=1) (c:=0) g2;obtain⟨r3,h3⟩:=part_at hx (i:=3) rfl;have g3:=hg 3 (by decide);rw[h3]at g3;obtain⟨a3,b3,c3⟩:=pt_at (a:=0) (b:=-1) (c:=0) g3;obtain⟨r4,h4⟩:=part_at hx (i:=4) rfl;have g4:=hg 4 (by decide);rw[h4]at g4;obtain⟨a4,b4,c4⟩:=pt_at (a:=0) (b:=0) (c:=1) g4;obtain⟨r5,h5⟩:=part_at hx (i:=5) rfl;have g5:=hg 5 (by decide);rw[h5]at g5;obtain⟨a5,b5,c5⟩:=pt_at (a:=0) (b:=0) (c:=-1) g5;have hcs:cs.toList=steps18:=by
  apply List.ext_getElem?;intro j
  match j with
  | 0=>exact e 0 0 _ (by decide) a0
  | 1=>exact e 0 1 _ (by decide) b0
  | 2=>exact e 0 2 _ (by decide) c0
  | 3=>exact e 3 0 _ (by decide) a1
  | 4=>exact e 3 1 _ (by decide) b1
  | 5=>exact e 3 2 _ (by decide) c1
  | 6=>exact e 6 0 _ (by decide) a2
  | 7=>exact e 6 1 _ (by decide) b2
  | 8=>exact e 6 2 _ (by decide) c2
  | 9=>exact e 9 0 _ (by decide) a3
  | 10=>exact e 9 1 _ (by decide) b3
  | 11=>exact e 9 2 _ (by decide) c3
  | 12=>exact e 12 0 _ (by decide) a4
  | 13=>exact e 12 1 _ (by decide) b4
  | 14=>exact e 12 2 _ (by decide) c4
  | 15=>exact e 15 0 _ (by decide) a5
  | 16=>exact e 15 1 _ (by decide) b5
  | 17=>exact e 15 2 _ (by decide) c5
  | j+18=>rw[List.getElem?_eq_none (by omega),List.getElem?_eq_none (by simp[steps18])]
 have hh:∃ t fr,W.heap[1]? = some (.cells cs t fr):=by
  simp only[World.var?,gSteps,Option.bind_some]at hv
  split at hv
  · rename_i c t fr hb
    cases hv
    exact⟨t,fr,hb⟩
  · cases hv
 obtain⟨t,fr,hb⟩:=hh;refine⟨t,fr,?_⟩;rw[hb,← hcs]
theorem laid_of{W:World}(h:laidMetH Tryz.prog laidL W):AxesIn W∧StepsIn W∧RowsIn W:=by
 rw[MakeChecks.laidMetH_plain _ _ _ (by kernel_rfl)]at h;obtain⟨ps,⟨g0,t0,cs0,f0,p0,q0,hg0,ht0,hv0,hd0,⟨g1,t1,cs1,f1,p1,q1,hg1,ht1,hv1,hd1,⟨g2,t2,cs2,f2,p2,q2,hg2,ht2,hv2,hd2,_,_⟩,_⟩,_⟩,_,_⟩:=h;obtain rfl:=Option.some.inj (gAxes.symm.trans hg0);obtain rfl:=Option.some.inj (gSteps.symm.trans hg1);obtain rfl:=Option.some.inj (gRows.symm.trans hg2);obtain rfl:=Option.some.inj ((show(Tryz.prog.globals[2]?).map (·.type)=some 179 by kernel_rfl).symm.trans ht0);obtain rfl:=Option.some.inj ((show(Tryz.prog.globals[1]?).map (·.type)=some 167 by kernel_rfl).symm.trans ht1);obtain rfl:=Option.some.inj ((show(Tryz.prog.globals[0]?).map (·.type)=some 134 by kernel_rfl).symm.trans ht2);exact⟨axes_of hv0 hd0,steps_of hv1 hd1,rows_of hv2 hd2⟩
end Go.Proofs.YtoecbicdahbccaaGreatDoor
