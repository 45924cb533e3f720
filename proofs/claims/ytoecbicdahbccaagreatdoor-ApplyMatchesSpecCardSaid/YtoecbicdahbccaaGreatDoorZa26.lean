/- A part of the walk of the layer of apply: contracts and plain laws that a row's text leans on. -/
import Derived.Test.YtoecbicdahbccaaGreatDoorZa22
import Derived.Test.YtoecbicdahbccaaGreatDoorZa25
set_option maxRecDepth 100000
set_option maxHeartbeats 16000000
namespace Go.Proofs.YtoecbicdahbccaaGreatDoor
open Go Go.RowKit
theorem FSx.begin{B:Nat}{K:Bs}{fv:Value}{a:Pt}{c:Int}{w:World}(ok:K.Ok B)(af:Arr w K.f 36 [fv])(aa:Arr w K.at_ 23 [.int .i64 a.x,.int .i64 a.y,.int .i64 a.z])(ab:Arr w K.bd 62 [.slice none 0 0])(ac:Arr w K.cell 3 [.int .i64 c])
    (aw:Arr w K.wv 153 [.pointer (some ⟨K.walk,0,none⟩)]) (as_:Arr w K.walk 156 [.map (some K.map),.slice none 0 0]) (am:MapF ptV w K.map (fun q=>if q=a then some (.bool true)else none)) (hb:K.base≤w.heap.size):
    FSx B K [] fv a c ⟨[a],[],[]⟩ (.slice none 0 0) (.slice none 0 0) w:=
 ⟨ok,af,aa,ab,ac,aw,as_,am.cong fun q=>by simp,World.ownsRow_nil _ _ _ _,World.ownsRow_nil _ _ _ _,fun b hb=>by simp[Value.ownBlock]at hb,hb,fun b t vs hm=>by simp at hm⟩
def FloodP(F:Pt→Option Int)(a:Pt)(most:Int)(l bd:List Pt)(er:Int)(k:Nat):Prop:=
 (F a=none∧l = []∧bd = []∧er=9∧k=1)∨∃ c,F a=some c∧
   ((∃ (r:List Pt) (n:Nat),r.Nodup∧(∀ q,q∈r→Reach F c a q)∧most < r.length∧l = []∧bd = []∧er=2∧k≤1+6 * n∧(n=0∨(n:Int)≤most))∨
    (l.Nodup∧bd.Nodup∧(∀ q,q∈l↔Reach F c a q)∧(∀ q,q∈bd↔(∃ v,F q=some v∧v≠c)∧∃ p,Reach F c a p∧adj p q)∧(l.length:Int)≤most∧er=0∧k≤1+6 * l.length))
def RetFl(F:Pt→Option Int)(a:Pt)(most:Int)(fbo:Option Nat)(Cnt:Nat→World→Prop)(w:World)(en:Ending)(w':World):Prop:=
 ∃ l bd er k v1 v2,FloodP F a most l bd er k∧en = .returned (.tuple #[v1,v2,.int .i64 er])∧w'.ownsRow w.heap.size 23 3 v1 l.length (rowsP l).flatten∧w'.ownsRow w.heap.size 23 3 v2 bd.length (rowsP bd).flatten∧
   (∀ b,v1.ownBlock=some b→v2.ownBlock≠some b)∧Cnt k w'∧w.grownBy w' fbo
section
variable {D:TypeId} {rv rv':Value} {G:FuncId} {F:Pt→Option Int} {fbo:Option Nat} {Cnt:Nat→World→Prop} {w0:World}
theorem flood_any(V:FieldV w0.heap.size D rv rv' G F fbo Cnt)(hst:StepsIn w0)(hgl:fbo≠some 1)(a:Pt)(most:Int)(N:Nat)(hN:N≤80000)(hfin:∀ l:List Pt,l.Nodup→(∀ q,q∈l→F q≠none)→l.length≤N)
    (hsm:∀ q,F q≠none→Small q) (hc0:Cnt 0 w0):
    Calls Tryz.prog 121 #[.iface D rv,.agg #[.int .i64 a.x,.int .i64 a.y,.int .i64 a.z],.int .i64 most] w0 (RetFl F a most fbo Cnt w0):=by
 have hm:=mixed;have hG:=near_old;have hx0:Ext w0 (((w0.alloc (.cells #[.iface D rv] 36)).alloc (.cells #[.int .i64 a.x,.int .i64 a.y,.int .i64 a.z] 23)).alloc (.cells #[.slice none 0 0] 62)):=(((Ext.refl w0).alloc _).alloc _).alloc _;have A0:=((Arr.new w0 36 [.iface D rv]).alloc (.cells #[.int .i64 a.x,.int .i64 a.y,.int .i64 a.z] 23)).alloc (.cells #[.slice none 0 0] 62);have A1:=(Arr.new (w0.alloc (.cells #[.iface D rv] 36)) 23 [.int .i64 a.x,.int .i64 a.y,.int .i64 a.z]).alloc (.cells #[.slice none 0 0] 62);have A2:=Arr.new ((w0.alloc (.cells #[.iface D rv] 36)).alloc (.cells #[.int .i64 a.x,.int .i64 a.y,.int .i64 a.z] 23)) 62 [.slice none 0 0];simp only[World.size_alloc_]at A1 A2;have hc1:=V.keep 0 w0 _ hc0 hx0.below.block;have hcall:=V.call a 0 _ hx0.size (by omega) hc1;have HV:=Lib.hid V;have HX0:=Lib.hid hx0;have HA0:=Lib.hid A0;have HA1:=Lib.hid A1;have HA2:=Lib.hid A2;have HSM:=Lib.hid hsm;have HFIN:=Lib.hid hfin;have HST:=Lib.hid hst;have HME:=Lib.hid V.meth;have HEN:=Lib.hid V.enters;clear V hx0 A0 A1 A2 hc0 hc1 hfin hsm hst
 cases hF:F a with
 | none=>
   rw[hF]at hcall;have HC:=Lib.hid hcall;have HF:=Lib.hid hF;clear hcall hF;simp only[Option.isSome]at HC
   go_enter Tryz.func121,Tryz.ntmps121
   go_upto_region 1 with fail
   obtain⟨W1,hW⟩:∃ W,W=((w0.alloc (.cells #[.iface D rv] 36)).alloc (.cells #[.int .i64 a.x,.int .i64 a.y,.int .i64 a.z] 23)).alloc (.cells #[.slice none 0 0] 62):=⟨_,rfl⟩;rw[← hW]at HX0 HA0 HA1 HA2 HC;rw[← hW];clear hW;have f0:=HA0.out.cell 0;simp only[List.getElem?_cons_zero]at f0;have hme:=HME.out;have hen:=HEN.out
   go_upto_region 2 with(first
    | (refine wpList_load_blk 23 (.tmp 4) rfl rfl HA1.out rfl _ Tryz.underlying23 rfl (by kernel_rfl) ?_)
    | (go_at_fn G;refine HC.out.mono ?_;rintro e W2 ⟨⟨u,rfl,hu⟩,hc2,hg2⟩))
   clear hu;have hx3:Ext W2 (W2.alloc (.cells #[.int .i64 u] 3)):=(Ext.refl _).alloc _;have ne:=HV.out.low;have hg1:w0.grownBy W2 fbo:=grown_trans (HX0.out.by_ fbo) hg2;have HA5:=(HA2.out.kept hg2 (fun e=>by have:=ne _ e;omega)).ext hx3;have b0:=HA5.cell 0;have fb:=HA5.frozen 0;simp only[List.getElem?_cons_zero]at b0;have hc3:=HV.out.keep 1 W2 _ hc2 (fun b hb=>hx3.below.block b (Nat.lt_of_lt_of_le hb hg1.size));have hg3:=grown_ext hg1 hx3;obtain⟨W3,hW⟩:∃ W,W=W2.alloc (.cells #[.int .i64 u] 3):=⟨_,rfl⟩;rw[← hW]at b0 fb hc3 hg3;rw[← hW];have hset:Below w0.heap.size W3 (W3.setCell ⟨w0.heap.size+1+1,0,none⟩ (.slice none 0 0)):=(Below.refl _ _).setCell (by simp only;omega) _;have HC9:=Lib.hid (HV.out.keep _ W3 _ hc3 hset.block);have HG9:=Lib.hid (grown_below hg3 hset);clear hW hx3 hc2 hg2 hg1 ne f0 hme hen HA5 hc3 hg3 hset;go_wp2
   refine bodyPost_ret (v:=.tuple #[.slice none 0 0,.slice none 0 0,.int .i64 9]) ?_ rfl ?_
   · simp (maxDischargeDepth:=9) only [results,Tryz.results121]
     first
      | (go_simp;done)
      | (go_simp;simp;done)
      | (simp (maxDischargeDepth:=9) [go_sem, *];done)
      | (simp (maxDischargeDepth:=9) [go_sem, *];simp)
   exact⟨[],[],9,1,_,_,.inl ⟨HF.out,rfl,rfl,rfl,rfl⟩,rfl,World.ownsRow_nil _ _ _ _,World.ownsRow_nil _ _ _ _,fun b hb=>by simp[Value.ownBlock]at hb,HC9.out,HG9.out⟩
 | some c=>
   rw[hF]at hcall;have HC:=Lib.hid hcall;have HF:=Lib.hid hF;clear hcall hF;simp only[Option.isSome]at HC
   go_enter Tryz.func121,Tryz.ntmps121
   go_upto_region 1 with fail
   obtain⟨W1,hW⟩:∃ W,W=((w0.alloc (.cells #[.iface D rv] 36)).alloc (.cells #[.int .i64 a.x,.int .i64 a.y,.int .i64 a.z] 23)).alloc (.cells #[.slice none 0 0] 62):=⟨_,rfl⟩;rw[← hW]at HX0 HA0 HA1 HA2 HC;rw[← hW];clear hW;have f0:=HA0.out.cell 0;simp only[List.getElem?_cons_zero]at f0;have hme:=HME.out;have hen:=HEN.out
   go_upto_region 2 with(first
    | (refine wpList_load_blk 23 (.tmp 4) rfl rfl HA1.out rfl _ Tryz.underlying23 rfl (by kernel_rfl) ?_)
    | (go_at_fn G;refine HC.out.mono ?_;rintro e W2 ⟨⟨u,rfl,hu⟩,hc2,hg2⟩;obtain rfl:c=u:=(hu _ rfl).symm))
   have HX3:=Lib.hid (show Ext W2 (W2.alloc (.cells #[.int .i64 c] 3))from(Ext.refl _).alloc _);have ne:=HV.out.low;have hg1:w0.grownBy W2 fbo:=grown_trans (HX0.out.by_ fbo) hg2;have HA3:=Lib.hid ((HA0.out.kept hg2 (fun e=>by have:=ne _ e;omega)).ext HX3.out);have HA4:=Lib.hid ((HA1.out.kept hg2 (fun e=>by have:=ne _ e;omega)).ext HX3.out);have HA5:=Lib.hid ((HA2.out.kept hg2 (fun e=>by have:=ne _ e;omega)).ext HX3.out);have HA6:=Lib.hid (Arr.new W2 3 [.int .i64 c]);have HC3:=Lib.hid (HV.out.keep 1 W2 _ hc2 (fun b hb=>HX3.out.below.block b (Nat.lt_of_lt_of_le hb hg1.size)));have HG3:=Lib.hid (grown_ext hg1 HX3.out);have hl2:w0.heap.size+3≤W2.heap.size:=by have h1:=HA2.out.lt;have h2:=hg2.size;omega
   obtain⟨cb,hcb⟩:∃ cb,cb=W2.heap.size:=⟨_,rfl⟩;have hs3:(W2.alloc (.cells #[.int .i64 c] 3)).heap.size=cb+1:=by rw[hcb];simp
   obtain⟨W3,hW⟩:∃ W,W=W2.alloc (.cells #[.int .i64 c] 3):=⟨_,rfl⟩;rw[← hW]at HA3 HA4 HA5 HA6 HC3 HG3 hs3;rw[← hW,← hcb];rw[← hcb]at HA6 hl2;clear hW hcb HX3 hc2 hg2 hg1 ne f0 hme hen HC HA0 HA1 HA2 HX0;have hmm:=@run_makeMap Tryz.prog
   go_upto_region 4 with fail
   have HA7:=Lib.hid (HA4.out.alloc (.map #[] 0));have HMD:=Lib.hid (show MapF ptV (W3.alloc (.map #[] 0)) (cb+1) (fun _=>none)from hs3 ▸ MapF.made (enc:=ptV) W3)
   go_wp2_with (first
    | (refine wpList_load_blk 23 (.tmp 4) rfl rfl HA7.out rfl _ Tryz.underlying23 rfl (by kernel_rfl) ?_)
    | (refine wpList_insert_F rfl (.tmp 21) (.tmp 22) (.const (.bool true)) rfl HMD.out ktPt Tryz.underlying154 a (.bool true) rfl rfl rfl ?_))
   intro W5 hm5 hg5;have hg35:Below W3.heap.size W3 W5:=((Ext.refl W3).alloc (.map #[] 0)).below.trans (below_grown hg5 (by omega) (by simp));have hl5:cb+2≤W5.heap.size:=by have:=hg5.size;simp at this;omega
   have hx35:Ext W3 W5:=⟨hg35⟩;have HA13:=Lib.hid (HA3.out.ext hx35);have HA14:=Lib.hid (HA4.out.ext hx35);have HA15:=Lib.hid (HA5.out.ext hx35);have HA16:=Lib.hid (HA6.out.ext hx35);have HC5:=Lib.hid (HV.out.keep 1 W3 _ HC3.out (fun b hb=>hx35.below.block b (Nat.lt_of_lt_of_le hb HG3.out.size)));have HG5:=Lib.hid (grown_ext HG3.out hx35);have HM5:=Lib.hid hm5;clear HMD hm5 hg5 hg35 hx35 HA3 HA4 HA5 HA6 HA7 HC3 HG3 hmm
   go_upto_region 5 with fail
   obtain⟨wb,hwb⟩:∃ wb,wb=W5.heap.size:=⟨_,rfl⟩;have hok:Bs.Ok ⟨w0.heap.size,w0.heap.size+1,w0.heap.size+1+1,cb,wb+1,wb,cb+1,wb+2⟩ w0.heap.size:=by
    refine⟨?_,?_⟩
    · simp;omega
    · intro b hb;simp at hb;show w0.heap.size≤b∧b < wb+2;omega
   have hx7:Ext W5 ((W5.alloc (.cells #[.map (some (cb+1)),.slice none 0 0] 156)).alloc (.cells #[.pointer (some ⟨W5.heap.size,0,none⟩)] 153)):=((Ext.refl _).alloc _).alloc _;have A8:=(Arr.new W5 156 [.map (some (cb+1)),.slice none 0 0]).alloc (.cells #[.pointer (some ⟨W5.heap.size,0,none⟩)] 153);have A9:=Arr.new (W5.alloc (.cells #[.map (some (cb+1)),.slice none 0 0] 156)) 153 [.pointer (some ⟨W5.heap.size,0,none⟩)];simp only[World.size_alloc_]at A9;have hs7:((W5.alloc (.cells #[.map (some (cb+1)),.slice none 0 0] 156)).alloc (.cells #[.pointer (some ⟨W5.heap.size,0,none⟩)] 153)).heap.size=W5.heap.size+2:=by simp
   have fs0:=FSx.begin (B:=w0.heap.size) (K:=⟨w0.heap.size,w0.heap.size+1,w0.heap.size+1+1,cb,wb+1,wb,cb+1,wb+2⟩) (fv:=.iface D rv) (a:=a) (c:=c) hok (HA13.out.ext hx7) (HA14.out.ext hx7) (HA15.out.ext hx7) (HA16.out.ext hx7) (hwb ▸ A9) (hwb ▸ A8) ((HM5.out.ext hx7).cong fun q=>rfl) (by show wb+2≤_;omega);have hsz5:=HG5.out.size;have HW7:=Lib.hid (show FW w0.heap.size ⟨w0.heap.size,w0.heap.size+1,w0.heap.size+1+1,cb,wb+1,wb,cb+1,wb+2⟩ [] (.iface D rv) a c fbo Cnt w0 ⟨[a],[],[]⟩ 1 _ from
    ⟨⟨_,_,fs0⟩,HV.out.keep 1 W5 _ HC5.out (fun b hb=>hx7.below.block b (Nat.lt_of_lt_of_le hb hsz5)),grown_ext HG5.out hx7⟩)
   obtain⟨W7,hW⟩:∃ W,W=((W5.alloc (.cells #[.map (some (cb+1)),.slice none 0 0] 156)).alloc (.cells #[.pointer (some ⟨W5.heap.size,0,none⟩)] 153)):=⟨_,rfl⟩;rw[← hW]at HW7;rw[← hW,← hwb];clear hW hwb hok hx7 A8 A9 hs7 fs0 HA13 HA14 HA15 HA16 HC5 HG5 HM5 hsz5 hl5 hl2 hs3 hu;obtain⟨K,hK⟩:∃ K:Bs,K=⟨w0.heap.size,w0.heap.size+1,w0.heap.size+1+1,cb,wb+1,wb,cb+1,wb+2⟩:=⟨_,rfl⟩;rw[← hK]at HW7;have kf:w0.heap.size=K.f:=by rw[hK]
   have ka:w0.heap.size+1=K.at_:=by rw[hK]
   have kb:w0.heap.size+1+1=K.bd:=by rw[hK]
   have kc:cb=K.cell:=by rw[hK]
   have kv:wb+1=K.wv:=by rw[hK]
   have kw:wb=K.walk:=by rw[hK]
   have kba:w0.heap.size≤K.base:=by
    obtain⟨_,_,h⟩:=HW7.out.st;have:=h.ok.low.1;omega
   rw[kb,ka,kf,kc,kv,kw];clear ka kb kf kc kv kw hK;have HP7:=Lib.hid (push_any HV.out a W7.heap.size _ (HW7.out.ext HV.out ((Ext.refl W7).alloc (.cells ([.int .i64 a.x,.int .i64 a.y,.int .i64 a.z]:List Value).toArray 23))) (Arr.new W7 23 [.int .i64 a.x,.int .i64 a.y,.int .i64 a.z]) (by simp));obtain⟨lv7,bv7,hs7⟩:=HW7.out.st;have wv0:=hs7.aw.cell 0;simp only[List.getElem?_cons_zero]at wv0;have HAA:=Lib.hid hs7.aa;clear hs7
   go_upto_region 6 with(first
    | (refine wpList_load_blk 23 (.tmp 4) rfl rfl HAA.out rfl _ Tryz.underlying23 rfl (by kernel_rfl) ?_)
    | (refine wpList_buildRow rfl 62 23 27 rfl 3 (by decide) (by decide) ([.int .i64 a.x,.int .i64 a.y,.int .i64 a.z]) rfl rfl Tryz.underlying62 (by kernel_rfl) (by kernel_rfl) ?_)
    | (go_at_call 148;refine HP7.out.mono ?_;rintro e W8 ⟨rfl,h8⟩))
   have HW8:=Lib.hid h8;clear h8 wv0 HAA HP7 HW7
   go_wp2_with fail
   go_loopw [12] (fun i wr=>∃ (n:Nat) (s:Fs),i = .int .i64 n∧FInv F c a n (1+6 * n) s∧(n=0∨(n:Int)≤most)∧FW w0.heap.size K [] (.iface D rv) a c fbo Cnt w0 s s.seen.length wr) (fun i _=>N+1 - (intOf i).toNat)
   case atStart=>exact⟨0,⟨[a],[a],[]⟩,rfl,FInv.start HF.out,.inl rfl,HW8.out⟩
   case round=>
    obtain⟨n,s,rfl,hinv,hnm,hw⟩:=hrel;have hln:s.l.length≤N:=HFIN.out _ hinv.ln (fun q hq=>by rw[(hinv.ls q hq).2.val HF.out];simp);have hbn:s.bd.length≤N:=HFIN.out _ hinv.bn (fun q hq=>by obtain⟨_,⟨v,hv,_⟩,_⟩:=hinv.bs q hq;rw[hv];simp);have hnl:=hinv.nl;have hsz:=hinv.sz;have HI:=Lib.hid hinv;have HW:=Lib.hid hw;obtain⟨lv,bv,hs⟩:=hw.st;obtain⟨LA,Lc,rfl⟩:=own_len hs.rl;have wv0:=hs.aw.cell 0;have wk1:=hs.as_.cell 1;have lwv:=hs.aw.lt;have lwk:=hs.as_.lt;have ab0:=hs.ab.cell 0;have fb0:=hs.ab.frozen 0;have lab:=hs.ab.lt;obtain⟨BA,Bc,rfl⟩:=own_len hs.rb;simp only[List.getElem?_cons_zero,List.getElem?_cons_succ]at wv0 wk1 ab0;have HS:=Lib.hid hs;clear hinv hw hs
    by_cases hlt:n < s.l.length
    · by_cases hmo:most < s.l.length
      · have hset:Below w0.heap.size wr (wr.setCell ⟨K.bd,0,none⟩ (.slice none 0 0)):=(Below.refl _ _).setCell HS.out.ok.low.2.2.1.1 _;have HC9:=Lib.hid (HV.out.keep _ wr _ HW.out.cnt hset.block);have HG9:=Lib.hid (grown_below HW.out.grown hset);clear hset;go_wp2
        refine bodyPost_ret (v:=.tuple #[.slice none 0 0,.slice none 0 0,.int .i64 2]) ?_ rfl ?_
        · simp (maxDischargeDepth:=9) only [results,Tryz.results121]
          first
           | (go_simp;done)
           | (go_simp;simp;done)
           | (simp (maxDischargeDepth:=9) [go_sem, *];done)
           | (simp (maxDischargeDepth:=9) [go_sem, *];simp)
        exact⟨[],[],2,s.seen.length,_,_,.inr ⟨c,HF.out,.inl ⟨s.l,n,HI.out.ln,fun q hq=>(HI.out.ls q hq).2,hmo,rfl,rfl,rfl,hsz,hnm⟩⟩,rfl,World.ownsRow_nil _ _ _ _,World.ownsRow_nil _ _ _ _,fun b hb=>by simp[Value.ownBlock]at hb,HC9.out,HG9.out⟩
      · obtain⟨p,hp⟩:∃ p,s.l[n]? = some p:=⟨_,List.getElem?_eq_getElem hlt⟩;obtain⟨b,off,rfl,hbl,r0,r1,r2⟩:=pt_row (Sv.of_own HS.out.rl (rowsP_rwk s.l) (rowsP_length s.l)) hp;have hpr:=(HI.out.ls p (List.mem_of_getElem? hp)).2;have HNX:=Lib.hid (HI.out.next hp (HSM.out p (by rw[hpr.val HF.out];simp)));clear hp hpr
        go_upto_region 11 with fail
        refine wp_region_near_tail 9 (by assumption) (by kernel_rfl) ?_;simp only[List.take_succ_cons,List.take_zero,List.drop_succ_cons,List.drop_zero]
        repeat (go_big_quiet_step (fail))
        refine wpQuiet_nil ?_;intro w1 hw1;have hy:=Ext.of_near hw1;clear hw1;have HW10:=Lib.hid (HW.out.ext HV.out hy);have HAR:=Lib.hid (flAround_any HV.out HST.out hgl p w1 HW10.out (by omega) (by omega) (by omega));have hfl:=foldS_len F c p s 6 (Nat.le_refl _)
        go_wp2_with (go_at_call 149;refine HAR.out.mono ?_;rintro e W11 ⟨rfl,h11⟩)
        have HW11:=Lib.hid h11;clear h11;go_roundw
        case rel=>exact⟨n+1,foldS F c p s 6,by go_num,by have h:=HNX.out;rwa [show 1+6 * n+6=1+6 * (n+1)by omega]at h,.inr (by omega),HW11.out⟩
        case measure=>simp[intOf];omega
    · obtain rfl:n=s.l.length:=by omega
      go_upto_region 12 with fail
      refine wp_region_near_tail 6 (by assumption) (by kernel_rfl) ?_;simp only[List.take_succ_cons,List.take_zero,List.drop_succ_cons,List.drop_zero]
      repeat (go_big_quiet_step (fail))
      refine wpQuiet_nil ?_;intro w1 hw1;have hy:=Ext.of_near hw1;clear hw1;have HW10:=Lib.hid (HW.out.ext HV.out hy);obtain⟨lv',bv',hs10⟩:=HW10.out.st;have hsx:=HS.out.ext hy;have wk2:=hsx.as_.cell 1;have ab2:=hsx.ab.cell 0;have fb2:=hsx.ab.frozen 0;have lab2:=hsx.ab.lt;have hset:Below w0.heap.size w1 (w1.setCell ⟨K.bd,0,none⟩ (.slice BA s.bd.length Bc)):=(Below.refl _ _).setCell hsx.ok.low.2.2.1.1 _;have HC9:=Lib.hid (HV.out.keep _ w1 _ HW10.out.cnt hset.block);have HG9:=Lib.hid (grown_below HW10.out.grown hset);have HSX:=Lib.hid hsx;clear hset hs10 hsx wv0 wk1 ab0;simp only[List.getElem?_cons_zero,List.getElem?_cons_succ]at wk2 ab2;go_wp2
      have hd:=HI.out.done;have HO1:=Lib.hid (own_low_mono kba (own_keep HSX.out.rl (grown_set (g:=K.bd) (grown_refl w1 _) 0 (.slice BA s.bd.length Bc)) (fun b hb hv=>by have h1:=own_low HSX.out.rl b hv;have h2:=HSX.out.ok.low.2.2.1.2;injection hb with hb;omega)));have HO2:=Lib.hid (own_low_mono kba (own_keep HSX.out.rb (grown_set (g:=K.bd) (grown_refl w1 _) 0 (.slice BA s.bd.length Bc)) (fun b hb hv=>by have h1:=own_low HSX.out.rb b hv;have h2:=HSX.out.ok.low.2.2.1.2;injection hb with hb;omega)));have HD:=Lib.hid hd;clear hd;have hlm:(s.l.length:Int)≤most:=by
       rcases hnm with h | h
       · have:=List.length_pos_of_mem HI.out.am;omega
       · exact h
      refine bodyPost_ret (v:=.tuple #[.slice LA s.l.length Lc,.slice BA s.bd.length Bc,.int .i64 0]) ?_ rfl ?_
      · simp (maxDischargeDepth:=9) only [results,Tryz.results121]
        first
         | (go_simp;done)
         | (go_simp;simp;done)
         | (simp (maxDischargeDepth:=9) [go_sem, *];done)
         | (simp (maxDischargeDepth:=9) [go_sem, *];simp)
      exact⟨s.l,s.bd,0,s.seen.length,_,_,.inr ⟨c,HF.out,.inr ⟨HI.out.ln,HI.out.bn,HD.out.1,HD.out.2,hlm,rfl,hsz⟩⟩,rfl,HO1.out,HO2.out,HSX.out.apart,HC9.out,HG9.out⟩
end
end Go.Proofs.YtoecbicdahbccaaGreatDoor
namespace Go.Proofs.YtoecbicdahbccaaGreatDoor
open Go Go.Shelf Go.RowKit Go.Lib Go.Sort
section
variable {P:Program} {k:Nat} {enc:Chg→List Value} {cf:Chg→Chg→Int} {g:Nat} {cb:Array Value} {blk off cap n0:Nat} {d0:Array Chg} {w0:World}
theorem stable_st(L:StC P k)(R:RowK enc k w0 blk off d0)(hs:d0.size=n0)(hsz:n0 < 1152921504606846976)(eg:∀ args w,(callFunc g args).run P w = .ok (.enter g args) w)(hcmp:CmpLays P g cb enc k cf blk off n0 w0)(hlt:∀ x y,ltOf cf x y=befP x.at_ y.at_)
    (hin:∀ (D:Nat→TC) (a b:Nat) (W:World),a≤b→b≤n0→(∀ x y,a≤x→x < y→y < b→(D x).2 < (D y).2)→RSt enc k w0 blk off n0 D W→Calls P 133 #[.slice (some ⟨blk,off,none⟩) n0 cap,.int .i64 a,.int .i64 b,.func (.func g) #[] cb] W fun e w'=>e = .returned (.tuple #[])∧∃ E,MrgT D E a b∧RSt enc k w0 blk off n0 E w') {D0:Nat→TC} (h0:∀ i,i < n0→(D0 i).2=i) (w:World) (S:RSt enc k w0 blk off n0 D0 w):
    Calls P 94 #[.slice (some ⟨blk,off,none⟩) n0 cap,.int .i64 n0,.func (.func g) #[] cb] w fun e w'=>e = .returned (.tuple #[])∧∃ E,(SameOn D0 E 0 n0∧SrtT E 0 n0)∧RSt enc k w0 blk off n0 E w':=by
 have mixed:=L.mixed;have t0:=L.t0;have v0:=L.v0;have t3:=L.t3;have a3:=L.a3;have z3:=L.z3;have v3:=L.v3;have t4:=L.t4;have a4:=L.a4;have z4:=L.z4;have v4:=L.v4;have t38:=L.t38;have a38:=L.a38;have z38:=L.z38;have v38:=L.v38;have t86:=L.t86;have a86:=L.a86;have z86:=L.z86;have v86:=L.v86;have t162:=L.t162;have a162:=L.a162;have z162:=L.z162;have v162:=L.v162;have aE:=L.aE;have zE:=L.zE;have S0:Aside _:=S;have e1:=L.einf;have e2:=L.esyf;have HI:=Lib.hid hin;have HM:=Lib.hid (fun(D:Nat→TC) (a m b:Nat) (h1:PreT D a m b) (h2:b≤n0) W (S:RSt enc k w0 blk off n0 D W)=>symMerge_st (cap:=cap) L R hs (by omega) eg hcmp hlt (b - a+1) D a m b W (by omega) h1 h2 S);have H0:=Lib.hid h0;have HL:=L.stf;clear S hin hcmp hlt L h0 R hs
 go_enter HL,Tryz.ntmps94
 clear HL
 go_wp2_with fail
 go_loopg [7,8] (n0 / 20) (fun g1 v7 v8 wr=>∃ (t a:Nat) (D:Nat→TC),v7 = .int .i64 a∧v8 = .int .i64 ((a:Int)+20)∧a≤n0∧n0 / 20 - t≤g1∧a=20 * t∧Hid (Ph1 D0 D n0 t)∧Aside (RSt enc k w0 blk off n0 D wr))
 case atStart=>exact⟨0,0,D0,rfl,rfl,Nat.zero_le _,Nat.le_refl _,rfl,Lib.hid ph1_start,S0⟩
 case round=>
  clear S0;obtain⟨t,a,D,rfl,rfl,han,hg1,hat,HP,S1⟩:=hrel
  by_cases hb:a+20≤n0
  · have hbz:(a:Int)+20≤(n0:Int):=by omega
    have hX:=HI.out D a (a+20) _ (by omega) hb (fun x y h1 h2 h3=>by rw[HP.out.rest x (by omega),HP.out.rest y (by omega),H0.out x (by omega),H0.out y (by omega)];exact h2) S1.out;have hzz:((a+20:Nat):Int)=(a:Int)+20:=by omega
    rw[hzz]at hX;have HX:=Lib.hid hX;have HAT:=Lib.hid hat;clear hX hzz hat
    go_wp2_with (go_at_fn 133;refine HX.out.mono ?_;rintro e W' ⟨rfl,E,hE,hS⟩;have S2:Aside _:=hS;have HE:=Lib.hid hE;clear hS hE)
    go_roundg (n0 / 20 - (t+1))
    case measure=>have:=HAT.out;omega
    case rel=>exact⟨t+1,a+20,_,by first | rfl | go_num | (congr 1;omega),by first | rfl | go_num | (congr 1;omega),hb,Nat.le_refl _,by have:=HAT.out;omega,Lib.hid (by have ha:=HAT.out;subst ha;exact ph1_step H0.out HP.out hb HE.out.1 HE.out.2),S2⟩
  · have hbz:¬ (a:Int)+20≤(n0:Int):=by omega
    have HX:=Lib.hid (HI.out D a n0 _ han (Nat.le_refl _) (fun x y h1 h2 h3=>by rw[HP.out.rest x (by omega),HP.out.rest y (by omega),H0.out x (by omega),H0.out y (by omega)];exact h2) S1.out);have HAT:=Lib.hid hat;clear hat
    go_wp2_with (go_at_fn 133;refine HX.out.mono ?_;rintro e W' ⟨rfl,E,hE,hS⟩;have S2:Aside (RSt enc k w0 blk off n0 E W'):=hS;have HE:=Lib.hid hE;clear hS hE)
    have HQ:=Lib.hid (show Ph2 D0 E n0 20 0 by have ha:=HAT.out;subst ha;exact ph1_end H0.out HP.out han (by omega) HE.out.1 HE.out.2);clear HE HAT HX HP S1 hbz hb hg1
    go_loopg [6] (n0 - 20) (fun g1 v6 wr=>∃ (bs:Nat) (D:Nat→TC),v6 = .int .i64 bs∧0 < bs∧bs≤2 * n0+20∧n0 - bs≤g1∧Hid (Ph2 D0 D n0 bs 0)∧Aside (RSt enc k w0 blk off n0 D wr))
    case atStart=>exact⟨20,E,rfl,by omega,by omega,Nat.le_refl _,HQ,S2⟩
    case round=>
     clear S2 HQ;obtain⟨bs,D,rfl,hb0,hb1,hg1,HP,S1⟩:=hrel
     by_cases hbn:bs < n0
     · have hbz:(bs:Int) < (n0:Int):=by omega
       go_wp2_with fail
       go_loopg [7,8] n0 (fun g2 v7 v8 wr=>∃ (t a:Nat) (D:Nat→TC),v7 = .int .i64 a∧v8 = .int .i64 ((a:Int)+2 * (bs:Int))∧a≤n0∧n0 - a≤g2∧Hid (a=2 * bs * t)∧Hid (Ph2 D0 D n0 bs t)∧Aside (RSt enc k w0 blk off n0 D wr))
       case atStart=>exact⟨0,0,D,rfl,by first | rfl | go_num | (congr 1;omega),Nat.zero_le _,Nat.le_refl _,Lib.hid (by simp),HP,S1⟩
       case round=>
        clear S1 HP;obtain⟨t,a,D,rfl,rfl,han,hg2,HAT,HP,S1⟩:=hrel
        by_cases hb:a+2 * bs≤n0
        · have hbz2:(a:Int)+2 * (bs:Int)≤(n0:Int):=by omega
          have hX:=HM.out D a (a+bs) (a+2 * bs) (by
           have ha:=HAT.out;have hp:=ph2_parts HP.out (by rw[← ha];omega);rw[← ha,Nat.min_eq_left hb]at hp;exact⟨by omega,by omega,hp.1,hp.2.1,hp.2.2.1⟩) hb _ S1.out
          have hzz:((a+2 * bs:Nat):Int)=(a:Int)+2 * (bs:Int):=by omega
          have hzy:((a+bs:Nat):Int)=(a:Int)+(bs:Int):=by omega
          rw[hzz,hzy]at hX;have HX:=Lib.hid hX;clear hX hzz hzy
          go_wp2_with (go_at_fn 134;refine HX.out.mono ?_;rintro e W' ⟨rfl,E,hE,hS⟩;have S2:Aside _:=hS;have HE:=Lib.hid hE;clear hS hE)
          go_roundg (n0 - (a+2 * bs))
          case measure=>omega
          case rel=>exact⟨t+1,a+2 * bs,_,by first | rfl | go_num | (congr 1;omega),by first | rfl | go_num | (congr 1;omega),hb,Nat.le_refl _,Lib.hid (by rw[HAT.out,Nat.mul_succ]),Lib.hid (ph2_step HP.out (by rw[← HAT.out];exact hb) hb0 (by rw[← HAT.out];exact HE.out.1) (by rw[← HAT.out];exact HE.out.2)),S2⟩
        · have hbz2:¬ (a:Int)+2 * (bs:Int)≤(n0:Int):=by omega
          by_cases hmn:a+bs < n0
          · have hmz:(a:Int)+(bs:Int) < (n0:Int):=by omega
            have hX:=HM.out D a (a+bs) n0 (by
             have ha:=HAT.out;have hp:=ph2_parts HP.out (by rw[← ha];omega);rw[← ha,Nat.min_eq_right (by omega)]at hp;exact⟨by omega,by omega,hp.1,hp.2.1,hp.2.2.1⟩) (Nat.le_refl _) _ S1.out
            have hzy:((a+bs:Nat):Int)=(a:Int)+(bs:Int):=by omega
            rw[hzy]at hX;have HX:=Lib.hid hX;clear hX hzy
            go_wp2_with (go_at_fn 134;refine HX.out.mono ?_;rintro e W' ⟨rfl,E,hE,hS⟩;have S2:Aside _:=hS;have HE:=Lib.hid hE;clear hS hE)
            go_roundg (n0 - 2 * bs)
            case measure=>omega
            case rel=>exact⟨2 * bs,_,by first | rfl | go_num | (congr 1;omega),by omega,by omega,Nat.le_refl _,Lib.hid (ph2_end HP.out (by rw[← HAT.out];exact han) (by rw[← HAT.out];omega) (.inr ⟨by rw[← HAT.out];exact hmn,by rw[← HAT.out];exact HE.out.1,by rw[← HAT.out];exact HE.out.2⟩)),S2⟩
          · have hmz:¬ (a:Int)+(bs:Int) < (n0:Int):=by omega
            go_wp2
            go_roundg (n0 - 2 * bs)
            case measure=>omega
            case rel=>exact⟨2 * bs,_,by first | rfl | go_num | (congr 1;omega),by omega,by omega,Nat.le_refl _,Lib.hid (ph2_end HP.out (by rw[← HAT.out];exact han) (by rw[← HAT.out];omega) (.inl ⟨by rw[← HAT.out];omega,rfl⟩)),S1⟩
     · have hbz:¬ (bs:Int) < (n0:Int):=by omega
       go_wp2
       go_end0
       exact⟨rfl,D,⟨HP.out.all,ph2_sorted HP.out (by omega)⟩,S1.out⟩
end
end Go.Proofs.YtoecbicdahbccaaGreatDoor
namespace Go.Proofs.YtoecbicdahbccaaGreatDoor
open Go Go.RowKit Go.Sort
theorem order_any(x y:Chg)(w:World):
    Calls Tryz.prog 47 #[.agg #[.int .i64 x.at_.x,.int .i64 x.at_.y,.int .i64 x.at_.z,.int .i64 x.old,.int .i64 x.new],.agg #[.int .i64 y.at_.x,.int .i64 y.at_.y,.int .i64 y.at_.z,.int .i64 y.old,.int .i64 y.new]] w fun e w'=>e = .returned (.int .i64 (cmpP x.at_ y.at_))∧∃ q os,w'=grow (w.drewN q) os:=by
 have hm:=mixed;have hG:=nearG_old
 go_enter Tryz.func47,Tryz.ntmps47
 go_wp2
 refine wp_region_nearG_tail 21 (by assumption) (by kernel_rfl) ?_;simp only[List.take_succ_cons,List.take_zero,List.drop_succ_cons,List.drop_zero]
 repeat (go_big_quiet_step ((go_at_call 96;exact nearG_same (Compare_any _ _ _))))
 refine wpQuiet_nil ?_;intro w1 hw1;obtain⟨⟨n,os⟩,hw1⟩:=hw1;have HW1:=Lib.hid hw1;clear hw1
 go_wp2_with (go_at_call 95;refine(Or_three (cmpI x.at_.z y.at_.z) (cmpI x.at_.y y.at_.y) (cmpI x.at_.x y.at_.x) _ _ (by simp[go_sem]) (by simp[go_sem]) (by simp[go_sem])).mono ?_;rintro e w' ⟨rfl,rfl⟩)
 go_ret
 refine⟨rfl,?_⟩;rw[HW1.out];obtain⟨q,os',e⟩:=nearG_alloc ((w.alloc (.cells #[.int .i64 x.at_.x,.int .i64 x.at_.y,.int .i64 x.at_.z,.int .i64 x.old,.int .i64 x.new] 58)).alloc (.cells #[.int .i64 y.at_.x,.int .i64 y.at_.y,.int .i64 y.at_.z,.int .i64 y.old,.int .i64 y.new] 58)) n os (.cells #[.int .i64 (cmpI x.at_.z y.at_.z),.int .i64 (cmpI x.at_.y y.at_.y),.int .i64 (cmpI x.at_.x y.at_.x)] 3);obtain⟨q2,os2,e2⟩:=grown_alloc2 w (.cells #[.int .i64 x.at_.x,.int .i64 x.at_.y,.int .i64 x.at_.z,.int .i64 x.old,.int .i64 x.new] 58) (.cells #[.int .i64 y.at_.x,.int .i64 y.at_.y,.int .i64 y.at_.z,.int .i64 y.old,.int .i64 y.new] 58) q os';exact⟨q2,os2,e.trans e2⟩
def cmpC(x y:Chg):Int:=cmpP x.at_ y.at_
theorem cmpC_lt(x y:Chg):ltOf cmpC x y=befP x.at_ y.at_:=cmpP_lt x.at_ y.at_
theorem swoC:SWO (ltOf cmpC) where
 irrefl x:=swoP.irrefl x.at_
 trans x y z h k:=swoP.trans x.at_ y.at_ z.at_ h k
 ntrans x y z h k:=swoP.ntrans x.at_ y.at_ z.at_ h k
theorem stc:StC Tryz.prog 5 where
 mixed:=mixed
 t0:=Tryz.underlying0
 v0:=Tryz.zeroValue0
 t3:=Tryz.underlying3
 v3:=Tryz.zeroValue3
 a3:=Tryz.isAgg3
 z3:=Tryz.sizeOf3
 t4:=Tryz.underlying4
 v4:=Tryz.zeroValue4
 a4:=Tryz.isAgg4
 z4:=Tryz.sizeOf4
 t38:=Tryz.underlying38
 v38:=Tryz.zeroValue38
 a38:=Tryz.isAgg38
 z38:=Tryz.sizeOf38
 t86:=Tryz.underlying86
 v86:=Tryz.zeroValue86
 a86:=Tryz.isAgg86
 z86:=Tryz.sizeOf86
 t162:=Tryz.underlying162
 v162:=Tryz.zeroValue162
 a162:=Tryz.isAgg162
 z162:=Tryz.sizeOf162
 aE:=Tryz.isAgg58
 zE:=Tryz.sizeOf58
 swf:=Tryz.func181
 eswf:=fun _ _=>by kernel_rfl
 rof:=Tryz.func159
 erof:=fun _ _=>by kernel_rfl
 syf:=Tryz.func134
 esyf:=fun _ _=>by kernel_rfl
 inf:=Tryz.func133
 einf:=fun _ _=>by kernel_rfl
 stf:=Tryz.func94
 estf:=fun _ _=>by kernel_rfl
theorem stable_none(fv:Value)(w:World):
    Calls Tryz.prog 94 #[.slice none 0 0,.int .i64 0,fv] w fun e w'=>e = .returned (.tuple #[])∧w'=w:=by
 have hm:=mixed;have hI:=fun W=>AnyF.insertionSortCmpFunc_none Tryz.insCh none 0 fv W
 go_enter Tryz.func94,Tryz.ntmps94
 go_wp2
 refine wp_loop_rounds 1 ?_;rw[rounds_succ]
 go_wp2_with (go_at_call 133;refine(hI _).mono ?_;rintro e w' ⟨rfl,rfl⟩)
 refine wp_loop_rounds 1 ?_;rw[rounds_succ];go_wp2
 go_end0
 exact⟨rfl,rfl⟩
theorem own_l{w:World}{base k n:Nat}{e:TypeId}{v:Value}{zs:List Value}(h:w.ownsRow base e k v n zs):∃ A c,v = .slice A n c:=by
 rcases h.2 with⟨rfl,h0⟩ | ⟨g,cap,cur,rfl,_⟩
 · exact⟨_,_,by rw[h0]⟩
 · exact⟨_,_,rfl⟩
theorem stable_any(l:List Chg)(v:Value)(base:Nat)(w:World)(h:w.ownsRow base 58 5 v l.length (rowsC l).flatten)(hb:l.length≤100000):
    Calls Tryz.prog 94 #[v,.int .i64 l.length,.func (.func 47) #[] #[]] w fun e w'=>e = .returned (.tuple #[])∧∃ l',StabC l l'∧l'.length=l.length∧w'.ownsRow base 58 5 v l.length (rowsC l').flatten∧w.grownBy w' v.ownBlock:=by
 rcases h.2 with⟨rfl,h0⟩ | ⟨g,cap,cur,rfl,hg,hgg,_⟩
 · have hl:l = []:=List.eq_nil_of_length_eq_zero h0;subst hl;exact(stable_none _ w).mono fun e w' ⟨he,hw⟩=>⟨he,[],⟨.nil,fun _=>rfl⟩,rfl,by rw[hw];exact h,by rw[hw];exact grown_refl _ _⟩
 · have hk:∀ x,(Chg.cells x).length=5:=fun _=>rfl;have h1:∀ x,∀ u∈Chg.cells x,u.oneCell'=true:=fun x u hu=>by
    simp only[Chg.cells,List.mem_cons,List.not_mem_nil,or_false]at hu
    rcases hu with rfl | rfl | rfl | rfl | rfl <;> rfl
   have hn:l.toArray.size=l.length:=by simp
   have hH:HoldsK Chg.cells 5 w g 0 l.toArray:=holds_of_own (enc:=Chg.cells) hk h rfl;have R:RowK Chg.cells 5 w g 0 l.toArray:=⟨hk,h1,hH,(Array.getElem?_eq_some_iff.1 hgg).1⟩;have eg:∀ args w,(callFunc 47 args).run Tryz.prog w = .ok (.enter 47 args) w:=fun _ _=>by kernel_rfl
   have hcmp:CmpLays Tryz.prog 47 #[] Chg.cells 5 cmpC g 0 l.length w:=fun m os dk hs x y=>order_any x y _;have S0:RSt Chg.cells 5 w g 0 l.length (tagD l) w:=⟨l.toArray,SWK.start hH,hn,fun i hi=>by
    rw[getElem!_pos l.toArray i (by omega)];simp[tagD,List.getD,hi]⟩
   have hcon:=stable_st (cap:=cap) stc R hn (by omega) eg hcmp cmpC_lt (fun D a b W h1 h2 h3 hS=>by
    obtain⟨d,hW,hR⟩:=hS;have hz:=AnyQ.insertionSortCmpFunc_w Tryz.insCh 5 Tryz.isAgg58 Tryz.sizeOf58 Chg.cells cmpC 47 #[] g 0 cap a b l.toArray d w W eg (by rw[hn];exact hcmp) R (by rw[hn,hR.1]) hW swoC h1 (by rw[hR.1];exact h2) (by rw[hR.1];omega);rw[hR.1]at hz;refine hz.mono fun e w' ⟨he,hw⟩=>?_;obtain⟨E,k1,k2⟩:=ins_sort cmpC_lt h1 h2 h3 hR;exact⟨he,E,k2,_,hw,k1⟩) (D0:=tagD l) (fun i _=>rfl) w S0
   refine hcon.mono fun e w' ⟨he,E,⟨k1,k2⟩,dk,⟨n,os,hw⟩,hd⟩=>?_;have hst:=stab_done k1 k2;have hdk:dk=((List.range l.length).map fun i=>(E i).1).toArray:=by
    apply Array.ext
    · simp[hd.1]
    · intro i h5 h6;have:=hd.2 i (by rw[← hd.1];exact h5);rw[getElem!_pos dk i h5]at this;simp[this]
   rw[hdk]at hw;have hll:((List.range l.length).map fun i=>(E i).1).length=l.length:=by simp
   obtain⟨r1,r2⟩:=own_put (enc:=Chg.cells) (m:=n) (os:=os) (d':=(List.range l.length).map fun i=>(E i).1) hk h rfl hll;rw[hw];exact⟨he,_,hst,hll,r1,r2⟩
theorem SortC_any(l:List Chg)(v:Value)(base:Nat)(w:World)(h:w.ownsRow base 58 5 v l.length (rowsC l).flatten)(hb:l.length≤100000):
    Calls Tryz.prog 46 #[v,.func (.func 47) #[] #[]] w fun e w'=>e = .returned (.tuple #[])∧∃ l',StabC l l'∧l'.length=l.length∧w'.ownsRow base 58 5 v l.length (rowsC l').flatten∧w.grownBy w' v.ownBlock:=by
 have HS:=Lib.hid (stable_any l v base w h hb);obtain⟨A,c,rfl⟩:=own_l h;clear h
 go_enter Tryz.func46,Tryz.ntmps46
 go_wp2_with (go_at_call 94;refine HS.out.mono ?_;rintro e w' ⟨rfl,hh⟩;have HH:=Lib.hid hh;clear hh)
 go_end0
 exact⟨rfl,HH.out⟩
end Go.Proofs.YtoecbicdahbccaaGreatDoor
