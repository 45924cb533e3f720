/- A part of the walk of the layer of apply: contracts and plain laws that a row's text leans on. -/
import Derived.Test.YtoecbicdahbccaaGreatDoorZa24
import Derived.Test.YtoecbicdahbccaaGreatDoorZa26
set_option maxRecDepth 100000
set_option maxHeartbeats 16000000
namespace Go.Proofs.YtoecbicdahbccaaGreatDoor
open Go Go.RowKit
theorem FieldV.mono{B B':Nat}{D:TypeId}{rv rv':Value}{G:FuncId}{F:Pt→Option Int}{fbo:Option Nat}{Cnt:Nat→World→Prop}(V:FieldV B D rv rv' G F fbo Cnt)(hb:B≤B'):FieldV B' D rv rv' G F fbo Cnt:=
 ⟨V.meth,V.enters,fun k hk=>Nat.lt_of_lt_of_le (V.low k hk) hb,fun n w w' hc hh=>V.keep n w w' hc (fun b h=>hh b (Nat.lt_of_lt_of_le h hb)),fun q n w h1 h2 h3=>V.call q n w (Nat.le_trans hb h1) h2 h3⟩
theorem FloodP.out{F:Pt→Option Int}{a:Pt}{most er:Int}{l bd:List Pt}{k:Nat}(h:FloodP F a most l bd er k):FloodOut F a most (sortL l) er∧BorderOut F a most (sortL bd) er∧((k:Int)≤1+6 * max most 0):=by
 rcases h with⟨h1,rfl,rfl,rfl,rfl⟩ | ⟨c,h1,⟨r,n,h2,h3,h4,rfl,rfl,rfl,h5,h6⟩ | ⟨h2,h3,h4,h5,h6,rfl,h7⟩⟩
 · exact⟨.inl ⟨h1,by simp[sortL],rfl⟩,.inl ⟨h1,by simp[sortL],rfl⟩,by omega⟩
 · exact⟨.inr ⟨c,h1,.inl ⟨⟨r,h2,h3,h4⟩,by simp[sortL],rfl⟩⟩,.inr ⟨c,h1,.inl ⟨⟨r,h2,h3,h4⟩,by simp[sortL],rfl⟩⟩,by omega⟩
 · have hr:IsReg F c a (sortL l):=⟨sortL_sort h2,fun q=>(sortL_mem l q).trans (h4 q)⟩;have hl:((sortL l).length:Int)≤most:=by rw[sortL_length];exact h6
   exact⟨.inr ⟨c,h1,.inr ⟨hr,hl,rfl⟩⟩,.inr ⟨c,h1,.inr ⟨⟨_,hr,hl⟩,⟨sortL_sort h3,fun q=>(sortL_mem bd q).trans (h5 q)⟩,rfl⟩⟩,by omega⟩
theorem FloodP.small{F:Pt→Option Int}{a:Pt}{most er:Int}{l bd:List Pt}{k N:Nat}(h:FloodP F a most l bd er k)(hfin:∀ l:List Pt,l.Nodup→(∀ q,q∈l→F q≠none)→l.length≤N):l.length≤N∧bd.length≤N:=by
 rcases h with⟨h1,rfl,rfl,rfl,rfl⟩ | ⟨c,h1,⟨r,n,h2,h3,h4,rfl,rfl,rfl,h5,h6⟩ | ⟨h2,h3,h4,h5,h6,rfl,h7⟩⟩
 · simp
 · simp
 · exact⟨hfin l h2 (fun q hq=>by rw[((h4 q).1 hq).val h1];simp),hfin bd h3 (fun q hq=>by obtain⟨v,hv,_⟩:=((h5 q).1 hq).1;rw[hv];simp)⟩
def RetQ(P:List Pt→Int→Prop)(most:Int)(fbo:Option Nat)(Cnt:Nat→World→Prop)(w:World)(en:Ending)(w':World):Prop:=
 ∃ (l:List Pt) (er:Int) (k:Nat) (v:Value),P l er∧((k:Int)≤1+6 * max most 0)∧en = .returned (.tuple #[v,.int .i64 er])∧w'.ownsRow w.heap.size 23 3 v l.length (rowsP l).flatten∧Cnt k w'∧w.grownBy w' fbo
section
variable {D:TypeId} {rv rv':Value} {G:FuncId} {F:Pt→Option Int} {fbo:Option Nat} {Cnt:Nat→World→Prop} {w:World}
theorem sorted_world{base n:Nat}{e:TypeId}{v:Value}{zs:List Value}{k:Nat}{w0 w1 w2:World}(ho:w1.ownsRow base e k v n zs)(hb:w0.heap.size≤base)(hg:w0.grownBy w1 fbo)(hg2:w1.grownBy w2 v.ownBlock):Below w0.heap.size w1 w2∧w0.grownBy w2 fbo:=by
 have h:=below_own ho hg2 hb hg.size;exact⟨h,grown_below hg h⟩
end
theorem fillFlood_any{D:TypeId}{rv rv':Value}{G:FuncId}{F:Pt→Option Int}{fbo:Option Nat}{Cnt:Nat→World→Prop}{w:World}(V:FieldV w.heap.size D rv rv' G F fbo Cnt)(hst:StepsIn w)(hgl:fbo≠some 1)(a:Pt)(most:Int)(N:Nat)(hN:N≤80000)(hfin:∀ l:List Pt,l.Nodup→(∀ q,q∈l→F q≠none)→l.length≤N)
    (hsm:∀ q,F q≠none→Small q) (hc0:Cnt 0 w):
    Calls Tryz.prog 79 #[.iface D rv,.agg #[.int .i64 a.x,.int .i64 a.y,.int .i64 a.z],.int .i64 most] w (RetQ (FloodOut F a most) most fbo Cnt w):=by
 have hx0:Ext w (w.alloc (.cells #[.int .i64 a.x,.int .i64 a.y,.int .i64 a.z] 23)):=(Ext.refl w).alloc _;have A1:=Arr.new w 23 [.int .i64 a.x,.int .i64 a.y,.int .i64 a.z];have hfl:=flood_any (w0:=w.alloc (.cells #[.int .i64 a.x,.int .i64 a.y,.int .i64 a.z] 23)) (V.mono hx0.size) (hst.ext hx0) hgl a most N hN hfin hsm (V.keep 0 w _ hc0 hx0.below.block);have HV:=Lib.hid V;have HX0:=Lib.hid hx0;have HFL:=Lib.hid hfl;have HA:=Lib.hid A1;have HFIN:=Lib.hid hfin;clear hfl hx0 A1 V hst hsm hc0 hfin
 go_enter Tryz.func79,Tryz.ntmps79
 go_upto_region 1 with fail
 obtain⟨W1,hW⟩:∃ W,W=w.alloc (.cells #[.int .i64 a.x,.int .i64 a.y,.int .i64 a.z] 23):=⟨_,rfl⟩;rw[← hW]at HX0 HFL HA;rw[← hW];clear hW
 go_upto_region 2 with(first
  | (refine wpList_load_blk 23 (.tmp 4) rfl rfl HA.out rfl _ Tryz.underlying23 rfl (by kernel_rfl) ?_)
  | (go_at_call 121;refine HFL.out.mono ?_;rintro e W2 ⟨l,bd,er,k,v1,v2,hP,rfl,ho1,ho2,_,hc,hg⟩))
 obtain⟨hP1,hP2,hk⟩:=hP.out;have hsl:=hP.small HFIN.out;have hw1:=HX0.out.size;have hg0:w.grownBy W2 fbo:=grown_trans (HX0.out.by_ fbo) hg;have HO:=Lib.hid (own_low_mono hw1 ho1);have HP:=Lib.hid hP1;have HC:=Lib.hid hc;have HG:=Lib.hid hg0;have HSO:=Lib.hid (SortPt_any l v1 w.heap.size W2 HO.out (by omega));obtain⟨LA,Lc,rfl⟩:=own_len ho1;clear hP hP1 hP2 ho1 ho2 hc hg hg0
 go_upto_region 3 with(go_at_call 122;refine HSO.out.mono ?_;rintro e W3 ⟨rfl,ho3,hg3⟩)
 obtain⟨b1,b2⟩:=sorted_world HO.out (Nat.le_refl _) HG.out hg3;have HO3:=Lib.hid ho3;have HB1:=Lib.hid b1;have HB2:=Lib.hid b2;clear ho3 hg3 b1 b2;go_wp2
 go_ret2
 exact⟨sortL l,er,k,_,HP.out,hk,rfl,by rw[sortL_length];exact HO3.out,HV.out.keep k W2 _ HC.out HB1.out.block,HB2.out⟩
def cubeD(d:Int):Bx:=cubeB (2 ^ d.toNat)
theorem pow_le14(d:Int)(h:2≤d∧d≤14):(4:Int)≤2 ^ d.toNat∧(2:Int) ^ d.toNat≤16384:=by
 rcases (show d=2∨d=3∨d=4∨d=5∨d=6∨d=7∨d=8∨d=9∨d=10∨d=11∨d=12∨d=13∨d=14 by omega)with h | h | h | h | h | h | h | h | h | h | h | h | h <;> subst h <;> decide
structure ChkOk (x:Ed) (d m:Int):Prop where
 hd:2≤d∧d≤14
 hm:1≤m∧m≤256
 formed:formedE x=true
 kind:1≤x.kind∧x.kind≤8
 box:usesF x.kind 1=true→BoxOk x.box (2 ^ d.toNat)
 at_:usesF x.kind 2=true→inP x.at_ (cubeB (2 ^ d.toNat))=true
 turn:isT x.turn=true
 cell:0≤x.cell∧x.cell≤m - 1
 size:leastE x≤x.size∧x.size≤mostE x
theorem chk_formed{x:Ed}{d m:Int}(h:checkE x d m=0):formedE x=true:=by
 unfold checkE at h
 split at h
 · split at h
   · rename_i h2
     exact(Bool.and_eq_true_iff.1 h2).2
   · cases h
 · cases h
theorem chk_ok{x:Ed}{d m:Int}(hft:fits x)(h:checkE x d m=0):ChkOk x d m:=by
 have hf:=chk_formed h;unfold checkE at h
 split at h
 · rename_i hd
   split at h
   · rename_i hm
     split at h
     · cases h
     · rename_i hb
       rw[decide_eq_true_eq]at hd;rw[Bool.and_eq_true,decide_eq_true_eq]at hm;rw[Bool.not_eq_true,badE_def]at hb;simp only[Bool.or_eq_false_iff,Bool.and_eq_false_iff,Bool.not_eq_false',decide_eq_true_eq]at hb;have hk:1≤x.kind∧x.kind≤8:=by
        have h1:=hf;rw[formedE_def]at h1;simp only[Bool.and_eq_true,decide_eq_true_eq]at h1;omega
       refine⟨hd,hm.1,hf,hk,fun hu=>?_,fun hu=>?_,?_,?_,hb.2.2.2.2⟩
       · rcases hb.1 with h1 | ⟨h1,h2,h3⟩
         · rw[hu]at h1;cases h1
         · have hw:=pow_le14 d hd;generalize (2:Int) ^ d.toNat=S at h2 h3 hw;have h4:=notEmpty h1;unfold inP cubeB at h2 h3;unfold lastP addP scaleP at h3;unfold wrap64 at h3;simp only[Bool.and_eq_true,decide_eq_true_eq]at h2 h3;unfold fits at hft;refine⟨by omega,by omega,?_⟩;omega
       · rcases hb.2.1 with h1 | h1
         · rw[hu]at h1;cases h1
         · exact h1
       · unfold isT;rw[decide_eq_true_eq];omega
       · omega
   · cases h
 · cases h
structure InC (c:Bx):Prop where
 x:(0≤c.lo.x∧c.lo.x≤c.hi.x)∧c.hi.x≤8
 y:(0≤c.lo.y∧c.lo.y≤c.hi.y)∧c.hi.y≤8
 z:(0≤c.lo.z∧c.lo.z≤c.hi.z)∧c.hi.z≤8
theorem InC.inter(b:Bx){s:Int}(hs:0≤s∧s≤8):InC (interB b (cubeB s)):=by
 unfold interB
 split
 · exact⟨by decide,by decide,by decide⟩
 · rename_i h
   rw[Bool.not_eq_true]at h;have h1:=notEmpty h;unfold meetB cubeB at *;simp only at *;exact⟨by simp only;omega,by simp only;omega,by simp only;omega⟩
theorem InC.vol{c:Bx}(h:InC c):volN c≤512:=by
 have:=vol_le (b:=c) (s:=8) (by have:=h.x;omega) (by have:=h.y;omega) (by have:=h.z;omega);omega
theorem InC.volP{c:Bx}(h:InC c):volP c=volN c:=by
 obtain⟨⟨x1,x2⟩,x3⟩:=h.x;obtain⟨⟨y1,y2⟩,y3⟩:=h.y;obtain⟨⟨z1,z2⟩,z3⟩:=h.z;have key:∀ a b e:Nat,a≤8→b≤8→e≤8→wrap64 (wrap64 ((a:Int) * b) * e)=((e * b * a:Nat):Int):=fun a b e h1 h2 h3=>by
  have k1:a * b≤8 * 8:=Nat.mul_le_mul h1 h2;have k2:a * b * e≤8 * 8 * 8:=Nat.mul_le_mul k1 h3;rw[show((a:Int) * b)=((a * b:Nat):Int)by simp,show wrap64 ((a * b:Nat):Int)=((a * b:Nat):Int)by unfold wrap64;omega,show(((a * b:Nat):Int) * e)=((a * b * e:Nat):Int)by simp];rw[show e * b * a=a * b * e by rw[Nat.mul_comm e b,Nat.mul_comm (b * e) a,Nat.mul_assoc]];unfold wrap64;omega
 unfold Go.Proofs.YtoecbicdahbccaaGreatDoor.volP volN sizeP
 cases he:emptyB c
 · simp only[Bool.false_eq_true,if_false];have e1:(subP c.hi c.lo).x=((c.hi.x - c.lo.x).toNat:Int):=by unfold subP wrap64;simp only;omega
   have e2:(subP c.hi c.lo).y=((c.hi.y - c.lo.y).toNat:Int):=by unfold subP wrap64;simp only;omega
   have e3:(subP c.hi c.lo).z=((c.hi.z - c.lo.z).toNat:Int):=by unfold subP wrap64;simp only;omega
   rw[e1,e2,e3];exact key _ _ _ (by omega) (by omega) (by omega)
 · simp only[if_true];have h0:¬ (c.lo.x < c.hi.x∧c.lo.y < c.hi.y∧c.lo.z < c.hi.z):=fun h=>by
    unfold emptyB inP at he;simp only[Bool.not_eq_true',Bool.and_eq_false_iff,decide_eq_false_iff_not]at he;omega
   have h1:(c.hi.z - c.lo.z).toNat * (c.hi.y - c.lo.y).toNat * (c.hi.x - c.lo.x).toNat=0:=by
    rcases (show(c.hi.x - c.lo.x).toNat=0∨(c.hi.y - c.lo.y).toNat=0∨(c.hi.z - c.lo.z).toNat=0 by omega)with h | h | h
    · rw[h,Nat.mul_zero]
    · rw[h,Nat.mul_zero,Nat.zero_mul]
    · rw[h,Nat.zero_mul,Nat.zero_mul]
   rw[h1];show wrap64 (wrap64 (0 * 0) * 0)=0;unfold wrap64;omega
structure HasF (G:FuncId) (cb:Array Value) (f:Pt→Bool) (c:Bx) (w:World):Prop where
 enters:∀ args w,(callFunc G args).run Tryz.prog w = .ok (.enter G args) w
 call:∀ p,inP p c=true→∀ w',Ext w w'→Calls Tryz.prog G (#[.agg #[.int .i64 p.x,.int .i64 p.y,.int .i64 p.z]]++cb) w' fun e w''=>e = .returned (.bool (f p))∧Ext w' w''
abbrev OwP(B:Nat)(l:List Pt)(v:Value)(w:World):Prop:=w.ownsRow B 23 3 v l.length (rowsP l).flatten
abbrev LsR(B:Nat)(l:List Pt)(v:Value)(w:World):Prop:=∃ u,v = .tuple #[u,.int .i64 0]∧OwP B l u w
def RetL(l:List Pt)(w:World)(en:Ending)(w':World):Prop:=∃ v,en = .returned (.tuple #[v,.int .i64 0])∧w'.ownsRow w.heap.size 23 3 v l.length (rowsP l).flatten∧Ext w w'
structure LsS (w:World) (B bc:Nat) (c:Bx) (l:List Pt) (v:Value) (wr:World):Prop where
 row:wr.ownsRow B 23 3 v l.length (rowsP l).flatten
 ext:Ext w wr
 arr:Arr wr bc 25 [.int .i64 c.lo.x,.int .i64 c.lo.y,.int .i64 c.lo.z,.int .i64 c.hi.x,.int .i64 c.hi.y,.int .i64 c.hi.z]
 base:(w.heap.size≤bc∧bc < B)∧B≤wr.heap.size
theorem LsS.more{w:World}{B bc:Nat}{c:Bx}{l:List Pt}{v:Value}{wr wx:World}(h:LsS w B bc c l v wr)(hx:Ext wr wx):LsS w B bc c l v wx:=
 ⟨own_ext h.row hx,h.ext.trans hx,h.arr.ext hx,h.base.1,Nat.le_trans h.base.2 hx.size⟩
theorem LsS.app{w:World}{B bc:Nat}{c:Bx}{l:List Pt}{v v':Value}{wr wx:World}{p:Pt}(h:LsS w B bc c l v wr)(ho:wx.ownsRow B 23 3 v' (l.length+1) ((rowsP l).flatten++p.cells))(hg:wr.grownBy wx v.ownBlock):LsS w B bc c (l++[p]) v' wx:=
 ⟨by rw[rowsP_append,List.flatten_append,List.length_append];simpa[rowsP]using ho,h.ext.own h.row hg (by have:=h.base;omega),h.arr.kept hg (fun e=>by have:=own_low h.row _ e;have:=h.base;omega),h.base.1,Nat.le_trans h.base.2 hg.size⟩
theorem brushList_any{b clip c:Bx}(hc:interB b clip=c)(hin:InC c){G:FuncId}{cb:Array Value}{f:Pt→Bool}{w:World}(F:HasF G cb f c w):
    Calls Tryz.prog 113 #[.agg #[.int .i64 b.lo.x,.int .i64 b.lo.y,.int .i64 b.lo.z,.int .i64 b.hi.x,.int .i64 b.hi.y,.int .i64 b.hi.z],.agg #[.int .i64 clip.lo.x,.int .i64 clip.lo.y,.int .i64 clip.lo.z,.int .i64 clip.hi.x,.int .i64 clip.hi.y,.int .i64 clip.hi.z],.func (.func G) #[] cb] w (RetL ((boxL c).filter f) w):=by
 obtain⟨W0,hW⟩:∃ W,W=(w.alloc (.cells #[.int .i64 b.lo.x,.int .i64 b.lo.y,.int .i64 b.lo.z,.int .i64 b.hi.x,.int .i64 b.hi.y,.int .i64 b.hi.z] 25)).alloc (.cells #[.int .i64 clip.lo.x,.int .i64 clip.lo.y,.int .i64 clip.lo.z,.int .i64 clip.hi.x,.int .i64 clip.hi.y,.int .i64 clip.hi.z] 25):=⟨_,rfl⟩;have HX:=Lib.hid (show Ext w W0 by rw[hW];exact((Ext.refl w).alloc _).alloc _);have H3:=Lib.hid (show Arr W0 w.heap.size 25 [.int .i64 b.lo.x,.int .i64 b.lo.y,.int .i64 b.lo.z,.int .i64 b.hi.x,.int .i64 b.hi.y,.int .i64 b.hi.z]by rw[hW];exact(Arr.new w _ [.int .i64 b.lo.x,.int .i64 b.lo.y,.int .i64 b.lo.z,.int .i64 b.hi.x,.int .i64 b.hi.y,.int .i64 b.hi.z]).alloc _);have H4:=Lib.hid (show Arr W0 (w.heap.size+1) 25 [.int .i64 clip.lo.x,.int .i64 clip.lo.y,.int .i64 clip.lo.z,.int .i64 clip.hi.x,.int .i64 clip.hi.y,.int .i64 clip.hi.z]by rw[hW];exact Arr.new1 w _ _ [.int .i64 clip.lo.x,.int .i64 clip.lo.y,.int .i64 clip.lo.z,.int .i64 clip.hi.x,.int .i64 clip.hi.y,.int .i64 clip.hi.z]);have HI:=Lib.hid (Intersect_any b clip);rw[hc]at HI;have HF:=Lib.hid F;have HIN:=Lib.hid hin;have eg:=F.enters;clear hc F hin
 go_enter Tryz.func113,Tryz.ntmps113
 go_wp2
 go_step3
 go_upto_region 1 with fail
 rw[← hW];clear hW
 go_upto_region 2 with(first
  | (refine ldB 25 3 H3.out Tryz.underlying25 ?_) | (refine ldB 25 3 (H3.out.alloc _) Tryz.underlying25 ?_) | (refine ldB 25 3 ((H3.out.alloc _).alloc _) Tryz.underlying25 ?_) | (refine ldB 25 4 H4.out Tryz.underlying25 ?_) | (refine ldB 25 4 (H4.out.alloc _) Tryz.underlying25 ?_) | (refine ldB 25 4 ((H4.out.alloc _).alloc _) Tryz.underlying25 ?_)
  | (go_at_call 112;refine(HI.out _).mono ?_;rintro e W1 ⟨rfl,hx⟩;replace HX:=xEx HX hx;clear hx)
  | (refine wpList_store_blk2 25 (.tmp 8) (.tmp 16) rfl rfl (Arr.new W1 25 Z6) [.int .i64 c.lo.x,.int .i64 c.lo.y,.int .i64 c.lo.z,.int .i64 c.hi.x,.int .i64 c.hi.y,.int .i64 c.hi.z] rfl rfl (by kernel_rfl) rfl rfl rfl ?_;intro W2 hW;have Qw:=Lib.hid HX.out.size;replace HX:=xNew HX hW;have H8:=nNew hW;clear hW))
 obtain⟨bc,hbc⟩:∃ n,n=W1.heap.size:=⟨_,rfl⟩;rw[← hbc]at Qw H8 ⊢;clear hbc H3 H4 HI;have H0:=Lib.hid (show LsS w W2.heap.size bc c (boxF c f 0) (.slice none 0 0) W2 from⟨by rw[boxF_zero];exact⟨by simp[rowsP],.inl ⟨rfl,rfl⟩⟩,HX.out,H8.out,⟨Qw.out,H8.out.lt⟩,Nat.le_refl _⟩);clear Qw;have c8:=H8.out.cell;have l8:=H8.out.lt
 go_upto_region 3 with fail
 go_step3
 go_upto_region 4 with fail
 clear c8 l8 H8;generalize W2.heap.size=B at H0
 go_loopw [10,9] (fun z v wr=>∃ (k:Nat) (zi:Int),k≤(c.hi.z - c.lo.z).toNat∧z = .int .i64 zi∧Hid (zi=c.lo.z+k)∧Hid (LsS w B bc c (boxF c f ((k * (c.hi.y - c.lo.y).toNat+0) * (c.hi.x - c.lo.x).toNat)) v wr)) (fun z _ _=>(c.hi.z - intOf z).toNat)
 case atStart=>exact⟨0,c.lo.z,by omega,rfl,Lib.hid (by simp),by rw[Nat.zero_mul,Nat.zero_add,Nat.zero_mul];exact H0⟩
 case round=>
  clear H0;obtain⟨k,zi,hk,rfl,HZ,HS⟩:=hrel;have lb:=HS.out.arr.lt;have cb':=HS.out.arr.cell;have hz:=HZ.out;have hiz:=HIN.out.z
  by_cases hlt:zi < c.hi.z
  · have hkl:=Lib.hid (show k < (c.hi.z - c.lo.z).toNat by omega);have hw:wrap64 (zi+1)=zi+1:=by unfold wrap64;omega
    clear hz hiz hk
    rename World=>wz
    go_upto_region 7 with fail
    clear lb cb'
    go_loopw [11,9] (fun y v wr=>∃ (j:Nat) (yi:Int),j≤(c.hi.y - c.lo.y).toNat∧y = .int .i64 yi∧Hid (yi=c.lo.y+j)∧Hid (LsS w B bc c (boxF c f ((k * (c.hi.y - c.lo.y).toNat+j) * (c.hi.x - c.lo.x).toNat)) v wr)) (fun y _ _=>(c.hi.y - intOf y).toNat)
    case atStart=>exact⟨0,c.lo.y,by omega,rfl,Lib.hid (by simp),HS⟩
    case round=>
     clear HS;obtain⟨j,yi,hj,rfl,HY,HS⟩:=hrel;have lb:=HS.out.arr.lt;have cb':=HS.out.arr.cell;have hy:=HY.out;have hiy:=HIN.out.y
     by_cases hlt2:yi < c.hi.y
     · have hjl:=Lib.hid (show j < (c.hi.y - c.lo.y).toNat by omega);have hwy:wrap64 (yi+1)=yi+1:=by unfold wrap64;omega
       clear hy hiy hj
       rename World=>wy
       go_upto_region 10 with fail
       clear lb cb'
       go_loopw [12,9] (fun x v wr=>∃ (i:Nat) (xi:Int),i≤(c.hi.x - c.lo.x).toNat∧x = .int .i64 xi∧Hid (xi=c.lo.x+i)∧Hid (LsS w B bc c (boxF c f ((k * (c.hi.y - c.lo.y).toNat+j) * (c.hi.x - c.lo.x).toNat+i)) v wr)) (fun x _ _=>(c.hi.x - intOf x).toNat)
       case atStart=>exact⟨0,c.lo.x,by omega,rfl,Lib.hid (by simp),HS⟩
       case round=>
        clear HS;obtain⟨i,xi,hi,rfl,HXI,HS⟩:=hrel;have lb:=HS.out.arr.lt;have cb':=HS.out.arr.cell;have hx:=HXI.out;have hix:=HIN.out.x
        by_cases hlt3:xi < c.hi.x
        · have hil:i < (c.hi.x - c.lo.x).toNat:=by omega
          have hwx:wrap64 (xi+1)=xi+1:=by unfold wrap64;omega
          clear hx hix hi cb' lb;obtain⟨nn,hn⟩:∃ nn,nn=(k * (c.hi.y - c.lo.y).toNat+j) * (c.hi.x - c.lo.x).toNat+i:=⟨_,rfl⟩;have hp:inP ⟨xi,yi,zi⟩ c=true:=by
           rw[inP_iff];have h1:=HXI.out;have h2:=HY.out;have h3:=HZ.out;simp only;omega
          have hst:=boxF_step f (num_lt c hil hjl.out hkl.out);rw[atB_num c hil hjl.out,← HXI.out,← HY.out,← HZ.out]at hst;rw[← hn]at HS hst;have hlen:=Nat.le_trans (boxF_len c f nn) HIN.out.vol;generalize boxF c f nn=l at HS hst hlen;have HST:=Lib.hid (show boxF c f ((k * (c.hi.y - c.lo.y).toNat+j) * (c.hi.x - c.lo.x).toNat+(i+1))=l++if f ⟨xi,yi,zi⟩=true then [⟨xi,yi,zi⟩]else []by rw[← hst,hn,Nat.add_assoc]);have HIL:=Lib.hid (show i+1≤(c.hi.x - c.lo.x).toNat∧xi+1=c.lo.x+((i+1:Nat):Int)from⟨hil,by have:=HXI.out;omega⟩);have HMS:=Lib.hid (show(c.hi.x - (xi+1)).toNat < (c.hi.x - xi).toNat by omega);clear hst hn hil;have HCALL:=Lib.hid (show ∀ W,Ext wr W→Calls Tryz.prog G (#[.agg #[.int .i64 xi,.int .i64 yi,.int .i64 zi]]++cb) W fun e w'=>e = .returned (.bool (f ⟨xi,yi,zi⟩))∧Ext W w' from fun W hx=>HF.out.call ⟨xi,yi,zi⟩ hp W (HS.out.ext.trans hx));clear hp;obtain⟨A,cp,rfl⟩:=own_len HS.out.row;have c8:=HS.out.arr.cell;have l8:=HS.out.arr.lt
          cases hf:f ⟨xi,yi,zi⟩
          · rw[hf]at HCALL HST;have hgt:¬ (32768:Int) < (l.length:Int):=by omega
            clear hf hlen
            go_wp2_with (first
             | (refine wpList_store_blk2 23 (.tmp 13) (.tmp 50) rfl rfl (Arr.new wr 23 [.int .i64 0,.int .i64 0,.int .i64 0]) [.int .i64 xi,.int .i64 yi,.int .i64 zi] rfl rfl (by kernel_rfl) rfl rfl rfl ?_;intro W3 hW;have HX3:=xNew (Lib.hid (Ext.refl wr)) hW;have H13:=nNew hW;clear hW)
             | (refine ldB 23 13 H13.out Tryz.underlying23 ?_)
             | (go_at_fn G;refine(HCALL.out _ HX3.out).mono ?_;rintro e W4 ⟨rfl,hx⟩;have HX4:=xEx HX3 hx;replace H13:=aEx H13 hx;clear hx))
            go_roundw
            case rel=>exact⟨i+1,xi+1,HIL.out.1,by rw[hwx],Lib.hid HIL.out.2,Lib.hid (by rw[HST.out,if_neg (by decide),List.append_nil];exact HS.out.more HX4.out)⟩
            case measure=>rw[hwx];exact HMS.out
          · rw[hf]at HCALL HST;have HGT:=Lib.hid (show ¬ (32768:Int) < ((l.length+1:Nat):Int)by omega);have hl1:l.length+1≤1000000:=by omega
            have HLN:=Lib.hid hl1;clear hf hlen hl1
            go_wp2_with (first
             | (refine wpList_store_blk2 23 (.tmp 13) (.tmp 50) rfl rfl (Arr.new wr 23 [.int .i64 0,.int .i64 0,.int .i64 0]) [.int .i64 xi,.int .i64 yi,.int .i64 zi] rfl rfl (by kernel_rfl) rfl rfl rfl ?_;intro W3 hW;have HX3:=xNew (Lib.hid (Ext.refl wr)) hW;have H13:=nNew hW;clear hW)
             | (refine ldB 23 13 H13.out Tryz.underlying23 ?_)
             | (go_at_fn G;refine(HCALL.out _ HX3.out).mono ?_;rintro e W4 ⟨rfl,hx⟩;have HX4:=xEx HX3 hx;replace H13:=aEx H13 hx;clear hx)
             | (refine wpList_app1 62 23 55 54 56 [.int .i64 xi,.int .i64 yi,.int .i64 zi] (rowsP l).flatten (HS.out.more HX4.out).row infoPt Tryz.underlying62 (HS.out.more HX4.out).base.2 HLN.out ?_;rintro v' W5 ho hg _;have HS5:=Lib.hid ((HS.out.more HX4.out).app (p:=⟨xi,yi,zi⟩) ho hg);obtain⟨ll,hll⟩:∃ ll,ll=l.length+1:=⟨_,rfl⟩;rw[← hll]at ho;obtain⟨A5,c5,rfl⟩:=own_len ho;have hgt:¬ (32768:Int) < (ll:Int):=(by have:=HGT.out;omega);clear ho hg hll))
            go_roundw
            case rel=>exact⟨i+1,xi+1,HIL.out.1,by rw[hwx],Lib.hid HIL.out.2,Lib.hid (by rw[HST.out,if_pos trivial];exact HS5.out)⟩
            case measure=>rw[hwx];exact HMS.out
        · have HN:=Lib.hid (show boxF c f ((k * (c.hi.y - c.lo.y).toNat+(j+1)) * (c.hi.x - c.lo.x).toNat)=boxF c f ((k * (c.hi.y - c.lo.y).toNat+j) * (c.hi.x - c.lo.x).toNat+i)by rw[← row_num,show i=(c.hi.x - c.lo.x).toNat by omega]);have HIL:=Lib.hid (show j+1≤(c.hi.y - c.lo.y).toNat∧yi+1=c.lo.y+((j+1:Nat):Int)from⟨hjl.out,by have:=HY.out;omega⟩);have HMS:=Lib.hid (show(c.hi.y - (yi+1)).toNat < (c.hi.y - yi).toNat by omega);clear hx hix hi;go_wp2
          go_roundw
          case rel=>exact⟨j+1,yi+1,HIL.out.1,by rw[hwy],Lib.hid HIL.out.2,Lib.hid (by rw[HN.out];exact HS.out)⟩
          case measure=>rw[hwy];exact HMS.out
     · have HN:=Lib.hid (show boxF c f (((k+1) * (c.hi.y - c.lo.y).toNat+0) * (c.hi.x - c.lo.x).toNat)=boxF c f ((k * (c.hi.y - c.lo.y).toNat+j) * (c.hi.x - c.lo.x).toNat)by rw[← plane_num,show j=(c.hi.y - c.lo.y).toNat by omega]);have HIL:=Lib.hid (show k+1≤(c.hi.z - c.lo.z).toNat∧zi+1=c.lo.z+((k+1:Nat):Int)from⟨hkl.out,by have:=HZ.out;omega⟩);have HMS:=Lib.hid (show(c.hi.z - (zi+1)).toNat < (c.hi.z - zi).toNat by omega);clear hy hiy hj;go_wp2
       go_roundw
       case rel=>exact⟨k+1,zi+1,HIL.out.1,by rw[hw],Lib.hid HIL.out.2,Lib.hid (by rw[HN.out];exact HS.out)⟩
       case measure=>rw[hw];exact HMS.out
  · have HN:boxF c f ((k * (c.hi.y - c.lo.y).toNat+0) * (c.hi.x - c.lo.x).toNat)=(boxL c).filter f:=by rw[show k=(c.hi.z - c.lo.z).toNat by omega,all_num,boxF_all _ _ (Nat.le_refl _)]
    rw[HN]at HS;have hlen:((boxL c).filter f).length≤512:=Nat.le_trans (List.length_filter_le ..) (by rw[boxL_length];exact HIN.out.vol);obtain⟨l,hl⟩:∃ l,l=(boxL c).filter f:=⟨_,rfl⟩;rw[← hl]at HS hlen;have HLL:=Lib.hid hl;clear hl;obtain⟨A,cp,rfl⟩:=own_len HS.out.row;have hgt:¬ (32768:Int) < (l.length:Int):=by omega
    clear hz hiz hk HN hlen;go_wp2
    (try rw[Exit.noGoto_ret])
    go_ret2
    have hl:=HLL.out;subst hl;exact⟨_,rfl,own_low_mono (Nat.le_trans HS.out.base.1.1 (Nat.le_of_lt HS.out.base.1.2)) HS.out.row,HS.out.ext⟩
def exG:Gr:=⟨cubeB 4,(List.range 64).map fun k=>if k % 4=2 then 1 else 0⟩
theorem exG_valid:validG exG=true:=by decide+kernel
def exL:List Pt:=boxL ⟨⟨0,0,0⟩,⟨2,4,4⟩⟩
theorem exReg:IsReg (fld exG) 0 ⟨0,0,0⟩ exL:=isReg_check _ _ _ _ (exL.drop 1) (by decide+kernel) (by decide+kernel) (by decide+kernel) (by decide+kernel)
theorem exFlood:FloodOut (fld exG) ⟨0,0,0⟩ 40 exL 0:=.inr ⟨0,by decide+kernel,.inr ⟨exReg,by decide+kernel,rfl⟩⟩
theorem exBig:FloodOut (fld exG) ⟨0,0,0⟩ 31 [] 2:=.inr ⟨0,by decide+kernel,.inl ⟨exReg.big (by decide+kernel),rfl,rfl⟩⟩
theorem in_inter{p:Pt}{a b:Bx}(h1:inP p a=true)(h2:inP p b=true):inP p (interB a b)=true:=by
 rw[inP_iff]at h1 h2;have h:inP p (meetB a b)=true:=by rw[inP_iff];unfold meetB;simp only;omega
 have he:emptyB (meetB a b)=false:=by
  rw[inP_iff]at h;unfold emptyB;rw[Bool.not_eq_false',inP_iff];omega
 unfold interB;rw[he,if_neg (by decide)];exact h
theorem cd_r{t:Int}(ht:isT t=true)(q:Pt){k:Int}(hk:0≤k∧k < 3):cdP (rturnP t 1 q) k=rtI t 1 q k:=by
 unfold rturnP;rw[ht,if_pos rfl]
 rcases (show k=0∨k=1∨k=2 by omega)with h | h | h <;> subst h <;> rfl
theorem cd_sml{p:Pt}(h:smlP p)(k:Int):-1000000≤cdP p k∧cdP p k≤1000000:=by
 unfold smlP at h;unfold cdP
 split
 · omega
 · split <;> omega
theorem turnB_def{s:Int}{b:Bx}(hs:isT s=true)(he:emptyB b=false):turnB s b=⟨⟨min (tcI s b.lo 0) (tcI s b.hi 0),min (tcI s b.lo 1) (tcI s b.hi 1),min (tcI s b.lo 2) (tcI s b.hi 2)⟩,⟨max (tcI s b.lo 0) (tcI s b.hi 0),max (tcI s b.lo 1) (tcI s b.hi 1),max (tcI s b.lo 2) (tcI s b.hi 2)⟩⟩:=by
 have d2:∀ p,turnP s p=⟨tcI s p 0,tcI s p 1,tcI s p 2⟩:=fun p=>by unfold turnP;rw[hs];rfl
 unfold turnB;rw[hs,he,if_pos rfl,if_neg (by decide)];simp only[d2]
theorem ball_in{a p:Pt}{n:Int}(ha:tinyP a)(hp:tinyP p)(h:ballQ a n p=true):inP p (ballBx a n)=true:=by
 unfold ballQ at h;rw[Bool.and_eq_true]at h;obtain⟨h1,h2⟩:=h;unfold isS at h1;rw[decide_eq_true_eq]at h1 h2;have hd:=subP_sml ha hp;have q1:=sq_rng hd.1;have q2:=sq_rng hd.2.1;have q3:=sq_rng hd.2.2;have k1:=sq_le (a:=(subP p a).x) (n:=n) (by omega) (by omega);have k2:=sq_le (a:=(subP p a).y) (n:=n) (by omega) (by omega);have k3:=sq_le (a:=(subP p a).z) (n:=n) (by omega) (by omega);have e:ballBx a n=⟨subP a ⟨n / 2,n / 2,n / 2⟩,addP a ⟨n / 2+1,n / 2+1,n / 2+1⟩⟩:=by
  unfold ballBx;rw[if_pos h1,around_sub]
 rw[e,inP_iff];clear e h2 q1 q2 q3 hd;unfold tinyP at ha hp;unfold subP addP wrap64 at *;simp only at *;omega
theorem inCube_tiny{p:Pt}{d:Int}(hd:2≤d∧d≤14)(h:inP p (cubeB (2 ^ d.toNat))=true):tinyP p:=by
 have hw:=pow_le14 d hd;generalize (2:Int) ^ d.toNat=S at h hw;rw[inP_iff]at h;unfold cubeB at h;unfold tinyP;simp only at h;omega
def plcI(s:Int)(b:Bx)(a p:Pt)(j:Int):Int:=cdP a j+if ngI s j then cdP b.hi (axI s j) - 1 - cdP p (axI s j)else cdP p (axI s j) - cdP b.lo (axI s j)
def plcP(s:Int)(b:Bx)(a p:Pt):Pt:=⟨plcI s b a p 0,plcI s b a p 1,plcI s b a p 2⟩
def tgtB(s:Int)(b:Bx)(a:Pt):Bx:=⟨a,addP a (subP (turnB s b).hi (turnB s b).lo)⟩
def srcP(s:Int)(b:Bx)(a q:Pt):Pt:=plcP (invI s) (tgtB s b a) b.lo q
theorem cd_ext{p q:Pt}(h:∀ k:Int,0≤k∧k < 3→cdP p k=cdP q k):p=q:=by
 obtain⟨x,y,z⟩:=p;obtain⟨x2,y2,z2⟩:=q;have h0:=h 0 (by decide);have h1:=h 1 (by decide);have h2:=h 2 (by decide);simp only[cdP,if_true,show ¬ (1:Int)=0 by decide,show ¬ (2:Int)=0 by decide,show ¬ (2:Int)=1 by decide,if_false]at h0 h1 h2;subst h0 h1 h2;rfl
theorem cd_plc(s:Int)(b:Bx)(a p:Pt){k:Int}(hk:0≤k∧k < 3):cdP (plcP s b a p) k=plcI s b a p k:=by
 rcases (show k=0∨k=1∨k=2 by omega)with h | h | h <;> subst h <;> rfl
theorem tgt_cd{s:Int}(hs:0≤s∧s < 48){b:Bx}(he:emptyB b=false)(hb:smlB b){a:Pt}(ha:smlP a){j:Int}(hj:0≤j∧j < 3):
    cdP (tgtB s b a).lo j=cdP a j∧cdP (tgtB s b a).hi j=cdP a j+(cdP b.hi (axI s j) - cdP b.lo (axI s j)):=by
 refine⟨rfl,?_⟩;have hit:isT s=true:=by unfold isT;rw[decide_eq_true hs]
 have hlt:=notEmpty he;have ha2:=axI_in s j hs hj;have hlh:cdP b.lo (axI s j) < cdP b.hi (axI s j):=by
  unfold cdP
  split
  · omega
  · split <;> omega
 have hl:=cd_sml hb.1 (axI s j);have hh:=cd_sml hb.2 (axI s j);have hq:cdP (turnB s b).hi j - cdP (turnB s b).lo j=cdP b.hi (axI s j) - cdP b.lo (axI s j)∧(-1000000≤cdP (turnB s b).hi j∧cdP (turnB s b).hi j≤1000000)∧(-1000000≤cdP (turnB s b).lo j∧cdP (turnB s b).lo j≤1000000):=by
  have e:cdP (turnB s b).hi j=max (tcI s b.lo j) (tcI s b.hi j)∧cdP (turnB s b).lo j=min (tcI s b.lo j) (tcI s b.hi j):=by
   rw[turnB_def hit he]
   rcases (show j=0∨j=1∨j=2 by omega)with h | h | h <;> subst h <;> exact⟨rfl,rfl⟩
  rw[e.1,e.2];unfold tcI;generalize cdP b.lo (axI s j)=u at *;generalize cdP b.hi (axI s j)=v at *
  cases ngI s j
  · simp only[Bool.false_eq_true,if_false];omega
  · simp only[if_true];unfold wrap64;omega
 have hca:=cd_sml ha j;have e2:cdP (tgtB s b a).hi j=wrap64 (cdP a j+wrap64 (cdP (turnB s b).hi j - cdP (turnB s b).lo j)):=by
  rcases (show j=0∨j=1∨j=2 by omega)with h | h | h <;> subst h <;> rfl
 rw[e2,hq.1];unfold wrap64;omega
section
variable {s:Int} (hs:0≤s∧s < 48) {b:Bx} (he:emptyB b=false) (hb:smlB b) {a:Pt} (ha:smlP a)
include hs he hb ha
theorem plc_ref{p:Pt}(hp:smlP p):addP (rturnP s 1 p) (subP a (turnB s b).lo)=plcP s b a p:=by
 refine cd_ext fun j hj=>?_;have hit:isT s=true:=by unfold isT;rw[decide_eq_true hs]
 have e:cdP (addP (rturnP s 1 p) (subP a (turnB s b).lo)) j=wrap64 (cdP (rturnP s 1 p) j+wrap64 (cdP a j - cdP (turnB s b).lo j)):=by
  rcases (show j=0∨j=1∨j=2 by omega)with h | h | h <;> subst h <;> rfl
 have e2:cdP (turnB s b).lo j=min (tcI s b.lo j) (tcI s b.hi j):=by
  rw[turnB_def hit he]
  rcases (show j=0∨j=1∨j=2 by omega)with h | h | h <;> subst h <;> rfl
 have hlt:=notEmpty he;have ha2:=axI_in s j hs hj;have hlh:cdP b.lo (axI s j) < cdP b.hi (axI s j):=by
  unfold cdP
  split
  · omega
  · split <;> omega
 have hl:=cd_sml hb.1 (axI s j);have hh:=cd_sml hb.2 (axI s j);have hpp:=cd_sml hp (axI s j);have hca:=cd_sml ha j;rw[e,cd_r hit p hj,e2,cd_plc _ _ _ _ hj];unfold rtI tcI plcI;generalize cdP b.lo (axI s j)=u at *;generalize cdP b.hi (axI s j)=v at *;generalize cdP p (axI s j)=z at *;generalize cdP a j=y at *
 cases ngI s j
 · simp only[Bool.false_eq_true,if_false];unfold wrap64;omega
 · simp only[if_true];unfold wrap64;omega
end
def hitE(x:Ed)(l:List Pt)(p:Pt):Bool:=
 if x.kind=1 then inP p x.box else if x.kind=2 then ballQ x.at_ x.size p else if x.kind=3 then prismR x.box x.turn p
 else if x.kind=4 then inP p (tgtB x.turn x.box x.at_)else if x.kind=5 then decide (p∈l)else false
def newE(x:Ed)(F:Pt→Int)(p:Pt):Int:=if x.kind=4 then F (srcP x.turn x.box x.at_ p)else x.cell
def effF(x:Ed)(F:Pt→Int)(l:List Pt)(p:Pt):Int:=if hitE x l p then newE x F p else F p
def chgOf(F N:Pt→Int)(l:List Pt):List Chg:=l.filterMap fun p=>if F p=N p then none else some ⟨p,F p,N p⟩
theorem chgOf_sort{F N:Pt→Int}{l:List Pt}(h:SortP l):SortC (chgOf F N l):=by
 unfold SortC chgOf;refine List.Pairwise.filterMap (R:=fun x y=>befP x y=true) _ (fun p q hpq x hx y hy=>?_) h
 split at hx
 · cases hx
 · split at hy
   · cases hy
   · injection hx with hx;injection hy with hy
     subst hx hy;exact hpq
theorem chgOf_mem{F N:Pt→Int}{l:List Pt}{c:Chg} : c∈chgOf F N l↔c.at_∈l∧c.old=F c.at_∧c.new=N c.at_∧F c.at_≠N c.at_:=by
 unfold chgOf;rw[List.mem_filterMap];constructor
 · rintro⟨p,hp,h⟩
   split at h
   · cases h
   · rename_i hne
     injection h with h
     subst h;exact⟨hp,rfl,rfl,hne⟩
 · rintro⟨h1,h2,h3,h4⟩;refine⟨c.at_,h1,?_⟩;rw[if_neg h4];obtain⟨p,o,n⟩:=c;simp only at h2 h3;rw[h2,h3]
theorem chgOf_snoc(F N:Pt→Int)(l:List Pt)(p:Pt):chgOf F N (l++[p])=chgOf F N l++(if F p=N p then []else [⟨p,F p,N p⟩]):=by
 unfold chgOf;rw[List.filterMap_append];congr 1
 simp only[List.filterMap_cons,List.filterMap_nil]
 split
 · rename_i h;split at h
   · rename_i h2;rw[if_pos h2]
   · cases h
 · rename_i h;split at h
   · cases h
   · rename_i h2
     injection h with h
     rw[if_neg h2,h]
theorem chg_eff{b:Bx}{x:Ed}{F:Pt→Int}{r l:List Pt}(hs:SortP l)(hm:∀ p,p∈l↔inP p b=true∧hitE x r p=true):chgOf F (newE x F) l=diffL b F (effF x F r):=by
 refine diffL_uniq (chgOf_sort hs) fun c=>chgOf_mem.trans ?_;rw[hm];unfold effF;constructor
 · rintro⟨⟨h1,h2⟩,h3,h4,h5⟩;rw[h2,if_pos rfl];exact⟨h1,h3,h4,h5⟩
 · rintro⟨h1,h3,h4,h5⟩
   cases hq:hitE x r c.at_
   · rw[hq]at h5;exact absurd rfl h5
   · rw[hq,if_pos rfl]at h4 h5;exact⟨⟨h1,rfl⟩,h3,h4,h5⟩
def ChgOut(g:Gr)(x:Ed)(d m:Int)(l:List Chg)(er:Int):Prop:=
 (checkE x d m≠0∧l = []∧er=checkE x d m)∨
 (checkE x d m=0∧((x.kind≠5∧l=diffL (cubeD d) (matF g) (effF x (matF g) [])∧er=0)∨
   (x.kind=5∧∃ r er2,FloodOut (fld g) x.at_ x.size r er2∧er=er2∧((er2≠0∧l = [])∨(er2=0∧l=diffL (cubeD d) (matF g) (effF x (matF g) r))))))
theorem ChgOut.uniq{g:Gr}{x:Ed}{d m:Int}{l l':List Chg}{er er':Int}(h:ChgOut g x d m l er)(k:ChgOut g x d m l' er'):l=l'∧er=er':=by
 rcases h with⟨h1,rfl,rfl⟩ | ⟨h1,h2⟩
 · rcases k with⟨_,rfl,rfl⟩ | ⟨k1,_⟩
   · exact⟨rfl,rfl⟩
   · exact absurd k1 h1
 · rcases k with⟨k1,_⟩ | ⟨_,k2⟩
   · exact absurd h1 k1
   · rcases h2 with⟨h3,rfl,rfl⟩ | ⟨h3,r,er2,hf,rfl,h4⟩ <;> rcases k2 with⟨k3,rfl,rfl⟩ | ⟨k3,r',er3,kf,rfl,k4⟩
     · exact⟨rfl,rfl⟩
     · exact absurd k3 h3
     · exact absurd h3 k3
     · obtain⟨rfl,rfl⟩:=hf.uniq kf
       rcases h4 with⟨h5,rfl⟩ | ⟨h5,rfl⟩ <;> rcases k4 with⟨k5,rfl⟩ | ⟨k5,rfl⟩
       · exact⟨rfl,rfl⟩
       · exact absurd k5 h5
       · exact absurd h5 k5
       · exact⟨rfl,rfl⟩
structure EdOk (g:Gr) (x:Ed) (d m:Int) (l:List Chg) (r:List Pt):Prop where
 chk:checkE x d m=0
 eq:l=diffL (cubeD d) (matF g) (effF x (matF g) r)
 reg:x.kind=5→∃ v,fld g x.at_=some v∧IsReg (fld g) v x.at_ r∧(r.length:Int)≤x.size
theorem ChgOut.ok{g:Gr}{x:Ed}{d m:Int}{l:List Chg}{er:Int}(h:ChgOut g x d m l er):(er≠0∧l = [])∨(er=0∧∃ r,EdOk g x d m l r):=by
 rcases h with⟨h1,rfl,rfl⟩ | ⟨h1,⟨h3,rfl,rfl⟩ | ⟨h3,r,er2,hf,rfl,⟨h4,rfl⟩ | ⟨h4,rfl⟩⟩⟩
 · exact .inl ⟨h1,rfl⟩
 · exact .inr ⟨rfl,[],h1,rfl,fun h=>absurd h h3⟩
 · exact .inl ⟨h4,rfl⟩
 · refine .inr ⟨h4,r,h1,rfl,fun _=>?_⟩
   rcases hf with⟨_,_,e⟩ | ⟨v,hv,⟨_,_,e⟩ | ⟨k1,k2,_⟩⟩
   · omega
   · omega
   · exact⟨v,hv,k1,k2⟩
theorem EdOk.len{g:Gr}{x:Ed}{d m:Int}{l:List Chg}{r:List Pt}(h:EdOk g x d m l r):l.length≤volN (cubeD d):=by rw[h.eq];exact diffL_len ..
end Go.Proofs.YtoecbicdahbccaaGreatDoor
