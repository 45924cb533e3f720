/- A part of the walk of the layer of apply: contracts and plain laws that a row's text leans on. -/
import Derived.Lib.AppendZeros
import Derived.Test.YtoecbicdahbccaaGreatDoorZa33
set_option maxRecDepth 100000
set_option maxHeartbeats 16000000
namespace Go.Proofs.YtoecbicdahbccaaGreatDoor
open Go Go.RowKit
theorem rowsC_append(a b:List Chg):rowsC (a++b)=rowsC a++rowsC b:=by simp[rowsC]
def RetCC(l:List Chg)(w:World)(en:Ending)(w':World):Prop:=
 ∃ v,en = .returned v∧w'.ownsRow w.heap.size 58 5 v l.length (rowsC l).flatten∧ExtD w w'
theorem GrowC_any(n:Nat)(h0:0 < n)(hn:n≤100000)(w:World):
    Calls Tryz.prog 93 #[.slice none 0 0,.int .i64 n] w fun e w'=>∃ v,e = .returned v∧w'.ownsRow w.heap.size 58 5 v 0 []∧ExtD w w':=by
 obtain⟨i0,hi,hz0,hz1,hz2⟩:=info_parts infoCh;have hcge:=grownCap_ge w n 0 58;have hcle:=grownCap_le_maxLen w n 0 58 (by unfold maxLen;omega);have hrun:=fun ty=>Lib.run_append_nil_zeros (P:=Tryz.prog) w 38 3 ty 58 i0 (.agg #[.int .i64 0,.int .i64 0,.int .i64 0,.int .i64 0,.int .i64 0]) .i64 .i64 Tryz.underlying38 Tryz.underlying3 hi hz0 n h0 (by omega) (by omega) (by rw[hz2];omega);generalize hcap:grownCap w n 0 58=cap at hcge hcle hrun;obtain⟨cs,hcs⟩:∃ cs,cs=Builtin.zeroCells (Value.agg #[.int .i64 0,.int .i64 0,.int .i64 0,.int .i64 0,.int .i64 0]).cells n++Builtin.zeroCells (Value.agg #[.int .i64 0,.int .i64 0,.int .i64 0,.int .i64 0,.int .i64 0]).cells (cap - n):=⟨_,rfl⟩;have hsz:cs.size=cap * 5:=by rw[hcs];simp[size_zeroCells,Value.cells];omega
 rw[← hcs]at hrun;have HO:=Lib.hid (show(w.drew.alloc (.cells cs 58)).ownsRow w.heap.size 58 5 (.slice (some ⟨w.heap.size,0,none⟩) 0 cap) 0 []from own_of_cur (cur:=cs.toList) (Nat.le_refl _) (by simpa using heap_alloc_new w.drew (.cells cs 58)) (Nat.zero_le _) hcle (by simp[hsz]) (by simp));have HX:=Lib.hid (show ExtD w (w.drew.alloc (.cells cs 58))from((ExtD.refl w).drew).alloc _);have HRUN:=Lib.hid hrun;have hm:cap≤9223372036854775807:=by unfold maxLen at hcle;omega
 clear hrun hcs hcap hsz hi hz0 hz1 hz2 hcle
 go_enter Tryz.func93,Tryz.ntmps93
 go_wp2_with (at_builtin;refine Lib.wpList_append_run _ rfl (.tmp 20) (.tmp 21) 38 3 rfl _ _ rfl rfl _ _ (HRUN.out _) ?_)
 go_ret
 exact⟨_,rfl,HO.out,HX.out⟩
theorem GrowC_zero(w:World):
    Calls Tryz.prog 93 #[.slice none 0 0,.int .i64 0] w fun e w'=>∃ v,e = .returned v∧w'.ownsRow w.heap.size 58 5 v 0 []∧ExtD w w':=by
 go_enter Tryz.func93,Tryz.ntmps93
 go_wp2
 go_ret
 exact⟨_,rfl,World.ownsRow_nil _ _ _ _,ExtD.refl _⟩
structure SvCC (w:World) (B:Nat) (A:Option Addr) (c:Nat) (vs:List Value) (ls:List (List Chg)):Prop where
 out:Sv w B 1 A c (vs.map ([·]))
 len:vs.length=ls.length
 each:∀ (i:Nat) (v:Value) (l:List Chg),vs[i]? = some v→ls[i]? = some l→∃ A' c',v = .slice A' l.length c'∧Sv w B 5 A' c' (rowsC l)
theorem SvCC.keep{w w':World}{B:Nat}{A:Option Addr}{c:Nat}{vs:List Value}{ls:List (List Chg)}(h:SvCC w B A c vs ls)(hk:∀ p:Addr,p.block < B→w'.cell? p=w.cell? p):SvCC w' B A c vs ls:=
 ⟨h.out.keep hk,h.len,fun i v p hv hp=>by obtain⟨A',c',e,hs⟩:=h.each i v p hv hp;exact⟨A',c',e,hs.keep hk⟩⟩
theorem SvCC.row{w:World}{B:Nat}{A:Option Addr}{c:Nat}{vs:List Value}{ls:List (List Chg)}(h:SvCC w B A c vs ls){i:Nat}{l:List Chg}(hp:ls[i]? = some l):∃ b off A' c',A=some ⟨b,off,none⟩∧b < B∧w.cell? ⟨b,off+i,none⟩=some (.slice A' l.length c')∧Sv w B 5 A' c' (rowsC l):=by
 have hi:i < vs.length:=by rw[h.len];exact(List.getElem?_eq_some_iff.1 hp).1
 obtain⟨v,hv⟩:∃ v,vs[i]? = some v:=⟨_,List.getElem?_eq_getElem hi⟩;obtain⟨A',c',rfl,hs⟩:=h.each i v l hv hp;obtain⟨b,off,hA,hb,hr⟩:=h.out.row (i:=i) (x:=[.slice A' l.length c']) (by rw[List.getElem?_map,hv];rfl);refine⟨b,off,A',c',hA,hb,?_,hs⟩;have:=hr 0 (.slice A' l.length c') rfl;simpa using this
def lenCC(ls:List (List Chg))(k:Nat):Nat:=(ls.take k).flatten.length
theorem lenCC_succ(ls:List (List Chg)){i:Nat}{r:List Chg}(h:ls[i]? = some r):lenCC ls (i+1)=lenCC ls i+r.length:=by
 obtain⟨hi,rfl⟩:=List.getElem?_eq_some_iff.1 h;unfold lenCC;rw[List.take_add_one,List.getElem?_eq_getElem hi,List.flatten_append,List.length_append];simp
theorem lenCC_all(ls:List (List Chg)):lenCC ls ls.length=ls.flatten.length:=by unfold lenCC;rw[List.take_length]
theorem lenCC_le(ls:List (List Chg))(k:Nat):lenCC ls k≤ls.flatten.length:=by
 unfold lenCC
 conv=>rhs;rw[← List.take_append_drop k ls,List.flatten_append,List.length_append]
 omega
theorem flatCC_succ(ls:List (List Chg)){i:Nat}{r:List Chg}(h:ls[i]? = some r):(ls.take (i+1)).flatten=(ls.take i).flatten++r:=by
 obtain⟨hi,rfl⟩:=List.getElem?_eq_some_iff.1 h;rw[List.take_add_one,List.getElem?_eq_getElem hi,List.flatten_append];simp
theorem ConcatC_any(A:Option Addr)(c:Nat)(vs:List Value)(ls:List (List Chg))(w:World)(hs:SvCC w w.heap.size A c vs ls)(hb:ls.flatten.length≤100000):
    Calls Tryz.prog 45 #[.slice A ls.length c] w (RetCC ls.flatten w):=by
 obtain⟨i0,hi,hz0,hz1,hz2⟩:=info_parts infoCh;have HI:=Lib.hid hi;have HZ:=Lib.hid hz0;have HZ1:=Lib.hid hz1;have HZ2:=Lib.hid hz2;clear hi hz0 hz1 hz2;have hln:ls.length≤9223372036854775807:=by have h:=hs.out.len;rw[List.length_map,hs.len]at h;exact h
 have HS:=Lib.hid hs;clear hs;have HB:=Lib.hid hb;clear hb
 go_enter Tryz.func45,Tryz.ntmps45
 go_wp2
 go_loopw [3,11] (fun nv i wr=>∃ k n:Nat,nv = .int .i64 n∧i = .int .i64 k∧k≤ls.length∧n=lenCC ls k∧w=wr) (fun _ i _=>ls.length - (intOf i).toNat)
 case atStart=>exact⟨0,0,rfl,rfl,Nat.zero_le _,rfl,rfl⟩
 case round=>
  obtain⟨k,n,rfl,rfl,hk,hn,rfl⟩:=hrel;have HN:=Lib.hid hn;have hnl:n≤100000:=by have h1:=lenCC_le ls k;have h2:=HB.out;omega
  clear hn
  by_cases hlt:k < ls.length
  · obtain⟨r,hr⟩:∃ r,ls[k]? = some r:=⟨_,List.getElem?_eq_getElem hlt⟩;obtain⟨b,off,A',c',rfl,hbl,r0,hsv⟩:=HS.out.row hr;have hrl:n+r.length≤100000:=by have h1:=lenCC_le ls (k+1);have h2:=HB.out;rw[lenCC_succ ls hr]at h1;have:=HN.out;omega
    have HN2:=Lib.hid (show n+r.length=lenCC ls (k+1)by rw[lenCC_succ ls hr,HN.out]);have hng:¬ ((n:Int)+r.length < 0):=by omega
    clear hr hsv;go_wp2
    go_roundw
    case rel=>exact⟨k+1,n+r.length,by go_num,by go_num,by omega,HN2.out,by first | rfl | trivial⟩
    case measure=>simp[intOf];omega
  · obtain rfl:k=ls.length:=by omega
    have HGR:=Lib.hid (show Calls Tryz.prog 93 #[.slice none 0 0,.int .i64 n] w fun e w'=>∃ v,e = .returned v∧w'.ownsRow w.heap.size 58 5 v 0 []∧ExtD w w' from by
     rcases Nat.eq_zero_or_pos n with rfl | h0
     · exact GrowC_zero w
     · exact GrowC_any n h0 hnl w)
    go_wp2_with (go_at_call 93;refine HGR.out.mono ?_;rintro e w1 ⟨v1,rfl,ho,hx⟩)
    go_loopw [6,27] (fun ov i w2=>∃ k n2:Nat,i = .int .i64 k∧k≤ls.length∧n2=lenCC ls k∧w2.ownsRow w.heap.size 58 5 ov n2 (rowsC (ls.take k).flatten).flatten∧ExtD w w2) (fun _ i _=>ls.length - (intOf i).toNat)
    case atStart=>exact⟨0,0,rfl,Nat.zero_le _,rfl,ho,hx⟩
    case round=>
     obtain⟨k,n2,rfl,hk2,hn2,ho2,hx2⟩:=hrel;have HO:=Lib.hid ho2;have HX:=Lib.hid hx2;have HN2:=Lib.hid hn2;obtain⟨A1,c1,rfl,_⟩:=own_form ho2;clear ho2 hn2 ho hx
     by_cases hlt2:k < ls.length
     · obtain⟨r,hr⟩:∃ r,ls[k]? = some r:=⟨_,List.getElem?_eq_getElem hlt2⟩;obtain⟨b,off,A',c',rfl,hbl,r0,hsv⟩:=(HS.out.keep (fun p hp=>hx2.ext.cell hp)).row hr;have HSV:=Lib.hid hsv;have hrl:n2+r.length≤100000:=by have h1:=lenCC_le ls (k+1);have h2:=HB.out;rw[lenCC_succ ls hr]at h1;have:=HN2.out;omega
       have HN3:=Lib.hid (show n2+r.length=lenCC ls (k+1)by rw[lenCC_succ ls hr,HN2.out]);have HF:=Lib.hid (flatCC_succ ls hr);have hbl:=Nat.lt_of_lt_of_le hbl hx2.ext.size;clear hr hsv hx2
       go_wp2_with (at_builtin;refine wpList_append_svD rfl (.tmp 31) (.tmp 32) 38 rfl w.heap.size 58 i0 (.agg #[.int .i64 0,.int .i64 0,.int .i64 0,.int .i64 0,.int .i64 0]) 5 40 Tryz.underlying38 HI.out HZ.out HZ1.out HZ2.out rfl (by decide) _ n2 _ rfl HO.out _ A' r.length c' (rowsC r) rfl HSV.out (rowsC_length _) (by unfold maxLen;omega) (by omega) HX.out.ext.size ?_)
       intro v2 w3 g1 g2 _ g4;have HO2:=Lib.hid (show w3.ownsRow w.heap.size 58 5 v2 (n2+r.length) (rowsC (ls.take (k+1)).flatten).flatten from by rw[HF.out,rowsC_append,List.flatten_append];exact g1);have HX3:=Lib.hid (HX.out.own HO.out g2 g4 (Nat.le_refl _));clear g1 g2 g4 r0;go_wp2
       go_roundw
       case rel=>exact⟨k+1,n2+r.length,by go_num,by omega,HN3.out,HO2.out,HX3.out⟩
       case measure=>simp[intOf];omega
     · obtain rfl:k=ls.length:=by omega
       clear hx2;go_wp2
       go_ret
       refine⟨_,rfl,?_,HX.out⟩;have h:=HO.out;have e:=HN2.out;rw[List.take_length]at h;rw[lenCC_all]at e;rw[← e];exact h
section
variable {w:World} {base n k c g:Nat} {e:TypeId}
theorem own_setCells:∀ (cs:List Value) {w:World} {zs:List Value} (o:Nat),w.ownsRow base e k (.slice (some ⟨g,0,none⟩) n c) n zs→o+cs.length≤zs.length→(w.setCells g o cs).ownsRow base e k (.slice (some ⟨g,0,none⟩) n c) n (splice zs o cs)
 | [],_,_,_,h,_=>by rw[splice_nil];exact h
 | v:: l,w,zs,o,h,hl=>by
   rw[List.length_cons]at hl;have h1:=own_setCells l (o+1) (h.stored o v).1 (by rw[List.length_set];omega);rw[splice_step _ _ _ _ (by omega)]at h1;exact h1
theorem grown_setCells{a:World} : ∀ (l:List Value) {w:World} (o:Nat),a.grownBy w (some g)→a.grownBy (w.setCells g o l) (some g)
 | [],_,_,h=>h
 | v:: l,_w,o,h=>grown_setCells l (o+1) (grown_set h o v)
theorem own_there{zs:List Value}(h:w.ownsRow base e k (.slice (some ⟨g,0,none⟩) n c) n zs){o m:Nat}(hm:o+m≤n * k):w.there g o m:=by
 intro j hj;obtain⟨v,hv⟩:=own_slot h (o+j) (by omega);simp[hv,h.frozenAt (o+j)]
theorem wpList_store_own{P:Program}{ops:Array Oper}{rest:List Oper}{o:Oper}{a:Act}{Q:Exit→Act→World→Prop}(ty:TypeId)(x y:Operand)(hgd:o.guard=none)(ho:o.op = .store ty x y)(hdst:o.dst=none)
    {xs:List (List Value)} (hO:w.ownsRow base e k (.slice (some ⟨g,0,none⟩) n c) n xs.flatten) (hk:∀ y,y∈xs→y.length=k) (hn:xs.length=n) (i:Nat) (hi:i < n) (cs:List Value) (hcs:cs.length=k) (hx:a.eval x = .pointer (some ⟨g,i * k,none⟩)) (hy:a.eval y = .agg cs.toArray)
    (hs:(P.info? ty).map (·.size)=some k) (h1:cs.all (·.oneCell')=true) (h:∀ W,W.ownsRow base e k (.slice (some ⟨g,0,none⟩) n c) n (xs.set i cs).flatten→(∀ a0:World,a0.grownBy w (some g)→a0.grownBy W (some g))→wpList P ops Q rest a W):wpList P ops Q (o:: rest) a w:=by
 have hb:i * k+k≤n * k:=by have:=Nat.mul_le_mul_right k (show i+1≤n from hi);rwa [Nat.add_mul,Nat.one_mul]at this
 have hl:=flatten_length xs hk;rw[hn]at hl;refine wpList_store_mid hgd ty x y ho g (i * k) cs.toArray hx hy (own_there hO (by simpa[hcs]using hb)) (by simpa[hcs]using hs) (by simpa using h1) ?_;rw[hdst];refine h _ ?_ (fun a0 h0=>grown_setCells cs (i * k) h0);rw[set_flatten xs i cs hk hcs (by omega)];exact own_setCells cs (i * k) hO (by rw[hcs,hl];exact hb)
end
theorem Rwk.set{k i:Nat}{xs:List (List Value)}{x:List Value}(h:Rwk k xs)(hx:x.length=k∧∀ u,u∈x→u.oneCell'=true):Rwk k (xs.set i x):=fun y hy=>by
 rcases List.mem_or_eq_of_mem_set hy with h1 | rfl
 · exact h y h1
 · exact hx
def eqC:List Value→Bool
 | [_,_,_,.int _ a,.int _ b]=>a == b
 | _=>false
def keepC(l:List Chg):List Chg:=l.filter fun x=>!(x.old == x.new)
theorem eqC_cells(x:Chg):eqC x.cells=(x.old == x.new):=rfl
theorem nots_rowsC(l:List Chg):nots eqC (rowsC l)=rowsC (keepC l):=by
 unfold nots rowsC keepC;rw[List.filter_map];rfl
theorem Join1_any(x:Chg)(w:World):Calls Tryz.prog 49 #[.agg #[.int .i64 x.at_.x,.int .i64 x.at_.y,.int .i64 x.at_.z,.int .i64 x.old,.int .i64 x.new]] w fun e w'=>e = .returned (.bool (x.old == x.new))∧Ext w w':=by
 have hx0:=Lib.hid (fun o=>(Ext.refl w).alloc o)
 go_enter Tryz.func49,Tryz.ntmps49
 go_wp2
 go_ret
 exact⟨rfl,hx0.out _⟩
theorem predC(l:List Chg)(w:World):PredF Tryz.prog 49 #[] #[] eqC (rowsC l) w:=
 ⟨fun _ _=>by kernel_rfl,fun x hx w' _=>by
   obtain⟨y,_,rfl⟩:=List.mem_map.1 hx;exact Join1_any y w'⟩
theorem zeroCh(w:World):(zeroValue 58).run Tryz.prog w = .ok (.agg #[.int .i64 0,.int .i64 0,.int .i64 0,.int .i64 0,.int .i64 0]) w:=by kernel_rfl
theorem own_l2{w:World}{base k n:Nat}{e:TypeId}{v:Value}{zs:List Value}(h:w.ownsRow base e k v n zs):∃ A c,v = .slice A n c:=by
 rcases h.2 with⟨rfl,h0⟩ | ⟨g,cap,cur,rfl,_⟩
 · exact⟨_,_,by rw[h0]⟩
 · exact⟨_,_,rfl⟩
def RetDelC(base:Nat)(v:Value)(l:List Chg)(w:World)(en:Ending)(w':World):Prop:=
 ∃ v',en = .returned v'∧w'.ownsRow base 58 5 v' l.length (rowsC l).flatten∧w.grownBy w' v.ownBlock∧v'.ownBlock=v.ownBlock
theorem DeleteC_any(l:List Chg)(v:Value)(base:Nat)(w:World)(h:w.ownsRow base 58 5 v l.length (rowsC l).flatten)(_hb:base≤w.heap.size):
    Calls Tryz.prog 48 #[v,.func (.func 49) #[] #[]] w (RetDelC base v (keepC l) w):=by
 obtain⟨A,c,hv⟩:=own_l2 h;rw[hv]at h ⊢;clear hv;have hs:=Sv.of_own h (rowsC_rwk l) (rowsC_length l);have hln:=hs.len;rw[rowsC_length]at hln;have hI:=IndexFuncCh A c (rowsC l) w hs 49 #[] #[] eqC (predC l w);rw[rowsC_length]at hI;have HI:=Lib.hid hI;have HO:=Lib.hid h;have eg:∀ args w,(callFunc 49 args).run Tryz.prog w = .ok (.enter 49 args) w:=fun _ _=>by kernel_rfl
 clear hs hI
 rcases idx_or eqC (rowsC l)with⟨h1,h2⟩ | ⟨i0,h1,h2⟩
 · have hn:=nots_all h2;rw[nots_rowsC]at hn;have hk:keepC l=l:=by
    have h3:(keepC l).length=l.length:=by have:=congrArg List.length hn;simpa[rowsC_length]using this
    exact List.filter_eq_self.2 (by simpa[keepC]using h3)
   have HN:=Lib.hid hk;clear h2 hn hk h;rw[h1]at HI;clear h1
   go_enter Tryz.func48,Tryz.ntmps48
   go_wp2_with (go_at_call 97;refine HI.out.mono ?_;rintro e w1 ⟨rfl,hx⟩)
   go_ret
   rw[HN.out];exact⟨_,rfl,own_ext HO.out hx,hx.by_ _,rfl⟩
 · rw[rowsC_length]at h2;obtain⟨g,hA⟩:∃ g,A=some ⟨g,0,none⟩:=by
    rcases h.2 with⟨hv,h0⟩ | ⟨g,_,_,hv,_⟩
    · exfalso;omega
    · injection hv with hv;exact⟨g,hv⟩
   subst hA;have hgl:g < w.heap.size:=by obtain⟨cur,_,h,_⟩:=own_cur h;exact(Array.getElem?_eq_some_iff.1 h).1
   have HM:=Lib.hid (Mid.start h1);rw[h1]at HI;have he1:((i0:Int) == -1)=false:=beq_eq_false_iff_ne.2 (by omega);clear h h1
   go_enter Tryz.func48,Tryz.ntmps48
   go_wp2_with (go_at_call 97;refine HI.out.mono ?_;rintro e w1 ⟨rfl,hx⟩)
   go_loopw [5,6] (fun i j wr=>∃ (i' j':Nat) (ys:List (List Value)),i = .int .i64 i'∧j = .int .i64 j'∧Mid eqC (rowsC l) ys i' j'∧Rwk 5 ys∧wr.ownsRow base 58 5 (.slice (some ⟨g,0,none⟩) l.length c) l.length ys.flatten∧w.grownBy wr (some g)) (fun _ j _=>l.length - (intOf j).toNat)
   case atStart=>exact⟨i0,i0+1,rowsC l,rfl,by go_num,HM.out,rowsC_rwk l,own_ext HO.out hx,hx.by_ _⟩
   case round=>
    obtain⟨i,j,ys,rfl,rfl,hM,hR,hO,hW⟩:=hrel;have hij:=hM.ij;have hjn:=hM.jn;rw[rowsC_length]at hjn;have hyl:=hM.len;rw[rowsC_length]at hyl;have hgw:=(Nat.lt_of_lt_of_le hgl hW.size);have hgw':g≠wr.heap.size:=by omega
    by_cases hlt:j < l.length
    · obtain⟨x,hxj,hyj⟩:=hM.at_ (by rw[rowsC_length];exact hlt);obtain⟨y,hym,rfl⟩:=List.mem_map.1 (List.mem_of_getElem? hxj);obtain⟨b',off,he,hbl,hrow⟩:=(Sv.of_own hO hR hyl).row hyj;injection he with he
      injection he with he1' he2'
      subst he1' he2';rw[Nat.zero_add]at hrow;have HROW:=Lib.hid (show wr.rangeAt g (j * 5) [.int .i64 y.at_.x,.int .i64 y.at_.y,.int .i64 y.at_.z,.int .i64 y.old,.int .i64 y.new]from hrow);have HMM:=Lib.hid hM;have HXJ:=Lib.hid hxj;have HOO:=Lib.hid hO;have HWW:=Lib.hid hW;have HRR:=Lib.hid hR;have HYL:=Lib.hid hyl;have HA:=Lib.hid (fun o:Obj=>(Ext.refl wr).alloc o);have HJ:=Lib.hid (fun W=>Join1_any y W);have HQ:=Lib.hid (eqC_cells y);clear hM hxj hyj hO hW hR hrow hym hyl
      cases hq:(y.old == y.new)with
      | true=>
        rw[hq]at HJ HQ
        go_wp2_with (first
         | (with_reducible refine wpList_load_mid rfl 58 (.tmp 24) rfl g (j * 5) rfl [.int .i64 y.at_.x,.int .i64 y.at_.y,.int .i64 y.at_.z,.int .i64 y.old,.int .i64 y.new] _ HROW.out Tryz.underlying58 rfl (by kernel_rfl) ?_)
         | (go_at_fn 49;refine(HJ.out _).mono ?_;rintro e w2 ⟨rfl,hy⟩))
        go_roundw
        case rel=>exact⟨i,j+1,ys,rfl,by go_num,HMM.out.skip HXJ.out HQ.out,HRR.out,own_ext HOO.out ((HA.out _).trans hy),grown_ext HWW.out ((HA.out _).trans hy)⟩
        case measure=>simp[intOf];omega
      | false=>
        rw[hq]at HJ HQ;have hin:i < l.length:=by omega
        go_wp2_with (first
         | (with_reducible refine wpList_load_mid rfl 58 (.tmp 24) rfl g (j * 5) rfl [.int .i64 y.at_.x,.int .i64 y.at_.y,.int .i64 y.at_.z,.int .i64 y.old,.int .i64 y.new] _ HROW.out Tryz.underlying58 rfl (by kernel_rfl) ?_)
         | (go_at_fn 49;refine(HJ.out _).mono ?_;rintro e w2 ⟨rfl,hy⟩;have b0:=hy.box 0;have b1:=hy.box 1;have b2:=hy.box 2;have b3:=hy.box 3;have b4:=hy.box 4;have HO2:=Lib.hid (own_ext HOO.out ((HA.out _).trans hy));have HW2:=Lib.hid (grown_ext HWW.out ((HA.out _).trans hy));clear hy)
         | (refine wpList_store_own 58 (.tmp 33) (.tmp 32) rfl rfl rfl HO2.out HRR.out.len HYL.out i hin [.int .i64 y.at_.x,.int .i64 y.at_.y,.int .i64 y.at_.z,.int .i64 y.old,.int .i64 y.new] rfl rfl rfl (by kernel_rfl) rfl ?_;intro W3 hO3 hG3;have HO3:=Lib.hid hO3;have HW3:=Lib.hid (hG3 _ HW2.out);clear hO3 hG3))
        go_roundw
        case rel=>exact⟨i+1,j+1,ys.set i y.cells,by go_num,by go_num,HMM.out.put HXJ.out HQ.out,HRR.out.set (show y.cells.length=5∧_ from⟨rfl,((rowsC_rwk [y]) y.cells (by simp[rowsC])).2⟩),HO3.out,HW3.out⟩
        case measure=>simp[intOf];omega
    · obtain rfl:j=l.length:=by omega
      have hO2:=hO;obtain⟨cur,hbg,hcur,hnc,hcm,hcl,htk⟩:=own_cur hO2;have hfin:=Mid.fin (p:=eqC) (xs:=rowsC l) (ys:=ys) (i:=i) (by rw[rowsC_length];exact hM);rw[nots_rowsC]at hfin;have HF:=Lib.hid hfin;have HT:=Lib.hid htk;have HL:=Lib.hid hcl;have HC:=Lib.hid hcur;have HR2:=Lib.hid hR;have HY:=Lib.hid hyl;obtain⟨d,hd⟩:∃ d,l.length - i=d+1:=⟨l.length - i - 1,by omega⟩;have HD:=Lib.hid hd;have hic:¬ c=i:=by omega
      have hic2:i≤l.length:=by omega
      clear hM hO hO2 htk hcl hcur hR hd hfin hyl
      go_wp2_with (with_reducible refine wpList_clear_rows (n:=d) rfl (.tmp 38) 38 rfl 58 5 (.agg #[.int .i64 0,.int .i64 0,.int .i64 0,.int .i64 0,.int .i64 0]) Tryz.underlying38 zeroCh rfl ?h1 g (i * 5) (c - i) ?h2 cur 58 HC.out ?h3 ?_)
      case h1=>exact zeros_one _ _ (by decide) (fun i hi=>by
       have:i < 5:=hi
       match i with
       | 0=>rfl
       | 1=>rfl
       | 2=>rfl
       | 3=>rfl
       | 4=>rfl
       | n+5=>omega)
      case h2=>simp[go_sem,HD.out]
      case h3=>have:=HL.out;have:=HD.out;omega
      have hi:=HF.out;have hil:i=(keepC l).length:=by rw[← rowsC_length,← hi,List.length_take,HY.out];omega
      have HIL:=Lib.hid hil;clear hil hi;go_ret
      have hD:=HD.out;have hz:(Builtin.zeroCells #[Value.int .i64 0,Value.int .i64 0,Value.int .i64 0,Value.int .i64 0,Value.int .i64 0] (d+1)).toList.length=(d+1) * 5:=by rw[Array.length_toList,size_zeroCells];rfl
      refine⟨_,rfl,?_,grown_row hW _,rfl⟩;rw[← HIL.out,← HF.out,flatten_take ys i HR2.out.len (by rw[HY.out];omega)];refine own_of_cur hbg (setRow_heap wr g _ _ _ _ HC.out) (by omega) hcm (by rw[length_splice _ _ _ (by rw[hz,HL.out];omega)];exact HL.out) ?_;rw[splice_take _ _ _ (by rw[HL.out];omega),← HT.out,List.take_take];congr 1;omega
structure JrS (w:World) (n:Nat) (out:List Chg) (v:Value) (wr:World):Prop where
 row:OwC w.heap.size out v wr
 ext:Ext w wr
 len:out.length≤n
theorem JrS.put{w:World}{n:Nat}{out:List Chg}{v v':Value}{wr wx:World}{x:Chg}{i:Nat}(h:JrS w n out v wr)(ho:OwC wr.heap.size (putC out x i) v' wx)(hx:Ext wr wx):JrS w (n+1) (putC out x i) v' wx:=
 ⟨own_low_mono h.ext.size ho,h.ext.trans hx,by rw[putC_len];have:=h.len;omega⟩
theorem keepC_off(l:List Chg):keepC l=offC l:=by
 unfold keepC offC;congr 1
theorem joinA_take{s:List Chg}{j:Nat}{x:Chg}(h:s[j]? = some x):joinA (s.take (j+1))=joinStep (joinA (s.take j)) x:=by
 obtain⟨hj,rfl⟩:=List.getElem?_eq_some_iff.1 h;rw[List.take_succ_eq_append_getElem hj,joinA_snoc]
theorem joinStep_len(out:List Chg)(c:Chg):(joinStep out c).length≤out.length+1:=by
 unfold joinStep
 split
 · split <;> simp
 · simp
theorem joinA_len(l:List Chg):(joinA l).length≤l.length:=by
 have h:∀ (k:Nat),(joinA (l.take k)).length≤k:=fun k=>by
  induction k with
  | zero=>simp[joinA]
  | succ k ih=>
    by_cases hk:k < l.length
    · have h1:=joinStep_len (joinA (l.take k)) l[k];rw[joinA_take (List.getElem?_eq_getElem hk)];omega
    · rw[List.take_of_length_le (by omega)]at ih ⊢;omega
 have:=h l.length
 rwa [List.take_length]at this
theorem joinStep_nil(c:Chg):joinStep [] c = [c]:=rfl
theorem joinStep_eq{l:List Chg}{d c:Chg}(h:d.at_=c.at_):joinStep (l++[d]) c=l++[⟨d.at_,d.old,c.new⟩]:=by
 unfold joinStep;simp[h]
theorem joinStep_ne{l:List Chg}{d c:Chg}(h:d.at_≠c.at_):joinStep (l++[d]) c=l++[d]++[c]:=by
 unfold joinStep;simp[h]
def RetJ(a b:List Chg)(w:World)(en:Ending)(w':World):Prop:=∃ s v,StabC (a++b) s∧en = .returned v∧OwC w.heap.size (offC (joinA s)) v w'∧Ext w w'
structure JnS (w:World) (B0 B1:Nat) (v:Value) (s l:List Chg) (ov:Value) (wr:World):Prop where
 srow:OwC B0 s v wr
 orow:OwC B1 l ov wr
 ext:Ext w wr
 base:w.heap.size≤B0∧B0≤B1∧B1≤wr.heap.size
 hB:∀ b,v.ownBlock=some b→b < B1
section
variable {w:World} {B0 B1:Nat} {v ov:Value} {s l:List Chg} {wr wx:World}
theorem JnS.more(h:JnS w B0 B1 v s l ov wr)(hx:Ext wr wx):JnS w B0 B1 v s l ov wx:=⟨own_ext h.srow hx,own_ext h.orow hx,h.ext.trans hx,⟨h.base.1,h.base.2.1,Nat.le_trans h.base.2.2 hx.size⟩,h.hB⟩
theorem JnS.grow{l2:List Chg}{ov2:Value}(h:JnS w B0 B1 v s l ov wr)(ho:OwC B1 l2 ov2 wx)(hg:wr.grownBy wx ov.ownBlock):JnS w B0 B1 v s l2 ov2 wx:=
 ⟨own_keep h.srow hg (fun b hb e=>by have h1:=h.hB b e;have h2:=own_low h.orow b hb;omega),ho,h.ext.own h.orow hg (Nat.le_trans h.base.1 h.base.2.1),⟨h.base.1,h.base.2.1,Nat.le_trans h.base.2.2 hg.size⟩,h.hB⟩
theorem JnS.app{x:Chg}{v':Value}(h:JnS w B0 B1 v s l ov wr)(ho:wx.ownsRow B1 58 5 v' (l.length+1) ((rowsC l).flatten++x.cells))(hg:wr.grownBy wx ov.ownBlock):JnS w B0 B1 v s (l++[x]) v' wx:=
 h.grow (OwC.app ho) hg
theorem rowsC_last(l:List Chg)(d:Chg)(n:Int):(rowsC (l++[d])).flatten.set (l.length * 5+4) (.int .i64 n)=(rowsC (l++[⟨d.at_,d.old,n⟩])).flatten:=by
 have hl:(rowsC l).flatten.length=l.length * 5:=by rw[flatten_length _ (rowsC_rwk l).len,rowsC_length]
 rw[rowsC_append,rowsC_append,List.flatten_append,List.flatten_append,List.set_append_right _ _ (by omega),hl,Nat.add_sub_cancel_left];rfl
theorem JnS.setNew{g c:Nat}{d:Chg}(h:JnS w B0 B1 v s (l++[d]) (.slice (some ⟨g,0,none⟩) (l.length+1) c) wr)(n:Int):JnS w B0 B1 v s (l++[⟨d.at_,d.old,n⟩]) (.slice (some ⟨g,0,none⟩) (l.length+1) c) (wr.setCell ⟨g,l.length * 5+4,none⟩ (.int .i64 n)):=by
 have ho:=h.orow;unfold OwC at ho;rw[List.length_append,List.length_singleton]at ho;have h1:=(ho.stored (l.length * 5+4) (.int .i64 n)).1;rw[rowsC_last]at h1;exact h.grow (by unfold OwC;rw[List.length_append,List.length_singleton];exact h1) (grown_set (grown_refl _ _) _ _)
end
theorem Join_any{A1 A2:Option Addr}{c1 c2:Nat}{a b:List Chg}(hla:a.length≤1000)(hlb:b.length≤1000)(w:World)(h1:Sv w w.heap.size 5 A1 c1 (rowsC a))(h2:Sv w w.heap.size 5 A2 c2 (rowsC b)):
    Calls Tryz.prog 23 #[.slice A1 a.length c1,.slice A2 b.length c2] w (RetJ a b w):=by
 have hm:=mixed;obtain⟨W0,hW⟩:∃ W,W=w.alloc (.cells #[.slice A1 a.length c1,.slice A2 b.length c2] 38):=⟨_,rfl⟩;have hx0:Ext w W0:=by rw[hW];exact(Ext.refl w).alloc _
 have hBA:Arr W0 w.heap.size 38 [.slice A1 a.length c1,.slice A2 b.length c2]:=by rw[hW];exact Arr.new w _ _
 have hsz:w.heap.size < W0.heap.size:=hBA.lt;have e1:=h1.ext hx0;have e2:=h2.ext hx0;have hsv:SvCC W0 W0.heap.size (some ⟨w.heap.size,0,none⟩) 2 [.slice A1 a.length c1,.slice A2 b.length c2] [a,b]:=by
  refine⟨⟨by simp,by simp[maxLen],fun x hx=>?_,fun _=>⟨w.heap.size,0,rfl,hsz,fun j u hu=>?_⟩⟩,rfl,fun i v l hv hl=>?_⟩
  · simp at hx
    rcases hx with rfl | rfl <;> exact⟨rfl,fun u hu=>by simp at hu;subst hu;rfl⟩
  · rw[Nat.zero_add,hBA.cell];simpa using hu
  · match i with
    | 0=>simp at hv hl;subst hv hl;exact⟨_,_,rfl,e1⟩
    | 1=>simp at hv hl;subst hv hl;exact⟨_,_,rfl,e2⟩
    | i+2=>simp at hv
 have HCC:=Lib.hid (ConcatC_any _ _ _ [a,b] W0 hsv (by simp;omega));have HX:=Lib.hid hx0;have HSO:=Lib.hid (fun l v base W h hb=>SortC_any l v base W h hb);have HLA:=Lib.hid hla;have HLB:=Lib.hid hlb;have HDL:=Lib.hid (fun l v base W h hb=>DeleteC_any l v base W h hb);clear hla hlb h1 h2 hx0 hBA e1 e2 hsv
 go_enter Tryz.func23,Tryz.ntmps23
 go_wp2_with fail
 rw[← hW];clear hW
 go_at_call 45
 refine HCC.out.mono ?_;rintro e w1 ⟨v,rfl,hcv,hcx⟩;have hfl:[a,b].flatten=a++b:=by simp
 obtain⟨ab,hab⟩:∃ l,l=a++b:=⟨_,rfl⟩;rw[hfl,← hab]at hcv;have HAB:=Lib.hid hab;have hx1:=HX.out.trans hcx.ext;have hal:ab.length≤2000:=by rw[hab,List.length_append];have:=HLA.out;have:=HLB.out;omega
 have HS:=Lib.hid (HSO.out ab v W0.heap.size w1 hcv (by omega));have HV:=Lib.hid hcv;obtain⟨As,cs,hv⟩:=own_l hcv;have HX1:=Lib.hid hx1;have HB0:=Lib.hid (show w.heap.size≤W0.heap.size∧W0.heap.size≤w1.heap.size from⟨HX.out.size,hcx.ext.size⟩);clear hcv hx1 hcx HCC HX HSO hfl hab;rw[hv]at HS HV ⊢;clear hv
 go_wp2_with (go_at_call 46;refine HS.out.mono ?_;rintro e w2 ⟨rfl,s,hst,hsl,hso,hsg⟩)
 have HST:=Lib.hid hst;have hs2:s.length≤2000:=by omega
 rw[← hsl]at hso ⊢;have HJ:=Lib.hid (show JnS w W0.heap.size w2.heap.size (.slice As s.length cs) s [] (.slice none 0 0) w2 from
  ⟨hso,OwC.nil _ _,HX1.out.own HV.out hsg HB0.out.1,⟨HB0.out.1,Nat.le_trans HB0.out.2 hsg.size,Nat.le_refl _⟩,fun k hk=>(hso.lt k hk).2⟩)
 clear hst hso hsg hsl hal HS HV HX1
 go_loopw [6,18] (fun ov i wr=>∃ k:Nat,i = .int .i64 k∧k≤s.length∧JnS w W0.heap.size w2.heap.size (.slice As s.length cs) s (joinA (s.take k)) ov wr) (fun _ i _=>s.length - (intOf i).toNat)
 case atStart=>exact⟨0,rfl,Nat.zero_le _,HJ.out⟩
 case round=>
  clear HJ;obtain⟨k,rfl,hk,hj⟩:=hrel;have HJ:=Lib.hid hj;clear hj
  by_cases hlt:k < s.length
  · obtain⟨x,hxk⟩:∃ x,s[k]? = some x:=⟨_,List.getElem?_eq_getElem hlt⟩;obtain⟨bs,off,rfl,hbl,d0,d1,d2,d3,d4⟩:=chg_row (Sv.of_own HJ.out.srow (rowsC_rwk s) (rowsC_length s)) hxk;have HT:=Lib.hid (joinA_take hxk);have HLL:=Lib.hid (show(joinA (s.take k)).length≤2000 from Nat.le_trans (joinA_len _) (by rw[List.length_take];omega));generalize joinA (s.take k)=l at HT HLL HJ;obtain⟨W3,hW3⟩:∃ W,W=wr.alloc (.cells #[.int .i64 x.at_.x,.int .i64 x.at_.y,.int .i64 x.at_.z,.int .i64 x.old,.int .i64 x.new] 58):=⟨_,rfl⟩;have HX3:=Lib.hid (show Ext wr W3 by rw[hW3];exact(Ext.refl wr).alloc _);have HB3:=Lib.hid (show Arr W3 wr.heap.size 58 [.int .i64 x.at_.x,.int .i64 x.at_.y,.int .i64 x.at_.z,.int .i64 x.old,.int .i64 x.new]by rw[hW3];exact Arr.new wr _ _);clear hxk
    rcases List.eq_nil_or_concat l with rfl | ⟨l0,d,rfl⟩
    · obtain⟨Ao,co,hov⟩:=own_l HJ.out.orow;have HJ3:=Lib.hid (HJ.out.more HX3.out);rw[hov]at HJ3 ⊢;rw[joinStep_nil]at HT
      go_wp2_with fail
      rw[← hW3];clear hW3;have q0:=HB3.out.cell 0;have q1:=HB3.out.cell 1;have q2:=HB3.out.cell 2;have q3:=HB3.out.cell 3;have q4:=HB3.out.cell 4;simp only[List.getElem?_cons_zero,List.getElem?_cons_succ]at q0 q1 q2 q3 q4
      go_quiet (fail)
      have HX4:=Lib.hid (show Ext W3 (W3.drewN nq)from(Ext.refl W3).drewN nq);have HB4:=Lib.hid (HB3.out.ext HX4.out);have HJ4:=Lib.hid (HJ3.out.more HX4.out);clear HJ3 HB3 HX3;generalize W3.drewN nq=W4 at HX4 HB4 HJ4 ⊢;clear nq q0 q1 q2 q3 q4;have LL:=Lib.hid (show([]:List Chg).length+1≤1000000 by simp)
      go_wp2_with (first
       | (refine ldB 58 8 HB4.out Tryz.underlying58 ?_) | (refine ldB 58 8 (HB4.out.alloc _) Tryz.underlying58 ?_) | (refine ldB 58 8 ((HB4.out.alloc _).alloc _) Tryz.underlying58 ?_)
       | (refine wpList_app1 38 58 45 44 46 [.int .i64 x.at_.x,.int .i64 x.at_.y,.int .i64 x.at_.z,.int .i64 x.old,.int .i64 x.new] (rowsC []).flatten HJ4.out.orow infoCh Tryz.underlying38 HJ4.out.base.2.2 LL.out ?_;rintro v' W5 ho hg _;have HJ5:=Lib.hid (HJ4.out.app (x:=x) ho hg);clear ho hg))
      go_roundw
      case rel=>exact⟨k+1,by go_num,by omega,by rw[HT.out];exact HJ5.out⟩
      case measure=>simp[intOf];omega
    · rw[List.concat_eq_append]at HT HLL HJ;obtain⟨Ao,co,hov⟩:=own_l HJ.out.orow;have HJ3:=Lib.hid (HJ.out.more HX3.out);have hlast:(l0++[d])[l0.length]? = some d:=by simp
      obtain⟨bo,offo,hAo,hbo,p0,p1,p2,p3,p4⟩:=chg_row (Sv.of_own (by rw[← hov];exact HJ.out.orow) (rowsC_rwk (l0++[d])) (rowsC_length (l0++[d]))) hlast;subst hAo;obtain rfl:offo=0:=by
       rcases HJ.out.orow.2 with⟨h5,_⟩ | ⟨_,_,_,h5,_⟩
       · rw[hov]at h5;cases h5
       · rw[hov]at h5;injection h5 with h5;injection h5 with h5;injection h5
      rw[Nat.zero_add]at p0 p1 p2 p3 p4;have hl1:(l0++[d]).length=l0.length+1:=by simp
      rw[hl1]at hov;rw[hov]at HJ3 ⊢;have HLM:=Lib.hid (show l0.length+1≤2000 by have:=HLL.out;rw[hl1]at this;exact this);have hlm:l0.length≤2000:=by have:=HLM.out;omega
      obtain⟨m,hm2⟩:∃ m,m=l0.length:=⟨_,rfl⟩;have HM:=Lib.hid hm2;rw[← hm2]at hlm p0 p1 p2 p3 p4 HJ3 HLM ⊢;clear hlast hl1 hov hm2 HJ;have hqp:=eqPt_run d.at_ x.at_;have hbs3:=Nat.lt_of_lt_of_le hbo HX3.out.size
      go_wp2_with fail
      rw[← hW3];have r0:=HX3.out.cell (p:=⟨bo,m * 5,none⟩) hbo;have r1:=HX3.out.cell (p:=⟨bo,m * 5+1,none⟩) hbo;have r2:=HX3.out.cell (p:=⟨bo,m * 5+2,none⟩) hbo;rw[p0]at r0;rw[p1]at r1;rw[p2]at r2;clear hW3 p0 p1 p2 p3 p4 d0 d1 d2 d3 d4;have q0:=HB3.out.cell 0;have q1:=HB3.out.cell 1;have q2:=HB3.out.cell 2;simp only[List.getElem?_cons_zero,List.getElem?_cons_succ]at q0 q1 q2;have qlt:=HB3.out.lt
      by_cases heq:d.at_=x.at_
      · have hde:decide (d.at_=x.at_)=true:=decide_eq_true heq;rw[joinStep_eq heq]at HT;clear heq
        go_quiet (fail)
        have HX4:=Lib.hid (show Ext W3 (W3.drewN nq)from(Ext.refl W3).drewN nq);have HB4:=Lib.hid (HB3.out.ext HX4.out);have HJ4:=Lib.hid (HJ3.out.more HX4.out);clear HJ3 HB3 HX3 r0 r1 r2 q0 q1 q2;generalize W3.drewN nq=W4 at HX4 HB4 HJ4 ⊢;clear nq;have q4:=HB4.out.cell 4;simp only[List.getElem?_cons_zero,List.getElem?_cons_succ]at q4;have hor:=HJ4.out.orow;unfold OwC at hor;rw[List.length_append,List.length_singleton,← HM.out]at hor;have hfz:=hor.frozenAt (m * 5+4);obtain⟨u0,hu0⟩:=own_slot hor (m * 5+4) (by omega);clear hor;go_wp2
        go_roundw
        case rel=>exact⟨k+1,by go_num,by omega,by rw[HT.out];have h6:=HJ4.out;rw[HM.out]at h6 ⊢;exact h6.setNew _⟩
        case measure=>simp[intOf];omega
      · have hde:decide (d.at_=x.at_)=false:=decide_eq_false heq;rw[joinStep_ne heq]at HT;clear heq
        go_quiet (fail)
        have HX4:=Lib.hid (show Ext W3 (W3.drewN nq)from(Ext.refl W3).drewN nq);have HB4:=Lib.hid (HB3.out.ext HX4.out);have HJ4:=Lib.hid (HJ3.out.more HX4.out);clear HJ3 HB3 HX3 r0 r1 r2 q0 q1 q2;generalize W3.drewN nq=W4 at HX4 HB4 HJ4 ⊢;clear nq;have LL:=Lib.hid (show(l0++[d]).length+1≤1000000 by rw[List.length_append,List.length_singleton,← HM.out];omega)
        go_wp2_with (first
         | (refine ldB 58 8 HB4.out Tryz.underlying58 ?_) | (refine ldB 58 8 (HB4.out.alloc _) Tryz.underlying58 ?_) | (refine ldB 58 8 ((HB4.out.alloc _).alloc _) Tryz.underlying58 ?_)
         | (refine wpList_app1 38 58 45 44 46 [.int .i64 x.at_.x,.int .i64 x.at_.y,.int .i64 x.at_.z,.int .i64 x.old,.int .i64 x.new] (rowsC (l0++[d])).flatten HJ4.out.orow infoCh Tryz.underlying38 HJ4.out.base.2.2 LL.out ?_;rintro v' W5 ho hg _;have HJ5:=Lib.hid (HJ4.out.app (x:=x) ho hg);clear ho hg))
        go_roundw
        case rel=>exact⟨k+1,by go_num,by omega,by rw[HT.out];exact HJ5.out⟩
        case measure=>simp[intOf];omega
  · obtain rfl:k=s.length:=by omega
    rw[List.take_length]at HJ;have HD:=Lib.hid (HDL.out (joinA s) _ w2.heap.size wr HJ.out.orow HJ.out.base.2.2);obtain⟨Ao,co,hov⟩:=own_l HJ.out.orow;have HOO:=Lib.hid HJ.out.orow;have HXX:=Lib.hid HJ.out.ext;have HBS:=Lib.hid (Nat.le_trans HJ.out.base.1 HJ.out.base.2.1);clear HJ;rw[hov]at HD HOO ⊢;rw[keepC_off]at HD;clear hov
    go_wp2_with (go_at_call 48;refine HD.out.mono ?_;rintro e w3 ⟨v',rfl,ho,hg,_⟩;have HO:=Lib.hid ho;have HG:=Lib.hid hg;clear ho hg)
    go_ret
    exact⟨s,_,by rw[← HAB.out];exact HST.out,rfl,own_low_mono HBS.out HO.out,HXX.out.own HOO.out HG.out HBS.out⟩
end Go.Proofs.YtoecbicdahbccaaGreatDoor
