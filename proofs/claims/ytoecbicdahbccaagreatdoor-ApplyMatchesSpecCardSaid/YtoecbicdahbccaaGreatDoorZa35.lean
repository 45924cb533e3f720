/- A part of the walk of the layer of apply: contracts and plain laws that a row's text leans on. -/
import Derived.Test.YtoecbicdahbccaaGreatDoorZa33
set_option maxRecDepth 100000
set_option maxHeartbeats 16000000
namespace Go.Proofs.YtoecbicdahbccaaGreatDoor
open Go Go.RowKit
theorem wpList_buildV{P:Program}{ops:Array Oper}{rest:List Oper}{o:Oper}{a:Act}{w:World}{Q:Exit→Act→World→Prop}(hg:o.guard=none)(t e:TypeId)(s:Nat)(ho:o.op = .buildSlice t 1 #[(0,.tmp s)])
    (u:Value) (x:List Value) (hux:u.cells=x.toArray) (hx:x.length=1) (hs:a.eval (.tmp s)=u) (hu:P.underlying t=some (.slice e)) (hi:(P.info? e).map (·.size)=some 1) (hz:((P.info? e).bind (·.zero)).isSome=true)
    (h:wpList P ops Q rest (a.put o.dst (.slice (some ⟨w.heap.size,0,none⟩) 1 1)) (w.alloc (.cells x.toArray e))):wpList P ops Q (o:: rest) a w:=by
 cases hie:P.info? e with
 | none=>simp[hie]at hi
 | some ie=>
   have hsz:ie.size=1:=by simpa[hie]using hi
   obtain⟨z,hzz⟩:=Option.isSome_iff_exists.1 (by simpa[hie]using hz:(ie.zero).isSome=true);refine wpList_buildSlice hg t e 1 _ ho _ ie z hu hie hzz (by rw[hsz];omega) (by rw[hsz];omega) ?_ h;have hf:=Great.fill_whole (s:=1) (by decide) [u] ((Array.range (1 * 1)).map (z.cells[· % z.cells.size]!)) (fun v hv=>by
    simp only[List.mem_singleton]at hv;subst hv;rw[hux];simpa using hx) (by simp)
   rw[hsz];simp only[List.map_toArray,List.map_cons,List.map_nil,hs];simpa[hux]using hf
theorem wpList_app1v{P:Program}{ops:Array Oper}{rest:List Oper}{o1 o2:Oper}{a:Act}{w:World}{Q:Exit→Act→World→Prop}(t e:TypeId)(s y d:Nat)(u:Value)(zs:List Value){base n bytes:Nat}{z v:Value}
    (ho:w.ownsRow base e 1 v n zs) (hi:(P.info? e).map (fun i=>(i.zero,i.size,i.bytes))=some (some z,1,bytes)) (hu:P.underlying t=some (.slice e)) (hb:base≤w.heap.size) (hn:n+1≤1000000)
    (h:∀ v' w1,w1.ownsRow base e 1 v' (n+1) (zs++[u])→w.grownBy w1 v.ownBlock→wpList P ops Q rest ((a.put (some d) (.slice (some ⟨w.heap.size,0,none⟩) 1 1)).put o2.dst v') w1)
    (hg1:o1.guard=none:=by rfl) (hg2:o2.guard=none:=by rfl) (ho1:o1.op = .buildSlice t 1 #[(0,.tmp s)]:=by rfl) (hd1:o1.dst=some d:=by rfl)
    (ho2:o2.op = .call {callee:=.builtin .append,args:=#[.tmp y,.tmp d],argTypes:=#[t,t] }:=by rfl)
    (hux:u.cells = [u].toArray:=by rfl) (hs:a.eval (.tmp s)=u:=by rfl) (hv:(a.put (some d) (.slice (some ⟨w.heap.size,0,none⟩) 1 1)).eval (.tmp y)=v:=by rfl)
    (hd:(a.put (some d) (.slice (some ⟨w.heap.size,0,none⟩) 1 1)).eval (.tmp d) = .slice (some ⟨w.heap.size,0,none⟩) 1 1:=by rfl)
    (h1:[u].all (·.oneCell')=true:=by rfl) (hzs:z.cells.size=1:=by rfl) (hbt:bytes≤1000:=by decide):wpList P ops Q (o1:: o2:: rest) a w:=by
 obtain⟨i0,hi0,hz0,hz1,hz2⟩:=info_parts hi;refine wpList_buildV hg1 t e s ho1 u [u] hux rfl hs hu (by rw[hi0];simpa using hz1) (by rw[hi0];simpa using congrArg Option.isSome hz0) ?_;rw[hd1];refine wpList_append_mine _ hg2 (.tmp y) (.tmp d) t ho2 base e i0 z 1 bytes hu hi0 hz0 hz1 hz2 hzs (by decide) v n zs hv (own_ext ho ((Ext.refl w).alloc _)) ⟨w.heap.size,0,none⟩ 1 1 [u] hd rfl (fun j u hj=>news_new w _ e j u hj) (fun u hu=>List.all_eq_true.1 h1 u hu) (by unfold maxLen;omega) ?_ (by rw[World.size_alloc_];omega) ?_
 · have:=Nat.mul_le_mul hn hbt;omega
 · intro v' w1 r1 r2 _;exact h v' w1 r1 (grown_trans (((Ext.refl w).alloc _).by_ _) r2)
theorem rep_rows(k:Nat)(v:Int):(rowsI (List.replicate k v)).flatten++[.int .i64 v]=(rowsI (List.replicate (k+1) v)).flatten:=by
 rw[List.replicate_succ'];simp[rowsI]
def Z7:List Value:=[.int .i64 0,.int .i64 0,.int .i64 0,.int .i64 0,.int .i64 0,.int .i64 0,.slice none 0 0]
structure NwS (w:World) (b:Bx) (v:Int) (n10 B k:Nat) (u:Value) (wr:World):Prop where
 blk:Arr wr n10 28 [.int .i64 b.lo.x,.int .i64 b.lo.y,.int .i64 b.lo.z,.int .i64 b.hi.x,.int .i64 b.hi.y,.int .i64 b.hi.z,u]
 row:wr.ownsRow B 3 1 u k (rowsI (List.replicate k v)).flatten
 ext:Ext w wr
 res:Arr wr (w.heap.size+1) 28 Z7
 lo:w.heap.size+1 < n10∧n10 < B∧B≤wr.heap.size
theorem NwS.app{w:World}{b:Bx}{v:Int}{n10 B k:Nat}{u u':Value}{wr w1:World}(h:NwS w b v n10 B k u wr)(ho:w1.ownsRow B 3 1 u' (k+1) ((rowsI (List.replicate k v)).flatten++[.int .i64 v]))(hg:wr.grownBy w1 u.ownBlock):NwS w b v n10 B (k+1) u' (w1.setCell ⟨n10,6,none⟩ u'):=by
 have hlo:=h.lo;have hx:Ext w w1:=h.ext.own h.row hg (by omega);have hk:∀ q,q < B→u.ownBlock≠some q:=fun q hq e=>by have:=own_low h.row _ e;omega
 rw[rep_rows]at ho;have hb1:=h.blk.kept hg (hk _ hlo.2.1);have hr1:=h.res.kept hg (hk _ (by omega));refine⟨hb1.set 6 _,own_keep ho ((grown_set (g:=n10) (grown_refl _ _) 6 u')) (fun q hq e=>by injection hq with hq;subst hq;have:=own_low ho _ e;omega),hx.setCell (p:=⟨n10,6,none⟩) (by simp only;omega) _,hr1.other (p:=⟨n10,6,none⟩) (by simp only;omega) _,hlo.1,hlo.2.1,?_⟩;rw[World.size_setCell_];exact Nat.le_trans hlo.2.2 hg.size
theorem new07_any{b:Bx}{V:Nat}{v:Int}(h1:rngP b.lo=true)(h2:rngP b.hi=true)(h3:matN v=true)(hV:volP b=V)(h0:0 < V)(h5:V≤1000)(w:World):
    Calls Tryz.prog 65 #[.agg #[.int .i64 b.lo.x,.int .i64 b.lo.y,.int .i64 b.lo.z,.int .i64 b.hi.x,.int .i64 b.hi.y,.int .i64 b.hi.z],.int .i64 v] w fun e w'=>∃ u,e = .returned (.tuple #[.agg #[.int .i64 b.lo.x,.int .i64 b.lo.y,.int .i64 b.lo.z,.int .i64 b.hi.x,.int .i64 b.hi.y,.int .i64 b.hi.z,u],.int .i64 0])∧w'.ownsRow w.heap.size 3 1 u V (rowsI (List.replicate V v)).flatten∧Ext w w':=by
 have hm:=mixed;have HR1:=Lib.hid (refRanged_any b.lo);have HR2:=Lib.hid (refRanged_any b.hi);have HMA:=Lib.hid (refIsMaterial_any v);have HVO:=Lib.hid (refVolume_any b);rw[h1]at HR1;rw[h2]at HR2;rw[h3]at HMA;rw[hV]at HVO;have e0:((V:Int) == 0)=false:=by rw[beq_eq_false_iff_ne];omega
 have e1:¬ (2097152:Int) < (V:Int):=by omega
 obtain⟨W0,hW⟩:∃ W,W=(w.alloc (.cells #[.int .i64 b.lo.x,.int .i64 b.lo.y,.int .i64 b.lo.z,.int .i64 b.hi.x,.int .i64 b.hi.y,.int .i64 b.hi.z] 25)).alloc (.cells #[.int .i64 0,.int .i64 0,.int .i64 0,.int .i64 0,.int .i64 0,.int .i64 0,.slice none 0 0] 28):=⟨_,rfl⟩;have HX:=Lib.hid (show Ext w W0 by rw[hW];exact((Ext.refl w).alloc _).alloc _);have H2:=Lib.hid (show Arr W0 w.heap.size 25 [.int .i64 b.lo.x,.int .i64 b.lo.y,.int .i64 b.lo.z,.int .i64 b.hi.x,.int .i64 b.hi.y,.int .i64 b.hi.z]by rw[hW];exact(Arr.new w _ [.int .i64 b.lo.x,.int .i64 b.lo.y,.int .i64 b.lo.z,.int .i64 b.hi.x,.int .i64 b.hi.y,.int .i64 b.hi.z]).alloc _);have H4:=Lib.hid (show Arr W0 (w.heap.size+1) 28 Z7 by rw[hW];exact Arr.new1 w _ _ Z7);clear h1 h2 h3 hV h0
 go_enter Tryz.func65,Tryz.ntmps65
 go_upto_region 1 with fail
 rw[← hW];clear hW
 go_upto_region 12 with(first
  | (refine wpList_load_part 23 (.tmp 12) rfl rfl H2.out 0 [.int .i64 b.lo.x,.int .i64 b.lo.y,.int .i64 b.lo.z] rfl rfl _ Tryz.underlying23 rfl (by kernel_rfl) ?_)
  | (refine wpList_load_part 23 (.tmp 15) rfl rfl H2.out 3 [.int .i64 b.hi.x,.int .i64 b.hi.y,.int .i64 b.hi.z] rfl rfl _ Tryz.underlying23 rfl (by kernel_rfl) ?_)
  | (refine ldB 25 2 H2.out Tryz.underlying25 ?_)
  | (go_at_call 61;((with_reducible refine(HR1.out _).mono ?_);rintro e W1 ⟨rfl,hx⟩;replace HX:=xEx HX hx;replace H2:=aEx H2 hx;replace H4:=aEx H4 hx;clear hx))
  | (go_at_call 61;((with_reducible refine(HR2.out _).mono ?_);rintro e W2 ⟨rfl,hx⟩;replace HX:=xEx HX hx;replace H2:=aEx H2 hx;replace H4:=aEx H4 hx;clear hx))
  | (go_at_call 63;(refine(HMA.out _).mono ?_);rintro e W3 ⟨rfl,hx⟩;replace HX:=xEx HX hx;replace H2:=aEx H2 hx;replace H4:=aEx H4 hx;clear hx)
  | (go_at_call 62;(refine(HVO.out _).mono ?_);rintro e W4 ⟨rfl,hx⟩;replace HX:=xEx HX hx;replace H2:=aEx H2 hx;replace H4:=aEx H4 hx;clear hx)
  | (refine wpList_store_blk2 28 (.tmp 10) (.tmp 40) rfl rfl (Arr.new W4 28 Z7) [.int .i64 b.lo.x,.int .i64 b.lo.y,.int .i64 b.lo.z,.int .i64 b.hi.x,.int .i64 b.hi.y,.int .i64 b.hi.z,.slice none 0 0] rfl rfl (by kernel_rfl) rfl rfl rfl ?_;intro W5 hW;have Q4:=aLt H4;replace HX:=xNew HX hW;replace H4:=aNew H4 hW;have H10:=nNew hW;clear hW))
 obtain⟨n10,hn⟩:∃ n,n=W4.heap.size:=⟨_,rfl⟩;rw[← hn]at H10 Q4 ⊢;clear hn;have H0:=Lib.hid (show NwS w b v n10 W5.heap.size 0 (.slice none 0 0) W5 from⟨H10.out,World.ownsRow_nil _ _ _ _,HX.out,H4.out,Q4.out,H10.out.lt,Nat.le_refl _⟩);generalize W5.heap.size=B at H0;clear H10 Q4 H4 H2 HX HR1 HR2 HMA HVO e0 e1
 go_upto_region 13 with fail
 go_loopw [11] (fun i wr=>∃ (k:Nat) (u:Value),k≤V∧i = .int .i64 (k:Int)∧Hid (NwS w b v n10 B k u wr)) (fun i _=>V - (intOf i).toNat)
 case atStart=>exact⟨0,_,Nat.zero_le _,rfl,H0⟩
 case round=>
  clear H0;obtain⟨k,u,hk,rfl,HS⟩:=hrel
  by_cases hkl:k < V
  · have HKL:=Lib.hid (show k+1≤1000000 by omega);have c6:=HS.out.blk.cell 6;have l6:=HS.out.blk.lt;simp only[List.getElem?_cons_zero,List.getElem?_cons_succ]at c6
    go_wp2_with (refine wpList_app1v 26 3 48 47 49 (.int .i64 v) (rowsI (List.replicate k v)).flatten HS.out.row infoInt Tryz.underlying26 HS.out.lo.2.2 HKL.out ?_;rintro v' W6 ho hg;obtain⟨A6,n6,d6,rfl⟩:=store_form ho;have hlo:=HS.out.lo;have hb6:=HS.out.blk.kept hg (fun e=>by have:=own_low HS.out.row _ e;omega);have k6:=hb6.cell 6;have f6:=hb6.frozen;have m6:=hb6.lt;simp only[List.getElem?_cons_zero,List.getElem?_cons_succ]at k6;have HS6:=Lib.hid (HS.out.app ho hg);clear ho hg hb6 hlo)
    go_roundw
    case rel=>exact⟨k+1,_,hkl,by go_num,HS6⟩
    case measure=>simp[intOf];omega
  · obtain rfl:k=V:=by omega
    obtain⟨A7,n7,d7,rfl⟩:=store_form HS.out.row
    go_wp2_with (first
     | (refine ldB 28 10 HS.out.blk Tryz.underlying28 ?_)
     | (refine wpList_store_blk2 28 (.tmp 4) (.tmp 52) rfl rfl HS.out.res [.int .i64 b.lo.x,.int .i64 b.lo.y,.int .i64 b.lo.z,.int .i64 b.hi.x,.int .i64 b.hi.y,.int .i64 b.hi.z,.slice A7 n7 d7] rfl rfl (by kernel_rfl) rfl rfl rfl ?_;intro W7 hW;have HW7:=Lib.hid hW;clear hW))
    have hW:=HW7.out;have HX7:=xRow (Lib.hid HS.out.ext) hW (by omega);have H7:=nRow (Lib.hid HS.out.res) hW;have HO7:=Lib.hid (show W7.ownsRow B 3 1 (.slice A7 n7 d7) k (rowsI (List.replicate k v)).flatten by rw[hW];exact own_keep HS.out.row (grown_row (grown_refl _ (some (w.heap.size+1))) _) (fun q hq e=>by injection hq with hq;subst hq;have h7:=own_low HS.out.row _ e;have:=HS.out.lo;omega));clear hW HW7;have hwB:w.heap.size≤B:=by have:=HS.out.lo;omega
    (try simp only[Exit.inBlock,Exit.then])
    refine bodyPost_ret (v:=.tuple #[.agg #[.int .i64 b.lo.x,.int .i64 b.lo.y,.int .i64 b.lo.z,.int .i64 b.hi.x,.int .i64 b.hi.y,.int .i64 b.hi.z,.slice A7 n7 d7],.int .i64 0]) ?_ rfl ⟨_,rfl,own_low_mono hwB HO7.out,HX7.out⟩;exact results_cell_row2 Tryz.results65 _ _ _ _ _ _ _ rfl H7.out Tryz.underlying28 rfl (by kernel_rfl)
def fillK(k:Nat):List Int:=(List.range 64).map fun i=>if i < k∧i % 4=2 then 1 else 0
theorem fillK_step:∀ k,k < 64→fillK (k+1)=if k % 4=2 then(fillK k).set k 1 else fillK k:=by decide+kernel
theorem fillK_len(k:Nat):(fillK k).length=64:=by simp[fillK]
theorem fillK_in:∀ k,k < 64→inP (atB (cubeB 4) k) ⟨⟨2,0,0⟩,⟨3,4,4⟩⟩=decide (k % 4=2):=by decide+kernel
structure FlS (w:World) (b0 bx:Bx) (A:Option Addr) (c gb c' n7 k:Nat) (wr:World):Prop where
 h3:Arr wr w.heap.size 28 [.int .i64 b0.lo.x,.int .i64 b0.lo.y,.int .i64 b0.lo.z,.int .i64 b0.hi.x,.int .i64 b0.hi.y,.int .i64 b0.hi.z,.slice A 64 c]
 h4:Arr wr (w.heap.size+1) 25 [.int .i64 bx.lo.x,.int .i64 bx.lo.y,.int .i64 bx.lo.z,.int .i64 bx.hi.x,.int .i64 bx.hi.y,.int .i64 bx.hi.z]
 h6:Arr wr (w.heap.size+2) 28 Z7
 h7:Arr wr n7 28 [.int .i64 b0.lo.x,.int .i64 b0.lo.y,.int .i64 b0.lo.z,.int .i64 b0.hi.x,.int .i64 b0.hi.y,.int .i64 b0.hi.z,.slice (some ⟨gb,0,none⟩) 64 c']
 row:wr.ownsRow (w.heap.size+3) 3 1 (.slice (some ⟨gb,0,none⟩) 64 c') 64 (rowsI (fillK k)).flatten
 ext:Ext w wr
 lo:w.heap.size+2 < gb∧gb < n7
theorem FlS.more{w:World}{b0 bx:Bx}{A:Option Addr}{c gb c' n7 k:Nat}{wr wx:World}(h:FlS w b0 bx A c gb c' n7 k wr)(hx:Ext wr wx):FlS w b0 bx A c gb c' n7 k wx:=⟨h.h3.ext hx,h.h4.ext hx,h.h6.ext hx,h.h7.ext hx,own_ext h.row hx,h.ext.trans hx,h.lo⟩
theorem FlS.skip{w:World}{b0 bx:Bx}{A:Option Addr}{c gb c' n7 k:Nat}{wr:World}(h:FlS w b0 bx A c gb c' n7 k wr)(hk:k < 64)(hn:¬ k % 4=2):FlS w b0 bx A c gb c' n7 (k+1) wr:=⟨h.h3,h.h4,h.h6,h.h7,by rw[fillK_step k hk,if_neg hn];exact h.row,h.ext,h.lo⟩
theorem FlS.put{w:World}{b0 bx:Bx}{A:Option Addr}{c gb c' n7 k:Nat}{wr:World}(h:FlS w b0 bx A c gb c' n7 k wr)(hk:k < 64)(hn:k % 4=2):FlS w b0 bx A c gb c' n7 (k+1) (wr.setCell ⟨gb,k,none⟩ (.int .i64 1)):=by
 have hlo:=h.lo;have h1:=(h.row.stored k (.int .i64 1)).1;rw[rowsI_flat_set]at h1;refine⟨h.h3.other (p:=⟨gb,k,none⟩) (by simp only;omega) _,h.h4.other (p:=⟨gb,k,none⟩) (by simp only;omega) _,h.h6.other (p:=⟨gb,k,none⟩) (by simp only;omega) _,h.h7.other (p:=⟨gb,k,none⟩) (by simp only;omega) _,?_,h.ext.setCell (p:=⟨gb,k,none⟩) (by simp only;omega) _,hlo⟩;rw[fillK_step k hk,if_pos hn];exact h1
theorem fill07_ex{b0 bx:Bx}(hin:InC b0)(hV:volN b0=64)(hI:∀ k,k < 64→inP (atB b0 k) bx=decide (k % 4=2)){A:Option Addr}{c:Nat}(w:World)(hs:Sv w w.heap.size 1 A c (rowsI (fillK 0))):
    Calls Tryz.prog 66 #[.agg #[.int .i64 b0.lo.x,.int .i64 b0.lo.y,.int .i64 b0.lo.z,.int .i64 b0.hi.x,.int .i64 b0.hi.y,.int .i64 b0.hi.z,.slice A 64 c],.agg #[.int .i64 bx.lo.x,.int .i64 bx.lo.y,.int .i64 bx.lo.z,.int .i64 bx.hi.x,.int .i64 bx.hi.y,.int .i64 bx.hi.z],.int .i64 1] w fun e w'=>∃ u,e = .returned (.agg #[.int .i64 b0.lo.x,.int .i64 b0.lo.y,.int .i64 b0.lo.z,.int .i64 b0.hi.x,.int .i64 b0.hi.y,.int .i64 b0.hi.z,u])∧w'.ownsRow w.heap.size 3 1 u 64 (rowsI (fillK 64)).flatten∧Ext w w':=by
 have hm:=mixed;obtain⟨W0,hW⟩:∃ W,W=((w.alloc (.cells #[.int .i64 b0.lo.x,.int .i64 b0.lo.y,.int .i64 b0.lo.z,.int .i64 b0.hi.x,.int .i64 b0.hi.y,.int .i64 b0.hi.z,.slice A 64 c] 28)).alloc (.cells #[.int .i64 bx.lo.x,.int .i64 bx.lo.y,.int .i64 bx.lo.z,.int .i64 bx.hi.x,.int .i64 bx.hi.y,.int .i64 bx.hi.z] 25)).alloc (.cells #[.int .i64 0,.int .i64 0,.int .i64 0,.int .i64 0,.int .i64 0,.int .i64 0,.slice none 0 0] 28):=⟨_,rfl⟩;have HX:=Lib.hid (show Ext w W0 by rw[hW];exact(((Ext.refl w).alloc _).alloc _).alloc _);have HZ:=Lib.hid (show W0.heap.size=w.heap.size+3 by rw[hW];simp only[World.size_alloc_]);have H3:=Lib.hid (show Arr W0 w.heap.size 28 [.int .i64 b0.lo.x,.int .i64 b0.lo.y,.int .i64 b0.lo.z,.int .i64 b0.hi.x,.int .i64 b0.hi.y,.int .i64 b0.hi.z,.slice A 64 c]by rw[hW];exact((Arr.new w _ [.int .i64 b0.lo.x,.int .i64 b0.lo.y,.int .i64 b0.lo.z,.int .i64 b0.hi.x,.int .i64 b0.hi.y,.int .i64 b0.hi.z,.slice A 64 c]).alloc _).alloc _);have H4:=Lib.hid (show Arr W0 (w.heap.size+1) 25 [.int .i64 bx.lo.x,.int .i64 bx.lo.y,.int .i64 bx.lo.z,.int .i64 bx.hi.x,.int .i64 bx.hi.y,.int .i64 bx.hi.z]by rw[hW];exact(Arr.new1 w _ _ [.int .i64 bx.lo.x,.int .i64 bx.lo.y,.int .i64 bx.lo.z,.int .i64 bx.hi.x,.int .i64 bx.hi.y,.int .i64 bx.hi.z]).alloc _);have H6:=Lib.hid (show Arr W0 (w.heap.size+2) 28 Z7 by rw[hW];have h:=Arr.new1 (w.alloc (.cells #[.int .i64 b0.lo.x,.int .i64 b0.lo.y,.int .i64 b0.lo.z,.int .i64 b0.hi.x,.int .i64 b0.hi.y,.int .i64 b0.hi.z,.slice A 64 c] 28)) (.cells #[.int .i64 bx.lo.x,.int .i64 bx.lo.y,.int .i64 bx.lo.z,.int .i64 bx.hi.x,.int .i64 bx.hi.y,.int .i64 bx.hi.z] 25) 28 Z7;simp only[World.size_alloc_]at h;exact h);have HCP:=Lib.hid (show Calls Tryz.prog 40 #[.agg #[.int .i64 b0.lo.x,.int .i64 b0.lo.y,.int .i64 b0.lo.z,.int .i64 b0.hi.x,.int .i64 b0.hi.y,.int .i64 b0.hi.z,.slice A 64 c]] W0 fun e w'=>∃ u,e = .returned (.agg #[.int .i64 b0.lo.x,.int .i64 b0.lo.y,.int .i64 b0.lo.z,.int .i64 b0.hi.x,.int .i64 b0.hi.y,.int .i64 b0.hi.z,u])∧w'.ownsRow W0.heap.size 3 1 u 64 (rowsI (fillK 0)).flatten∧Ext W0 w' from by
  have h:=copied_any ⟨b0,fillK 0⟩ A c W0 (hs.ext HX.out) (by rw[fillK_len];decide);simp only[fillK_len]at h;exact h)
 have HAT:=Lib.hid (fun(k:Nat) (hk:k < 64)=>refAtC_any hin (i:=k) (by rw[hV];exact hk));have HIN:=Lib.hid hI;clear hin hV hI hs
 go_enter Tryz.func66,Tryz.ntmps66
 go_upto_region 1 with fail
 rw[← hW];clear hW
 go_upto_region 3 with(first
  | (refine ldB 28 3 H3.out Tryz.underlying28 ?_)
  | (go_at_call 40;refine HCP.out.mono ?_;rintro e W1 ⟨u,rfl,ho,hx⟩;obtain⟨gb,c',rfl,h64,hmx,hgl,hgb⟩:=own_at0 ho (by decide);have HO:=Lib.hid ho;have HGL:=Lib.hid (And.intro hgl hgb);have HX1:=Lib.hid hx;clear ho hx h64 hmx hgl hgb)
  | (refine wpList_store_blk2 28 (.tmp 7) (.tmp 13) rfl rfl (Arr.new W1 28 Z7) [.int .i64 b0.lo.x,.int .i64 b0.lo.y,.int .i64 b0.lo.z,.int .i64 b0.hi.x,.int .i64 b0.hi.y,.int .i64 b0.hi.z,.slice (some ⟨gb,0,none⟩) 64 c'] rfl rfl (by kernel_rfl) rfl rfl rfl ?_;intro W2 hW;have HX2:=xNew (Lib.hid (Ext.refl W1)) hW;have H7:=nNew hW;clear hW))
 obtain⟨n7,hn⟩:∃ n,n=W1.heap.size:=⟨_,rfl⟩;rw[← hn]at H7 HGL ⊢;clear hn;have H0:=Lib.hid (show FlS w b0 bx A c gb c' n7 0 W2 from
  have hx:=HX1.out.trans HX2.out
  ⟨H3.out.ext hx,H4.out.ext hx,H6.out.ext hx,H7.out,by have h:=own_ext HO.out HX2.out;rw[HZ.out]at h;exact h,HX.out.trans hx,by have h:=HGL.out;rw[HZ.out]at h;omega⟩)
 clear H3 H4 H6 H7 HO HGL HX HX1 HX2 HZ HCP
 go_loopw [8] (fun i wr=>∃ k:Nat,k≤64∧i = .int .i64 (k:Int)∧Hid (FlS w b0 bx A c gb c' n7 k wr)) (fun i _=>64 - (intOf i).toNat)
 case atStart=>exact⟨0,Nat.zero_le _,rfl,H0⟩
 case round=>
  clear H0;obtain⟨k,hk,rfl,HS⟩:=hrel;have s6:=HS.out.h3.cell 6;have l3:=HS.out.h3.lt;simp only[List.getElem?_cons_zero,List.getElem?_cons_succ]at s6
  by_cases hkl:k < 64
  · have HA:=Lib.hid (HAT.out k hkl);have HI:=Lib.hid (fun W=>refIn_any (atB b0 k) bx W);rw[HIN.out k hkl]at HI;generalize atB b0 k=p at HA HI;have HKL:=Lib.hid hkl
    by_cases hk4:k % 4=2
    · have HK4:=Lib.hid hk4;rw[decide_eq_true hk4]at HI;clear hk4
      go_wp2_with (first
       | (refine wpList_load_part 25 (.tmp 22) rfl rfl HS.out.h3 0 [.int .i64 b0.lo.x,.int .i64 b0.lo.y,.int .i64 b0.lo.z,.int .i64 b0.hi.x,.int .i64 b0.hi.y,.int .i64 b0.hi.z] rfl rfl _ Tryz.underlying25 rfl (by kernel_rfl) ?_)
       | (go_at_call 87;refine(HA.out _).mono ?_;rintro e W3 ⟨rfl,hx⟩;replace HS:=Lib.hid (HS.out.more hx);clear hx s6 l3)
       | (refine wpList_store_blk2 23 (.tmp 9) (.tmp 26) rfl rfl (Arr.new W3 23 [.int .i64 0,.int .i64 0,.int .i64 0]) [.int .i64 p.x,.int .i64 p.y,.int .i64 p.z] rfl rfl (by kernel_rfl) rfl rfl rfl ?_;intro W4 hW;have HX4:=xNew (Lib.hid (Ext.refl W3)) hW;have H9:=nNew hW;replace HS:=Lib.hid (HS.out.more HX4.out);clear hW HX4)
       | (refine ldB 23 9 H9.out Tryz.underlying23 ?_)
       | (refine ldB 25 4 HS.out.h4 Tryz.underlying25 ?_)
       | (go_at_call 18;refine(HI.out _).mono ?_;rintro e W5 ⟨rfl,hx⟩;replace HS:=Lib.hid (HS.out.more hx);clear hx H9;have t6:=HS.out.h7.cell 6;have t7:=HS.out.h7.lt;simp only[List.getElem?_cons_zero,List.getElem?_cons_succ]at t6;have hfz:=HS.out.row.frozenAt k;obtain⟨u0,hu0⟩:=own_slot HS.out.row k (by have:=HKL.out;omega)))
      go_roundw
      case rel=>exact⟨k+1,hkl,by go_num,Lib.hid (HS.out.put hkl HK4.out)⟩
      case measure=>simp[intOf];omega
    · have HK4:=Lib.hid hk4;rw[decide_eq_false hk4]at HI;clear hk4
      go_wp2_with (first
       | (refine wpList_load_part 25 (.tmp 22) rfl rfl HS.out.h3 0 [.int .i64 b0.lo.x,.int .i64 b0.lo.y,.int .i64 b0.lo.z,.int .i64 b0.hi.x,.int .i64 b0.hi.y,.int .i64 b0.hi.z] rfl rfl _ Tryz.underlying25 rfl (by kernel_rfl) ?_)
       | (go_at_call 87;refine(HA.out _).mono ?_;rintro e W3 ⟨rfl,hx⟩;replace HS:=Lib.hid (HS.out.more hx);clear hx s6 l3)
       | (refine wpList_store_blk2 23 (.tmp 9) (.tmp 26) rfl rfl (Arr.new W3 23 [.int .i64 0,.int .i64 0,.int .i64 0]) [.int .i64 p.x,.int .i64 p.y,.int .i64 p.z] rfl rfl (by kernel_rfl) rfl rfl rfl ?_;intro W4 hW;have HX4:=xNew (Lib.hid (Ext.refl W3)) hW;have H9:=nNew hW;replace HS:=Lib.hid (HS.out.more HX4.out);clear hW HX4)
       | (refine ldB 23 9 H9.out Tryz.underlying23 ?_)
       | (refine ldB 25 4 HS.out.h4 Tryz.underlying25 ?_)
       | (go_at_call 18;refine(HI.out _).mono ?_;rintro e W5 ⟨rfl,hx⟩;replace HS:=Lib.hid (HS.out.more hx);clear hx H9;have t6:=HS.out.h7.cell 6;have t7:=HS.out.h7.lt;simp only[List.getElem?_cons_zero,List.getElem?_cons_succ]at t6;have hfz:=HS.out.row.frozenAt k;obtain⟨u0,hu0⟩:=own_slot HS.out.row k (by have:=HKL.out;omega)))
      go_roundw
      case rel=>exact⟨k+1,hkl,by go_num,Lib.hid (HS.out.skip hkl HK4.out)⟩
      case measure=>simp[intOf];omega
  · obtain rfl:k=64:=by omega
    go_wp2_with (first
     | (refine ldB 28 7 HS.out.h7 Tryz.underlying28 ?_)
     | (refine wpList_store_blk2 28 (.tmp 6) (.tmp 37) rfl rfl HS.out.h6 [.int .i64 b0.lo.x,.int .i64 b0.lo.y,.int .i64 b0.lo.z,.int .i64 b0.hi.x,.int .i64 b0.hi.y,.int .i64 b0.hi.z,.slice (some ⟨gb,0,none⟩) 64 c'] rfl rfl (by kernel_rfl) rfl rfl rfl ?_;intro W7 hW;have HW7:=Lib.hid hW;clear hW))
    have hW:=HW7.out;have hlo:=HS.out.lo;have HX7:=xRow (Lib.hid HS.out.ext) hW (by omega);have H7:=nRow (Lib.hid HS.out.h6) hW;have HO7:=Lib.hid (show W7.ownsRow (w.heap.size+3) 3 1 (.slice (some ⟨gb,0,none⟩) 64 c') 64 (rowsI (fillK 64)).flatten by rw[hW];exact own_keep HS.out.row (grown_row (grown_refl _ (some (w.heap.size+2))) _) (fun q hq e=>by injection hq with hq;subst hq;have h7:=own_low HS.out.row _ e;omega));clear hW HW7;have hwB:w.heap.size≤w.heap.size+3:=by omega
    (try simp only[Exit.inBlock,Exit.then])
    refine bodyPost_ret (v:=.agg #[.int .i64 b0.lo.x,.int .i64 b0.lo.y,.int .i64 b0.lo.z,.int .i64 b0.hi.x,.int .i64 b0.hi.y,.int .i64 b0.hi.z,.slice (some ⟨gb,0,none⟩) 64 c']) ?_ rfl ⟨_,rfl,own_low_mono hwB HO7.out,HX7.out⟩;exact results_cell_row Tryz.results66 _ _ _ _ _ _ _ rfl H7.out Tryz.underlying28 rfl (by kernel_rfl)
end Go.Proofs.YtoecbicdahbccaaGreatDoor
