/- A part of the walk of the layer of apply: contracts and plain laws that a row's text leans on. -/
import Derived.Test.YtoecbicdahbccaaGreatDoorZa18
set_option maxRecDepth 100000
set_option maxHeartbeats 16000000
namespace Go.Proofs.YtoecbicdahbccaaGreatDoor
open Go Go.RowKit
theorem own_blt{w:World}{base n k:Nat}{e:TypeId}{v:Value}{zs:List Value}(h:w.ownsRow base e k v n zs)(b:Nat)(hb:v.ownBlock=some b):b < w.heap.size:=by
 rcases h.2 with⟨rfl,_⟩ | ⟨g,cap,cur,rfl,_,hg,_⟩
 · simp[Value.ownBlock]at hb
 · simp only[Value.ownBlock,Option.some.injEq]at hb;subst hb;exact(Array.getElem?_eq_some_iff.1 hg).1
theorem own_at0{w:World}{base n k:Nat}{e:TypeId}{v:Value}{zs:List Value}(h:w.ownsRow base e k v n zs)(hn:0 < n):∃ g c,v = .slice (some ⟨g,0,none⟩) n c∧n≤c∧c≤maxLen∧g < w.heap.size∧base≤g:=by
 rcases h.2 with⟨_,h0⟩ | ⟨g,cap,cur,rfl,hg,hgg,hle,hmax,_⟩
 · omega
 · exact⟨g,cap,rfl,hle,hmax,(Array.getElem?_eq_some_iff.1 hgg).1,hg⟩
structure WrS (g:Gr) (A:Option Addr) (c:Nat) (Al:Option Addr) (cl:Nat) (l:List Chg) (w:World) (b5:Nat) (u:Value) (cs:List Int) (wr:World):Prop where
 a0:Arr wr w.heap.size 28 [.int .i64 g.box.lo.x,.int .i64 g.box.lo.y,.int .i64 g.box.lo.z,.int .i64 g.box.hi.x,.int .i64 g.box.hi.y,.int .i64 g.box.hi.z,.slice A g.cells.length c]
 a4:Arr wr (w.heap.size+1) 28 [.int .i64 zeroBx.lo.x,.int .i64 zeroBx.lo.y,.int .i64 zeroBx.lo.z,.int .i64 zeroBx.hi.x,.int .i64 zeroBx.hi.y,.int .i64 zeroBx.hi.z,.slice none 0 0]
 a5:Arr wr b5 28 [.int .i64 g.box.lo.x,.int .i64 g.box.lo.y,.int .i64 g.box.lo.z,.int .i64 g.box.hi.x,.int .i64 g.box.hi.y,.int .i64 g.box.hi.z,u]
 lo:w.heap.size+2≤b5
 row:wr.ownsRow (w.heap.size+2) 3 1 u g.cells.length (rowsI cs).flatten
 off:∀ b,u.ownBlock=some b→b < b5
 len:cs.length=g.cells.length
 ls:Sv wr w.heap.size 5 Al cl (rowsC l)
 ext:Ext w wr
theorem WrS.more{g:Gr}{A:Option Addr}{c:Nat}{Al:Option Addr}{cl:Nat}{l:List Chg}{w:World}{b5:Nat}{u:Value}{cs:List Int}{wr w2:World}(h:WrS g A c Al cl l w b5 u cs wr)(hx:Ext wr w2):WrS g A c Al cl l w b5 u cs w2:=
 ⟨h.a0.ext hx,h.a4.ext hx,h.a5.ext hx,h.lo,own_ext h.row hx,h.off,h.len,h.ls.keep (fun _p hp=>hx.cell (Nat.lt_of_lt_of_le hp h.ext.size)),h.ext.trans hx⟩
theorem rowsI_flat_set(cs:List Int)(j:Nat)(v:Int):(rowsI cs).flatten.set j (.int .i64 v)=(rowsI (cs.set j v)).flatten:=by
 have e:∀ l:List Int,(rowsI l).flatten=l.map (Value.int .i64):=fun l=>by
  induction l with
  | nil=>rfl
  | cons x l ih=>simp only[rowsI,List.map_cons,List.flatten_cons]at ih ⊢;rw[ih];rfl
 rw[e,e,List.map_set]
theorem WrS.put{g:Gr}{A:Option Addr}{c:Nat}{Al:Option Addr}{cl:Nat}{l:List Chg}{w:World}{b5 gb c':Nat}{cs:List Int}{wr:World}(h:WrS g A c Al cl l w b5 (.slice (some ⟨gb,0,none⟩) g.cells.length c') cs wr)(j:Nat)(v:Int):
    WrS g A c Al cl l w b5 (.slice (some ⟨gb,0,none⟩) g.cells.length c') (cs.set j v) (wr.setCell ⟨gb,j,none⟩ (.int .i64 v)):=by
 have h1:=h.off gb rfl;have h2:=own_low h.row gb rfl;have hs:=h.row.stored j (.int .i64 v);refine⟨h.a0.other (by simp;omega) _,h.a4.other (by simp;omega) _,h.a5.other (by simp;omega) _,h.lo,?_,h.off,by rw[List.length_set];exact h.len,h.ls.keep (fun p hp=>?_),h.ext.setCell (by simp;omega) _⟩
 · rw[← rowsI_flat_set];exact hs.1
 · exact World.cell?_of_block (hs.2.block p.block (by have:=h.ext.size;omega) (fun e=>by injection e with e;omega))
theorem Write_any(g:Gr)(A:Option Addr)(c:Nat)(Al:Option Addr)(cl:Nat)(l:List Chg)(w:World)(hs:Sv w w.heap.size 1 A c (rowsI g.cells))(hl:Sv w w.heap.size 5 Al cl (rowsC l))(hv:validG g=true)(h5:g.cells.length≤100000):
    Calls Tryz.prog 17 #[.agg #[.int .i64 g.box.lo.x,.int .i64 g.box.lo.y,.int .i64 g.box.lo.z,.int .i64 g.box.hi.x,.int .i64 g.box.hi.y,.int .i64 g.box.hi.z,.slice A g.cells.length c],.slice Al l.length cl] w fun e w'=>∃ u,e = .returned (.agg #[.int .i64 g.box.lo.x,.int .i64 g.box.lo.y,.int .i64 g.box.lo.z,.int .i64 g.box.hi.x,.int .i64 g.box.hi.y,.int .i64 g.box.hi.z,u])∧w'.ownsRow w.heap.size 3 1 u g.cells.length (rowsI (writeG g l).cells).flatten∧Ext w w':=by
 have hm:=mixed;have hG:=near_old;obtain⟨sx,sy,sz,G⟩:=good_of hv;have hll:l.length≤9223372036854775807:=by have h:=hl.len;rw[rowsC_length]at h;exact h
 have hx0:Ext w ((w.alloc (.cells #[.int .i64 g.box.lo.x,.int .i64 g.box.lo.y,.int .i64 g.box.lo.z,.int .i64 g.box.hi.x,.int .i64 g.box.hi.y,.int .i64 g.box.hi.z,.slice A g.cells.length c] 28)).alloc (.cells #[.int .i64 zeroBx.lo.x,.int .i64 zeroBx.lo.y,.int .i64 zeroBx.lo.z,.int .i64 zeroBx.hi.x,.int .i64 zeroBx.hi.y,.int .i64 zeroBx.hi.z,.slice none 0 0] 28)):=((Ext.refl w).alloc _).alloc _;have B0:=(Arr.new w 28 [.int .i64 g.box.lo.x,.int .i64 g.box.lo.y,.int .i64 g.box.lo.z,.int .i64 g.box.hi.x,.int .i64 g.box.hi.y,.int .i64 g.box.hi.z,.slice A g.cells.length c]).alloc (.cells #[.int .i64 zeroBx.lo.x,.int .i64 zeroBx.lo.y,.int .i64 zeroBx.lo.z,.int .i64 zeroBx.hi.x,.int .i64 zeroBx.hi.y,.int .i64 zeroBx.hi.z,.slice none 0 0] 28);have B1:=Arr.new (w.alloc (.cells #[.int .i64 g.box.lo.x,.int .i64 g.box.lo.y,.int .i64 g.box.lo.z,.int .i64 g.box.hi.x,.int .i64 g.box.hi.y,.int .i64 g.box.hi.z,.slice A g.cells.length c] 28)) 28 [.int .i64 zeroBx.lo.x,.int .i64 zeroBx.lo.y,.int .i64 zeroBx.lo.z,.int .i64 zeroBx.hi.x,.int .i64 zeroBx.hi.y,.int .i64 zeroBx.hi.z,.slice none 0 0];rw[World.size_alloc_]at B1;have hz0:((w.alloc (.cells #[.int .i64 g.box.lo.x,.int .i64 g.box.lo.y,.int .i64 g.box.lo.z,.int .i64 g.box.hi.x,.int .i64 g.box.hi.y,.int .i64 g.box.hi.z,.slice A g.cells.length c] 28)).alloc (.cells #[.int .i64 zeroBx.lo.x,.int .i64 zeroBx.lo.y,.int .i64 zeroBx.lo.z,.int .i64 zeroBx.hi.x,.int .i64 zeroBx.hi.y,.int .i64 zeroBx.hi.z,.slice none 0 0] 28)).heap.size=w.heap.size+2:=by simp only[World.size_alloc_]
 have HB0:=Lib.hid B0;have HB1:=Lib.hid B1;have HX0:=Lib.hid hx0;have HGD:=Lib.hid G;have HZ0:=Lib.hid hz0;have HCP:=Lib.hid (copied_any g A c _ (hs.ext hx0) h5);have HLS:=Lib.hid (hl.keep (w':=(w.alloc (.cells #[.int .i64 g.box.lo.x,.int .i64 g.box.lo.y,.int .i64 g.box.lo.z,.int .i64 g.box.hi.x,.int .i64 g.box.hi.y,.int .i64 g.box.hi.z,.slice A g.cells.length c] 28)).alloc (.cells #[.int .i64 zeroBx.lo.x,.int .i64 zeroBx.lo.y,.int .i64 zeroBx.lo.z,.int .i64 zeroBx.hi.x,.int .i64 zeroBx.hi.y,.int .i64 zeroBx.hi.z,.slice none 0 0] 28)) (fun p hp=>hx0.cell hp));clear B0 B1 hx0 hs hv G hl hz0
 go_enter Tryz.func17,Tryz.ntmps17
 go_upto_region 1 with fail
 obtain⟨W0,hW⟩:∃ W,W=(w.alloc (.cells #[.int .i64 g.box.lo.x,.int .i64 g.box.lo.y,.int .i64 g.box.lo.z,.int .i64 g.box.hi.x,.int .i64 g.box.hi.y,.int .i64 g.box.hi.z,.slice A g.cells.length c] 28)).alloc (.cells #[.int .i64 zeroBx.lo.x,.int .i64 zeroBx.lo.y,.int .i64 zeroBx.lo.z,.int .i64 zeroBx.hi.x,.int .i64 zeroBx.hi.y,.int .i64 zeroBx.hi.z,.slice none 0 0] 28):=⟨_,rfl⟩;have hW':W0=(w.alloc (.cells #[.int .i64 g.box.lo.x,.int .i64 g.box.lo.y,.int .i64 g.box.lo.z,.int .i64 g.box.hi.x,.int .i64 g.box.hi.y,.int .i64 g.box.hi.z,.slice A g.cells.length c] 28)).alloc (.cells #[.int .i64 0,.int .i64 0,.int .i64 0,.int .i64 0,.int .i64 0,.int .i64 0,.slice none 0 0] 28):=hW;rw[← hW]at HB0 HB1 HX0 HCP HLS HZ0;rw[← hW'];clear hW hW'
 go_upto_region 2 with(first
  | (refine wpList_load_blk 28 (.tmp 2) rfl rfl HB0.out rfl _ Tryz.underlying28 rfl (by kernel_rfl) ?_)
  | (go_at_call 40;refine HCP.out.mono ?_;rintro e W1 ⟨u,rfl,o1,x1⟩;obtain⟨A',c',rfl,_⟩:=own_form o1)
  | (refine wpList_store_blk 28 (.tmp 5) (.tmp 9) rfl rfl (Arr.new W1 28 [.int .i64 0,.int .i64 0,.int .i64 0,.int .i64 0,.int .i64 0,.int .i64 0,.slice none 0 0]) [.int .i64 g.box.lo.x,.int .i64 g.box.lo.y,.int .i64 g.box.lo.z,.int .i64 g.box.hi.x,.int .i64 g.box.hi.y,.int .i64 g.box.hi.z,.slice A' g.cells.length c'] rfl rfl (by kernel_rfl) rfl rfl ?_))
 have hS2:WrS g A c Al cl l w W1.heap.size (.slice A' g.cells.length c') g.cells ((W1.alloc (.cells #[.int .i64 zeroBx.lo.x,.int .i64 zeroBx.lo.y,.int .i64 zeroBx.lo.z,.int .i64 zeroBx.hi.x,.int .i64 zeroBx.hi.y,.int .i64 zeroBx.hi.z,.slice none 0 0] 28)).setRow W1.heap.size #[.int .i64 g.box.lo.x,.int .i64 g.box.lo.y,.int .i64 g.box.lo.z,.int .i64 g.box.hi.x,.int .i64 g.box.hi.y,.int .i64 g.box.hi.z,.slice A' g.cells.length c']):=by
  have hz:=HZ0.out;have hsz:=x1.size;have hxa:Ext W1 ((W1.alloc (.cells #[.int .i64 zeroBx.lo.x,.int .i64 zeroBx.lo.y,.int .i64 zeroBx.lo.z,.int .i64 zeroBx.hi.x,.int .i64 zeroBx.hi.y,.int .i64 zeroBx.hi.z,.slice none 0 0] 28)).setRow W1.heap.size #[.int .i64 g.box.lo.x,.int .i64 g.box.lo.y,.int .i64 g.box.lo.z,.int .i64 g.box.hi.x,.int .i64 g.box.hi.y,.int .i64 g.box.hi.z,.slice A' g.cells.length c']):=((Ext.refl W1).alloc _).setRow (Nat.le_refl _) _;exact⟨HB0.out.ext (x1.trans hxa),HB1.out.ext (x1.trans hxa),(Arr.new W1 _ [.int .i64 zeroBx.lo.x,.int .i64 zeroBx.lo.y,.int .i64 zeroBx.lo.z,.int .i64 zeroBx.hi.x,.int .i64 zeroBx.hi.y,.int .i64 zeroBx.hi.z,.slice none 0 0]).setRow [.int .i64 g.box.lo.x,.int .i64 g.box.lo.y,.int .i64 g.box.lo.z,.int .i64 g.box.hi.x,.int .i64 g.box.hi.y,.int .i64 g.box.hi.z,.slice A' g.cells.length c'],by omega,by have h:=own_ext o1 hxa;rwa [hz]at h,fun b hb=>own_blt o1 b hb,rfl,HLS.out.keep (fun p hp=>(x1.trans hxa).cell (by omega)),HX0.out.trans (x1.trans hxa)⟩
 obtain⟨b5,hb5⟩:∃ b,b=W1.heap.size:=⟨_,rfl⟩;obtain⟨W2,hW⟩:∃ W,W=(W1.alloc (.cells #[.int .i64 zeroBx.lo.x,.int .i64 zeroBx.lo.y,.int .i64 zeroBx.lo.z,.int .i64 zeroBx.hi.x,.int .i64 zeroBx.hi.y,.int .i64 zeroBx.hi.z,.slice none 0 0] 28)).setRow W1.heap.size #[.int .i64 g.box.lo.x,.int .i64 g.box.lo.y,.int .i64 g.box.lo.z,.int .i64 g.box.hi.x,.int .i64 g.box.hi.y,.int .i64 g.box.hi.z,.slice A' g.cells.length c']:=⟨_,rfl⟩;have hW':W2=(W1.alloc (.cells #[.int .i64 0,.int .i64 0,.int .i64 0,.int .i64 0,.int .i64 0,.int .i64 0,.slice none 0 0] 28)).setRow W1.heap.size #[.int .i64 g.box.lo.x,.int .i64 g.box.lo.y,.int .i64 g.box.lo.z,.int .i64 g.box.hi.x,.int .i64 g.box.hi.y,.int .i64 g.box.hi.z,.slice A' g.cells.length c']:=hW;rw[← hW,← hb5]at hS2;rw[← hW',← hb5];have HS2:=Lib.hid hS2;clear hW hW' hb5 hS2 o1 x1 HB0 HB1 HX0 HCP HLS HZ0;clear W1
 go_wp2_with fail
 go_loopw [6] (fun i wr=>∃ k:Nat,i = .int .i64 k∧k≤l.length∧WrS g A c Al cl l w b5 (.slice A' g.cells.length c') (writeC g.box g.cells (l.take k)) wr) (fun i _=>l.length - (intOf i).toNat)
 case atStart=>exact⟨0,rfl,Nat.zero_le _,HS2.out⟩
 case round=>
  obtain⟨k,rfl,hk,hS⟩:=hrel;have hwz:=hS.ext.size
  by_cases hlt:k < l.length
  · obtain⟨x,hx⟩:∃ x,l[k]? = some x:=⟨_,List.getElem?_eq_getElem hlt⟩;have HN:=Lib.hid (writeC_take (b:=g.box) (cs:=g.cells) hx);obtain⟨b,off,rfl,hbl,r0,r1,r2,r3,r4⟩:=chg_row hS.ls hx;have hbl:b < wr.heap.size:=by omega
    have HI:=Lib.hid (fun w'=>refIndex_any g.box x.at_ w');have HS:=Lib.hid hS;have d0:=hS.a0.cell 0;have d1:=hS.a0.cell 1;have d2:=hS.a0.cell 2;have d3:=hS.a0.cell 3;have d4:=hS.a0.cell 4;have d5:=hS.a0.cell 5;have lb:=hS.a0.lt;simp only[List.getElem?_cons_zero,List.getElem?_cons_succ]at d0 d1 d2 d3 d4 d5;clear hx hS
    cases hin:inP x.at_ g.box
    · rw[hin]at HI;have HN:=Lib.hid (HN.out.trans (show _=writeC g.box g.cells (l.take k)by unfold setC;rw[hin];rfl));clear hin
      go_upto_region 5 with fail
      refine wp_region_near (by assumption) (by kernel_rfl) ?_
      repeat (go_big_quiet_step ((go_at_call 41;exact near_call (HI.out _))))
      refine wpQuiet_nil ?_;intro w1 hw1;have hy:=Ext.of_near hw1;clear hw1;have HS5:=Lib.hid (HS.out.more hy);clear hy d0 d1 d2 d3 d4 d5 lb r0 r1 r2 r3 r4;go_wp2
      go_roundw
      case rel=>exact⟨k+1,by go_num,by omega,by rw[HN.out];exact HS5.out⟩
      case measure=>simp[intOf];omega
    · have hid:=(HGD.out.idx hin).1;have hw:=HGD.out.idxW hin;obtain⟨j,hj⟩:∃ j,j=idxG g sx sy x.at_:=⟨_,rfl⟩;rw[← hj]at hid hw;rw[hin,hw]at HI;simp only[if_true]at HI;have HN:=Lib.hid (HN.out.trans (show _=(writeC g.box g.cells (l.take k)).set j x.new by unfold setC;rw[hin,hw];rfl));obtain⟨gb,c2,h2,hnc,hcm,hgl,hgb⟩:=own_at0 HS.out.row (by omega);injection h2 with h2 _ h3
      subst h2 h3;have hgo:=HS.out.off gb rfl;clear hin hw hj
      go_upto_region 5 with fail
      refine wp_region_near (by assumption) (by kernel_rfl) ?_
      repeat (go_big_quiet_step ((go_at_call 41;exact near_call (HI.out _))))
      refine wpQuiet_nil ?_;intro w1 hw1;have hy:=Ext.of_near hw1;clear hw1;have HS5:=Lib.hid (HS.out.more hy);have r4:=(hy.cell (p:=⟨b,off+k * 5+4,none⟩) hbl).trans r4;have hbl:=Nat.lt_of_lt_of_le hbl hy.size;have hwz:=HS5.out.ext.size;have g6:=HS5.out.a5.cell 6;have lg:=HS5.out.a5.lt;simp only[List.getElem?_cons_zero,List.getElem?_cons_succ]at g6;clear hy d0 d1 d2 d3 d4 d5 lb r0 r1 r2 r3 HS;obtain⟨W5,hW⟩:∃ W,W=w1:=⟨_,rfl⟩;rw[← hW]at HS5 r4 hbl hwz g6 lg;rw[← hW];clear hW
      go_upto_region 7 with fail
      refine wp_region_near_tail 9 (by assumption) (by kernel_rfl) ?_;simp only[List.take_succ_cons,List.take_zero,List.drop_succ_cons,List.drop_zero]
      repeat (go_big_quiet_step (fail))
      refine wpQuiet_nil ?_;intro w1 hw1;have hy:=Ext.of_near hw1;clear hw1;have HS7:=Lib.hid (HS5.out.more hy);clear hy r4 hbl hwz g6 lg HS5;obtain⟨v0,q0⟩:=own_slot HS7.out.row j (by omega);have q1:=HS7.out.row.frozenAt j;go_wp2
      go_roundw
      case rel=>exact⟨k+1,by go_num,by omega,by rw[HN.out];exact HS7.out.put j x.new⟩
      case measure=>simp[intOf];omega
  · obtain rfl:k=l.length:=by omega
    rw[List.take_length]at hS;have HS:=Lib.hid hS;clear hS
    go_wp2_with (first
     | (refine wpList_load_blk 28 (.tmp 5) rfl rfl HS.out.a5 rfl _ Tryz.underlying28 rfl (by kernel_rfl) ?_)
     | (refine wpList_store_blk 28 (.tmp 4) (.tmp 35) rfl rfl HS.out.a4 [.int .i64 g.box.lo.x,.int .i64 g.box.lo.y,.int .i64 g.box.lo.z,.int .i64 g.box.hi.x,.int .i64 g.box.hi.y,.int .i64 g.box.hi.z,.slice A' g.cells.length c'] rfl rfl (by kernel_rfl) rfl rfl ?_))
    have hgr:wr.grownBy (wr.setRow (w.heap.size+1) #[.int .i64 g.box.lo.x,.int .i64 g.box.lo.y,.int .i64 g.box.lo.z,.int .i64 g.box.hi.x,.int .i64 g.box.hi.y,.int .i64 g.box.hi.z,.slice A' g.cells.length c']) (some (w.heap.size+1)):=grown_row (grown_refl wr _) _;have ho:(wr.setRow (w.heap.size+1) #[.int .i64 g.box.lo.x,.int .i64 g.box.lo.y,.int .i64 g.box.lo.z,.int .i64 g.box.hi.x,.int .i64 g.box.hi.y,.int .i64 g.box.hi.z,.slice A' g.cells.length c']).ownsRow w.heap.size 3 1 (.slice A' g.cells.length c') g.cells.length (rowsI (writeG g l).cells).flatten:=own_low_mono (by omega) (own_keep HS.out.row hgr (fun b hb hbb=>by injection hb with hb;have:=own_low HS.out.row b hbb;omega));refine bodyPost_ret (v:=.agg #[.int .i64 g.box.lo.x,.int .i64 g.box.lo.y,.int .i64 g.box.lo.z,.int .i64 g.box.hi.x,.int .i64 g.box.hi.y,.int .i64 g.box.hi.z,.slice A' g.cells.length c']) ?_ rfl ⟨_,rfl,ho,HS.out.ext.setRow (g:=w.heap.size+1) (by omega) _⟩;exact results_cell_row Tryz.results17 _ _ _ _ _ _ _ rfl (HS.out.a4.setRow [.int .i64 g.box.lo.x,.int .i64 g.box.lo.y,.int .i64 g.box.lo.z,.int .i64 g.box.hi.x,.int .i64 g.box.hi.y,.int .i64 g.box.hi.z,.slice A' g.cells.length c']) Tryz.underlying28 rfl (by kernel_rfl)
end Go.Proofs.YtoecbicdahbccaaGreatDoor
