/- A part of the walk of the layer of apply: contracts and plain laws that a row's text leans on. -/
import Derived.Test.YtoecbicdahbccaaGreatDoorZa39
import Derived.Test.YtoecbicdahbccaaGreatDoorZa41
set_option maxRecDepth 100000
set_option maxHeartbeats 16000000
namespace Go.Proofs.YtoecbicdahbccaaGreatDoor
open Go Go.RowKit
theorem refis_any(s:Int)(w:World):Calls Tryz.prog 136 #[.int .i64 s] w fun e w'=>e = .returned (.bool (isT s))∧Ext w w':=by
 by_cases h1:0≤s
 · go_enter Tryz.func136,Tryz.ntmps136
   go_wp2
   all_goals
    go_ret
    refine⟨ret_bool ?_,Ext.refl _⟩;rw[Bool.eq_iff_iff];simp[isT]
    try omega
 · go_enter Tryz.func136,Tryz.ntmps136
   go_wp2
   all_goals
    go_ret
    refine⟨ret_bool ?_,Ext.refl _⟩;rw[Bool.eq_iff_iff];simp[isT]
    try omega
theorem negates_any(s k:Int)(hs:0≤s∧s < 48)(hk:0≤k∧k < 3)(w:World):Calls Tryz.prog 180 #[.int .i64 s,.int .i64 k] w fun e w'=>e = .returned (.bool (ngI s k))∧Ext w w':=by
 have hq0:s.tmod 2=s % 2:=Int.tmod_eq_emod_of_nonneg hs.1;have hq1:(s / 2).tmod 2=s / 2 % 2:=Int.tmod_eq_emod_of_nonneg (by omega);have hq2:(s / 4).tmod 2=s / 4 % 2:=Int.tmod_eq_emod_of_nonneg (by omega);obtain rfl | rfl | rfl:k=0∨k=1∨k=2:=by omega
 all_goals
  go_enter Tryz.func180,Tryz.ntmps180
  go_wp2
  go_ret
  refine⟨ret_bool ?_,Ext.refl _⟩;unfold ngI;rw[Bool.eq_iff_iff];simp
  try omega
theorem rOrder_any(q:Int)(hq:0≤q∧q < 6)(w:World):Calls Tryz.prog 179 #[.int .i64 q] w fun e w'=>e = .returned (.agg #[.int .i64 (axQ q 0),.int .i64 (axQ q 1),.int .i64 (axQ q 2)])∧Ext w w':=by
 obtain rfl | rfl | rfl | rfl | rfl | rfl:q=0∨q=1∨q=2∨q=3∨q=4∨q=5:=by omega
 · have h:(axQ 0 0,axQ 0 1,axQ 0 2)=(0,1,2):=by decide+kernel
   injection h with h0 h;injection h with h1 h2
   rw[h0,h1,h2];clear h0 h1 h2
   go_enter Tryz.func179,Tryz.ntmps179
   go_wp2
   refine bodyPost_ret (v:=.agg #[.int .i64 0,.int .i64 1,.int .i64 2]) ?_ rfl ?_
   · simp (maxDischargeDepth:=9) only [results,Tryz.results179]
     first
      | (go_simp;done)
      | (go_simp;simp;done)
      | (simp (maxDischargeDepth:=9) [go_sem, *];done)
      | (simp (maxDischargeDepth:=9) [go_sem, *];simp)
   · exact⟨rfl,byX⟩
 · have h:(axQ 1 0,axQ 1 1,axQ 1 2)=(0,2,1):=by decide+kernel
   injection h with h0 h;injection h with h1 h2
   rw[h0,h1,h2];clear h0 h1 h2
   go_enter Tryz.func179,Tryz.ntmps179
   go_wp2
   refine bodyPost_ret (v:=.agg #[.int .i64 0,.int .i64 2,.int .i64 1]) ?_ rfl ?_
   · simp (maxDischargeDepth:=9) only [results,Tryz.results179]
     first
      | (go_simp;done)
      | (go_simp;simp;done)
      | (simp (maxDischargeDepth:=9) [go_sem, *];done)
      | (simp (maxDischargeDepth:=9) [go_sem, *];simp)
   · exact⟨rfl,byX⟩
 · have h:(axQ 2 0,axQ 2 1,axQ 2 2)=(1,0,2):=by decide+kernel
   injection h with h0 h;injection h with h1 h2
   rw[h0,h1,h2];clear h0 h1 h2
   go_enter Tryz.func179,Tryz.ntmps179
   go_wp2
   refine bodyPost_ret (v:=.agg #[.int .i64 1,.int .i64 0,.int .i64 2]) ?_ rfl ?_
   · simp (maxDischargeDepth:=9) only [results,Tryz.results179]
     first
      | (go_simp;done)
      | (go_simp;simp;done)
      | (simp (maxDischargeDepth:=9) [go_sem, *];done)
      | (simp (maxDischargeDepth:=9) [go_sem, *];simp)
   · exact⟨rfl,byX⟩
 · have h:(axQ 3 0,axQ 3 1,axQ 3 2)=(1,2,0):=by decide+kernel
   injection h with h0 h;injection h with h1 h2
   rw[h0,h1,h2];clear h0 h1 h2
   go_enter Tryz.func179,Tryz.ntmps179
   go_wp2
   refine bodyPost_ret (v:=.agg #[.int .i64 1,.int .i64 2,.int .i64 0]) ?_ rfl ?_
   · simp (maxDischargeDepth:=9) only [results,Tryz.results179]
     first
      | (go_simp;done)
      | (go_simp;simp;done)
      | (simp (maxDischargeDepth:=9) [go_sem, *];done)
      | (simp (maxDischargeDepth:=9) [go_sem, *];simp)
   · exact⟨rfl,byX⟩
 · have h:(axQ 4 0,axQ 4 1,axQ 4 2)=(2,0,1):=by decide+kernel
   injection h with h0 h;injection h with h1 h2
   rw[h0,h1,h2];clear h0 h1 h2
   go_enter Tryz.func179,Tryz.ntmps179
   go_wp2
   refine bodyPost_ret (v:=.agg #[.int .i64 2,.int .i64 0,.int .i64 1]) ?_ rfl ?_
   · simp (maxDischargeDepth:=9) only [results,Tryz.results179]
     first
      | (go_simp;done)
      | (go_simp;simp;done)
      | (simp (maxDischargeDepth:=9) [go_sem, *];done)
      | (simp (maxDischargeDepth:=9) [go_sem, *];simp)
   · exact⟨rfl,byX⟩
 · have h:(axQ 5 0,axQ 5 1,axQ 5 2)=(2,1,0):=by decide+kernel
   injection h with h0 h;injection h with h1 h2
   rw[h0,h1,h2];clear h0 h1 h2
   go_enter Tryz.func179,Tryz.ntmps179
   go_wp2
   refine bodyPost_ret (v:=.agg #[.int .i64 2,.int .i64 1,.int .i64 0]) ?_ rfl ?_
   · simp (maxDischargeDepth:=9) only [results,Tryz.results179]
     first
      | (go_simp;done)
      | (go_simp;simp;done)
      | (simp (maxDischargeDepth:=9) [go_sem, *];done)
      | (simp (maxDischargeDepth:=9) [go_sem, *];simp)
   · exact⟨rfl,byX⟩
def turV(r0 r1 r2:Int):Nat→List Value
 | 0=>[.int .i64 0,.int .i64 0,.int .i64 0]
 | 1=>[.int .i64 r0,.int .i64 0,.int .i64 0]
 | 2=>[.int .i64 r0,.int .i64 r1,.int .i64 0]
 | _=>[.int .i64 r0,.int .i64 r1,.int .i64 r2]
theorem rtI_def(s less:Int)(p:Pt)(k:Int){a:Int}{n:Bool}(ha:axI s k=a)(hn:ngI s k=n):rtI s less p k=if n then wrap64 (wrap64 (-(cdP p a)) - less)else cdP p a:=by unfold rtI;rw[ha,hn]
theorem turned_any(s less:Int)(p:Pt)(w:World):Calls Tryz.prog 158 #[.int .i64 s,.agg #[.int .i64 p.x,.int .i64 p.y,.int .i64 p.z],.int .i64 less] w fun e w'=>e = .returned (.agg #[.int .i64 (rturnP s less p).x,.int .i64 (rturnP s less p).y,.int .i64 (rturnP s less p).z])∧Ext w w':=by
 obtain⟨W0,hW⟩:∃ W,W=(w.alloc (.cells #[.int .i64 p.x,.int .i64 p.y,.int .i64 p.z] 23)).alloc (.cells #[.int .i64 0,.int .i64 0,.int .i64 0] 23):=⟨_,rfl⟩;have HX0:=Lib.hid (show Ext w W0 by rw[hW];exact((Ext.refl w).alloc _).alloc _);have HP0:=Lib.hid (show Arr W0 w.heap.size 23 [.int .i64 p.x,.int .i64 p.y,.int .i64 p.z]by rw[hW];exact(Arr.new w _ [.int .i64 p.x,.int .i64 p.y,.int .i64 p.z]).alloc _);have HR0:=Lib.hid (show Arr W0 (w.heap.size+1) 23 [.int .i64 0,.int .i64 0,.int .i64 0]by rw[hW];exact Arr.new1 w _ _ [.int .i64 0,.int .i64 0,.int .i64 0]);have HI:=Lib.hid (refis_any s);unfold isT at HI
 by_cases h:0≤s∧s < 48
 · have HD:=Lib.hid (show rturnP s less p=⟨rtI s less p 0,rtI s less p 1,rtI s less p 2⟩by unfold rturnP isT;rw[decide_eq_true h];rfl);rw[HD.out];rw[decide_eq_true h]at HI;have HN0:=Lib.hid (negates_any s 0 h (by omega));have HN1:=Lib.hid (negates_any s 1 h (by omega));have HN2:=Lib.hid (negates_any s 2 h (by omega));have HO:=Lib.hid (rOrder_any (s / 8) (by omega));have b0:=axI_in s 0 h (by omega);have b1:=axI_in s 1 h (by omega);have b2:=axI_in s 2 h (by omega);have d0:=fun(a:Int) (n:Bool) (ha:axI s 0=a) (hn:ngI s 0=n)=>rtI_def s less p 0 ha hn;have d1:=fun(a:Int) (n:Bool) (ha:axI s 1=a) (hn:ngI s 1=n)=>rtI_def s less p 1 ha hn;have d2:=fun(a:Int) (n:Bool) (ha:axI s 2=a) (hn:ngI s 2=n)=>rtI_def s less p 2 ha hn;have hq:s.tdiv 8=s / 8:=Int.tdiv_eq_ediv_of_nonneg h.1;have hwq:wrap64 (s / 8)=s / 8:=by unfold wrap64;omega
   generalize rtI s less p 0=r0 at d0 ⊢;generalize rtI s less p 1=r1 at d1 ⊢;generalize rtI s less p 2=r2 at d2 ⊢;generalize ngI s 0=n0 at HN0 d0;generalize ngI s 1=n1 at HN1 d1;generalize ngI s 2=n2 at HN2 d2;unfold axI at b0 b1 b2 d0 d1 d2;generalize s / 8=q at HO b0 b1 b2 d0 d1 d2 hq hwq;generalize axQ q 0=a0 at HO b0 d0;generalize axQ q 1=a1 at HO b1 d1;generalize axQ q 2=a2 at HO b2 d2;replace d0:=d0 _ _ rfl rfl;replace d1:=d1 _ _ rfl rfl;replace d2:=d2 _ _ rfl rfl;have B0:=Lib.hid b0;have B1:=Lib.hid b1;have B2:=Lib.hid b2;have D0:=Lib.hid d0;have D1:=Lib.hid d1;have D2:=Lib.hid d2;clear b0 b1 b2 d0 d1 d2 h HD
   go_enter Tryz.func158,Tryz.ntmps158
   go_upto_region 1 with fail
   rw[← hW];clear hW
   go_upto_region 5 with(first
    | (go_at_call 136;refine(HI.out _).mono ?_;rintro e W1 ⟨rfl,hx⟩;have HP1:=Lib.hid (HP0.out.ext hx);have HR1:=Lib.hid (HR0.out.ext hx);have HX1:=Lib.hid (HX0.out.trans hx);clear hx)
    | (refine ldB 23 4 HP1.out Tryz.underlying23 ?_) | (refine ldB 23 4 (HP1.out.alloc _) Tryz.underlying23 ?_) | (refine ldB 23 4 ((HP1.out.alloc _).alloc _) Tryz.underlying23 ?_)
    | (go_at_call 101;refine(reflist_any p _).mono ?_;rintro e W2 ⟨rfl,hx⟩;have HR2:=Lib.hid (HR1.out.ext hx);have HX2:=Lib.hid (HX1.out.trans hx);clear hx)
    | (refine wpList_store_blk2 125 (.tmp 8) (.tmp 19) rfl rfl (Arr.new W2 125 [.int .i64 0,.int .i64 0,.int .i64 0]) [.int .i64 p.x,.int .i64 p.y,.int .i64 p.z] rfl rfl (by kernel_rfl) rfl rfl rfl ?_;intro W3 hW3;have HC3:=Lib.hid (show Arr W3 W2.heap.size 125 [.int .i64 p.x,.int .i64 p.y,.int .i64 p.z]by rw[hW3];exact(Arr.new W2 _ _).setRow _);have HX3:=Lib.hid (show Ext w W3 by rw[hW3];exact(HX2.out.alloc _).setRow (g:=W2.heap.size) HX2.out.size _);have HR3:=Lib.hid (show Arr W3 (w.heap.size+1) 23 [.int .i64 0,.int .i64 0,.int .i64 0]by rw[hW3];exact(HR2.out.alloc _).setRow_other (by have:=HR2.out.lt;omega) _);clear hW3)
    )
   have hl3:=HC3.out.lt;obtain⟨nC,hC⟩:∃ n,n=W2.heap.size:=⟨_,rfl⟩;rw[← hC]at HC3 hl3 ⊢;clear hC
   go_upto_region 6 with(first
    | (go_at_call 179;refine(HO.out _).mono ?_;rintro e W4 ⟨rfl,hx⟩;have HR4:=Lib.hid (HR3.out.ext hx);have HC4:=Lib.hid (HC3.out.ext hx);have HX4:=Lib.hid (HX3.out.trans hx);clear hx)
    | (refine wpList_store_blk2 125 (.tmp 9) (.tmp 22) rfl rfl (Arr.new W4 125 [.int .i64 0,.int .i64 0,.int .i64 0]) [.int .i64 a0,.int .i64 a1,.int .i64 a2] rfl rfl (by kernel_rfl) rfl rfl rfl ?_;intro W5 hW5;have HA5:=Lib.hid (show Arr W5 W4.heap.size 125 [.int .i64 a0,.int .i64 a1,.int .i64 a2]by rw[hW5];exact(Arr.new W4 _ _).setRow _);have HX5:=Lib.hid (show Ext w W5 by rw[hW5];exact(HX4.out.alloc _).setRow (g:=W4.heap.size) HX4.out.size _);have HR5:=Lib.hid (show Arr W5 (w.heap.size+1) 23 [.int .i64 0,.int .i64 0,.int .i64 0]by rw[hW5];exact(HR4.out.alloc _).setRow_other (by have:=HR4.out.lt;omega) _);have HC5:=Lib.hid (show Arr W5 nC 125 [.int .i64 p.x,.int .i64 p.y,.int .i64 p.z]by rw[hW5];exact(HC4.out.alloc _).setRow_other (by have:=HC4.out.lt;omega) _);have hl45:=Lib.hid (show nC < W4.heap.size from HC4.out.lt);clear hW5))
   clear hq hwq;have hl5:=HA5.out.lt;obtain⟨nA,hA⟩:∃ n,n=W4.heap.size:=⟨_,rfl⟩;rw[← hA]at HA5 hl5 hl45 ⊢;clear hA;obtain⟨nO,hO⟩:∃ n,n=W5.heap.size:=⟨_,rfl⟩;have hlAO:=Lib.hid (show nA < nO by omega);have hl2:=Lib.hid (show w.heap.size+1 < nO by have:=HR5.out.lt;omega);have hlC:=Lib.hid (show nC < nO by have:=HC5.out.lt;omega);have hlw:=Lib.hid (show w.heap.size≤nO by have:=hl2.out;omega);have HT0:=Lib.hid (TurR.mk (HR5.out.alloc _) (HC5.out.alloc _) (HA5.out.alloc _) (by rw[hO];exact Arr.new W5 125 [.int .i64 0,.int .i64 0,.int .i64 0]) (HX5.out.alloc _):TurR (w.heap.size+1) nC nA nO p a0 a1 a2 (turV r0 r1 r2 0) w (W5.alloc (.cells #[.int .i64 0,.int .i64 0,.int .i64 0] 125)));clear hl5
   go_upto_region 7 with fail
   rw[← hO];clear hO;obtain⟨W6,hW6⟩:∃ W,W=W5.alloc (.cells #[.int .i64 0,.int .i64 0,.int .i64 0] 125):=⟨_,rfl⟩;rw[← hW6]at HT0 ⊢;clear hW6
   go_upto_region 8 with fail
   go_loopw [11] (fun i wr=>∃ k:Nat,k≤3∧i = .int .i64 k∧TurR (w.heap.size+1) nC nA nO p a0 a1 a2 (turV r0 r1 r2 k) w wr) (fun i _=>3 - (intOf i).toNat)
   case atStart=>exact⟨0,by omega,rfl,HT0.out⟩
   case round=>
    obtain⟨k,hk,rfl,hR⟩:=hrel;have HR:=Lib.hid hR;clear hR HT0;obtain rfl | rfl | rfl | rfl:k=0∨k=1∨k=2∨k=3:=by omega
    · have b:=B0.out;have C:=HR.out.C.cell;have A:=HR.out.A.cell;have O:=HR.out.O.cell;have fO:=HR.out.O.frozen;have lC:=HR.out.C.lt;have lA:=HR.out.A.lt;have lO:=HR.out.O.lt;simp only[turV]at O;have HD:=Lib.hid D0.out;have HN:=Lib.hid HN0.out;clear HN0 HN1 HN2 D0 D1 D2 B0 B1 B2;obtain rfl | rfl | rfl:a0=0∨a0=1∨a0=2:=by omega
      · obtain⟨W7,hW7⟩:∃ W,W=wr.setCell ⟨nO,0,none⟩ (.int .i64 p.x):=⟨_,rfl⟩;have HR7:=Lib.hid (show TurR (w.heap.size+1) nC nA nO p _ _ _ _ w W7 by rw[hW7];exact HR.out.set hl2.out hlC.out hlAO.out hlw.out 0 (.int .i64 p.x))
        cases n0
        · go_upto_region 11 with fail
          rw[← hW7];clear hW7 C A O fO lC lA lO HR
          go_wp2_with (first
           | (go_at_call 180;refine(HN.out _).mono ?_;rintro e W8 ⟨rfl,hx⟩;have HR8:=Lib.hid (HR7.out.next hx);clear hx))
          go_roundw
          case rel=>exact⟨1,by omega,rfl,by have h:=HR8.out;have e:=HD.out;simp only[turV,List.set_cons_zero]at h ⊢;rw[e];exact h⟩
          case measure=>simp[intOf]
        · go_upto_region 11 with fail
          rw[← hW7];clear hW7 C A O fO lC lA lO HR
          go_upto_region 13 with(first
           | (go_at_call 180;refine(HN.out _).mono ?_;rintro e W8 ⟨rfl,hx⟩;have HR8:=Lib.hid (HR7.out.next hx);clear hx))
          have O:=HR8.out.O.cell;have fO:=HR8.out.O.frozen;have lO:=HR8.out.O.lt;simp only[turV,List.set_cons_zero]at O
          go_wp2_with fail
          go_roundw
          case rel=>exact⟨1,by omega,rfl,by have h:=HR8.out.set hl2.out hlC.out hlAO.out hlw.out 0 (.int .i64 (wrap64 (wrap64 (-p.x) - less)));have e:=HD.out;simp only[turV,List.set_cons_zero]at h ⊢;rw[e];exact h⟩
          case measure=>simp[intOf]
      · obtain⟨W7,hW7⟩:∃ W,W=wr.setCell ⟨nO,0,none⟩ (.int .i64 p.y):=⟨_,rfl⟩;have HR7:=Lib.hid (show TurR (w.heap.size+1) nC nA nO p _ _ _ _ w W7 by rw[hW7];exact HR.out.set hl2.out hlC.out hlAO.out hlw.out 0 (.int .i64 p.y))
        cases n0
        · go_upto_region 11 with fail
          rw[← hW7];clear hW7 C A O fO lC lA lO HR
          go_wp2_with (first
           | (go_at_call 180;refine(HN.out _).mono ?_;rintro e W8 ⟨rfl,hx⟩;have HR8:=Lib.hid (HR7.out.next hx);clear hx))
          go_roundw
          case rel=>exact⟨1,by omega,rfl,by have h:=HR8.out;have e:=HD.out;simp only[turV,List.set_cons_zero]at h ⊢;rw[e];exact h⟩
          case measure=>simp[intOf]
        · go_upto_region 11 with fail
          rw[← hW7];clear hW7 C A O fO lC lA lO HR
          go_upto_region 13 with(first
           | (go_at_call 180;refine(HN.out _).mono ?_;rintro e W8 ⟨rfl,hx⟩;have HR8:=Lib.hid (HR7.out.next hx);clear hx))
          have O:=HR8.out.O.cell;have fO:=HR8.out.O.frozen;have lO:=HR8.out.O.lt;simp only[turV,List.set_cons_zero]at O
          go_wp2_with fail
          go_roundw
          case rel=>exact⟨1,by omega,rfl,by have h:=HR8.out.set hl2.out hlC.out hlAO.out hlw.out 0 (.int .i64 (wrap64 (wrap64 (-p.y) - less)));have e:=HD.out;simp only[turV,List.set_cons_zero]at h ⊢;rw[e];exact h⟩
          case measure=>simp[intOf]
      · obtain⟨W7,hW7⟩:∃ W,W=wr.setCell ⟨nO,0,none⟩ (.int .i64 p.z):=⟨_,rfl⟩;have HR7:=Lib.hid (show TurR (w.heap.size+1) nC nA nO p _ _ _ _ w W7 by rw[hW7];exact HR.out.set hl2.out hlC.out hlAO.out hlw.out 0 (.int .i64 p.z))
        cases n0
        · go_upto_region 11 with fail
          rw[← hW7];clear hW7 C A O fO lC lA lO HR
          go_wp2_with (first
           | (go_at_call 180;refine(HN.out _).mono ?_;rintro e W8 ⟨rfl,hx⟩;have HR8:=Lib.hid (HR7.out.next hx);clear hx))
          go_roundw
          case rel=>exact⟨1,by omega,rfl,by have h:=HR8.out;have e:=HD.out;simp only[turV,List.set_cons_zero]at h ⊢;rw[e];exact h⟩
          case measure=>simp[intOf]
        · go_upto_region 11 with fail
          rw[← hW7];clear hW7 C A O fO lC lA lO HR
          go_upto_region 13 with(first
           | (go_at_call 180;refine(HN.out _).mono ?_;rintro e W8 ⟨rfl,hx⟩;have HR8:=Lib.hid (HR7.out.next hx);clear hx))
          have O:=HR8.out.O.cell;have fO:=HR8.out.O.frozen;have lO:=HR8.out.O.lt;simp only[turV,List.set_cons_zero]at O
          go_wp2_with fail
          go_roundw
          case rel=>exact⟨1,by omega,rfl,by have h:=HR8.out.set hl2.out hlC.out hlAO.out hlw.out 0 (.int .i64 (wrap64 (wrap64 (-p.z) - less)));have e:=HD.out;simp only[turV,List.set_cons_zero]at h ⊢;rw[e];exact h⟩
          case measure=>simp[intOf]
    · have b:=B1.out;have C:=HR.out.C.cell;have A:=HR.out.A.cell;have O:=HR.out.O.cell;have fO:=HR.out.O.frozen;have lC:=HR.out.C.lt;have lA:=HR.out.A.lt;have lO:=HR.out.O.lt;simp only[turV]at O;have HD:=Lib.hid D1.out;have HN:=Lib.hid HN1.out;clear HN0 HN1 HN2 D0 D1 D2 B0 B1 B2;obtain rfl | rfl | rfl:a1=0∨a1=1∨a1=2:=by omega
      · obtain⟨W7,hW7⟩:∃ W,W=wr.setCell ⟨nO,1,none⟩ (.int .i64 p.x):=⟨_,rfl⟩;have HR7:=Lib.hid (show TurR (w.heap.size+1) nC nA nO p _ _ _ _ w W7 by rw[hW7];exact HR.out.set hl2.out hlC.out hlAO.out hlw.out 1 (.int .i64 p.x))
        cases n1
        · go_upto_region 11 with fail
          rw[← hW7];clear hW7 C A O fO lC lA lO HR
          go_wp2_with (first
           | (go_at_call 180;refine(HN.out _).mono ?_;rintro e W8 ⟨rfl,hx⟩;have HR8:=Lib.hid (HR7.out.next hx);clear hx))
          go_roundw
          case rel=>exact⟨2,by omega,rfl,by have h:=HR8.out;have e:=HD.out;simp only[turV,List.set_cons_zero,List.set_cons_succ]at h ⊢;rw[e];exact h⟩
          case measure=>simp[intOf]
        · go_upto_region 11 with fail
          rw[← hW7];clear hW7 C A O fO lC lA lO HR
          go_upto_region 13 with(first
           | (go_at_call 180;refine(HN.out _).mono ?_;rintro e W8 ⟨rfl,hx⟩;have HR8:=Lib.hid (HR7.out.next hx);clear hx))
          have O:=HR8.out.O.cell;have fO:=HR8.out.O.frozen;have lO:=HR8.out.O.lt;simp only[turV,List.set_cons_zero,List.set_cons_succ]at O
          go_wp2_with fail
          go_roundw
          case rel=>exact⟨2,by omega,rfl,by have h:=HR8.out.set hl2.out hlC.out hlAO.out hlw.out 1 (.int .i64 (wrap64 (wrap64 (-p.x) - less)));have e:=HD.out;simp only[turV,List.set_cons_zero,List.set_cons_succ]at h ⊢;rw[e];exact h⟩
          case measure=>simp[intOf]
      · obtain⟨W7,hW7⟩:∃ W,W=wr.setCell ⟨nO,1,none⟩ (.int .i64 p.y):=⟨_,rfl⟩;have HR7:=Lib.hid (show TurR (w.heap.size+1) nC nA nO p _ _ _ _ w W7 by rw[hW7];exact HR.out.set hl2.out hlC.out hlAO.out hlw.out 1 (.int .i64 p.y))
        cases n1
        · go_upto_region 11 with fail
          rw[← hW7];clear hW7 C A O fO lC lA lO HR
          go_wp2_with (first
           | (go_at_call 180;refine(HN.out _).mono ?_;rintro e W8 ⟨rfl,hx⟩;have HR8:=Lib.hid (HR7.out.next hx);clear hx))
          go_roundw
          case rel=>exact⟨2,by omega,rfl,by have h:=HR8.out;have e:=HD.out;simp only[turV,List.set_cons_zero,List.set_cons_succ]at h ⊢;rw[e];exact h⟩
          case measure=>simp[intOf]
        · go_upto_region 11 with fail
          rw[← hW7];clear hW7 C A O fO lC lA lO HR
          go_upto_region 13 with(first
           | (go_at_call 180;refine(HN.out _).mono ?_;rintro e W8 ⟨rfl,hx⟩;have HR8:=Lib.hid (HR7.out.next hx);clear hx))
          have O:=HR8.out.O.cell;have fO:=HR8.out.O.frozen;have lO:=HR8.out.O.lt;simp only[turV,List.set_cons_zero,List.set_cons_succ]at O
          go_wp2_with fail
          go_roundw
          case rel=>exact⟨2,by omega,rfl,by have h:=HR8.out.set hl2.out hlC.out hlAO.out hlw.out 1 (.int .i64 (wrap64 (wrap64 (-p.y) - less)));have e:=HD.out;simp only[turV,List.set_cons_zero,List.set_cons_succ]at h ⊢;rw[e];exact h⟩
          case measure=>simp[intOf]
      · obtain⟨W7,hW7⟩:∃ W,W=wr.setCell ⟨nO,1,none⟩ (.int .i64 p.z):=⟨_,rfl⟩;have HR7:=Lib.hid (show TurR (w.heap.size+1) nC nA nO p _ _ _ _ w W7 by rw[hW7];exact HR.out.set hl2.out hlC.out hlAO.out hlw.out 1 (.int .i64 p.z))
        cases n1
        · go_upto_region 11 with fail
          rw[← hW7];clear hW7 C A O fO lC lA lO HR
          go_wp2_with (first
           | (go_at_call 180;refine(HN.out _).mono ?_;rintro e W8 ⟨rfl,hx⟩;have HR8:=Lib.hid (HR7.out.next hx);clear hx))
          go_roundw
          case rel=>exact⟨2,by omega,rfl,by have h:=HR8.out;have e:=HD.out;simp only[turV,List.set_cons_zero,List.set_cons_succ]at h ⊢;rw[e];exact h⟩
          case measure=>simp[intOf]
        · go_upto_region 11 with fail
          rw[← hW7];clear hW7 C A O fO lC lA lO HR
          go_upto_region 13 with(first
           | (go_at_call 180;refine(HN.out _).mono ?_;rintro e W8 ⟨rfl,hx⟩;have HR8:=Lib.hid (HR7.out.next hx);clear hx))
          have O:=HR8.out.O.cell;have fO:=HR8.out.O.frozen;have lO:=HR8.out.O.lt;simp only[turV,List.set_cons_zero,List.set_cons_succ]at O
          go_wp2_with fail
          go_roundw
          case rel=>exact⟨2,by omega,rfl,by have h:=HR8.out.set hl2.out hlC.out hlAO.out hlw.out 1 (.int .i64 (wrap64 (wrap64 (-p.z) - less)));have e:=HD.out;simp only[turV,List.set_cons_zero,List.set_cons_succ]at h ⊢;rw[e];exact h⟩
          case measure=>simp[intOf]
    · have b:=B2.out;have C:=HR.out.C.cell;have A:=HR.out.A.cell;have O:=HR.out.O.cell;have fO:=HR.out.O.frozen;have lC:=HR.out.C.lt;have lA:=HR.out.A.lt;have lO:=HR.out.O.lt;simp only[turV]at O;have HD:=Lib.hid D2.out;have HN:=Lib.hid HN2.out;clear HN0 HN1 HN2 D0 D1 D2 B0 B1 B2;obtain rfl | rfl | rfl:a2=0∨a2=1∨a2=2:=by omega
      · obtain⟨W7,hW7⟩:∃ W,W=wr.setCell ⟨nO,2,none⟩ (.int .i64 p.x):=⟨_,rfl⟩;have HR7:=Lib.hid (show TurR (w.heap.size+1) nC nA nO p _ _ _ _ w W7 by rw[hW7];exact HR.out.set hl2.out hlC.out hlAO.out hlw.out 2 (.int .i64 p.x))
        cases n2
        · go_upto_region 11 with fail
          rw[← hW7];clear hW7 C A O fO lC lA lO HR
          go_wp2_with (first
           | (go_at_call 180;refine(HN.out _).mono ?_;rintro e W8 ⟨rfl,hx⟩;have HR8:=Lib.hid (HR7.out.next hx);clear hx))
          go_roundw
          case rel=>exact⟨3,by omega,rfl,by have h:=HR8.out;have e:=HD.out;simp only[turV,List.set_cons_zero,List.set_cons_succ]at h ⊢;rw[e];exact h⟩
          case measure=>simp[intOf]
        · go_upto_region 11 with fail
          rw[← hW7];clear hW7 C A O fO lC lA lO HR
          go_upto_region 13 with(first
           | (go_at_call 180;refine(HN.out _).mono ?_;rintro e W8 ⟨rfl,hx⟩;have HR8:=Lib.hid (HR7.out.next hx);clear hx))
          have O:=HR8.out.O.cell;have fO:=HR8.out.O.frozen;have lO:=HR8.out.O.lt;simp only[turV,List.set_cons_zero,List.set_cons_succ]at O
          go_wp2_with fail
          go_roundw
          case rel=>exact⟨3,by omega,rfl,by have h:=HR8.out.set hl2.out hlC.out hlAO.out hlw.out 2 (.int .i64 (wrap64 (wrap64 (-p.x) - less)));have e:=HD.out;simp only[turV,List.set_cons_zero,List.set_cons_succ]at h ⊢;rw[e];exact h⟩
          case measure=>simp[intOf]
      · obtain⟨W7,hW7⟩:∃ W,W=wr.setCell ⟨nO,2,none⟩ (.int .i64 p.y):=⟨_,rfl⟩;have HR7:=Lib.hid (show TurR (w.heap.size+1) nC nA nO p _ _ _ _ w W7 by rw[hW7];exact HR.out.set hl2.out hlC.out hlAO.out hlw.out 2 (.int .i64 p.y))
        cases n2
        · go_upto_region 11 with fail
          rw[← hW7];clear hW7 C A O fO lC lA lO HR
          go_wp2_with (first
           | (go_at_call 180;refine(HN.out _).mono ?_;rintro e W8 ⟨rfl,hx⟩;have HR8:=Lib.hid (HR7.out.next hx);clear hx))
          go_roundw
          case rel=>exact⟨3,by omega,rfl,by have h:=HR8.out;have e:=HD.out;simp only[turV,List.set_cons_zero,List.set_cons_succ]at h ⊢;rw[e];exact h⟩
          case measure=>simp[intOf]
        · go_upto_region 11 with fail
          rw[← hW7];clear hW7 C A O fO lC lA lO HR
          go_upto_region 13 with(first
           | (go_at_call 180;refine(HN.out _).mono ?_;rintro e W8 ⟨rfl,hx⟩;have HR8:=Lib.hid (HR7.out.next hx);clear hx))
          have O:=HR8.out.O.cell;have fO:=HR8.out.O.frozen;have lO:=HR8.out.O.lt;simp only[turV,List.set_cons_zero,List.set_cons_succ]at O
          go_wp2_with fail
          go_roundw
          case rel=>exact⟨3,by omega,rfl,by have h:=HR8.out.set hl2.out hlC.out hlAO.out hlw.out 2 (.int .i64 (wrap64 (wrap64 (-p.y) - less)));have e:=HD.out;simp only[turV,List.set_cons_zero,List.set_cons_succ]at h ⊢;rw[e];exact h⟩
          case measure=>simp[intOf]
      · obtain⟨W7,hW7⟩:∃ W,W=wr.setCell ⟨nO,2,none⟩ (.int .i64 p.z):=⟨_,rfl⟩;have HR7:=Lib.hid (show TurR (w.heap.size+1) nC nA nO p _ _ _ _ w W7 by rw[hW7];exact HR.out.set hl2.out hlC.out hlAO.out hlw.out 2 (.int .i64 p.z))
        cases n2
        · go_upto_region 11 with fail
          rw[← hW7];clear hW7 C A O fO lC lA lO HR
          go_wp2_with (first
           | (go_at_call 180;refine(HN.out _).mono ?_;rintro e W8 ⟨rfl,hx⟩;have HR8:=Lib.hid (HR7.out.next hx);clear hx))
          go_roundw
          case rel=>exact⟨3,by omega,rfl,by have h:=HR8.out;have e:=HD.out;simp only[turV,List.set_cons_zero,List.set_cons_succ]at h ⊢;rw[e];exact h⟩
          case measure=>simp[intOf]
        · go_upto_region 11 with fail
          rw[← hW7];clear hW7 C A O fO lC lA lO HR
          go_upto_region 13 with(first
           | (go_at_call 180;refine(HN.out _).mono ?_;rintro e W8 ⟨rfl,hx⟩;have HR8:=Lib.hid (HR7.out.next hx);clear hx))
          have O:=HR8.out.O.cell;have fO:=HR8.out.O.frozen;have lO:=HR8.out.O.lt;simp only[turV,List.set_cons_zero,List.set_cons_succ]at O
          go_wp2_with fail
          go_roundw
          case rel=>exact⟨3,by omega,rfl,by have h:=HR8.out.set hl2.out hlC.out hlAO.out hlw.out 2 (.int .i64 (wrap64 (wrap64 (-p.z) - less)));have e:=HD.out;simp only[turV,List.set_cons_zero,List.set_cons_succ]at h ⊢;rw[e];exact h⟩
          case measure=>simp[intOf]
    · have HO3:=Lib.hid (show Arr wr nO 125 [.int .i64 r0,.int .i64 r1,.int .i64 r2]from HR.out.O);have HF:=Lib.hid (fun W:World=>(show Calls Tryz.prog 102 #[.agg #[.int .i64 r0,.int .i64 r1,.int .i64 r2]] W fun e w'=>e = .returned (.agg #[.int .i64 r0,.int .i64 r1,.int .i64 r2])∧Ext W w' from refof_any ⟨r0,r1,r2⟩ W));clear HN0 HN1 HN2 D0 D1 D2 B0 B1 B2;have d0:=HO3.out.cell 0;have d1:=HO3.out.cell 1;have d2:=HO3.out.cell 2;simp only[List.getElem?_cons_zero,List.getElem?_cons_succ]at d0 d1 d2;clear HO3
      go_wp2_with (go_at_call 102;refine(HF.out _).mono ?_;rintro e W8 ⟨rfl,hx⟩;have HR8:=Lib.hid (HR.out.next hx);have a0:=HR8.out.R.cell 0;have a1:=HR8.out.R.cell 1;have a2:=HR8.out.R.cell 2;have f0:=HR8.out.R.frozen 0;have f1:=HR8.out.R.frozen 1;have f2:=HR8.out.R.frozen 2;simp only[List.getElem?_cons_zero,List.getElem?_cons_succ]at a0 a1 a2;clear hx d0 d1 d2)
      exact bodyPost_ret (v:=.agg #[.int .i64 r0,.int .i64 r1,.int .i64 r2]) (by simp[results,Tryz.results158,go_sem, *]) rfl ⟨rfl,((HR8.out.ext.setCell (by simp) _).setCell (by simp) _).setCell (by simp) _⟩
 · have HD:=Lib.hid (show rturnP s less p=p by unfold rturnP isT;rw[decide_eq_false h];rfl);rw[HD.out];rw[decide_eq_false h]at HI
   go_enter Tryz.func158,Tryz.ntmps158
   go_upto_region 1 with fail
   rw[← hW];clear hW
   go_wp2_with (first
    | (go_at_call 136;refine(HI.out _).mono ?_;rintro e W1 ⟨rfl,hx⟩;have HP1:=Lib.hid (HP0.out.ext hx);have HR1:=Lib.hid (HR0.out.ext hx);have HX1:=Lib.hid (HX0.out.trans hx);clear hx)
    | (refine ldB 23 4 HP1.out Tryz.underlying23 ?_) | (refine ldB 23 4 (HP1.out.alloc _) Tryz.underlying23 ?_) | (refine ldB 23 4 ((HP1.out.alloc _).alloc _) Tryz.underlying23 ?_)
    | (refine wpList_store_blk 23 (.tmp 6) (.tmp 17) rfl rfl HR1.out [.int .i64 p.x,.int .i64 p.y,.int .i64 p.z] rfl rfl (by kernel_rfl) rfl rfl ?_))
   refine bodyPost_ret (v:=.agg #[.int .i64 p.x,.int .i64 p.y,.int .i64 p.z]) ?_ rfl ⟨rfl,HX1.out.setRow (by omega) _⟩;exact results_cell_row Tryz.results158 _ _ _ _ _ _ _ rfl (HR1.out.setRow [.int .i64 p.x,.int .i64 p.y,.int .i64 p.z]) Tryz.underlying23 rfl (by kernel_rfl)
end Go.Proofs.YtoecbicdahbccaaGreatDoor
