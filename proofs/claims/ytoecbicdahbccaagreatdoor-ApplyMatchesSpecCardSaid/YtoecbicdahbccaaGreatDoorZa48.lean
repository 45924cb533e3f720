/- A part of the walk of the layer of apply: contracts and plain laws that a row's text leans on. -/
import Derived.Test.YtoecbicdahbccaaGreatDoorZa40
import Derived.Test.YtoecbicdahbccaaGreatDoorZa46
set_option maxRecDepth 100000
set_option maxHeartbeats 16000000
namespace Go.Proofs.YtoecbicdahbccaaGreatDoor
open Go Go.RowKit
def hiE(x:Ed)(s:Int):Bool:=decide (x.box.hi.x≤s) && (decide (x.box.hi.y≤s) && decide (x.box.hi.z≤s))
def boxE(x:Ed)(s:Int):Bool:=!emptyB x.box && (inP x.box.lo (cubeB s) && hiE x s)
def turnE(x:Ed):Bool:=decide (0≤x.turn) && decide (x.turn < 48)
def cellE(x:Ed)(m:Int):Bool:=decide (0≤x.cell) && decide (x.cell < m)
def okE(x:Ed)(s m:Int):Bool:=
 if x.kind=1 then boxE x s && cellE x m
 else if x.kind=2 then inP x.at_ (cubeB s) && (cellE x m && (decide (1≤x.size) && decide (x.size≤4096)))
 else if x.kind=3 then boxE x s && (turnE x && cellE x m)
 else if x.kind=4 then boxE x s && (inP x.at_ (cubeB s) && turnE x)
 else if x.kind=5 then inP x.at_ (cubeB s) && (cellE x m && (decide (1≤x.size) && decide (x.size≤32768)))
 else if x.kind=7 then boxE x s && (decide (x.st.tick≤x.size) && decide (x.size≤4000))
 else decide (1≤x.size) && decide (x.size < x.st.seq)
def checkR(x:Ed)(d m:Int):Int:=if decide (2≤d∧d≤14)then(if decide (1≤m∧m≤256) && formedE x then(if okE x (2 ^ d.toNat) m then 0 else 1)else 1)else 13
theorem refCheck_depth(x:Ed)(d m:Int)(w:World)(h:¬ (2≤d∧d≤14)):
    Calls Tryz.prog 27 #[.agg #[.int .i64 x.st.tick,.int .i64 x.st.clock,.int .i64 x.st.site,.int .i64 x.st.seq,.int .i64 x.kind,.int .i64 x.box.lo.x,.int .i64 x.box.lo.y,.int .i64 x.box.lo.z,.int .i64 x.box.hi.x,.int .i64 x.box.hi.y,.int .i64 x.box.hi.z,.int .i64 x.at_.x,.int .i64 x.at_.y,.int .i64 x.at_.z,.int .i64 x.turn,.int .i64 x.cell,.int .i64 x.size],.int .i64 d,.int .i64 m] w fun e w'=>e = .returned (.int .i64 13)∧Ext w w':=by
 go_enter Tryz.func27,Tryz.ntmps27
 by_cases h1:d < 2
 · go_wp2
   go_ret
   exact⟨rfl,byX⟩
 · have h2:14 < d:=by omega
   go_wp2
   go_ret
   exact⟨rfl,byX⟩
theorem refCheck_out(x:Ed)(d m:Int)(w:World)(hd:2≤d∧d≤14)(h:¬ (1≤m∧m≤256)∨formedE x=false):
    Calls Tryz.prog 27 #[.agg #[.int .i64 x.st.tick,.int .i64 x.st.clock,.int .i64 x.st.site,.int .i64 x.st.seq,.int .i64 x.kind,.int .i64 x.box.lo.x,.int .i64 x.box.lo.y,.int .i64 x.box.lo.z,.int .i64 x.box.hi.x,.int .i64 x.box.hi.y,.int .i64 x.box.hi.z,.int .i64 x.at_.x,.int .i64 x.at_.y,.int .i64 x.at_.z,.int .i64 x.turn,.int .i64 x.cell,.int .i64 x.size],.int .i64 d,.int .i64 m] w fun e w'=>e = .returned (.int .i64 1)∧Ext w w':=by
 have HF:=Lib.hid (fun w':World=>refFormed_any x w');have d1:¬ d < 2:=by omega
 have d2:¬ 14 < d:=by omega
 by_cases h1:m < 1
 · clear h;generalize formedE x=bf at HF
   go_enter Tryz.func27,Tryz.ntmps27
   go_upto_region 1 with fail
   obtain⟨W0,hW⟩:∃ W,W=w.alloc (.cells #[.int .i64 x.st.tick,.int .i64 x.st.clock,.int .i64 x.st.site,.int .i64 x.st.seq,.int .i64 x.kind,.int .i64 x.box.lo.x,.int .i64 x.box.lo.y,.int .i64 x.box.lo.z,.int .i64 x.box.hi.x,.int .i64 x.box.hi.y,.int .i64 x.box.hi.z,.int .i64 x.at_.x,.int .i64 x.at_.y,.int .i64 x.at_.z,.int .i64 x.turn,.int .i64 x.cell,.int .i64 x.size] 32):=⟨_,rfl⟩;have hx0:Ext w W0:=by rw[hW];exact(Ext.refl w).alloc _
   have B0:Arr W0 w.heap.size 32 [.int .i64 x.st.tick,.int .i64 x.st.clock,.int .i64 x.st.site,.int .i64 x.st.seq,.int .i64 x.kind,.int .i64 x.box.lo.x,.int .i64 x.box.lo.y,.int .i64 x.box.lo.z,.int .i64 x.box.hi.x,.int .i64 x.box.hi.y,.int .i64 x.box.hi.z,.int .i64 x.at_.x,.int .i64 x.at_.y,.int .i64 x.at_.z,.int .i64 x.turn,.int .i64 x.cell,.int .i64 x.size]:=by rw[hW];exact Arr.new w _ _
   rw[← hW];clear hW;have cB0:=B0.cell;have fB0:=B0.frozen;have lB0:=B0.lt
   go_wp2_with (first | (refine ldB 32 3 B0 Tryz.underlying32 ?_) | (refine ldB 32 3 (B0.alloc _) Tryz.underlying32 ?_) | (refine ldB 32 3 ((B0.alloc _).alloc _) Tryz.underlying32 ?_))
   ((refine(HF.out _).mono ?_);rintro e wx ⟨rfl,xx⟩;have xz:=xx.size;(try simp only[World.size_alloc_,World.size_setCell_]at xz);obtain⟨B0,cB0,fB0,lB0⟩:=Arr.look (w':=wx) B0 byX)
   go_wp2
   go_ret
   exact⟨rfl,byX⟩
 · by_cases h2:256 < m
   · clear h;generalize formedE x=bf at HF
     go_enter Tryz.func27,Tryz.ntmps27
     go_upto_region 1 with fail
     obtain⟨W0,hW⟩:∃ W,W=w.alloc (.cells #[.int .i64 x.st.tick,.int .i64 x.st.clock,.int .i64 x.st.site,.int .i64 x.st.seq,.int .i64 x.kind,.int .i64 x.box.lo.x,.int .i64 x.box.lo.y,.int .i64 x.box.lo.z,.int .i64 x.box.hi.x,.int .i64 x.box.hi.y,.int .i64 x.box.hi.z,.int .i64 x.at_.x,.int .i64 x.at_.y,.int .i64 x.at_.z,.int .i64 x.turn,.int .i64 x.cell,.int .i64 x.size] 32):=⟨_,rfl⟩;have hx0:Ext w W0:=by rw[hW];exact(Ext.refl w).alloc _
     have B0:Arr W0 w.heap.size 32 [.int .i64 x.st.tick,.int .i64 x.st.clock,.int .i64 x.st.site,.int .i64 x.st.seq,.int .i64 x.kind,.int .i64 x.box.lo.x,.int .i64 x.box.lo.y,.int .i64 x.box.lo.z,.int .i64 x.box.hi.x,.int .i64 x.box.hi.y,.int .i64 x.box.hi.z,.int .i64 x.at_.x,.int .i64 x.at_.y,.int .i64 x.at_.z,.int .i64 x.turn,.int .i64 x.cell,.int .i64 x.size]:=by rw[hW];exact Arr.new w _ _
     rw[← hW];clear hW;have cB0:=B0.cell;have fB0:=B0.frozen;have lB0:=B0.lt
     go_wp2_with (first | (refine ldB 32 3 B0 Tryz.underlying32 ?_) | (refine ldB 32 3 (B0.alloc _) Tryz.underlying32 ?_) | (refine ldB 32 3 ((B0.alloc _).alloc _) Tryz.underlying32 ?_))
     ((refine(HF.out _).mono ?_);rintro e wx ⟨rfl,xx⟩;have xz:=xx.size;(try simp only[World.size_alloc_,World.size_setCell_]at xz);obtain⟨B0,cB0,fB0,lB0⟩:=Arr.look (w':=wx) B0 byX)
     go_wp2
     go_ret
     exact⟨rfl,byX⟩
   · have hf:formedE x=false:=h.resolve_left (fun hh=>hh ⟨by omega,by omega⟩);rw[hf]at HF;clear h hf
     go_enter Tryz.func27,Tryz.ntmps27
     go_upto_region 1 with fail
     obtain⟨W0,hW⟩:∃ W,W=w.alloc (.cells #[.int .i64 x.st.tick,.int .i64 x.st.clock,.int .i64 x.st.site,.int .i64 x.st.seq,.int .i64 x.kind,.int .i64 x.box.lo.x,.int .i64 x.box.lo.y,.int .i64 x.box.lo.z,.int .i64 x.box.hi.x,.int .i64 x.box.hi.y,.int .i64 x.box.hi.z,.int .i64 x.at_.x,.int .i64 x.at_.y,.int .i64 x.at_.z,.int .i64 x.turn,.int .i64 x.cell,.int .i64 x.size] 32):=⟨_,rfl⟩;have hx0:Ext w W0:=by rw[hW];exact(Ext.refl w).alloc _
     have B0:Arr W0 w.heap.size 32 [.int .i64 x.st.tick,.int .i64 x.st.clock,.int .i64 x.st.site,.int .i64 x.st.seq,.int .i64 x.kind,.int .i64 x.box.lo.x,.int .i64 x.box.lo.y,.int .i64 x.box.lo.z,.int .i64 x.box.hi.x,.int .i64 x.box.hi.y,.int .i64 x.box.hi.z,.int .i64 x.at_.x,.int .i64 x.at_.y,.int .i64 x.at_.z,.int .i64 x.turn,.int .i64 x.cell,.int .i64 x.size]:=by rw[hW];exact Arr.new w _ _
     rw[← hW];clear hW;have cB0:=B0.cell;have fB0:=B0.frozen;have lB0:=B0.lt
     go_wp2_with (first | (refine ldB 32 3 B0 Tryz.underlying32 ?_) | (refine ldB 32 3 (B0.alloc _) Tryz.underlying32 ?_) | (refine ldB 32 3 ((B0.alloc _).alloc _) Tryz.underlying32 ?_))
     ((refine(HF.out _).mono ?_);rintro e wx ⟨rfl,xx⟩;have xz:=xx.size;(try simp only[World.size_alloc_,World.size_setCell_]at xz);obtain⟨B0,cB0,fB0,lB0⟩:=Arr.look (w':=wx) B0 byX)
     go_wp2
     go_ret
     exact⟨rfl,byX⟩
theorem okE_def(x:Ed)(s m:Int):okE x s m=(if x.kind=1 then boxE x s && cellE x m
 else if x.kind=2 then inP x.at_ (cubeB s) && (cellE x m && (decide (1≤x.size) && decide (x.size≤4096)))
 else if x.kind=3 then boxE x s && (turnE x && cellE x m)
 else if x.kind=4 then boxE x s && (inP x.at_ (cubeB s) && turnE x)
 else if x.kind=5 then inP x.at_ (cubeB s) && (cellE x m && (decide (1≤x.size) && decide (x.size≤32768)))
 else if x.kind=7 then boxE x s && (decide (x.st.tick≤x.size) && decide (x.size≤4000))
 else decide (1≤x.size) && decide (x.size < x.st.seq)):=rfl
theorem refCheck_in(x:Ed)(d m:Int)(w:World)(hd:2≤d∧d≤14)(hm:1≤m∧m≤256)(hf:formedE x=true)(hkk:x.kind=1∨x.kind=2∨x.kind=3∨x.kind=4∨x.kind=5∨x.kind=6∨x.kind=7∨x.kind=8):
    Calls Tryz.prog 27 #[.agg #[.int .i64 x.st.tick,.int .i64 x.st.clock,.int .i64 x.st.site,.int .i64 x.st.seq,.int .i64 x.kind,.int .i64 x.box.lo.x,.int .i64 x.box.lo.y,.int .i64 x.box.lo.z,.int .i64 x.box.hi.x,.int .i64 x.box.hi.y,.int .i64 x.box.hi.z,.int .i64 x.at_.x,.int .i64 x.at_.y,.int .i64 x.at_.z,.int .i64 x.turn,.int .i64 x.cell,.int .i64 x.size],.int .i64 d,.int .i64 m] w fun e w'=>e = .returned (.int .i64 (if okE x (2 ^ d.toNat) m then 0 else 1))∧Ext w w':=by
 have HF:=Lib.hid (fun w':World=>hf ▸ refFormed_any x w');have HQ:=Lib.hid (fun w':World=>refcube_any d hd w');have hok:=okE_def x (2 ^ d.toNat) m;generalize (2:Int) ^ d.toNat=S at HQ hok ⊢;have HE:=Lib.hid (fun w':World=>refEmpty_any x.box w');have HL:=Lib.hid (fun w':World=>refIn_any x.box.lo (cubeB S) w');have HA:=Lib.hid (fun w':World=>refIn_any x.at_ (cubeB S) w');have HB1:=Lib.hid (show boxE x S=(!emptyB x.box && (inP x.box.lo (cubeB S) && hiE x S))from rfl);have HH:=Lib.hid (show hiE x S=(decide (x.box.hi.x≤S) && (decide (x.box.hi.y≤S) && decide (x.box.hi.z≤S)))from rfl);have HT:=Lib.hid (show turnE x=(decide (0≤x.turn) && decide (x.turn < 48))from rfl);have HC:=Lib.hid (show cellE x m=(decide (0≤x.cell) && decide (x.cell < m))from rfl);obtain⟨R,hR⟩:∃ R:Int,R=(if okE x S m then 0 else 1):=⟨_,rfl⟩;rw[← hR];rw[hok]at hR;clear hok;generalize emptyB x.box=be at HE HB1;generalize inP x.box.lo (cubeB S)=bl at HL HB1;generalize inP x.at_ (cubeB S)=ba at HA hR;generalize hiE x S=bh at HB1 HH;generalize boxE x S=bx at HB1 hR;generalize turnE x=bt at HT hR;generalize cellE x m=bc at HC hR;have HR:=Lib.hid hR;have HKK:=Lib.hid hkk;have d1:¬ d < 2:=by omega
 have d2:¬ 14 < d:=by omega
 have m1:¬ m < 1:=by omega
 have m2:¬ 256 < m:=by omega
 clear hd hm hf hR hkk;simp only[cubeB]at HQ HL HA
 go_enter Tryz.func27,Tryz.ntmps27
 go_upto_region 1 with fail
 obtain⟨W0,hW⟩:∃ W,W=w.alloc (.cells #[.int .i64 x.st.tick,.int .i64 x.st.clock,.int .i64 x.st.site,.int .i64 x.st.seq,.int .i64 x.kind,.int .i64 x.box.lo.x,.int .i64 x.box.lo.y,.int .i64 x.box.lo.z,.int .i64 x.box.hi.x,.int .i64 x.box.hi.y,.int .i64 x.box.hi.z,.int .i64 x.at_.x,.int .i64 x.at_.y,.int .i64 x.at_.z,.int .i64 x.turn,.int .i64 x.cell,.int .i64 x.size] 32):=⟨_,rfl⟩;have hx0:Ext w W0:=by rw[hW];exact(Ext.refl w).alloc _
 have B0:Arr W0 w.heap.size 32 [.int .i64 x.st.tick,.int .i64 x.st.clock,.int .i64 x.st.site,.int .i64 x.st.seq,.int .i64 x.kind,.int .i64 x.box.lo.x,.int .i64 x.box.lo.y,.int .i64 x.box.lo.z,.int .i64 x.box.hi.x,.int .i64 x.box.hi.y,.int .i64 x.box.hi.z,.int .i64 x.at_.x,.int .i64 x.at_.y,.int .i64 x.at_.z,.int .i64 x.turn,.int .i64 x.cell,.int .i64 x.size]:=by rw[hW];exact Arr.new w _ _
 rw[← hW];clear hW;have cB0:=B0.cell;have fB0:=B0.frozen;have lB0:=B0.lt;generalize (.agg #[.int .i64 x.st.tick,.int .i64 x.st.clock,.int .i64 x.st.site,.int .i64 x.st.seq,.int .i64 x.kind,.int .i64 x.box.lo.x,.int .i64 x.box.lo.y,.int .i64 x.box.lo.z,.int .i64 x.box.hi.x,.int .i64 x.box.hi.y,.int .i64 x.box.hi.z,.int .i64 x.at_.x,.int .i64 x.at_.y,.int .i64 x.at_.z,.int .i64 x.turn,.int .i64 x.cell,.int .i64 x.size]:Value)=V0
 go_wp2_with (first | (refine ldB 32 3 B0 Tryz.underlying32 ?_) | (refine ldB 32 3 (B0.alloc _) Tryz.underlying32 ?_) | (refine ldB 32 3 ((B0.alloc _).alloc _) Tryz.underlying32 ?_))
 ((refine(HF.out _).mono ?_);rintro e wx ⟨rfl,xx⟩;have xz:=xx.size;(try simp only[World.size_alloc_,World.size_setCell_]at xz);obtain⟨B0,cB0,fB0,lB0⟩:=Arr.look (w':=wx) B0 byX)
 go_wp2_with fail
 ((refine(HQ.out _).mono ?_);rintro e wa ⟨rfl,xx⟩;have xz:=xx.size;(try simp only[World.size_alloc_,World.size_setCell_]at xz);obtain⟨B0,cB0,fB0,lB0⟩:=Arr.look (w':=wa) B0 byX)
 go_wp2_with (first | (refine wpList_load_part 25 (.tmp 38) rfl rfl B0 5 [.int .i64 x.box.lo.x,.int .i64 x.box.lo.y,.int .i64 x.box.lo.z,.int .i64 x.box.hi.x,.int .i64 x.box.hi.y,.int .i64 x.box.hi.z] rfl rfl _ Tryz.underlying25 rfl (by kernel_rfl) ?_) | (refine wpList_load_part 25 (.tmp 38) rfl rfl (B0.alloc _) 5 [.int .i64 x.box.lo.x,.int .i64 x.box.lo.y,.int .i64 x.box.lo.z,.int .i64 x.box.hi.x,.int .i64 x.box.hi.y,.int .i64 x.box.hi.z] rfl rfl _ Tryz.underlying25 rfl (by kernel_rfl) ?_))
 ((refine(HE.out _).mono ?_);rintro e wx ⟨rfl,xx⟩;have xz:=xx.size;(try simp only[World.size_alloc_]at xz);obtain⟨B0,cB0,fB0,lB0⟩:=Arr.look (w':=wx) B0 byX)
 have B1:=(Arr.new wa 25 [.int .i64 0,.int .i64 0,.int .i64 0,.int .i64 S,.int .i64 S,.int .i64 S]).ext xx;have cB1:=B1.cell;have fB1:=B1.frozen;have lB1:=B1.lt
 go_wp2_with (first | (refine wpList_load_part 23 (.tmp 42) rfl rfl B0 5 [.int .i64 x.box.lo.x,.int .i64 x.box.lo.y,.int .i64 x.box.lo.z] rfl rfl _ Tryz.underlying23 rfl (by kernel_rfl) ?_) | (refine wpList_load_part 23 (.tmp 42) rfl rfl (B0.alloc _) 5 [.int .i64 x.box.lo.x,.int .i64 x.box.lo.y,.int .i64 x.box.lo.z] rfl rfl _ Tryz.underlying23 rfl (by kernel_rfl) ?_) | (refine ldB 25 8 B1 Tryz.underlying25 ?_) | (refine ldB 25 8 (B1.alloc _) Tryz.underlying25 ?_) | (refine ldB 25 8 ((B1.alloc _).alloc _) Tryz.underlying25 ?_))
 ((refine(HL.out _).mono ?_);rintro e wi ⟨rfl,xx⟩;have xz:=xx.size;(try simp only[World.size_alloc_,World.size_setCell_]at xz);obtain⟨B0,cB0,fB0,lB0⟩:=Arr.look (w':=wi) B0 byX;obtain⟨B1,cB1,fB1,lB1⟩:=Arr.look (w':=wi) B1 byX)
 go_upto_region 10 with(first | (refine wpList_load_part 23 (.tmp 47) rfl rfl B0 8 [.int .i64 x.box.hi.x,.int .i64 x.box.hi.y,.int .i64 x.box.hi.z] rfl rfl _ Tryz.underlying23 rfl (by kernel_rfl) ?_) | (refine wpList_load_part 23 (.tmp 47) rfl rfl (B0.alloc _) 8 [.int .i64 x.box.hi.x,.int .i64 x.box.hi.y,.int .i64 x.box.hi.z] rfl rfl _ Tryz.underlying23 rfl (by kernel_rfl) ?_))
 have hx1:Ext w wi:=byX;obtain⟨W1,hW1⟩:∃ W,W=wi.alloc (.cells #[.int .i64 x.box.hi.x,.int .i64 x.box.hi.y,.int .i64 x.box.hi.z] 23):=⟨_,rfl⟩;have hx2:Ext w W1:=by rw[hW1];exact hx1.alloc _
 have B2:Arr W1 wi.heap.size 23 [.int .i64 x.box.hi.x,.int .i64 x.box.hi.y,.int .i64 x.box.hi.z]:=by rw[hW1];exact Arr.new wi _ _
 have B0:Arr W1 _ _ _:=hW1 ▸ B0.alloc _;have B1:Arr W1 _ _ _:=hW1 ▸ B1.alloc _;rw[← hW1];have cB0:=B0.cell;have cB1:=B1.cell;have cB2:=B2.cell;clear hW1
 go_cut [12] (fun v wc=>v = .bool bh∧wc=W1)
 case first=>
  go_wp2
  all_goals
   go_meet
   case rel=>exact⟨by rw[HH.out];first | (simp[*];done) | (simp[*];omega),rfl⟩
 case rest=>
 obtain⟨rfl,hwc⟩:=hcut;obtain rfl:=hwc.symm
 go_upto_region 11 with fail
 go_cut [9,10,12,13] (fun _ _ _ v wc=>v = .bool bx∧wc=W1)
 case first=>
  go_wp2
  all_goals
   go_meet
   case rel=>exact⟨by rw[HB1.out];first | (simp[*];done) | (simp[*];omega),rfl⟩
 case rest=>
 obtain⟨rfl,hwc⟩:=hcut;obtain rfl:=hwc.symm
 go_wp2_with (first | (refine wpList_load_part 23 (.tmp 79) rfl rfl B0 11 [.int .i64 x.at_.x,.int .i64 x.at_.y,.int .i64 x.at_.z] rfl rfl _ Tryz.underlying23 rfl (by kernel_rfl) ?_) | (refine wpList_load_part 23 (.tmp 79) rfl rfl (B0.alloc _) 11 [.int .i64 x.at_.x,.int .i64 x.at_.y,.int .i64 x.at_.z] rfl rfl _ Tryz.underlying23 rfl (by kernel_rfl) ?_) | (refine ldB 25 8 B1 Tryz.underlying25 ?_) | (refine ldB 25 8 (B1.alloc _) Tryz.underlying25 ?_) | (refine ldB 25 8 ((B1.alloc _).alloc _) Tryz.underlying25 ?_))
 ((refine(HA.out _).mono ?_);rintro e W2 ⟨rfl,xx⟩;have xz:=xx.size;(try simp only[World.size_alloc_,World.size_setCell_]at xz);obtain⟨B0,cB0,fB0,lB0⟩:=Arr.look (w':=W2) B0 byX)
 have hx3:Ext w W2:=hx2.trans xx
 go_upto_region 13 with fail
 go_cut [15] (fun v wc=>v = .bool bt∧wc=W2)
 case first=>
  go_wp2
  all_goals
   go_meet
   case rel=>exact⟨by rw[HT.out];first | (simp[*];done) | (simp[*];omega),rfl⟩
 case rest=>
 obtain⟨rfl,hwc⟩:=hcut;obtain rfl:=hwc.symm
 go_upto_region 14 with fail
 go_cut [16] (fun v wc=>v = .bool bc∧wc=W2)
 case first=>
  go_wp2
  all_goals
   go_meet
   case rel=>exact⟨by rw[HC.out];first | (simp[*];done) | (simp[*];omega),rfl⟩
 case rest=>
 obtain⟨rfl,hwc⟩:=hcut;obtain rfl:=hwc.symm;clear xx hx1 hx2
 rcases HKK.out with hk | hk | hk | hk | hk | hk | hk | hk
 all_goals
  have hr:=HR.out;simp[hk]at hr;have HR2:=Lib.hid hr;clear hr;go_wp2
  all_goals
   go_ret
   refine⟨ret_int ?_,hx3⟩;rw[HR2.out];clear hk lB0 lB1 cB0 cB1 cB2 fB0 fB1 d1 d2 m1 m2
   first | rfl | (simp[*];done) | (split <;> first | rfl | (exfalso;simp_all;done) | (exfalso;simp_all;omega))
theorem refCheck_any(x:Ed)(d m:Int)(w:World):
    Calls Tryz.prog 27 #[.agg #[.int .i64 x.st.tick,.int .i64 x.st.clock,.int .i64 x.st.site,.int .i64 x.st.seq,.int .i64 x.kind,.int .i64 x.box.lo.x,.int .i64 x.box.lo.y,.int .i64 x.box.lo.z,.int .i64 x.box.hi.x,.int .i64 x.box.hi.y,.int .i64 x.box.hi.z,.int .i64 x.at_.x,.int .i64 x.at_.y,.int .i64 x.at_.z,.int .i64 x.turn,.int .i64 x.cell,.int .i64 x.size],.int .i64 d,.int .i64 m] w fun e w'=>e = .returned (.int .i64 (checkR x d m))∧Ext w w':=by
 by_cases hd:2≤d∧d≤14
 · by_cases h:¬ (1≤m∧m≤256)∨formedE x=false
   · have e:checkR x d m=1:=by
       unfold checkR;rw[decide_eq_true hd]
       rcases h with h | h
       · rw[decide_eq_false h];rfl
       · rw[h];simp
     rw[e];exact refCheck_out x d m w hd h
   · have hm:1≤m∧m≤256:=Classical.byContradiction fun hh=>h (.inl hh);have hf:formedE x=true:=by
      cases hq:formedE x
      · exact absurd (.inr hq) h
      · rfl
     have hk:1≤x.kind∧x.kind≤8:=by
      have h:=formedE_def x;rw[hf]at h
      cases hq:decide (1≤x.kind∧x.kind≤8)
      · rw[hq]at h;simp at h
      · exact of_decide_eq_true hq
     have e:checkR x d m=if okE x (2 ^ d.toNat) m then 0 else 1:=by
      unfold checkR;rw[decide_eq_true hd,decide_eq_true hm,hf];rfl
     rw[e];exact refCheck_in x d m w hd hm hf (by omega)
 · have e:checkR x d m=13:=by unfold checkR;rw[decide_eq_false hd];rfl
   rw[e];exact refCheck_depth x d m w hd
theorem last_in(b:Bx)(S:Int)(_h0:S≤1000000)(h:inP b.lo (cubeB S)=true)(he:emptyB b=false)(hx:b.hi.x≤9223372036854775807∧b.hi.y≤9223372036854775807∧b.hi.z≤9223372036854775807):
    inP (lastP b) (cubeB S)=(decide (b.hi.x≤S) && (decide (b.hi.y≤S) && decide (b.hi.z≤S))):=by
 have h9:0≤b.lo.x∧0≤b.lo.y∧0≤b.lo.z∧b.lo.x < S∧b.lo.y < S∧b.lo.z < S:=by
  unfold inP cubeB at h;simp only[Bool.and_eq_true,decide_eq_true_eq]at h;exact⟨h.1,h.2.2.1,h.2.2.2.2.1,h.2.1,h.2.2.2.1,h.2.2.2.2.2⟩
 have he2:b.lo.x < b.hi.x∧b.lo.y < b.hi.y∧b.lo.z < b.hi.z:=by
  simp only[emptyB,inP,Bool.not_eq_false',Bool.and_eq_true,decide_eq_true_eq]at he;omega
 have w1:wrap64 (b.hi.x+wrap64 (-1 * 1))=b.hi.x - 1:=by
  have:wrap64 (-1 * 1) = -1:=by unfold wrap64;omega
  rw[this];unfold wrap64;omega
 have w2:wrap64 (b.hi.y+wrap64 (-1 * 1))=b.hi.y - 1:=by
  have:wrap64 (-1 * 1) = -1:=by unfold wrap64;omega
  rw[this];unfold wrap64;omega
 have w3:wrap64 (b.hi.z+wrap64 (-1 * 1))=b.hi.z - 1:=by
  have:wrap64 (-1 * 1) = -1:=by unfold wrap64;omega
  rw[this];unfold wrap64;omega
 rw[Bool.eq_iff_iff];simp only[lastP,addP,scaleP,inP,cubeB,w1,w2,w3,Bool.and_eq_true,decide_eq_true_eq];omega
theorem box_iff(x:Ed)(S:Int)(h0:S≤1000000)(hw:fits x):boxE x S = !(emptyB x.box || (!inP x.box.lo (cubeB S) || !inP (lastP x.box) (cubeB S))):=by
 unfold boxE hiE
 cases he:emptyB x.box
 · cases hl:inP x.box.lo (cubeB S)
   · rfl
   · rw[last_in x.box S h0 hl he hw];simp
 · rfl
theorem ok_bad(x:Ed)(S m:Int)(h0:S≤1000000)(hm:1≤m)(hf:formedE x=true)(hw:fits x):okE x S m = !badE x S m:=by
 have hb:=box_iff x S h0 hw;have hd:=formedE_def x;rw[hf]at hd;have hd:=hd.symm;simp only[Bool.and_eq_true,decide_eq_true_eq,Bool.or_eq_true]at hd;obtain⟨hv,hk,h1,h2,h4,h8,h16⟩:=hd;have hvv:=(validS_iff x.st).1 hv;rw[badE_def];have hk2:x.kind=1∨x.kind=2∨x.kind=3∨x.kind=4∨x.kind=5∨x.kind=6∨x.kind=7∨x.kind=8:=by omega
 generalize emptyB x.box=b1 at hb ⊢;generalize inP x.box.lo (cubeB S)=b2 at hb ⊢;generalize inP (lastP x.box) (cubeB S)=b3 at hb ⊢;generalize hba:inP x.at_ (cubeB S)=b4;unfold okE;rw[hb,hba];unfold turnE cellE leastE mostE
 rcases hk2 with h | h | h | h | h | h | h | h
 all_goals
  rw[h]at h1 h2 h4 h8 h16 ⊢;simp[usesF]at h1 h2 h4 h8 h16 ⊢;rw[Bool.eq_iff_iff]
  cases b1 <;> cases b2 <;> cases b3 <;> cases b4 <;> simp <;> omega
theorem check_eq(x:Ed)(d m:Int)(hw:fits x):checkR x d m=checkE x d m:=by
 unfold checkR checkE
 by_cases hd:2≤d∧d≤14
 · by_cases hm:1≤m∧m≤256
   · cases hf:formedE x
     · simp
     · have hS:(2:Int) ^ d.toNat≤1000000:=by
         obtain rfl | rfl | rfl | rfl | rfl | rfl | rfl | rfl | rfl | rfl | rfl | rfl | rfl:d=2∨d=3∨d=4∨d=5∨d=6∨d=7∨d=8∨d=9∨d=10∨d=11∨d=12∨d=13∨d=14:=by omega
         all_goals decide
       rw[ok_bad x _ m hS hm.1 hf hw]
       cases badE x (2 ^ d.toNat) m <;> simp
   · rw[decide_eq_false hm];simp
 · rw[decide_eq_false hd];simp
end Go.Proofs.YtoecbicdahbccaaGreatDoor
