/- A part of the walk of the layer of apply: contracts and plain laws that a row's text leans on. -/
import Derived.Test.YtoecbicdahbccaaGreatDoorZa30
set_option maxRecDepth 100000
set_option maxHeartbeats 16000000
namespace Go.Proofs.YtoecbicdahbccaaGreatDoor
open Go Go.RowKit
theorem inter_iff{p:Pt}{a b:Bx} : inP p (interB a b)=true↔inP p a=true∧inP p b=true:=⟨inter_sub,fun h=>in_inter h.1 h.2⟩
structure Brd (x:Ed) (d:Int) (r l:List Pt):Prop where
 sort:SortP l
 mem:∀ p,p∈l↔inP p (cubeD d)=true∧hitE x r p=true
theorem Brd.of{x:Ed}{d:Int}{r:List Pt}{b:Bx}{f:Pt→Bool}(h:∀ p,inP p (cubeD d)=true→((inP p b=true∧f p=true)↔hitE x r p=true)):Brd x d r ((boxL (interB b (cubeD d))).filter f) where
 sort:=(boxL_sort _).filter f
 mem p:=by
  rw[List.mem_filter,boxL_mem,inter_iff];constructor
  · rintro⟨⟨h1,h2⟩,h3⟩;exact⟨h2,(h p h2).1 ⟨h1,h3⟩⟩
  · rintro⟨h1,h2⟩;obtain⟨h3,h4⟩:=(h p h1).2 h2;exact⟨⟨h3,h1⟩,h4⟩
theorem brd1{x:Ed}(hk:x.kind=1)(d:Int):Brd x d [] ((boxL (interB x.box (cubeD d))).filter fun _=>true):=.of fun p _=>by unfold hitE;rw[hk];simp
theorem brd2{x:Ed}{d:Int}(hd:2≤d∧d≤14)(hk:x.kind=2)(ha:tinyP x.at_):Brd x d [] ((boxL (interB (ballBx x.at_ x.size) (cubeD d))).filter (ballQ x.at_ x.size)):=.of fun p hp=>by
 unfold hitE;rw[hk];exact⟨fun h=>h.2,fun h=>⟨ball_in ha (inCube_tiny hd hp) h,h⟩⟩
theorem brd3{x:Ed}(hk:x.kind=3)(d:Int):Brd x d [] ((boxL (interB x.box (cubeD d))).filter (prismR x.box x.turn)):=.of fun p _=>by
 unfold hitE;rw[hk];refine⟨fun h=>h.2,fun h=>⟨?_,h⟩⟩;have h2:prismR x.box x.turn p=true:=h;unfold prismR at h2;exact(Bool.and_eq_true_iff.1 h2).1
theorem brd4{x:Ed}(hk:x.kind=4)(d:Int):Brd x d [] ((boxL (interB (tgtB x.turn x.box x.at_) (cubeD d))).filter fun _=>true):=.of fun p _=>by unfold hitE;rw[hk];simp
theorem brd5{x:Ed}{d:Int}{g:Gr}(hb:g.box=cubeD d)(hk:x.kind=5){r:List Pt}{er:Int}(h:FloodOut (fld g) x.at_ x.size r er)(he:er=0):Brd x d r r:=by
 rcases h with⟨_,_,h⟩ | ⟨v,hv,⟨_,_,h⟩ | ⟨h,_,_⟩⟩
 · omega
 · omega
 · refine⟨h.sort,fun p=>?_⟩;unfold hitE;rw[hk];simp only[show ¬ (5:Int)=1 by decide,show ¬ (5:Int)=2 by decide,show ¬ (5:Int)=3 by decide,show ¬ (5:Int)=4 by decide,if_true,if_false,decide_eq_true_eq];refine⟨fun hp=>⟨?_,hp⟩,fun h=>h.2⟩;rw[← hb];exact fld_some (((h.mem p).1 hp).val hv)
theorem brd0{x:Ed}(hk:6≤x.kind)(d:Int):Brd x d [] []:=⟨List.Pairwise.nil,fun p=>by
 unfold hitE;rw[if_neg (by omega),if_neg (by omega),if_neg (by omega),if_neg (by omega),if_neg (by omega)];simp⟩
structure CellF (G:FuncId) (cb:Array Value) (N:Pt→Int) (l:List Pt) (w:World):Prop where
 enters:∀ args w,(callFunc G args).run Tryz.prog w = .ok (.enter G args) w
 call:∀ p,p∈l→∀ w',Ext w w'→Calls Tryz.prog G (#[.agg #[.int .i64 p.x,.int .i64 p.y,.int .i64 p.z]]++cb) w' fun e w''=>e = .returned (.int .i64 (N p))∧Ext w' w''
theorem CellF.ext{G:FuncId}{cb:Array Value}{N:Pt→Int}{l:List Pt}{w w':World}(h:CellF G cb N l w)(hx:Ext w w'):CellF G cb N l w':=⟨h.enters,fun p hp w2 h2=>h.call p hp w2 (hx.trans h2)⟩
def BrOut(g:Gr)(x:Ed)(d:Int)(w:World)(en:Ending)(w':World):Prop:=
 ∃ (v:Value) (G:FuncId) (cb:Array Value) (l r:List Pt) (er:Int),en = .returned (.tuple #[v,.func (.func G) #[] cb,.int .i64 er])∧Ext w w'∧OwP w.heap.size l v w'∧CellF G cb (newE x (matF g)) l w'∧
   (x.kind≠5→er=0∧r = [])∧(x.kind=5→FloodOut (fld g) x.at_ x.size r er)∧(er=0→Brd x d r l)
theorem cell1{x:Ed}{F:Pt→Int}{l:List Pt}{w:World}{bx:Nat}(hk:x.kind≠4)(h1:Arr w bx 32 [.int .i64 x.st.tick,.int .i64 x.st.clock,.int .i64 x.st.site,.int .i64 x.st.seq,.int .i64 x.kind,.int .i64 x.box.lo.x,.int .i64 x.box.lo.y,.int .i64 x.box.lo.z,.int .i64 x.box.hi.x,.int .i64 x.box.hi.y,.int .i64 x.box.hi.z,.int .i64 x.at_.x,.int .i64 x.at_.y,.int .i64 x.at_.z,.int .i64 x.turn,.int .i64 x.cell,.int .i64 x.size]):CellF 75 #[.pointer (some ⟨bx,0,none⟩)] (newE x F) l w:=
 ⟨fun _ _=>by kernel_rfl,fun p _ w' hx=>by
   have e:newE x F p=x.cell:=if_neg hk;rw[e];exact brushed1_any x p (h1.ext hx)⟩
theorem three_d{d:Int}(h:2≤d∧d≤3):0≤(2:Int) ^ d.toNat∧(2:Int) ^ d.toNat≤8:=by
 rcases (show d=2∨d=3 by omega)with e | e <;> subst e <;> decide
theorem brushed_1{g:Gr}{A:Option Addr}{c:Nat}{x:Ed}{d:Int}(hd:2≤d∧d≤3)(hk:x.kind=1)(w:World):Calls Tryz.prog 36 #[(.iface 73 (.agg #[.int .i64 g.box.lo.x,.int .i64 g.box.lo.y,.int .i64 g.box.lo.z,.int .i64 g.box.hi.x,.int .i64 g.box.hi.y,.int .i64 g.box.hi.z,.slice A g.cells.length c])),.agg #[.int .i64 x.st.tick,.int .i64 x.st.clock,.int .i64 x.st.site,.int .i64 x.st.seq,.int .i64 x.kind,.int .i64 x.box.lo.x,.int .i64 x.box.lo.y,.int .i64 x.box.lo.z,.int .i64 x.box.hi.x,.int .i64 x.box.hi.y,.int .i64 x.box.hi.z,.int .i64 x.at_.x,.int .i64 x.at_.y,.int .i64 x.at_.z,.int .i64 x.turn,.int .i64 x.cell,.int .i64 x.size],.int .i64 d] w (BrOut g x d w):=by
 have hm:=mixed;have hG:=near_old;obtain⟨W0,hW⟩:∃ W,W=(w.alloc (.cells #[(.iface 73 (.agg #[.int .i64 g.box.lo.x,.int .i64 g.box.lo.y,.int .i64 g.box.lo.z,.int .i64 g.box.hi.x,.int .i64 g.box.hi.y,.int .i64 g.box.hi.z,.slice A g.cells.length c]))] 36)).alloc (.cells #[.int .i64 x.st.tick,.int .i64 x.st.clock,.int .i64 x.st.site,.int .i64 x.st.seq,.int .i64 x.kind,.int .i64 x.box.lo.x,.int .i64 x.box.lo.y,.int .i64 x.box.lo.z,.int .i64 x.box.hi.x,.int .i64 x.box.hi.y,.int .i64 x.box.hi.z,.int .i64 x.at_.x,.int .i64 x.at_.y,.int .i64 x.at_.z,.int .i64 x.turn,.int .i64 x.cell,.int .i64 x.size] 32):=⟨_,rfl⟩;have HX:=Lib.hid (show Ext w W0 by rw[hW];exact((Ext.refl w).alloc _).alloc _);have H3:=Lib.hid (show Arr W0 w.heap.size 36 [(.iface 73 (.agg #[.int .i64 g.box.lo.x,.int .i64 g.box.lo.y,.int .i64 g.box.lo.z,.int .i64 g.box.hi.x,.int .i64 g.box.hi.y,.int .i64 g.box.hi.z,.slice A g.cells.length c]))]by rw[hW];exact(Arr.new w 36 [(.iface 73 (.agg #[.int .i64 g.box.lo.x,.int .i64 g.box.lo.y,.int .i64 g.box.lo.z,.int .i64 g.box.hi.x,.int .i64 g.box.hi.y,.int .i64 g.box.hi.z,.slice A g.cells.length c]))]).alloc _);have H4:=Lib.hid (show Arr W0 (w.heap.size+1) 32 [.int .i64 x.st.tick,.int .i64 x.st.clock,.int .i64 x.st.site,.int .i64 x.st.seq,.int .i64 x.kind,.int .i64 x.box.lo.x,.int .i64 x.box.lo.y,.int .i64 x.box.lo.z,.int .i64 x.box.hi.x,.int .i64 x.box.hi.y,.int .i64 x.box.hi.z,.int .i64 x.at_.x,.int .i64 x.at_.y,.int .i64 x.at_.z,.int .i64 x.turn,.int .i64 x.cell,.int .i64 x.size]by rw[hW];have h:=Arr.new (w.alloc (.cells #[(.iface 73 (.agg #[.int .i64 g.box.lo.x,.int .i64 g.box.lo.y,.int .i64 g.box.lo.z,.int .i64 g.box.hi.x,.int .i64 g.box.hi.y,.int .i64 g.box.hi.z,.slice A g.cells.length c]))] 36)) 32 [.int .i64 x.st.tick,.int .i64 x.st.clock,.int .i64 x.st.site,.int .i64 x.st.seq,.int .i64 x.kind,.int .i64 x.box.lo.x,.int .i64 x.box.lo.y,.int .i64 x.box.lo.z,.int .i64 x.box.hi.x,.int .i64 x.box.hi.y,.int .i64 x.box.hi.z,.int .i64 x.at_.x,.int .i64 x.at_.y,.int .i64 x.at_.z,.int .i64 x.turn,.int .i64 x.cell,.int .i64 x.size];simp only[World.size_alloc_]at h;exact h);have hm:=mixed;have h3:=three_d hd;have hd14:2≤d∧d≤14:=by omega
 have hsh:=shl_run d hd14;have hw6:wrap64 ((2:Int) ^ d.toNat)=(2:Int) ^ d.toNat:=pow_w d hd14;have HC:=Lib.hid (Cube_any (2 ^ d.toNat));have HB:=Lib.hid (show ∀ W:World,Calls Tryz.prog 76 #[.agg #[.int .i64 x.box.lo.x,.int .i64 x.box.lo.y,.int .i64 x.box.lo.z,.int .i64 x.box.hi.x,.int .i64 x.box.hi.y,.int .i64 x.box.hi.z],.agg #[.int .i64 0,.int .i64 0,.int .i64 0,.int .i64 (2 ^ d.toNat),.int .i64 (2 ^ d.toNat),.int .i64 (2 ^ d.toNat)]] W (RetL ((boxL (interB x.box (cubeD d))).filter fun _=>true) W)from fun W=>Box_any (b:=x.box) (clip:=cubeD d) rfl (InC.inter x.box h3) W);obtain⟨L,hL⟩:∃ L,L=(boxL (interB x.box (cubeD d))).filter fun _=>true:=⟨_,rfl⟩;rw[← hL]at HB;have HL:=Lib.hid hL;clear hL;obtain⟨S,hS⟩:∃ S:Int,(2:Int) ^ d.toNat=S:=⟨_,rfl⟩;rw[hS]at hsh HC HB;rw (occs:=.pos [2]) [hS]at hw6;clear hS;have HK:=Lib.hid hk;clear h3 hk
 go_enter Tryz.func36,Tryz.ntmps36
 go_upto_region 1 with fail
 rw[← hW];clear hW;have hk:=HK.out
 go_upto_region 2 with(first
  | (go_at_call 69;refine(HC.out _).mono ?_;rintro e W1 ⟨rfl,hx⟩;replace HX:=xEx HX hx;replace H3:=aEx H3 hx;replace H4:=aEx H4 hx;clear hx)
  | (refine wpList_store_blk2 25 (.tmp 9) (.tmp 12) rfl rfl (Arr.new W1 25 [.int .i64 0,.int .i64 0,.int .i64 0,.int .i64 0,.int .i64 0,.int .i64 0]) [.int .i64 0,.int .i64 0,.int .i64 0,.int .i64 S,.int .i64 S,.int .i64 S] rfl rfl (by kernel_rfl) rfl rfl rfl ?_;intro W2 hW;have Q3_9:=aLt H3;have Q4_9:=aLt H4;have Qw_9:=Lib.hid HX.out.size;replace HX:=xNew HX hW;replace H3:=aNew H3 hW;replace H4:=aNew H4 hW;have H9:=nNew hW;clear hW))
 obtain⟨b9,hb9⟩:∃ n,n=W1.heap.size:=⟨_,rfl⟩;rw[← hb9]at H9 Q3_9 Q4_9 Qw_9 ⊢;clear hb9
 go_upto_region 3 with fail
 have c4:=H4.out.cell;have l4:=H4.out.lt
 go_upto_region 4 with fail
 clear c4 l4
 go_upto_region 5 with fail
 go_upto_region 15 with(first
  | (refine wpList_load_part 25 (.tmp 19) rfl rfl H4.out 5 [.int .i64 x.box.lo.x,.int .i64 x.box.lo.y,.int .i64 x.box.lo.z,.int .i64 x.box.hi.x,.int .i64 x.box.hi.y,.int .i64 x.box.hi.z] rfl rfl _ Tryz.underlying25 rfl (by kernel_rfl) ?_) | (refine wpList_load_part 25 (.tmp 19) rfl rfl (H4.out.alloc _) 5 [.int .i64 x.box.lo.x,.int .i64 x.box.lo.y,.int .i64 x.box.lo.z,.int .i64 x.box.hi.x,.int .i64 x.box.hi.y,.int .i64 x.box.hi.z] rfl rfl _ Tryz.underlying25 rfl (by kernel_rfl) ?_)
  | (refine ldB 25 9 H9.out Tryz.underlying25 ?_) | (refine ldB 25 9 (H9.out.alloc _) Tryz.underlying25 ?_) | (refine ldB 25 9 ((H9.out.alloc _).alloc _) Tryz.underlying25 ?_)
  | (go_at_call 76;refine(HB.out _).mono ?_;rintro e W3 ⟨v,rfl,ho,hx⟩;have HO:=Lib.hid (own_low_mono HX.out.size ho);clear ho;replace HX:=xEx HX hx;replace H3:=aEx H3 hx;replace H4:=aEx H4 hx;replace H9:=aEx H9 hx))
 go_wp2_with fail
 go_ret3
 rw[HL.out]at HO;exact⟨_,_,_,_,[],0,rfl,HX.out,HO.out,cell1 (by omega) H4.out,fun _=>⟨rfl,rfl⟩,fun h=>absurd h (by omega),fun _=>brd1 hk d⟩
theorem brushed_2{g:Gr}{A:Option Addr}{c:Nat}{x:Ed}{d:Int}(hd:2≤d∧d≤3)(hk:x.kind=2)(ha:tinyP x.at_)(hn:1≤x.size∧x.size≤4096)(w:World):Calls Tryz.prog 36 #[(.iface 73 (.agg #[.int .i64 g.box.lo.x,.int .i64 g.box.lo.y,.int .i64 g.box.lo.z,.int .i64 g.box.hi.x,.int .i64 g.box.hi.y,.int .i64 g.box.hi.z,.slice A g.cells.length c])),.agg #[.int .i64 x.st.tick,.int .i64 x.st.clock,.int .i64 x.st.site,.int .i64 x.st.seq,.int .i64 x.kind,.int .i64 x.box.lo.x,.int .i64 x.box.lo.y,.int .i64 x.box.lo.z,.int .i64 x.box.hi.x,.int .i64 x.box.hi.y,.int .i64 x.box.hi.z,.int .i64 x.at_.x,.int .i64 x.at_.y,.int .i64 x.at_.z,.int .i64 x.turn,.int .i64 x.cell,.int .i64 x.size],.int .i64 d] w (BrOut g x d w):=by
 have hm:=mixed;have hG:=near_old;obtain⟨W0,hW⟩:∃ W,W=(w.alloc (.cells #[(.iface 73 (.agg #[.int .i64 g.box.lo.x,.int .i64 g.box.lo.y,.int .i64 g.box.lo.z,.int .i64 g.box.hi.x,.int .i64 g.box.hi.y,.int .i64 g.box.hi.z,.slice A g.cells.length c]))] 36)).alloc (.cells #[.int .i64 x.st.tick,.int .i64 x.st.clock,.int .i64 x.st.site,.int .i64 x.st.seq,.int .i64 x.kind,.int .i64 x.box.lo.x,.int .i64 x.box.lo.y,.int .i64 x.box.lo.z,.int .i64 x.box.hi.x,.int .i64 x.box.hi.y,.int .i64 x.box.hi.z,.int .i64 x.at_.x,.int .i64 x.at_.y,.int .i64 x.at_.z,.int .i64 x.turn,.int .i64 x.cell,.int .i64 x.size] 32):=⟨_,rfl⟩;have HX:=Lib.hid (show Ext w W0 by rw[hW];exact((Ext.refl w).alloc _).alloc _);have H3:=Lib.hid (show Arr W0 w.heap.size 36 [(.iface 73 (.agg #[.int .i64 g.box.lo.x,.int .i64 g.box.lo.y,.int .i64 g.box.lo.z,.int .i64 g.box.hi.x,.int .i64 g.box.hi.y,.int .i64 g.box.hi.z,.slice A g.cells.length c]))]by rw[hW];exact(Arr.new w 36 [(.iface 73 (.agg #[.int .i64 g.box.lo.x,.int .i64 g.box.lo.y,.int .i64 g.box.lo.z,.int .i64 g.box.hi.x,.int .i64 g.box.hi.y,.int .i64 g.box.hi.z,.slice A g.cells.length c]))]).alloc _);have H4:=Lib.hid (show Arr W0 (w.heap.size+1) 32 [.int .i64 x.st.tick,.int .i64 x.st.clock,.int .i64 x.st.site,.int .i64 x.st.seq,.int .i64 x.kind,.int .i64 x.box.lo.x,.int .i64 x.box.lo.y,.int .i64 x.box.lo.z,.int .i64 x.box.hi.x,.int .i64 x.box.hi.y,.int .i64 x.box.hi.z,.int .i64 x.at_.x,.int .i64 x.at_.y,.int .i64 x.at_.z,.int .i64 x.turn,.int .i64 x.cell,.int .i64 x.size]by rw[hW];have h:=Arr.new (w.alloc (.cells #[(.iface 73 (.agg #[.int .i64 g.box.lo.x,.int .i64 g.box.lo.y,.int .i64 g.box.lo.z,.int .i64 g.box.hi.x,.int .i64 g.box.hi.y,.int .i64 g.box.hi.z,.slice A g.cells.length c]))] 36)) 32 [.int .i64 x.st.tick,.int .i64 x.st.clock,.int .i64 x.st.site,.int .i64 x.st.seq,.int .i64 x.kind,.int .i64 x.box.lo.x,.int .i64 x.box.lo.y,.int .i64 x.box.lo.z,.int .i64 x.box.hi.x,.int .i64 x.box.hi.y,.int .i64 x.box.hi.z,.int .i64 x.at_.x,.int .i64 x.at_.y,.int .i64 x.at_.z,.int .i64 x.turn,.int .i64 x.cell,.int .i64 x.size];simp only[World.size_alloc_]at h;exact h);have hm:=mixed;have h3:=three_d hd;have hd14:2≤d∧d≤14:=by omega
 have hsh:=shl_run d hd14;have hw6:wrap64 ((2:Int) ^ d.toNat)=(2:Int) ^ d.toNat:=pow_w d hd14;have HC:=Lib.hid (Cube_any (2 ^ d.toNat));have HB:=Lib.hid (show ∀ W:World,Calls Tryz.prog 77 #[.agg #[.int .i64 x.at_.x,.int .i64 x.at_.y,.int .i64 x.at_.z],.int .i64 x.size,.agg #[.int .i64 0,.int .i64 0,.int .i64 0,.int .i64 (2 ^ d.toNat),.int .i64 (2 ^ d.toNat),.int .i64 (2 ^ d.toNat)]] W (RetL ((boxL (interB (ballBx x.at_ x.size) (cubeD d))).filter (ballQ x.at_ x.size)) W)from fun W=>Ball_any (clip:=cubeD d) hn rfl (InC.inter _ h3) ha W);obtain⟨L,hL⟩:∃ L,L=(boxL (interB (ballBx x.at_ x.size) (cubeD d))).filter (ballQ x.at_ x.size):=⟨_,rfl⟩;rw[← hL]at HB;have HL:=Lib.hid hL;clear hL;obtain⟨S,hS⟩:∃ S:Int,(2:Int) ^ d.toNat=S:=⟨_,rfl⟩;rw[hS]at hsh HC HB;rw (occs:=.pos [2]) [hS]at hw6;clear hS;have HK:=Lib.hid hk;clear h3 hk
 go_enter Tryz.func36,Tryz.ntmps36
 go_upto_region 1 with fail
 rw[← hW];clear hW;have hk:=HK.out
 go_upto_region 2 with(first
  | (go_at_call 69;refine(HC.out _).mono ?_;rintro e W1 ⟨rfl,hx⟩;replace HX:=xEx HX hx;replace H3:=aEx H3 hx;replace H4:=aEx H4 hx;clear hx)
  | (refine wpList_store_blk2 25 (.tmp 9) (.tmp 12) rfl rfl (Arr.new W1 25 [.int .i64 0,.int .i64 0,.int .i64 0,.int .i64 0,.int .i64 0,.int .i64 0]) [.int .i64 0,.int .i64 0,.int .i64 0,.int .i64 S,.int .i64 S,.int .i64 S] rfl rfl (by kernel_rfl) rfl rfl rfl ?_;intro W2 hW;have Q3_9:=aLt H3;have Q4_9:=aLt H4;have Qw_9:=Lib.hid HX.out.size;replace HX:=xNew HX hW;replace H3:=aNew H3 hW;replace H4:=aNew H4 hW;have H9:=nNew hW;clear hW))
 obtain⟨b9,hb9⟩:∃ n,n=W1.heap.size:=⟨_,rfl⟩;rw[← hb9]at H9 Q3_9 Q4_9 Qw_9 ⊢;clear hb9
 go_upto_region 3 with fail
 have c4:=H4.out.cell;have l4:=H4.out.lt
 go_upto_region 4 with fail
 clear c4 l4
 go_upto_region 6 with fail
 go_upto_region 7 with fail
 have c4:=H4.out.cell;have l4:=H4.out.lt
 go_upto_region 15 with(first
  | (refine wpList_load_part 23 (.tmp 28) rfl rfl H4.out 11 [.int .i64 x.at_.x,.int .i64 x.at_.y,.int .i64 x.at_.z] rfl rfl _ Tryz.underlying23 rfl (by kernel_rfl) ?_) | (refine wpList_load_part 23 (.tmp 28) rfl rfl (H4.out.alloc _) 11 [.int .i64 x.at_.x,.int .i64 x.at_.y,.int .i64 x.at_.z] rfl rfl _ Tryz.underlying23 rfl (by kernel_rfl) ?_)
  | (refine ldB 25 9 H9.out Tryz.underlying25 ?_) | (refine ldB 25 9 (H9.out.alloc _) Tryz.underlying25 ?_) | (refine ldB 25 9 ((H9.out.alloc _).alloc _) Tryz.underlying25 ?_)
  | (go_at_call 77;refine(HB.out _).mono ?_;rintro e W3 ⟨v,rfl,ho,hx⟩;have HO:=Lib.hid (own_low_mono HX.out.size ho);clear ho;replace HX:=xEx HX hx;replace H3:=aEx H3 hx;replace H4:=aEx H4 hx;replace H9:=aEx H9 hx))
 clear c4 l4
 go_wp2_with fail
 go_ret3
 rw[HL.out]at HO;exact⟨_,_,_,_,[],0,rfl,HX.out,HO.out,cell1 (by omega) H4.out,fun _=>⟨rfl,rfl⟩,fun h=>absurd h (by omega),fun _=>brd2 hd14 hk ha⟩
theorem brushed_3{g:Gr}{A:Option Addr}{c:Nat}{x:Ed}{d:Int}(hd:2≤d∧d≤3)(hk:x.kind=3)(hs:0≤x.turn∧x.turn < 48)(w:World)(hA:AxesIn w):Calls Tryz.prog 36 #[(.iface 73 (.agg #[.int .i64 g.box.lo.x,.int .i64 g.box.lo.y,.int .i64 g.box.lo.z,.int .i64 g.box.hi.x,.int .i64 g.box.hi.y,.int .i64 g.box.hi.z,.slice A g.cells.length c])),.agg #[.int .i64 x.st.tick,.int .i64 x.st.clock,.int .i64 x.st.site,.int .i64 x.st.seq,.int .i64 x.kind,.int .i64 x.box.lo.x,.int .i64 x.box.lo.y,.int .i64 x.box.lo.z,.int .i64 x.box.hi.x,.int .i64 x.box.hi.y,.int .i64 x.box.hi.z,.int .i64 x.at_.x,.int .i64 x.at_.y,.int .i64 x.at_.z,.int .i64 x.turn,.int .i64 x.cell,.int .i64 x.size],.int .i64 d] w (BrOut g x d w):=by
 have hm:=mixed;have hG:=near_old;obtain⟨W0,hW⟩:∃ W,W=(w.alloc (.cells #[(.iface 73 (.agg #[.int .i64 g.box.lo.x,.int .i64 g.box.lo.y,.int .i64 g.box.lo.z,.int .i64 g.box.hi.x,.int .i64 g.box.hi.y,.int .i64 g.box.hi.z,.slice A g.cells.length c]))] 36)).alloc (.cells #[.int .i64 x.st.tick,.int .i64 x.st.clock,.int .i64 x.st.site,.int .i64 x.st.seq,.int .i64 x.kind,.int .i64 x.box.lo.x,.int .i64 x.box.lo.y,.int .i64 x.box.lo.z,.int .i64 x.box.hi.x,.int .i64 x.box.hi.y,.int .i64 x.box.hi.z,.int .i64 x.at_.x,.int .i64 x.at_.y,.int .i64 x.at_.z,.int .i64 x.turn,.int .i64 x.cell,.int .i64 x.size] 32):=⟨_,rfl⟩;have HX:=Lib.hid (show Ext w W0 by rw[hW];exact((Ext.refl w).alloc _).alloc _);have H3:=Lib.hid (show Arr W0 w.heap.size 36 [(.iface 73 (.agg #[.int .i64 g.box.lo.x,.int .i64 g.box.lo.y,.int .i64 g.box.lo.z,.int .i64 g.box.hi.x,.int .i64 g.box.hi.y,.int .i64 g.box.hi.z,.slice A g.cells.length c]))]by rw[hW];exact(Arr.new w 36 [(.iface 73 (.agg #[.int .i64 g.box.lo.x,.int .i64 g.box.lo.y,.int .i64 g.box.lo.z,.int .i64 g.box.hi.x,.int .i64 g.box.hi.y,.int .i64 g.box.hi.z,.slice A g.cells.length c]))]).alloc _);have H4:=Lib.hid (show Arr W0 (w.heap.size+1) 32 [.int .i64 x.st.tick,.int .i64 x.st.clock,.int .i64 x.st.site,.int .i64 x.st.seq,.int .i64 x.kind,.int .i64 x.box.lo.x,.int .i64 x.box.lo.y,.int .i64 x.box.lo.z,.int .i64 x.box.hi.x,.int .i64 x.box.hi.y,.int .i64 x.box.hi.z,.int .i64 x.at_.x,.int .i64 x.at_.y,.int .i64 x.at_.z,.int .i64 x.turn,.int .i64 x.cell,.int .i64 x.size]by rw[hW];have h:=Arr.new (w.alloc (.cells #[(.iface 73 (.agg #[.int .i64 g.box.lo.x,.int .i64 g.box.lo.y,.int .i64 g.box.lo.z,.int .i64 g.box.hi.x,.int .i64 g.box.hi.y,.int .i64 g.box.hi.z,.slice A g.cells.length c]))] 36)) 32 [.int .i64 x.st.tick,.int .i64 x.st.clock,.int .i64 x.st.site,.int .i64 x.st.seq,.int .i64 x.kind,.int .i64 x.box.lo.x,.int .i64 x.box.lo.y,.int .i64 x.box.lo.z,.int .i64 x.box.hi.x,.int .i64 x.box.hi.y,.int .i64 x.box.hi.z,.int .i64 x.at_.x,.int .i64 x.at_.y,.int .i64 x.at_.z,.int .i64 x.turn,.int .i64 x.cell,.int .i64 x.size];simp only[World.size_alloc_]at h;exact h);have hm:=mixed;have h3:=three_d hd;have hd14:2≤d∧d≤14:=by omega
 have hsh:=shl_run d hd14;have hw6:wrap64 ((2:Int) ^ d.toNat)=(2:Int) ^ d.toNat:=pow_w d hd14;have HC:=Lib.hid (Cube_any (2 ^ d.toNat));have HB:=Lib.hid (show ∀ W:World,Ext w W→Calls Tryz.prog 78 #[.agg #[.int .i64 x.box.lo.x,.int .i64 x.box.lo.y,.int .i64 x.box.lo.z,.int .i64 x.box.hi.x,.int .i64 x.box.hi.y,.int .i64 x.box.hi.z],.int .i64 x.turn,.agg #[.int .i64 0,.int .i64 0,.int .i64 0,.int .i64 (2 ^ d.toNat),.int .i64 (2 ^ d.toNat),.int .i64 (2 ^ d.toNat)]] W (RetL ((boxL (interB x.box (cubeD d))).filter (prismR x.box x.turn)) W)from fun W hx=>Prism_any (clip:=cubeD d) hs rfl (InC.inter x.box h3) W (hA.ext hx));obtain⟨L,hL⟩:∃ L,L=(boxL (interB x.box (cubeD d))).filter (prismR x.box x.turn):=⟨_,rfl⟩;rw[← hL]at HB;have HL:=Lib.hid hL;clear hL;obtain⟨S,hS⟩:∃ S:Int,(2:Int) ^ d.toNat=S:=⟨_,rfl⟩;rw[hS]at hsh HC HB;rw (occs:=.pos [2]) [hS]at hw6;clear hS;have HK:=Lib.hid hk;clear h3 hk;clear hA
 go_enter Tryz.func36,Tryz.ntmps36
 go_upto_region 1 with fail
 rw[← hW];clear hW;have hk:=HK.out
 go_upto_region 2 with(first
  | (go_at_call 69;refine(HC.out _).mono ?_;rintro e W1 ⟨rfl,hx⟩;replace HX:=xEx HX hx;replace H3:=aEx H3 hx;replace H4:=aEx H4 hx;clear hx)
  | (refine wpList_store_blk2 25 (.tmp 9) (.tmp 12) rfl rfl (Arr.new W1 25 [.int .i64 0,.int .i64 0,.int .i64 0,.int .i64 0,.int .i64 0,.int .i64 0]) [.int .i64 0,.int .i64 0,.int .i64 0,.int .i64 S,.int .i64 S,.int .i64 S] rfl rfl (by kernel_rfl) rfl rfl rfl ?_;intro W2 hW;have Q3_9:=aLt H3;have Q4_9:=aLt H4;have Qw_9:=Lib.hid HX.out.size;replace HX:=xNew HX hW;replace H3:=aNew H3 hW;replace H4:=aNew H4 hW;have H9:=nNew hW;clear hW))
 obtain⟨b9,hb9⟩:∃ n,n=W1.heap.size:=⟨_,rfl⟩;rw[← hb9]at H9 Q3_9 Q4_9 Qw_9 ⊢;clear hb9
 go_upto_region 3 with fail
 have c4:=H4.out.cell;have l4:=H4.out.lt
 go_upto_region 4 with fail
 clear c4 l4
 go_upto_region 6 with fail
 go_upto_region 8 with fail
 go_upto_region 9 with fail
 have c4:=H4.out.cell;have l4:=H4.out.lt
 go_upto_region 15 with(first
  | (refine wpList_load_part 25 (.tmp 39) rfl rfl H4.out 5 [.int .i64 x.box.lo.x,.int .i64 x.box.lo.y,.int .i64 x.box.lo.z,.int .i64 x.box.hi.x,.int .i64 x.box.hi.y,.int .i64 x.box.hi.z] rfl rfl _ Tryz.underlying25 rfl (by kernel_rfl) ?_) | (refine wpList_load_part 25 (.tmp 39) rfl rfl (H4.out.alloc _) 5 [.int .i64 x.box.lo.x,.int .i64 x.box.lo.y,.int .i64 x.box.lo.z,.int .i64 x.box.hi.x,.int .i64 x.box.hi.y,.int .i64 x.box.hi.z] rfl rfl _ Tryz.underlying25 rfl (by kernel_rfl) ?_)
  | (refine ldB 25 9 H9.out Tryz.underlying25 ?_) | (refine ldB 25 9 (H9.out.alloc _) Tryz.underlying25 ?_) | (refine ldB 25 9 ((H9.out.alloc _).alloc _) Tryz.underlying25 ?_)
  | (go_at_call 78;refine(HB.out _ HX.out).mono ?_;rintro e W3 ⟨v,rfl,ho,hx⟩;have HO:=Lib.hid (own_low_mono HX.out.size ho);clear ho;replace HX:=xEx HX hx;replace H3:=aEx H3 hx;replace H4:=aEx H4 hx;replace H9:=aEx H9 hx))
 clear c4 l4
 go_wp2_with fail
 go_ret3
 rw[HL.out]at HO;exact⟨_,_,_,_,[],0,rfl,HX.out,HO.out,cell1 (by omega) H4.out,fun _=>⟨rfl,rfl⟩,fun h=>absurd h (by omega),fun _=>brd3 hk d⟩
theorem brushed_0{g:Gr}{A:Option Addr}{c:Nat}{x:Ed}{d:Int}(hd:2≤d∧d≤3)(hk:6≤x.kind)(w:World):Calls Tryz.prog 36 #[(.iface 73 (.agg #[.int .i64 g.box.lo.x,.int .i64 g.box.lo.y,.int .i64 g.box.lo.z,.int .i64 g.box.hi.x,.int .i64 g.box.hi.y,.int .i64 g.box.hi.z,.slice A g.cells.length c])),.agg #[.int .i64 x.st.tick,.int .i64 x.st.clock,.int .i64 x.st.site,.int .i64 x.st.seq,.int .i64 x.kind,.int .i64 x.box.lo.x,.int .i64 x.box.lo.y,.int .i64 x.box.lo.z,.int .i64 x.box.hi.x,.int .i64 x.box.hi.y,.int .i64 x.box.hi.z,.int .i64 x.at_.x,.int .i64 x.at_.y,.int .i64 x.at_.z,.int .i64 x.turn,.int .i64 x.cell,.int .i64 x.size],.int .i64 d] w (BrOut g x d w):=by
 have hm:=mixed;have hG:=near_old;obtain⟨W0,hW⟩:∃ W,W=(w.alloc (.cells #[(.iface 73 (.agg #[.int .i64 g.box.lo.x,.int .i64 g.box.lo.y,.int .i64 g.box.lo.z,.int .i64 g.box.hi.x,.int .i64 g.box.hi.y,.int .i64 g.box.hi.z,.slice A g.cells.length c]))] 36)).alloc (.cells #[.int .i64 x.st.tick,.int .i64 x.st.clock,.int .i64 x.st.site,.int .i64 x.st.seq,.int .i64 x.kind,.int .i64 x.box.lo.x,.int .i64 x.box.lo.y,.int .i64 x.box.lo.z,.int .i64 x.box.hi.x,.int .i64 x.box.hi.y,.int .i64 x.box.hi.z,.int .i64 x.at_.x,.int .i64 x.at_.y,.int .i64 x.at_.z,.int .i64 x.turn,.int .i64 x.cell,.int .i64 x.size] 32):=⟨_,rfl⟩;have HX:=Lib.hid (show Ext w W0 by rw[hW];exact((Ext.refl w).alloc _).alloc _);have H3:=Lib.hid (show Arr W0 w.heap.size 36 [(.iface 73 (.agg #[.int .i64 g.box.lo.x,.int .i64 g.box.lo.y,.int .i64 g.box.lo.z,.int .i64 g.box.hi.x,.int .i64 g.box.hi.y,.int .i64 g.box.hi.z,.slice A g.cells.length c]))]by rw[hW];exact(Arr.new w 36 [(.iface 73 (.agg #[.int .i64 g.box.lo.x,.int .i64 g.box.lo.y,.int .i64 g.box.lo.z,.int .i64 g.box.hi.x,.int .i64 g.box.hi.y,.int .i64 g.box.hi.z,.slice A g.cells.length c]))]).alloc _);have H4:=Lib.hid (show Arr W0 (w.heap.size+1) 32 [.int .i64 x.st.tick,.int .i64 x.st.clock,.int .i64 x.st.site,.int .i64 x.st.seq,.int .i64 x.kind,.int .i64 x.box.lo.x,.int .i64 x.box.lo.y,.int .i64 x.box.lo.z,.int .i64 x.box.hi.x,.int .i64 x.box.hi.y,.int .i64 x.box.hi.z,.int .i64 x.at_.x,.int .i64 x.at_.y,.int .i64 x.at_.z,.int .i64 x.turn,.int .i64 x.cell,.int .i64 x.size]by rw[hW];have h:=Arr.new (w.alloc (.cells #[(.iface 73 (.agg #[.int .i64 g.box.lo.x,.int .i64 g.box.lo.y,.int .i64 g.box.lo.z,.int .i64 g.box.hi.x,.int .i64 g.box.hi.y,.int .i64 g.box.hi.z,.slice A g.cells.length c]))] 36)) 32 [.int .i64 x.st.tick,.int .i64 x.st.clock,.int .i64 x.st.site,.int .i64 x.st.seq,.int .i64 x.kind,.int .i64 x.box.lo.x,.int .i64 x.box.lo.y,.int .i64 x.box.lo.z,.int .i64 x.box.hi.x,.int .i64 x.box.hi.y,.int .i64 x.box.hi.z,.int .i64 x.at_.x,.int .i64 x.at_.y,.int .i64 x.at_.z,.int .i64 x.turn,.int .i64 x.cell,.int .i64 x.size];simp only[World.size_alloc_]at h;exact h);have hm:=mixed;have h3:=three_d hd;have hd14:2≤d∧d≤14:=by omega
 have hsh:=shl_run d hd14;have hw6:wrap64 ((2:Int) ^ d.toNat)=(2:Int) ^ d.toNat:=pow_w d hd14;have HC:=Lib.hid (Cube_any (2 ^ d.toNat));obtain⟨S,hS⟩:∃ S:Int,(2:Int) ^ d.toNat=S:=⟨_,rfl⟩;rw[hS]at hsh HC;rw (occs:=.pos [2]) [hS]at hw6;clear hS;clear h3;have HK:=Lib.hid hk;have n1:(x.kind == 1)=false:=by simp;omega
 have n2:(x.kind == 2)=false:=by simp;omega
 have n3:(x.kind == 3)=false:=by simp;omega
 have n4:(x.kind == 4)=false:=by simp;omega
 have n5:(x.kind == 5)=false:=by simp;omega
 clear hk
 go_enter Tryz.func36,Tryz.ntmps36
 go_upto_region 1 with fail
 rw[← hW];clear hW;have hk:=HK.out
 go_upto_region 2 with(first
  | (go_at_call 69;refine(HC.out _).mono ?_;rintro e W1 ⟨rfl,hx⟩;replace HX:=xEx HX hx;replace H3:=aEx H3 hx;replace H4:=aEx H4 hx;clear hx)
  | (refine wpList_store_blk2 25 (.tmp 9) (.tmp 12) rfl rfl (Arr.new W1 25 [.int .i64 0,.int .i64 0,.int .i64 0,.int .i64 0,.int .i64 0,.int .i64 0]) [.int .i64 0,.int .i64 0,.int .i64 0,.int .i64 S,.int .i64 S,.int .i64 S] rfl rfl (by kernel_rfl) rfl rfl rfl ?_;intro W2 hW;have Q3_9:=aLt H3;have Q4_9:=aLt H4;have Qw_9:=Lib.hid HX.out.size;replace HX:=xNew HX hW;replace H3:=aNew H3 hW;replace H4:=aNew H4 hW;have H9:=nNew hW;clear hW))
 obtain⟨b9,hb9⟩:∃ n,n=W1.heap.size:=⟨_,rfl⟩;rw[← hb9]at H9 Q3_9 Q4_9 Qw_9 ⊢;clear hb9
 go_upto_region 3 with fail
 have c4:=H4.out.cell;have l4:=H4.out.lt
 go_upto_region 4 with fail
 clear c4 l4
 go_upto_region 6 with fail
 go_upto_region 8 with fail
 go_upto_region 10 with fail
 go_upto_region 12 with fail
 go_upto_region 15 with fail
 go_wp2_with fail
 go_ret3
 exact⟨_,_,_,[],[],0,rfl,HX.out,⟨by simp[rowsP],.inl ⟨rfl,rfl⟩⟩,cell1 (by omega) H4.out,fun _=>⟨rfl,rfl⟩,fun h=>absurd h (by omega),fun _=>brd0 hk d⟩
theorem brushed_5{g:Gr}{A:Option Addr}{c:Nat}{x:Ed}{d:Int}(hd:2≤d∧d≤3)(hk:x.kind=5)(hv:validG g=true)(hln:g.cells.length≤80000)(hb:g.box=cubeD d)(w:World)(hst:StepsIn w)(hs:Sv w w.heap.size 1 A c (rowsI g.cells)):Calls Tryz.prog 36 #[(.iface 73 (.agg #[.int .i64 g.box.lo.x,.int .i64 g.box.lo.y,.int .i64 g.box.lo.z,.int .i64 g.box.hi.x,.int .i64 g.box.hi.y,.int .i64 g.box.hi.z,.slice A g.cells.length c])),.agg #[.int .i64 x.st.tick,.int .i64 x.st.clock,.int .i64 x.st.site,.int .i64 x.st.seq,.int .i64 x.kind,.int .i64 x.box.lo.x,.int .i64 x.box.lo.y,.int .i64 x.box.lo.z,.int .i64 x.box.hi.x,.int .i64 x.box.hi.y,.int .i64 x.box.hi.z,.int .i64 x.at_.x,.int .i64 x.at_.y,.int .i64 x.at_.z,.int .i64 x.turn,.int .i64 x.cell,.int .i64 x.size],.int .i64 d] w (BrOut g x d w):=by
 have hm:=mixed;have hG:=near_old;obtain⟨W0,hW⟩:∃ W,W=(w.alloc (.cells #[(.iface 73 (.agg #[.int .i64 g.box.lo.x,.int .i64 g.box.lo.y,.int .i64 g.box.lo.z,.int .i64 g.box.hi.x,.int .i64 g.box.hi.y,.int .i64 g.box.hi.z,.slice A g.cells.length c]))] 36)).alloc (.cells #[.int .i64 x.st.tick,.int .i64 x.st.clock,.int .i64 x.st.site,.int .i64 x.st.seq,.int .i64 x.kind,.int .i64 x.box.lo.x,.int .i64 x.box.lo.y,.int .i64 x.box.lo.z,.int .i64 x.box.hi.x,.int .i64 x.box.hi.y,.int .i64 x.box.hi.z,.int .i64 x.at_.x,.int .i64 x.at_.y,.int .i64 x.at_.z,.int .i64 x.turn,.int .i64 x.cell,.int .i64 x.size] 32):=⟨_,rfl⟩;have HX:=Lib.hid (show Ext w W0 by rw[hW];exact((Ext.refl w).alloc _).alloc _);have H3:=Lib.hid (show Arr W0 w.heap.size 36 [(.iface 73 (.agg #[.int .i64 g.box.lo.x,.int .i64 g.box.lo.y,.int .i64 g.box.lo.z,.int .i64 g.box.hi.x,.int .i64 g.box.hi.y,.int .i64 g.box.hi.z,.slice A g.cells.length c]))]by rw[hW];exact(Arr.new w 36 [(.iface 73 (.agg #[.int .i64 g.box.lo.x,.int .i64 g.box.lo.y,.int .i64 g.box.lo.z,.int .i64 g.box.hi.x,.int .i64 g.box.hi.y,.int .i64 g.box.hi.z,.slice A g.cells.length c]))]).alloc _);have H4:=Lib.hid (show Arr W0 (w.heap.size+1) 32 [.int .i64 x.st.tick,.int .i64 x.st.clock,.int .i64 x.st.site,.int .i64 x.st.seq,.int .i64 x.kind,.int .i64 x.box.lo.x,.int .i64 x.box.lo.y,.int .i64 x.box.lo.z,.int .i64 x.box.hi.x,.int .i64 x.box.hi.y,.int .i64 x.box.hi.z,.int .i64 x.at_.x,.int .i64 x.at_.y,.int .i64 x.at_.z,.int .i64 x.turn,.int .i64 x.cell,.int .i64 x.size]by rw[hW];have h:=Arr.new (w.alloc (.cells #[(.iface 73 (.agg #[.int .i64 g.box.lo.x,.int .i64 g.box.lo.y,.int .i64 g.box.lo.z,.int .i64 g.box.hi.x,.int .i64 g.box.hi.y,.int .i64 g.box.hi.z,.slice A g.cells.length c]))] 36)) 32 [.int .i64 x.st.tick,.int .i64 x.st.clock,.int .i64 x.st.site,.int .i64 x.st.seq,.int .i64 x.kind,.int .i64 x.box.lo.x,.int .i64 x.box.lo.y,.int .i64 x.box.lo.z,.int .i64 x.box.hi.x,.int .i64 x.box.hi.y,.int .i64 x.box.hi.z,.int .i64 x.at_.x,.int .i64 x.at_.y,.int .i64 x.at_.z,.int .i64 x.turn,.int .i64 x.cell,.int .i64 x.size];simp only[World.size_alloc_]at h;exact h);have hm:=mixed;have h3:=three_d hd;have hd14:2≤d∧d≤14:=by omega
 have hsh:=shl_run d hd14;have hw6:wrap64 ((2:Int) ^ d.toNat)=(2:Int) ^ d.toNat:=pow_w d hd14;have HC:=Lib.hid (Cube_any (2 ^ d.toNat));have HB:=Lib.hid (fun(W:World) (hx:Ext w W)=>fillFlood_any (w:=W) (fieldG hv (by omega) (A:=A) (c:=c) (B:=W.heap.size)) (hst.ext hx) (by simp) x.at_ x.size g.cells.length hln (fld_fin g hv) (fld_small g hv) (hs.ext hx));have HBX:=Lib.hid hb;obtain⟨S,hS⟩:∃ S:Int,(2:Int) ^ d.toNat=S:=⟨_,rfl⟩;rw[hS]at hsh HC;rw (occs:=.pos [2]) [hS]at hw6;clear hS;have HK:=Lib.hid hk;clear h3 hs hst hv hln hb hk
 go_enter Tryz.func36,Tryz.ntmps36
 go_upto_region 1 with fail
 rw[← hW];clear hW;have hk:=HK.out
 go_upto_region 2 with(first
  | (go_at_call 69;refine(HC.out _).mono ?_;rintro e W1 ⟨rfl,hx⟩;replace HX:=xEx HX hx;replace H3:=aEx H3 hx;replace H4:=aEx H4 hx;clear hx)
  | (refine wpList_store_blk2 25 (.tmp 9) (.tmp 12) rfl rfl (Arr.new W1 25 [.int .i64 0,.int .i64 0,.int .i64 0,.int .i64 0,.int .i64 0,.int .i64 0]) [.int .i64 0,.int .i64 0,.int .i64 0,.int .i64 S,.int .i64 S,.int .i64 S] rfl rfl (by kernel_rfl) rfl rfl rfl ?_;intro W2 hW;have Q3_9:=aLt H3;have Q4_9:=aLt H4;have Qw_9:=Lib.hid HX.out.size;replace HX:=xNew HX hW;replace H3:=aNew H3 hW;replace H4:=aNew H4 hW;have H9:=nNew hW;clear hW))
 obtain⟨b9,hb9⟩:∃ n,n=W1.heap.size:=⟨_,rfl⟩;rw[← hb9]at H9 Q3_9 Q4_9 Qw_9 ⊢;clear hb9
 go_upto_region 3 with fail
 have c4:=H4.out.cell;have l4:=H4.out.lt
 go_upto_region 4 with fail
 clear c4 l4
 go_upto_region 6 with fail
 go_upto_region 8 with fail
 go_upto_region 10 with fail
 go_upto_region 11 with fail
 have c3:=H3.out.cell;have l3:=H3.out.lt;have c4:=H4.out.cell;have l4:=H4.out.lt
 go_upto_region 15 with(first
  | (refine wpList_load_part 23 (.tmp 51) rfl rfl H4.out 11 [.int .i64 x.at_.x,.int .i64 x.at_.y,.int .i64 x.at_.z] rfl rfl _ Tryz.underlying23 rfl (by kernel_rfl) ?_) | (refine wpList_load_part 23 (.tmp 51) rfl rfl (H4.out.alloc _) 11 [.int .i64 x.at_.x,.int .i64 x.at_.y,.int .i64 x.at_.z] rfl rfl _ Tryz.underlying23 rfl (by kernel_rfl) ?_)
  | (go_at_call 79;refine(HB.out _ HX.out).mono ?_;rintro e W3 ⟨L,er,kk,v,hP,_,rfl,ho,_,hg⟩;have HO:=Lib.hid (own_low_mono HX.out.size ho);have HP:=Lib.hid hP;have hx:=ext_none hg;clear ho hP hg;replace HX:=xEx HX hx;replace H3:=aEx H3 hx;replace H4:=aEx H4 hx;replace H9:=aEx H9 hx))
 clear c3 l3 c4 l4
 go_wp2_with fail
 go_ret3
 exact⟨_,_,_,L,L,er,rfl,HX.out,HO.out,cell1 (by omega) H4.out,fun h=>absurd hk h,fun _=>HP.out,fun he=>brd5 HBX.out hk HP.out he⟩
def ClOut(g:Gr)(x:Ed)(d:Int)(w:World)(en:Ending)(w':World):Prop:=
 ∃ (A:Option Addr) (c:Nat) (l r:List Pt) (er:Int),en = .returned (.tuple #[.slice A l.length c,.int .i64 er])∧Ext w w'∧Sv w' w'.heap.size 3 A c (rowsP l)∧
   (x.kind≠5→er=0∧r = [])∧(x.kind=5→FloodOut (fld g) x.at_ x.size r er)∧(er=0→Brd x d r l)
theorem ClOut.own{g:Gr}{x:Ed}{d:Int}{w w':World}{l:List Pt}{v:Value}{B:Nat}(ho:OwP B l v w')(hx:Ext w w')(hk:x.kind≠5)(hb:Brd x d [] l):ClOut g x d w (.returned (.tuple #[v,.int .i64 0])) w':=by
 obtain⟨A,c,rfl⟩:=own_len ho;exact⟨A,c,l,[],0,rfl,hx,Sv.of_own ho (rowsP_rwk l) (rowsP_length l),fun _=>⟨rfl,rfl⟩,fun h=>absurd h hk,fun _=>hb⟩
end Go.Proofs.YtoecbicdahbccaaGreatDoor
