/- A part of the walk of the layer of apply: contracts and plain laws that a row's text leans on. -/
import Derived.Test.YtoecbicdahbccaaGreatDoorZa10
set_option maxRecDepth 100000
set_option maxHeartbeats 16000000
namespace Go.Proofs.YtoecbicdahbccaaGreatDoor
open Go Go.RowKit
structure Gr where
 box:Bx
 cells:List Int
 deriving DecidableEq
def nearN(n:Int):Bool:=decide (-1048575≤n) && decide (n≤1048575)
def rngP(p:Pt):Bool:=nearN p.x && (nearN p.y && nearN p.z)
def matN(n:Int):Bool:=decide (0≤n) && decide (n < 256)
def idxW(b:Bx)(p:Pt):Int:=wrap64 ((subP p b.lo).x+wrap64 ((sizeP b).x * wrap64 ((subP p b.lo).y+wrap64 ((sizeP b).y * (subP p b.lo).z))))
def shapeG(g:Gr):Bool:=!(((decide (volP g.box=0) && decide (g.box≠zeroBx)) || decide (2097152 < volP g.box)) || decide ((g.cells.length:Int)≠volP g.box))
def validG(g:Gr):Bool:=rngP g.box.lo && (rngP g.box.hi && (shapeG g && g.cells.all matN))
def nearW(a b:Pt):Bool:=decide (wrap64 (wrap64 (wrap64 (wrap64 (a.x - b.x) * wrap64 (a.x - b.x))+wrap64 (wrap64 (a.y - b.y) * wrap64 (a.y - b.y)))+wrap64 (wrap64 (a.z - b.z) * wrap64 (a.z - b.z)))=1)
structure GoodG (g:Gr) (sx sy sz:Nat):Prop where
 lx:-1048575≤g.box.lo.x∧g.box.lo.x≤1048575
 ly:-1048575≤g.box.lo.y∧g.box.lo.y≤1048575
 lz:-1048575≤g.box.lo.z∧g.box.lo.z≤1048575
 hx:g.box.hi.x=g.box.lo.x+sx
 hy:g.box.hi.y=g.box.lo.y+sy
 hz:g.box.hi.z=g.box.lo.z+sz
 bx:sx≤2097150
 by_:sy≤2097150
 bz:sz≤2097150
 vol:g.cells.length=sx * sy * sz
 size:volP g.box=g.cells.length
 sp:0 < g.cells.length→sizeP g.box=⟨sx,sy,sz⟩
 mat:∀ v,v∈g.cells→0≤v∧v < 256
theorem wrap_small{x:Int}(h:-9223372036854775808≤x∧x≤9223372036854775807):wrap64 x=x:=by
 unfold wrap64;omega
theorem good_of{g:Gr}(h:validG g=true):∃ sx sy sz,GoodG g sx sy sz:=by
 unfold validG shapeG rngP nearN at h;simp only[Bool.and_eq_true,decide_eq_true_eq,Bool.not_eq_true',Bool.or_eq_false_iff,Bool.and_eq_false_iff,decide_eq_false_iff_not,List.all_eq_true]at h;obtain⟨⟨⟨a1,a2⟩,⟨a3,a4⟩,a5,a6⟩,⟨⟨b1,b2⟩,⟨b3,b4⟩,b5,b6⟩,⟨⟨h0,hle⟩,hlen⟩,hall⟩:=h;have hlen:(g.cells.length:Int)=volP g.box:=by simpa using hlen
 have hmat:∀ v,v∈g.cells→0≤v∧v < 256:=fun v hv=>by have:=hall v hv;simpa[matN]using this
 by_cases hq:emptyB g.box=true
 · have hv:volP g.box=0:=by unfold volP sizeP;rw[if_pos hq];decide+kernel
   have hz:g.box=zeroBx:=by
    rcases h0 with h | h
    · exact absurd hv h
    · simpa using h
   refine⟨0,0,0,⟨by omega,by omega,by omega,by rw[hz];rfl,by rw[hz];rfl,by rw[hz];rfl,by omega,by omega,by omega,by rw[hv]at hlen;omega,hlen.symm,fun hp=>by rw[hv]at hlen;omega,hmat⟩⟩
 · have hs:sizeP g.box=subP g.box.hi g.box.lo:=by unfold sizeP;rw[if_neg hq]
   have he:g.box.lo.x < g.box.hi.x∧g.box.lo.y < g.box.hi.y∧g.box.lo.z < g.box.hi.z:=by
    have:emptyB g.box=false:=by simpa using hq
    simpa[emptyB,inP]using this
   obtain⟨sx,ex⟩:∃ sx:Nat,g.box.hi.x=g.box.lo.x+sx:=⟨(g.box.hi.x - g.box.lo.x).toNat,by omega⟩;obtain⟨sy,ey⟩:∃ sy:Nat,g.box.hi.y=g.box.lo.y+sy:=⟨(g.box.hi.y - g.box.lo.y).toNat,by omega⟩;obtain⟨sz,ez⟩:∃ sz:Nat,g.box.hi.z=g.box.lo.z+sz:=⟨(g.box.hi.z - g.box.lo.z).toNat,by omega⟩;have hsub:subP g.box.hi g.box.lo=⟨sx,sy,sz⟩:=by
    unfold subP;rw[wrap_small (by omega),wrap_small (by omega),wrap_small (by omega),ex,ey,ez];congr 1 <;> omega
   have n1:sx * sy≤2097150 * 2097150:=Nat.mul_le_mul (by omega) (by omega);have n2:sx * sy * sz≤2097150 * 2097150 * 2097150:=Nat.mul_le_mul n1 (by omega);have hvol:volP g.box=((sx * sy * sz:Nat):Int):=by
    unfold volP;rw[hs,hsub];simp only;have e1:((sx:Int) * (sy:Int))=((sx * sy:Nat):Int):=by simp
    rw[e1,wrap_small (x:=((sx * sy:Nat):Int)) (by omega)];have e2:(((sx * sy:Nat):Int) * (sz:Int))=((sx * sy * sz:Nat):Int):=by simp
    rw[e2,wrap_small (x:=((sx * sy * sz:Nat):Int)) (by omega)]
   refine⟨sx,sy,sz,⟨by omega,by omega,by omega,ex,ey,ez,by omega,by omega,by omega,by rw[hvol]at hlen;exact Int.ofNat.inj hlen,hlen.symm,fun _=>by rw[hs,hsub],hmat⟩⟩
def idxG(g:Gr)(sx sy:Nat)(p:Pt):Nat:=(p.x - g.box.lo.x).toNat+sx * ((p.y - g.box.lo.y).toNat+sy * (p.z - g.box.lo.z).toNat)
def atG(g:Gr)(sx sy i:Nat):Pt:=⟨g.box.lo.x+((i % sx:Nat):Int),g.box.lo.y+((i / sx % sy:Nat):Int),g.box.lo.z+((i / sx / sy:Nat):Int)⟩
section
variable {g:Gr} {sx sy sz:Nat}
theorem mix3{x y z sx sy sz:Nat}(hx:x < sx)(hy:y < sy)(hz:z < sz):x+sx * (y+sy * z) < sx * sy * sz:=by
 have h1:y+sy * z+1≤sy * sz:=by
  have:=Nat.mul_le_mul_left sy (show z+1≤sz by omega);rw[Nat.mul_add]at this;omega
 have h2:=Nat.mul_le_mul_left sx h1;rw[Nat.mul_add,← Nat.mul_assoc sx sy sz]at h2;omega
theorem GoodG.idx(G:GoodG g sx sy sz){p:Pt}(h:inP p g.box=true):idxG g sx sy p < g.cells.length∧atG g sx sy (idxG g sx sy p)=p:=by
 rw[inP_iff]at h;have h1:=G.hx;have h2:=G.hy;have h3:=G.hz;obtain⟨x,ex⟩:∃ x:Nat,p.x - g.box.lo.x=x:=⟨(p.x - g.box.lo.x).toNat,by omega⟩;obtain⟨y,ey⟩:∃ y:Nat,p.y - g.box.lo.y=y:=⟨(p.y - g.box.lo.y).toNat,by omega⟩;obtain⟨z,ez⟩:∃ z:Nat,p.z - g.box.lo.z=z:=⟨(p.z - g.box.lo.z).toNat,by omega⟩;have hx:x < sx:=by omega
 have hy:y < sy:=by omega
 have hz:z < sz:=by omega
 have e:idxG g sx sy p=x+sx * (y+sy * z):=by unfold idxG;rw[ex,ey,ez];rfl
 refine⟨by rw[e,G.vol];exact mix3 hx hy hz,?_⟩;have e1:(x+sx * (y+sy * z)) % sx=x:=by rw[Nat.add_mul_mod_self_left,Nat.mod_eq_of_lt hx]
 have e2:(x+sx * (y+sy * z)) / sx=y+sy * z:=by rw[Nat.add_mul_div_left _ _ (by omega),Nat.div_eq_of_lt hx];omega
 have e3:(y+sy * z) % sy=y:=by rw[Nat.add_mul_mod_self_left,Nat.mod_eq_of_lt hy]
 have e4:(y+sy * z) / sy=z:=by rw[Nat.add_mul_div_left _ _ (by omega),Nat.div_eq_of_lt hy];omega
 unfold atG;rw[e,e1,e2,e3,e4]
 cases p
 simp only at *;congr 1 <;> omega
theorem GoodG.pos(G:GoodG g sx sy sz)(h:0 < g.cells.length):0 < sx∧0 < sy∧0 < sz:=by
 have hv:=G.vol;refine⟨Nat.pos_of_ne_zero ?_,Nat.pos_of_ne_zero ?_,Nat.pos_of_ne_zero ?_⟩ <;> (rintro rfl;simp at hv;simp[hv]at h)
theorem GoodG.at_(G:GoodG g sx sy sz){i:Nat}(h:i < g.cells.length):inP (atG g sx sy i) g.box=true∧idxG g sx sy (atG g sx sy i)=i:=by
 obtain⟨px,py,pz⟩:=G.pos (by omega);have hv:=G.vol;have n1:i % sx < sx:=Nat.mod_lt _ px;have n2:i / sx % sy < sy:=Nat.mod_lt _ py;have n3:i / sx / sy < sz:=by
  rw[Nat.div_div_eq_div_mul,Nat.div_lt_iff_lt_mul (Nat.mul_pos px py),Nat.mul_comm];omega
 have h1:=G.hx;have h2:=G.hy;have h3:=G.hz;refine⟨?_,?_⟩
 · rw[inP_iff];unfold atG;simp only;generalize i % sx=u at *;generalize i / sx % sy=v at *;generalize i / sx / sy=t at *;omega
 · unfold idxG atG;simp only;rw[show g.box.lo.x+((i % sx:Nat):Int) - g.box.lo.x=((i % sx:Nat):Int)by omega,show g.box.lo.y+((i / sx % sy:Nat):Int) - g.box.lo.y=((i / sx % sy:Nat):Int)by omega,show g.box.lo.z+((i / sx / sy:Nat):Int) - g.box.lo.z=((i / sx / sy:Nat):Int)by omega];rw[Int.toNat_natCast,Int.toNat_natCast,Int.toNat_natCast,Nat.mod_add_div,Nat.mod_add_div]
theorem GoodG.inj(G:GoodG g sx sy sz){p q:Pt}(hp:inP p g.box=true)(hq:inP q g.box=true)(h:idxG g sx sy p=idxG g sx sy q):p=q:=by
 rw[← (G.idx hp).2,← (G.idx hq).2,h]
theorem GoodG.idxW(G:GoodG g sx sy sz){p:Pt}(h:inP p g.box=true):idxW g.box p=idxG g sx sy p:=by
 have hp:=(G.idx h).1;have hsz:=G.sp (by omega);obtain⟨px,py,pz⟩:=G.pos (by omega);rw[inP_iff]at h;have h1:=G.hx;have h2:=G.hy;have h3:=G.hz;have b1:=G.bx;have b2:=G.by_;have b3:=G.bz;have l1:=G.lx;have l2:=G.ly;have l3:=G.lz;obtain⟨x,ex⟩:∃ x:Nat,p.x - g.box.lo.x=x:=⟨(p.x - g.box.lo.x).toNat,by omega⟩;obtain⟨y,ey⟩:∃ y:Nat,p.y - g.box.lo.y=y:=⟨(p.y - g.box.lo.y).toNat,by omega⟩;obtain⟨z,ez⟩:∃ z:Nat,p.z - g.box.lo.z=z:=⟨(p.z - g.box.lo.z).toNat,by omega⟩;have hsub:subP p g.box.lo=⟨x,y,z⟩:=by
  unfold subP;rw[ex,ey,ez,wrap_small (by omega),wrap_small (by omega),wrap_small (by omega)]
 have hx:x < sx:=by omega
 have hy:y < sy:=by omega
 have hz:z < sz:=by omega
 have m1:sy * z≤2097150 * 2097150:=Nat.mul_le_mul (by omega) (by omega);have m2:=mix3 hx hy hz;have n1:sx * sy≤2097150 * 2097150:=Nat.mul_le_mul (by omega) (by omega);have n2:sx * sy * sz≤2097150 * 2097150 * 2097150:=Nat.mul_le_mul n1 (by omega);unfold Go.Proofs.YtoecbicdahbccaaGreatDoor.idxW idxG;rw[hsub,hsz,ex,ey,ez];simp only[Int.toNat_natCast];have e1:((sy:Int) * (z:Int))=((sy * z:Nat):Int):=by simp
 rw[e1,wrap_small (x:=((sy * z:Nat):Int)) (by omega)];have e2:((y:Int)+((sy * z:Nat):Int))=((y+sy * z:Nat):Int):=by simp
 rw[e2,wrap_small (x:=((y+sy * z:Nat):Int)) (by omega)];have e3:((sx:Int) * ((y+sy * z:Nat):Int))=((sx * (y+sy * z):Nat):Int):=by simp
 rw[e3,wrap_small (x:=((sx * (y+sy * z):Nat):Int)) (by omega)];have e4:((x:Int)+((sx * (y+sy * z):Nat):Int))=((x+sx * (y+sy * z):Nat):Int):=by simp
 rw[e4,wrap_small (x:=((x+sx * (y+sy * z):Nat):Int)) (by omega)]
end
def fld(g:Gr)(p:Pt):Option Int:=if inP p g.box then some (match idxW g.box p with | .ofNat k=>g.cells.getD k 0 | _=>0)else none
theorem GoodG.fld_in{g:Gr}{sx sy sz:Nat}(G:GoodG g sx sy sz){p:Pt}(h:inP p g.box=true):∃ v,fld g p=some v∧g.cells[idxG g sx sy p]? = some v:=by
 have hk:=(G.idx h).1;refine⟨g.cells[idxG g sx sy p],?_,List.getElem?_eq_getElem hk⟩;unfold fld;rw[if_pos h,G.idxW h];simp[List.getD,List.getElem?_eq_getElem hk]
theorem fld_out{g:Gr}{p:Pt}(h:inP p g.box=false):fld g p=none:=by unfold fld;rw[h];rfl
theorem fld_some{g:Gr}{p:Pt}{v:Int}(h:fld g p=some v):inP p g.box=true:=by
 cases hq:inP p g.box
 · rw[fld_out hq]at h;cases h
 · rfl
def Small(p:Pt):Prop:=(-2000000≤p.x∧p.x≤2000000)∧(-2000000≤p.y∧p.y≤2000000)∧(-2000000≤p.z∧p.z≤2000000)
theorem GoodG.small{g:Gr}{sx sy sz:Nat}(G:GoodG g sx sy sz)(hr:rngP g.box.hi=true){p:Pt}(h:inP p g.box=true):Small p:=by
 rw[inP_iff]at h;have l1:=G.lx;have l2:=G.ly;have l3:=G.lz;unfold rngP nearN at hr;simp only[Bool.and_eq_true,decide_eq_true_eq]at hr;unfold Small;omega
theorem sq_one(a b c:Int):a * a+b * b+c * c=1↔(a=0∧b=0∧(c=1∨c = -1))∨(a=0∧c=0∧(b=1∨b = -1))∨(b=0∧c=0∧(a=1∨a = -1)):=by
 have key:∀ x:Int,x * x=0∧x=0∨x * x=1∧(x=1∨x = -1)∨4≤x * x∧x≠0∧x≠1∧x≠-1:=fun x=>by
  rcases (show x=0∨x=1∨x = -1∨2≤x∨x≤-2 by omega)with rfl | rfl | rfl | h | h
  · left;simp
  · right;left;simp
  · right;left;simp
  · right;right;have:=Int.mul_le_mul h h (by omega) (by omega);omega
  · right;right;have h2:2≤-x:=by omega
    have:=Int.mul_le_mul h2 h2 (by omega) (by omega);rw[Int.neg_mul_neg]at this;omega
 have ka:=key a;have kb:=key b;have kc:=key c;generalize a * a=aa at *;generalize b * b=bb at *;generalize c * c=cc at *;omega
theorem nearW_iff{a b:Pt}(ha:Small a)(hb:Small b):nearW a b=true↔adj a b:=by
 unfold nearW Small at *;obtain⟨ax,ay,az⟩:=a;obtain⟨bx,by_,bz⟩:=b;simp only at ha hb ⊢;rw[decide_eq_true_eq];have sq:∀ x:Int,-4000000≤x∧x≤4000000→0≤x * x∧x * x≤16000000000000:=fun x hx=>by
  rcases Int.le_total 0 x with h | h
  · have h1:=Int.mul_nonneg h h;have h2:=Int.mul_le_mul hx.2 hx.2 h (by omega);omega
  · have h1:=Int.mul_nonneg (show 0≤-x by omega) (show 0≤-x by omega);have h2:=Int.mul_le_mul (show -x≤4000000 by omega) (show -x≤4000000 by omega) (show 0≤-x by omega) (by omega);rw[Int.neg_mul_neg]at h1 h2;omega
 have sx:=sq (ax - bx) (by omega);have sy:=sq (ay - by_) (by omega);have sz:=sq (az - bz) (by omega);rw[wrap_small (x:=ax - bx) (by omega),wrap_small (x:=ay - by_) (by omega),wrap_small (x:=az - bz) (by omega)];rw[wrap_small (x:=(ax - bx) * (ax - bx)) (by omega),wrap_small (x:=(ay - by_) * (ay - by_)) (by omega),wrap_small (x:=(az - bz) * (az - bz)) (by omega)];rw[wrap_small (x:=(ax - bx) * (ax - bx)+(ay - by_) * (ay - by_)) (by omega),wrap_small (by omega),sq_one];unfold adj;simp only;omega
structure Ed where
 st:Sp
 kind:Int
 box:Bx
 at_:Pt
 turn:Int
 cell:Int
 size:Int
 deriving DecidableEq
def rowF:Nat→Int
 | 0=>0
 | 1=>9
 | 2=>26
 | 3=>13
 | 4=>7
 | 5=>26
 | 6=>16
 | 7=>17
 | _=>16
structure RowsIn (w:World):Prop where
 at_:∀ i,i < 9→w.cell? ⟨0,2 * i+1,none⟩=some (.int .i64 (rowF i))
 lt:0 < w.heap.size
theorem RowsIn.ext{w w':World}(h:RowsIn w)(hx:Ext w w'):RowsIn w':=⟨fun i hi=>(hx.cell (p:=⟨0,2 * i+1,none⟩) h.lt).trans (h.at_ i hi),Nat.lt_of_lt_of_le h.lt hx.size⟩
def usesF(k f:Int):Bool:=
 if f=1 then k == 1 || k == 3 || k == 4 || k == 7 else if f=2 then k == 2 || k == 4 || k == 5 else if f=4 then k == 3 || k == 4 else if f=8 then k == 1 || k == 2 || k == 3 || k == 5 else k == 2 || k == 5 || k == 6 || k == 7 || k == 8
theorem withinE_any(n lo hi:Int)(w:World):
    Calls Tryz.prog 67 #[.int .i64 n,.int .i64 lo,.int .i64 hi] w fun e w'=>e = .returned (.bool (decide (lo≤n∧n≤hi)))∧Ext w w':=by
 go_enter Tryz.func67,Tryz.ntmps67
 go_wp2
 all_goals
  go_ret
  refine⟨ret_bool ?_,byX⟩;rw[Bool.eq_iff_iff];simp
  try omega
theorem withinE_is(n lo hi:Int)(b:Bool)(hb:decide (lo≤n∧n≤hi)=b)(w:World):
    Calls Tryz.prog 67 #[.int .i64 n,.int .i64 lo,.int .i64 hi] w fun e w'=>e = .returned (.bool b)∧Ext w w':=hb ▸ withinE_any n lo hi w
theorem uses_any(k f:Int)(hk:0≤k∧k≤8)(hf:f=1∨f=2∨f=4∨f=8∨f=16)(w:World)(hR:RowsIn w):
    Calls Tryz.prog 72 #[.int .i64 k,.int .i64 f] w fun e w'=>e = .returned (.bool (usesF k f))∧Ext w w':=by
 obtain⟨i,rfl⟩:∃ i:Nat,k=i:=⟨k.toNat,by omega⟩;obtain rfl | rfl | rfl | rfl | rfl | rfl | rfl | rfl | rfl:i=0∨i=1∨i=2∨i=3∨i=4∨i=5∨i=6∨i=7∨i=8:=by omega
 · have hc:=hR.at_ 0 (by omega);simp only[rowF,Nat.reduceMul,Nat.reduceAdd]at hc;clear hR hk
   rcases hf with rfl | rfl | rfl | rfl | rfl
   all_goals
    go_enter Tryz.func72,Tryz.ntmps72
    go_wp2
    go_ret
    exact⟨ret_bool (by decide),byX⟩
 · have hc:=hR.at_ 1 (by omega);simp only[rowF,Nat.reduceMul,Nat.reduceAdd]at hc;clear hR hk
   rcases hf with rfl | rfl | rfl | rfl | rfl
   all_goals
    go_enter Tryz.func72,Tryz.ntmps72
    go_wp2
    go_ret
    exact⟨ret_bool (by decide),byX⟩
 · have hc:=hR.at_ 2 (by omega);simp only[rowF,Nat.reduceMul,Nat.reduceAdd]at hc;clear hR hk
   rcases hf with rfl | rfl | rfl | rfl | rfl
   all_goals
    go_enter Tryz.func72,Tryz.ntmps72
    go_wp2
    go_ret
    exact⟨ret_bool (by decide),byX⟩
 · have hc:=hR.at_ 3 (by omega);simp only[rowF,Nat.reduceMul,Nat.reduceAdd]at hc;clear hR hk
   rcases hf with rfl | rfl | rfl | rfl | rfl
   all_goals
    go_enter Tryz.func72,Tryz.ntmps72
    go_wp2
    go_ret
    exact⟨ret_bool (by decide),byX⟩
 · have hc:=hR.at_ 4 (by omega);simp only[rowF,Nat.reduceMul,Nat.reduceAdd]at hc;clear hR hk
   rcases hf with rfl | rfl | rfl | rfl | rfl
   all_goals
    go_enter Tryz.func72,Tryz.ntmps72
    go_wp2
    go_ret
    exact⟨ret_bool (by decide),byX⟩
 · have hc:=hR.at_ 5 (by omega);simp only[rowF,Nat.reduceMul,Nat.reduceAdd]at hc;clear hR hk
   rcases hf with rfl | rfl | rfl | rfl | rfl
   all_goals
    go_enter Tryz.func72,Tryz.ntmps72
    go_wp2
    go_ret
    exact⟨ret_bool (by decide),byX⟩
 · have hc:=hR.at_ 6 (by omega);simp only[rowF,Nat.reduceMul,Nat.reduceAdd]at hc;clear hR hk
   rcases hf with rfl | rfl | rfl | rfl | rfl
   all_goals
    go_enter Tryz.func72,Tryz.ntmps72
    go_wp2
    go_ret
    exact⟨ret_bool (by decide),byX⟩
 · have hc:=hR.at_ 7 (by omega);simp only[rowF,Nat.reduceMul,Nat.reduceAdd]at hc;clear hR hk
   rcases hf with rfl | rfl | rfl | rfl | rfl
   all_goals
    go_enter Tryz.func72,Tryz.ntmps72
    go_wp2
    go_ret
    exact⟨ret_bool (by decide),byX⟩
 · have hc:=hR.at_ 8 (by omega);simp only[rowF,Nat.reduceMul,Nat.reduceAdd]at hc;clear hR hk
   rcases hf with rfl | rfl | rfl | rfl | rfl
   all_goals
    go_enter Tryz.func72,Tryz.ntmps72
    go_wp2
    go_ret
    exact⟨ret_bool (by decide),byX⟩
theorem uses_is(k f:Int)(b:Bool)(hk:0≤k∧k≤8)(hf:f=1∨f=2∨f=4∨f=8∨f=16)(hb:usesF k f=b)(w:World)(hR:RowsIn w):
    Calls Tryz.prog 72 #[.int .i64 k,.int .i64 f] w fun e w'=>e = .returned (.bool b)∧Ext w w':=hb ▸ uses_any k f hk hf w hR
def formedE(x:Ed):Bool:=validS x.st && (decide (1≤x.kind∧x.kind≤8) && ((usesF x.kind 1 || decide (x.box=zeroBx)) && ((usesF x.kind 2 || decide (x.at_=zeroPt)) && ((usesF x.kind 4 || decide (x.turn=0)) && ((usesF x.kind 8 || decide (x.cell=0)) && (usesF x.kind 16 || decide (x.size=0)))))))
theorem formedE_def(x:Ed):formedE x=(validS x.st && (decide (1≤x.kind∧x.kind≤8) && ((usesF x.kind 1 || decide (x.box=zeroBx)) && ((usesF x.kind 2 || decide (x.at_=zeroPt)) && ((usesF x.kind 4 || decide (x.turn=0)) && ((usesF x.kind 8 || decide (x.cell=0)) && (usesF x.kind 16 || decide (x.size=0)))))))):=rfl
theorem Formed_bad(x:Ed)(w:World)(h:validS x.st=false∨¬ (1≤x.kind∧x.kind≤8)):
    Calls Tryz.prog 68 #[.agg #[.int .i64 x.st.tick,.int .i64 x.st.clock,.int .i64 x.st.site,.int .i64 x.st.seq,.int .i64 x.kind,.int .i64 x.box.lo.x,.int .i64 x.box.lo.y,.int .i64 x.box.lo.z,.int .i64 x.box.hi.x,.int .i64 x.box.hi.y,.int .i64 x.box.hi.z,.int .i64 x.at_.x,.int .i64 x.at_.y,.int .i64 x.at_.z,.int .i64 x.turn,.int .i64 x.cell,.int .i64 x.size]] w fun e w'=>e = .returned (.bool false)∧Ext w w':=by
 have hv:=fun w=>Valid_any x.st w
 cases hq:validS x.st
 all_goals
  rw[hq]at hv h;have HV:=Lib.hid hv;clear hv hq
 · clear h
   go_enter Tryz.func68,Tryz.ntmps68
   go_wp2_with (first | (go_at_call 108;refine(HV.out _).mono ?_;rintro e wx ⟨rfl,xx⟩;obtain⟨xc,xf,xl,xe,xn,xm⟩:=xx.look;have xz:=xx.size;(try simp only[World.size_alloc_]at xz);(try (have qh:=xx.one (b:=w.heap.size) (by(try simp only[World.size_alloc_]);omega);obtain⟨qc,qf,ql,qe,qn,qm⟩:=qh));(try (have qh:=xx.one (b:=w.heap.size+1) (by(try simp only[World.size_alloc_]);omega);obtain⟨qc,qf,ql,qe,qn,qm⟩:=qh));(try (have qh:=xx.one (b:=w.heap.size+1+1) (by(try simp only[World.size_alloc_]);omega);obtain⟨qc,qf,ql,qe,qn,qm⟩:=qh));(try (have qh:=xx.one (b:=w.heap.size+1+1+1) (by(try simp only[World.size_alloc_]);omega);obtain⟨qc,qf,ql,qe,qn,qm⟩:=qh))))
   go_ret
   exact⟨rfl,byX⟩
 · have hk:decide (1≤x.kind∧x.kind≤8)=false:=by simpa using h
   have HK:=Lib.hid (withinE_is x.kind 1 8 false hk);clear hk h
   go_enter Tryz.func68,Tryz.ntmps68
   go_wp2_with (first | (go_at_call 108;refine(HV.out _).mono ?_;rintro e wx ⟨rfl,xx⟩;obtain⟨xc,xf,xl,xe,xn,xm⟩:=xx.look;have xz:=xx.size;(try simp only[World.size_alloc_]at xz);(try (have qh:=xx.one (b:=w.heap.size) (by(try simp only[World.size_alloc_]);omega);obtain⟨qc,qf,ql,qe,qn,qm⟩:=qh));(try (have qh:=xx.one (b:=w.heap.size+1) (by(try simp only[World.size_alloc_]);omega);obtain⟨qc,qf,ql,qe,qn,qm⟩:=qh));(try (have qh:=xx.one (b:=w.heap.size+1+1) (by(try simp only[World.size_alloc_]);omega);obtain⟨qc,qf,ql,qe,qn,qm⟩:=qh));(try (have qh:=xx.one (b:=w.heap.size+1+1+1) (by(try simp only[World.size_alloc_]);omega);obtain⟨qc,qf,ql,qe,qn,qm⟩:=qh))) | (go_at_call 67;refine(HK.out _).mono ?_;rintro e wx ⟨rfl,xx⟩;obtain⟨xc,xf,xl,xe,xn,xm⟩:=xx.look;have xz:=xx.size;(try simp only[World.size_alloc_,World.size_setCell_]at xz);(try (have qh:=xx.one (b:=w.heap.size) (by(try simp only[World.size_alloc_,World.size_setCell_]);omega);obtain⟨qc,qf,ql,qe,qn,qm⟩:=qh));(try (have qh:=xx.one (b:=w.heap.size+1) (by(try simp only[World.size_alloc_,World.size_setCell_]);omega);obtain⟨qc,qf,ql,qe,qn,qm⟩:=qh));(try (have qh:=xx.one (b:=w.heap.size+1+1) (by(try simp only[World.size_alloc_,World.size_setCell_]);omega);obtain⟨qc,qf,ql,qe,qn,qm⟩:=qh));(try (have qh:=xx.one (b:=w.heap.size+1+1+1) (by(try simp only[World.size_alloc_,World.size_setCell_]);omega);obtain⟨qc,qf,ql,qe,qn,qm⟩:=qh))))
   go_ret
   exact⟨rfl,byX⟩
end Go.Proofs.YtoecbicdahbccaaGreatDoor
