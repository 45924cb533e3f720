/- A part of the walk of the layer of apply: contracts and plain laws that a row's text leans on. -/
import Derived.LaidMore
import Derived.Lay
import Derived.Stop.Joined
import Derived.Test.YtoecbicdahbccaaGreatDoorZa16
import Derived.Test.YtoecbicdahbccaaGreatDoorZa17
set_option maxRecDepth 100000
set_option maxHeartbeats 16000000
namespace Go.Proofs.YtoecbicdahbccaaGreatDoor
open Go Go.RowKit Go.ChangeShapes Go.WideShapes Go.ChangeAt
section
variable {P:Program}
variable {H:Type} {enc:TypeId × Value→H} {W:World}
theorem read_struct{t:TypeId}{fs:Array Field}(ht:P.underlying t=some (.struct fs))(hi:IntsT P t){base:Nat}{r:Go.Reach}{v:Value}{d:DataW H}{ps:List MemPlace}
    (hv:Value.okWide P W r base t v) (h:DataW.Trod enc P W 0 (fun _=>true) true t v d ps):
    ∃ l:List Int,v = .agg (l.map (Value.int .i64)).toArray∧l.length=P.cellsOf t∧∀ n,n∈l→(Lit.int .i64 n).wf=true:=by
 obtain⟨cs,rfl,hsz⟩:=okWide_struct ht hv;obtain⟨fuel,hf⟩:=h;obtain⟨h1,h2⟩:=hi H enc W 0 (fun _=>true) true fuel cs.toList _ (by simpa[Value.cells]using hf);obtain⟨l,hl,hw⟩:=ints_list h2;refine⟨l,by rw[← hl],?_,hw⟩;have:=congrArg List.length hl;simp at this;omega
end
end Go.Proofs.YtoecbicdahbccaaGreatDoor
namespace Go.Proofs.YtoecbicdahbccaaGreatDoor
open Go Go.RowKit
theorem TurR.next{n2 nC nA nO:Nat}{p:Pt}{a0 a1 a2:Int}{vs:List Value}{w wr w':World}(h:TurR n2 nC nA nO p a0 a1 a2 vs w wr)(hx:Ext wr w'):TurR n2 nC nA nO p a0 a1 a2 vs w w':=⟨h.R.ext hx,h.C.ext hx,h.A.ext hx,h.O.ext hx,h.ext.trans hx⟩
theorem diffL_congr{b:Bx}{F G F' G':Pt→Int}(hF:∀ p,inP p b=true→F p=F' p)(hG:∀ p,inP p b=true→G p=G' p):diffL b F G=diffL b F' G':=by
 refine diffL_uniq (diffL_sort b F G) fun c=>diffL_mem.trans ?_;constructor
 · rintro⟨h1,h2,h3,h4⟩;rw[hF _ h1]at h2 h4;rw[hG _ h1]at h3 h4;exact⟨h1,h2,h3,h4⟩
 · rintro⟨h1,h2,h3,h4⟩;rw[← hF _ h1]at h2 h4;rw[← hG _ h1]at h3 h4;exact⟨h1,h2,h3,h4⟩
theorem SortC.once{l:List Chg}(h:SortC l):OnceC l:=h.cells.nodup
def tidyC(l:List Chg):Prop:=SortC l∧∀ c,c∈l→c.old≠c.new
theorem diffL_tidy(b:Bx)(F G:Pt→Int):tidyC (diffL b F G):=⟨diffL_sort b F G,fun c hc=>by
 obtain⟨_,h2,h3,h4⟩:=diffL_mem.1 hc;omega⟩
def updF(F:Pt→Option Int)(p:Pt)(v:Int)(q:Pt):Option Int:=if q=p then(if (F q).isSome then some v else none)else F q
theorem updF_ne{F:Pt→Option Int}{p q:Pt}{v:Int}(h:q≠p):updF F p v q=F q:=by unfold updF;rw[if_neg h]
theorem updF_at{F:Pt→Option Int}{p:Pt}{v u:Int}(h:F p=some u):updF F p v p=some v:=by unfold updF;rw[if_pos rfl,h];rfl
def setG(g:Gr)(p:Pt)(v:Int):Gr:=writeG g [⟨p,0,v⟩]
theorem setG_box(g:Gr)(p:Pt)(v:Int):(setG g p v).box=g.box:=rfl
theorem setG_len(g:Gr)(p:Pt)(v:Int):(setG g p v).cells.length=g.cells.length:=by unfold setG writeG;rw[writeC_length]
theorem setG_cells(g:Gr)(p:Pt)(v:Int):(setG g p v).cells=setC g.box g.cells ⟨p,0,v⟩:=rfl
theorem fld_setG{g:Gr}(hv:validG g=true)(p:Pt)(v:Int):fld (setG g p v)=updF (fld g) p v:=by
 obtain⟨sx,sy,sz,G⟩:=good_of hv
 funext q
 cases hq:inP q g.box
 · have h1:fld g q=none:=fld_out hq;have h2:fld (setG g p v) q=none:=fld_out (g:=setG g p v) hq;rw[h2];unfold updF;rw[h1]
   split <;> rfl
 · have hk:=(G.idx hq).1;have hw:=G.idxW hq
   by_cases hqp:q=p
   · subst hqp;have hF:∃ u,fld g q=some u:=by obtain⟨u,h,_⟩:=G.fld_in hq;exact⟨u,h⟩
     obtain⟨u,hF⟩:=hF;rw[updF_at hF];unfold fld;rw[setG_box,if_pos hq,hw,setG_cells];unfold setC;simp only[hq,if_true,hw];show some ((g.cells.set (idxG g sx sy q) v).getD (idxG g sx sy q) 0)=some v;rw[List.getD_eq_getElem?_getD,List.getElem?_set_self hk];rfl
   · rw[updF_ne hqp];unfold fld;rw[setG_box,if_pos hq,if_pos hq,hw,setG_cells];unfold setC
     cases hp:inP p g.box
     · rfl
     · have hne:idxG g sx sy p≠idxG g sx sy q:=fun e=>hqp (G.inj hp hq e).symm;simp only[if_true,G.idxW hp];show some ((g.cells.set (idxG g sx sy p) v).getD (idxG g sx sy q) 0)=some (g.cells.getD (idxG g sx sy q) 0);rw[List.getD_eq_getElem?_getD,List.getElem?_set_ne hne,List.getD_eq_getElem?_getD]
theorem valid_setG{g:Gr}(hv:validG g=true)(p:Pt){v:Int}(h:0≤v∧v < 256):validG (setG g p v)=true:=by
 unfold validG at hv ⊢;simp only[Bool.and_eq_true]at hv ⊢;refine⟨hv.1,hv.2.1,?_,?_⟩
 · have h1:=hv.2.2.1;unfold shapeG at h1 ⊢;rw[setG_len,setG_box];exact h1
 · have h1:=hv.2.2.2;rw[List.all_eq_true]at h1 ⊢;intro x hx;rw[setG_cells]at hx;unfold setC at hx
   split at hx
   · rcases List.mem_or_eq_of_mem_set hx with h2 | rfl
     · exact h1 x h2
     · simp[matN];omega
   · exact h1 x hx
end Go.Proofs.YtoecbicdahbccaaGreatDoor
namespace Go.Proofs.YtoecbicdahbccaaGreatDoor
open Go Go.RowKit Go.ChangeShapes Go.WideShapes Go.ChangeAt
section
variable {P:Program} {H:Type} {enc:TypeId × Value→H} {W:World}
theorem read_rows_at{t e:TypeId}{k:Nat}(ht:P.underlying t=some (.slice e))(hc:P.cellsOf e=k)(hk:0 < k)(hi:IntsT P e){fuel:Nat}{v0:List Value}{d:DataW H}{ps:List MemPlace}
    (hf':DataW.trod enc P W 0 (fun _=>true) true fuel t v0=some (d,ps)):
    ∃ (A:Option Addr) (c:Nat) (ls:List (List Int)),v0 = [.slice A ls.length c]∧Sl W W.heap.size k A c (ls.map fun l=>l.map (Value.int .i64))∧∀ l,l∈ls→l.length=k∧∀ n,n∈l→(Lit.int .i64 n).wf=true:=by
 rcases Go.Deep.open_slice ht hf' with⟨hcs,_⟩ | ⟨a,len0,cap0,m,n,D,Pl,hcs,_,hl,hm,hmm,_,hel⟩
 · subst hcs;exact⟨none,0,[],rfl,Sl.nil _ _ _,fun l hl=>by simp at hl⟩
 · subst hcs;have hmc:len0≤m:=by rw[hmm];simp;exact hl
   have hall:∀ i,∃ l:List Int,i < len0→l.length=k∧(∀ n,n∈l→(Lit.int .i64 n).wf=true)∧∀ (j:Nat) (u:Value),(l.map (Value.int .i64))[j]? = some u→W.cell? (a.add (i * k+j))=some u:=by
    intro i
    by_cases hi2:i < len0
    · obtain⟨cs',hcells,htr⟩:=hel i (by omega);rw[hc]at hcells;obtain⟨h1,h2⟩:=hi H enc W 0 (fun _=>true) true n cs' _ htr;obtain⟨l,rfl,hw⟩:=ints_list h2;obtain⟨_,h3,h4⟩:=World.cells?_some hcells;refine⟨l,fun _=>⟨by simpa using h3,hw,fun j u hu=>?_⟩⟩;have hj:j < k:=by have:=(List.getElem?_eq_some_iff.1 hu).1;simp at this h3;omega
      rw[← Go.Deep.add_add,h4 j hj];exact hu
    · exact⟨[],fun h=>absurd h hi2⟩
   obtain⟨f,hfs⟩:=Classical.axiomOfChoice hall;refine⟨some a,cap0,(List.range len0).map f,by simp,⟨by simpa using hl,hm,?_,fun hpos=>?_⟩,?_⟩
   · intro x hx;simp only[List.map_map,List.mem_map,List.mem_range,Function.comp]at hx;obtain⟨i,hi2,rfl⟩:=hx;exact⟨f i,(hfs i hi2).1,rfl⟩
   · have hpos':0 < len0:=by simpa using hpos
     have h0:∃ u,W.cell? a=some u:=by
      obtain⟨h1,_,h3⟩:=hfs 0 hpos';have hl0:0 < ((f 0).map (Value.int .i64)).length:=by simp;omega
      have:=h3 0 _ (List.getElem?_eq_getElem hl0);simp only[Nat.zero_mul,Nat.add_zero]at this;have ha:a.add 0=a:=by unfold Addr.add;simp
      rw[ha]at this;exact⟨_,this⟩
     obtain⟨u0,h0⟩:=h0;have hsp:=World.cell?_spot h0;obtain⟨b,off,spot⟩:=a;simp only at hsp;subst hsp;refine⟨b,off,rfl,World.block_lt_of_cell? W _ h0,fun j u hu=>?_⟩;have hlen:∀ x,x∈((List.range len0).map f).map (fun l=>l.map (Value.int .i64))→x.length=k:=by
      intro x hx;simp only[List.map_map,List.mem_map,List.mem_range,Function.comp]at hx;obtain⟨i,hi2,rfl⟩:=hx;simpa using (hfs i hi2).1
     have hjl:j < (((List.range len0).map f).map (fun l=>l.map (Value.int .i64))).flatten.length:=(List.getElem?_eq_some_iff.1 hu).1;rw[flatten_length _ hlen]at hjl;simp only[List.length_map,List.length_range]at hjl;have hi2:j / k < len0:=Nat.div_lt_of_lt_mul (by rw[Nat.mul_comm];exact hjl);have hr:j % k < k:=Nat.mod_lt _ hk;have hj:j=j / k * k+j % k:=by rw[Nat.mul_comm];exact(Nat.div_add_mod j k).symm
     have hrow:(((List.range len0).map f).map (fun l=>l.map (Value.int .i64)))[j / k]? = some ((f (j / k)).map (Value.int .i64)):=by
      simp[hi2]
     have hrl:j % k < ((f (j / k)).map (Value.int .i64)).length:=by simp[(hfs _ hi2).1];exact hr
     have h5:=flatten_at _ hlen (j / k) _ hrow (j % k) _ (List.getElem?_eq_getElem hrl);rw[← hj,hu]at h5;have h6:=(hfs _ hi2).2.2 (j % k) _ (List.getElem?_eq_getElem hrl);rw[add_lit,← hj]at h6;rw[h5];exact h6
   · intro l hl2;simp only[List.mem_map,List.mem_range]at hl2;obtain⟨i,hi2,rfl⟩:=hl2;exact⟨(hfs i hi2).1,(hfs i hi2).2.1⟩
end
theorem cells_int:Tryz.prog.cellsOf 3=1:=by kernel_rfl
theorem cells_Bx:Tryz.prog.cellsOf 25=6:=by kernel_rfl
theorem cells_Ed:Tryz.prog.cellsOf 32=17:=by kernel_rfl
theorem ints_St:IntsT Tryz.prog 30:=by
 refine ints_struct Tryz.underlying30 (fun i f h=>?_) (fun j hj=>?_)
 · match i,h with
   | 0,h=>injection h with h;subst h;exact ints_int_
   | 1,h=>injection h with h;subst h;exact ints_int_
   | 2,h=>injection h with h;subst h;exact ints_int_
   | 3,h=>injection h with h;subst h;exact ints_int_
   | i+4,h=>simp at h
 · exact cover_of (by kernel_rfl) j hj
theorem ints_Bx:IntsT Tryz.prog 25:=by
 refine ints_struct Tryz.underlying25 (fun i f h=>?_) (fun j hj=>?_)
 · match i,h with
   | 0,h=>injection h with h;subst h;exact ints_Pt
   | 1,h=>injection h with h;subst h;exact ints_Pt
   | i+2,h=>simp at h
 · exact cover_of (by kernel_rfl) j hj
theorem ints_Ed:IntsT Tryz.prog 32:=by
 refine ints_struct Tryz.underlying32 (fun i f h=>?_) (fun j hj=>?_)
 · match i,h with
   | 0,h=>injection h with h;subst h;exact ints_St
   | 1,h=>injection h with h;subst h;exact ints_int_
   | 2,h=>injection h with h;subst h;exact ints_Bx
   | 3,h=>injection h with h;subst h;exact ints_Pt
   | 4,h=>injection h with h;subst h;exact ints_int_
   | 5,h=>injection h with h;subst h;exact ints_int_
   | 6,h=>injection h with h;subst h;exact ints_int_
   | i+7,h=>simp at h
 · exact cover_of (by kernel_rfl) j hj
theorem read_Ed{H:Type}{enc:TypeId × Value→H}{W:World}{base:Nat}{r:Go.Reach}{v:Value}{d:DataW H}{ps:List MemPlace}
    (hv:Value.okWide Tryz.prog W r base 32 v) (h:DataW.Trod enc Tryz.prog W 0 (fun _=>true) true 32 v d ps):∃ x:Ed,v = .agg (x.ints.map (Value.int .i64)).toArray∧∀ n,n∈x.ints→(Lit.int .i64 n).wf=true:=by
 obtain⟨l,rfl,hl,hw⟩:=read_struct Tryz.underlying32 ints_Ed hv h;rw[cells_Ed]at hl
 match l,hl,hw with
 | [a0,a1,a2,a3,a4,a5,a6,a7,a8,a9,a10,a11,a12,a13,a14,a15,a16],_,hw=>exact⟨⟨⟨a0,a1,a2,a3⟩,a4,⟨⟨a5,a6,a7⟩,⟨a8,a9,a10⟩⟩,⟨a11,a12,a13⟩,a14,a15,a16⟩,rfl,hw⟩
theorem ints_rows{ls:List (List Int)}(hl:∀ l,l∈ls→l.length=1∧∀ n,n∈l→(Lit.int .i64 n).wf=true):∃ l:List Int,ls.map (fun l=>l.map (Value.int .i64))=rowsI l:=by
 induction ls with
 | nil=>exact⟨[],rfl⟩
 | cons x xs ih=>
   obtain⟨l,hl'⟩:=ih (fun y hy=>hl y (List.mem_cons_of_mem _ hy));obtain⟨h3,h4⟩:=hl x (List.mem_cons_self ..)
   match x,h3,h4 with
   | [a0],_,h4=>exact⟨a0:: l,by unfold rowsI at hl' ⊢;simp only[List.map_cons,hl'];rfl⟩
theorem read_grid{H:Type}{enc:TypeId × Value→H}{W:World}{base:Nat}{r:Go.Reach}{v:Value}{d:DataW H}{ps:List MemPlace}
    (hv:Value.okWide Tryz.prog W r base 28 v) (h:DataW.Trod enc Tryz.prog W 0 (fun _=>true) true 28 v d ps):
    ∃ (g:Gr) (A:Option Addr) (c:Nat),v = .agg #[.int .i64 g.box.lo.x,.int .i64 g.box.lo.y,.int .i64 g.box.lo.z,.int .i64 g.box.hi.x,.int .i64 g.box.hi.y,.int .i64 g.box.hi.z,.slice A g.cells.length c]∧Sv W W.heap.size 1 A c (rowsI g.cells):=by
 obtain⟨cs,rfl,hsz⟩:=okWide_struct Tryz.underlying28 hv;obtain⟨fuel,hf⟩:=h;have hf':DataW.trod enc Tryz.prog W 0 (fun _=>true) true fuel 28 cs.toList=some (d,ps):=by simpa[Value.cells]using hf
 obtain⟨xs,n,_,_,hlen,hxl,hg⟩:=DataW.trod_struct Tryz.underlying28 hf';have hx0:∃ y,xs[0]? = some y:=⟨xs[0]'(by rw[hxl];decide),List.getElem?_eq_getElem _⟩;have hx1:∃ y,xs[1]? = some y:=⟨xs[1]'(by rw[hxl];decide),List.getElem?_eq_getElem _⟩;obtain⟨y0,hy0⟩:=hx0;obtain⟨y1,hy1⟩:=hx1;have g0:DataW.trod enc Tryz.prog W 0 (fun _=>true) true n 25 ((cs.toList.drop 0).take (Tryz.prog.cellsOf 25))=xs[0]?:=hg 0 _ rfl;have g1:DataW.trod enc Tryz.prog W 0 (fun _=>true) true n 26 ((cs.toList.drop 6).take (Tryz.prog.cellsOf 26))=xs[1]?:=hg 1 _ rfl;rw[hy0]at g0;rw[hy1]at g1;have c7:Tryz.prog.cellsOf 28=7:=by kernel_rfl
 have c1:Tryz.prog.cellsOf 26=1:=by kernel_rfl
 rw[c7]at hlen;rw[cells_Bx]at g0;rw[c1]at g1;obtain⟨e0,h0⟩:=ints_Bx H enc W 0 (fun _=>true) true n _ y0 g0;obtain⟨y1a,y1b⟩:=y1;obtain⟨A,c,ls,e1,hs,hl⟩:=read_rows_at Tryz.underlying26 cells_int (by decide) ints_int_ g1;obtain⟨li,hli⟩:=ints_rows hl;obtain⟨lb,hlb,_⟩:=ints_list h0;have hlbl:lb.length=6:=by have:=congrArg List.length hlb;rw[e0,cells_Bx,List.length_map]at this;exact this.symm
 rw[hli]at hs;have hll:=congrArg List.length hli;rw[List.length_map,rowsI_length]at hll;have e2:cs.toList=lb.map (Value.int .i64)++[.slice A li.length c]:=by
  have h6:cs.toList=(cs.toList.drop 0).take 6++(cs.toList.drop 6).take 1:=by
   rw[List.drop_zero];have h7:(cs.toList.drop 6).take 1=cs.toList.drop 6:=List.take_of_length_le (by rw[List.length_drop,hlen];decide);rw[h7,List.take_append_drop]
  rw[h6,hlb,e1,hll]
 match lb,hlbl with
 | [a0,a1,a2,a3,a4,a5],_=>
   exact⟨⟨⟨⟨a0,a1,a2⟩,⟨a3,a4,a5⟩⟩,li⟩,A,c,by congr 1;apply Array.ext';rw[e2];rfl,hs.sv⟩
theorem wf64{n:Int}(h:(Lit.int .i64 n).wf=true):-9223372036854775808≤n∧n≤9223372036854775807:=by
 simpa[Lit.wf,IntKind.min,IntKind.max,IntKind.signed,IntKind.bits]using h
theorem fits_of{x:Ed}(h:∀ n,n∈x.ints→(Lit.int .i64 n).wf=true):fits x:=
 ⟨(wf64 (h _ (by simp[Ed.ints]))).2,(wf64 (h _ (by simp[Ed.ints]))).2,(wf64 (h _ (by simp[Ed.ints]))).2⟩
end Go.Proofs.YtoecbicdahbccaaGreatDoor
namespace Go.Proofs.YtoecbicdahbccaaGreatDoor
open Go Go.RowKit
theorem matF_setG{g:Gr}(hv:validG g=true)(p:Pt)(v:Int)(q:Pt):matF (setG g p v) q=if q=p∧inP q g.box=true then v else matF g q:=by
 unfold matF;rw[fld_setG hv]
 by_cases h:q=p
 · subst h;unfold updF;rw[if_pos rfl]
   cases hq:inP q g.box
   · have h0:fld g q=none:=fld_out hq;rw[h0];simp
   · obtain⟨sx,sy,sz,G⟩:=good_of hv;obtain⟨u,hu,_⟩:=G.fld_in hq;rw[hu];simp
 · rw[updF_ne h,if_neg (fun h2=>h h2.1)]
def goodC(l:List Chg):Prop:=∀ c,c∈l→0≤c.new∧c.new < 256
theorem writeG_nil(g:Gr):writeG g []=g:=rfl
theorem writeG_cons(g:Gr)(c:Chg)(l:List Chg):writeG g (c:: l)=writeG (setG g c.at_ c.new) l:=rfl
theorem writeG_box(g:Gr)(l:List Chg):(writeG g l).box=g.box:=rfl
theorem writeG_len(g:Gr)(l:List Chg):(writeG g l).cells.length=g.cells.length:=by unfold writeG;rw[writeC_length]
theorem writeG_valid:∀ {l:List Chg} {g:Gr},validG g=true→goodC l→validG (writeG g l)=true
 | [],_,hv,_=>hv
 | c:: l,g,hv,h=>by
   rw[writeG_cons];exact writeG_valid (valid_setG hv _ (h c (List.mem_cons_self ..))) (fun x hx=>h x (List.mem_cons_of_mem _ hx))
theorem matF_write_no:∀ {l:List Chg} {g:Gr},validG g=true→goodC l→∀ q,(∀ c,c∈l→c.at_≠q)→matF (writeG g l) q=matF g q
 | [],_,_,_,_,_=>rfl
 | c:: l,g,hv,h,q,hq=>by
   rw[writeG_cons,matF_write_no (valid_setG hv _ (h c (List.mem_cons_self ..))) (fun x hx=>h x (List.mem_cons_of_mem _ hx)) q (fun x hx=>hq x (List.mem_cons_of_mem _ hx)),matF_setG hv,
    if_neg (fun h2=>hq c (List.mem_cons_self ..) h2.1.symm)]
theorem matF_write_at:∀ {l:List Chg} {g:Gr},validG g=true→goodC l→OnceC l→∀ c,c∈l→inP c.at_ g.box=true→matF (writeG g l) c.at_=c.new
 | [],_,_,_,_,_,hc,_=>by cases hc
 | d:: l,g,hv,h,ho,c,hc,hb=>by
   have hv2:=valid_setG hv d.at_ (h d (List.mem_cons_self ..));have h2:goodC l:=fun x hx=>h x (List.mem_cons_of_mem _ hx);unfold OnceC at ho;rw[List.map_cons,List.nodup_cons]at ho;rw[writeG_cons]
   rcases List.mem_cons.1 hc with e | hc
   · subst e;rw[matF_write_no hv2 h2 _ (fun x hx e=>ho.1 (List.mem_map.2 ⟨x,hx,e⟩)),matF_setG hv,if_pos ⟨rfl,hb⟩]
   · exact matF_write_at hv2 h2 ho.2 c hc hb
theorem grid_ext{g h:Gr}(hg:validG g=true)(hh:validG h=true)(hb:g.box=h.box)(hm:∀ p,inP p g.box=true→matF g p=matF h p):g=h:=by
 obtain⟨sx,sy,sz,G⟩:=good_of hg;obtain⟨tx,ty,tz,H⟩:=good_of hh;have hl:g.cells.length=h.cells.length:=by
  have h1:=G.size;have h2:=H.size;rw[hb]at h1;omega
 obtain⟨b,cs⟩:=g;obtain⟨b2,ds⟩:=h;simp only at hb hl;subst hb;congr 1
 refine List.ext_getElem? fun k=>?_
 by_cases hk:k < cs.length
 · have hp:=G.at_ (i:=k) hk;have hpos:=G.pos (by simp only;omega);have e1:sx=tx∧sy=ty:=by
    have h1:=G.hx;have h2:=H.hx;have h3:=G.hy;have h4:=H.hy;simp only at h1 h2 h3 h4;omega
   obtain⟨rfl,rfl⟩:=e1;have hq:=hm _ hp.1;obtain⟨v,hv1,hv2⟩:=G.fld_in hp.1;obtain⟨u,hu1,hu2⟩:=H.fld_in (p:=atG ⟨b,cs⟩ sx sy k) hp.1;have e2:idxG (⟨b,ds⟩:Gr) sx sy (atG ⟨b,cs⟩ sx sy k)=k:=hp.2;rw[hp.2]at hv2;rw[e2]at hu2;unfold matF at hq;rw[hv1,hu1]at hq;simp only[Option.getD_some]at hq;rw[hv2,hu2,hq]
 · rw[List.getElem?_eq_none (by omega),List.getElem?_eq_none (by omega)]
theorem diffL_good{b:Bx}{F G:Pt→Int}(h:∀ p,inP p b=true→0≤G p∧G p < 256):goodC (diffL b F G):=fun c hc=>by
 obtain⟨h1,_,h3,_⟩:=diffL_mem.1 hc;rw[h3];exact h _ h1
theorem write_diff{g:Gr}(hv:validG g=true){G:Pt→Int}(hG:∀ p,inP p g.box=true→0≤G p∧G p < 256){p:Pt}(hp:inP p g.box=true):matF (writeG g (diffL g.box (matF g) G)) p=G p:=by
 by_cases h:matF g p=G p
 · rw[matF_write_no hv (diffL_good hG) p (fun c hc e=>by
     obtain⟨_,_,_,h4⟩:=diffL_mem.1 hc;rw[e]at h4;exact h4 h),h]
 · exact matF_write_at hv (diffL_good hG) (diffL_sort _ _ _).once ⟨p,matF g p,G p⟩ (diffL_mem.2 ⟨hp,rfl,rfl,h⟩) hp
theorem matF_rng{g:Gr}(hv:validG g=true){p:Pt}(hp:inP p g.box=true):0≤matF g p∧matF g p < 256:=by
 obtain⟨sx,sy,sz,G⟩:=good_of hv;obtain⟨v,h1,h2⟩:=G.fld_in hp;unfold matF;rw[h1];exact G.mat v (List.mem_of_getElem? h2)
theorem refGet_in(g:Gr)(A:Option Addr)(c:Nat)(p:Pt)(w:World)(hs:Sv w w.heap.size 1 A c (rowsI g.cells))(hin:inP p g.box=true)(k:Nat)(v:Int)(hk:idxW g.box p=k)(hv:g.cells[k]? = some v):
    Calls Tryz.prog 19 #[.agg #[.int .i64 g.box.lo.x,.int .i64 g.box.lo.y,.int .i64 g.box.lo.z,.int .i64 g.box.hi.x,.int .i64 g.box.hi.y,.int .i64 g.box.hi.z,.slice A g.cells.length c],.agg #[.int .i64 p.x,.int .i64 p.y,.int .i64 p.z]] w fun e w'=>e = .returned (.int .i64 v)∧Ext w w':=by
 have HI:=Lib.hid (fun w'=>refIndex_any g.box p w');have hln:g.cells.length≤9223372036854775807:=by have h:=hs.len;rw[rowsI_length]at h;exact h
 have hkl:k < g.cells.length:=(List.getElem?_eq_some_iff.1 hv).1;rw[hin,hk]at HI;simp only[if_true]at HI;clear hin hk;obtain⟨b,off,rfl,hb,h0⟩:=int_row hs hv;have hb1:b < w.heap.size+1:=by omega
 have hb2:b < w.heap.size+1+1:=by omega
 have hb3:¬ (b=w.heap.size):=by omega
 have hb4:¬ (b=w.heap.size+1):=by omega
 clear hs hv;have B0:=Arr.new w 28 [.int .i64 g.box.lo.x,.int .i64 g.box.lo.y,.int .i64 g.box.lo.z,.int .i64 g.box.hi.x,.int .i64 g.box.hi.y,.int .i64 g.box.hi.z,.slice (some ⟨b,off,none⟩) g.cells.length c];have B1:=Arr.new (w.alloc (.cells #[.int .i64 g.box.lo.x,.int .i64 g.box.lo.y,.int .i64 g.box.lo.z,.int .i64 g.box.hi.x,.int .i64 g.box.hi.y,.int .i64 g.box.hi.z,.slice (some ⟨b,off,none⟩) g.cells.length c] 28)) 23 [.int .i64 p.x,.int .i64 p.y,.int .i64 p.z];have B0:=B0.alloc (.cells #[.int .i64 p.x,.int .i64 p.y,.int .i64 p.z] 23);simp only[World.size_alloc_]at B1;have HB0:=Lib.hid B0;have HB1:=Lib.hid B1;clear B0 B1
 go_enter Tryz.func19,Tryz.ntmps19
 go_wp2_with (first | (refine ldB 23 3 HB1.out Tryz.underlying23 ?_) | (refine ldB 23 3 (HB1.out.alloc _) Tryz.underlying23 ?_) | (refine ldB 23 3 ((HB1.out.alloc _).alloc _) Tryz.underlying23 ?_) | (refine wpList_load_part 25 (.tmp 6) rfl rfl HB0.out 0 [.int .i64 g.box.lo.x,.int .i64 g.box.lo.y,.int .i64 g.box.lo.z,.int .i64 g.box.hi.x,.int .i64 g.box.hi.y,.int .i64 g.box.hi.z] rfl rfl _ Tryz.underlying25 rfl (by kernel_rfl) ?_) | (refine wpList_load_part 25 (.tmp 6) rfl rfl (HB0.out.alloc _) 0 [.int .i64 g.box.lo.x,.int .i64 g.box.lo.y,.int .i64 g.box.lo.z,.int .i64 g.box.hi.x,.int .i64 g.box.hi.y,.int .i64 g.box.hi.z] rfl rfl _ Tryz.underlying25 rfl (by kernel_rfl) ?_) | (go_at_call 41;refine(HI.out _).mono ?_;rintro e wx ⟨rfl,xx⟩;obtain⟨xc,xf,xl,xe,xn,xm⟩:=xx.look;have xz:=xx.size;(try simp only[World.size_alloc_]at xz);(try (have qh:=xx.one (b:=w.heap.size) (by(try simp only[World.size_alloc_]);omega);obtain⟨qc,qf,ql,qe,qn,qm⟩:=qh));(try (have qh:=xx.one (b:=w.heap.size+1) (by(try simp only[World.size_alloc_]);omega);obtain⟨qc,qf,ql,qe,qn,qm⟩:=qh));(try (have qh:=xx.one (b:=w.heap.size+1+1) (by(try simp only[World.size_alloc_]);omega);obtain⟨qc,qf,ql,qe,qn,qm⟩:=qh));(try (have qh:=xx.one (b:=w.heap.size+1+1+1) (by(try simp only[World.size_alloc_]);omega);obtain⟨qc,qf,ql,qe,qn,qm⟩:=qh))))
 go_ret
 exact⟨rfl,byX⟩
end Go.Proofs.YtoecbicdahbccaaGreatDoor
