/- A part of the walk of the layer of apply: contracts and plain laws that a row's text leans on. -/
import Derived.Test.YtoecbicdahbccaaGreatDoorZa13
import Derived.Test.YtoecbicdahbccaaGreatDoorZa15
set_option maxRecDepth 100000
set_option maxHeartbeats 16000000
namespace Go.Proofs.YtoecbicdahbccaaGreatDoor
open Go Go.RowKit
def MrgT(D E:Nat→TC)(a b:Nat):Prop:=SameOn D E a b∧SrtT E a b
structure PreT (D:Nat→TC) (a m b:Nat):Prop where
 lo:a < m
 hi:m < b
 u:SrtT D a m
 v:SrtT D m b
 c:CrsT D a m b
theorem mrg_left{D:Nat→TC}{a m b i:Nat}(h:PreT D a m b)(h1:m=a+1)(h2:m≤i)(h3:i≤b)(k1:i=m∨ltQ (D (i - 1)) (D a)=true)(k2:i=b∨ltQ (D i) (D a)=false):MrgT D (shR D a (i - 1)) a b:=by
 refine⟨shR_same D (Nat.le_refl _) (by omega) (by omega),srt_shR (by omega) (by omega) (by rw[← h1];exact h.v) ?_ ?_⟩
 · rcases k1 with k1 | k1
   · exact .inl (by omega)
   · exact .inr (ltQ_lt k1)
 · have e:i - 1+1=i:=by omega
   rw[e]
   rcases k2 with k2 | k2
   · exact .inl k2
   · by_cases hb:i=b
     · exact .inl hb
     · exact .inr (ltQ_ge k2 (h.c a i (Nat.le_refl _) h.lo h2 (by omega)))
theorem mrg_right{D:Nat→TC}{a m b i:Nat}(h:PreT D a m b)(h1:b=m+1)(h2:a≤i)(h3:i≤m)(k1:i=a∨ltQ (D m) (D (i - 1))=false)(k2:i=m∨ltQ (D m) (D i)=true):MrgT D (shF D i m) a b:=by
 refine⟨shF_same D h2 h3 (by omega),?_⟩;rw[h1];refine srt_shF h2 h3 h.u (fun k m1 m2=>?_) ?_
 · rcases k2 with k2 | k2
   · exfalso;omega
   · exact h.u.from_ h2 m1 m2 (ltQ_lt k2)
 · rcases k1 with k1 | k1
   · exact .inl k1
   · by_cases ha:i=a
     · exact .inl ha
     · exact .inr (ltQ_ge k1 (h.c (i - 1) m (by omega) (by omega) (Nat.le_refl _) (by omega)))
def symS(a m b:Nat):Nat:=if (a+b) / 2 < m then(a+b) / 2+m - b else a
def symR(a m b:Nat):Nat:=if (a+b) / 2 < m then(a+b) / 2 else m
theorem sym_rng{D:Nat→TC}{a m b:Nat}(h:PreT D a m b):a≤symS a m b∧symS a m b≤symR a m b∧symR a m b≤m∧symR a m b≤(a+b) / 2∧(a+b) / 2+m≤symS a m b+b:=by
 have h1:=h.lo;have h2:=h.hi;unfold symS symR
 split <;> omega
theorem sym_at{D:Nat→TC}{a m b c:Nat}(h:PreT D a m b)(h1:symS a m b≤c)(h2:c < symR a m b):m≤(a+b) / 2+m - 1 - c∧(a+b) / 2+m - 1 - c < b∧a≤c∧c < m:=by
 have hr:=sym_rng h;omega
theorem sym_ok{D:Nat→TC}{a m b s:Nat}(h:PreT D a m b)(h1:symS a m b≤s)(h2:s≤symR a m b)
    (k1:s=symS a m b∨ltQ (D ((a+b) / 2+m - 1 - (s - 1))) (D (s - 1))=false) (k2:s=symR a m b∨ltQ (D ((a+b) / 2+m - 1 - s)) (D s)=true):
    (a≤s∧s≤m∧m≤(a+b) / 2+m - s∧(a+b) / 2+m - s≤b∧s+((a+b) / 2+m - s - m)=(a+b) / 2∧s≤(a+b) / 2∧(a+b) / 2≤(a+b) / 2+m - s)∧CutT (rotF D s m ((a+b) / 2+m - s)) a s ((a+b) / 2) ((a+b) / 2+m - s) b:=by
 have hr:=sym_rng h;have hlo:=h.lo;have hhi:=h.hi;have e1:s+((a+b) / 2+m - s - m)=(a+b) / 2:=by omega
 refine⟨by omega,?_⟩;have H:=cut_rot h.u h.v h.c (s:=s) (e:=(a+b) / 2+m - s) (by omega) (by omega) (by omega) (by omega) ?_ ?_
 · rw[e1]at H;exact H
 · rcases k1 with k1 | k1
   · unfold symS at k1
     split at k1
     · exact .inr (.inl (by omega))
     · exact .inl k1
   · by_cases hs:s=symS a m b
     · unfold symS at hs
       split at hs
       · exact .inr (.inl (by omega))
       · exact .inl hs
     · have e2:(a+b) / 2+m - 1 - (s - 1)=(a+b) / 2+m - s:=by omega
       rw[e2]at k1;exact .inr (.inr k1)
 · rcases k2 with k2 | k2
   · unfold symR at k2
     split at k2
     · exact .inl (by omega)
     · exact .inr (.inl k2)
   · have e2:(a+b) / 2+m - 1 - s=(a+b) / 2+m - s - 1:=by omega
     rw[e2]at k2;exact .inr (.inr k2)
theorem cut_left{D:Nat→TC}{a s mid e b:Nat}(h:CutT D a s mid e b)(h1:¬ (a < s∧s < mid))(k1:a≤s)(k2:s≤mid):MrgT D D a mid:=by
 refine⟨.refl _ _ _,?_⟩
 by_cases c:a=s
 · rw[c];exact h.v1
 · have e:s=mid:=by omega
   rw[← e];exact h.u1
theorem cut_right{D:Nat→TC}{a s mid e b:Nat}(h:CutT D a s mid e b)(h1:¬ (mid < e∧e < b))(k1:mid≤e)(k2:e≤b):MrgT D D mid b:=by
 refine⟨.refl _ _ _,?_⟩
 by_cases c:mid=e
 · rw[c];exact h.v2
 · have e:e=b:=by omega
   rw[← e];exact h.u2
theorem cut_pre1{D:Nat→TC}{a s mid e b:Nat}(h:CutT D a s mid e b)(h1:a < s∧s < mid):PreT D a s mid:=⟨h1.1,h1.2,h.u1,h.v1,h.c1⟩
theorem cut_pre2{D E:Nat→TC}{a s mid e b:Nat}(h:CutT D a s mid e b)(hE:SameOn D E a mid)(h1:mid < e∧e < b):PreT E mid e b:=by
 have he:∀ k,mid≤k→k < b→E k=D k:=fun k k1 _=>hE.out k (.inr k1);refine⟨h1.1,h1.2,h.u2.congr fun k k1 k2=>he k k1 (by omega),h.v2.congr fun k k1 k2=>he k (by omega) k2,fun i j k1 k2 k3 k4=>?_⟩;rw[he i k1 (by omega),he j (by omega) k4];exact h.c2 i j k1 k2 k3 k4
theorem cut_right2{D E:Nat→TC}{a s mid e b:Nat}(h:CutT D a s mid e b)(hE:SameOn D E a mid)(h1:¬ (mid < e∧e < b))(k1:mid≤e)(k2:e≤b):MrgT E E mid b:=
 ⟨.refl _ _ _,(cut_right h h1 k1 k2).2.congr fun k k3 _=>hE.out k (.inr k3)⟩
theorem mrg_done{D E F:Nat→TC}{a m b s e mid:Nat}(h:CutT (rotF D s m e) a s mid e b)(h1:a≤s)(h2:s≤m)(h3:m≤e)(h4:e≤b)(h5:a≤mid)(h6:mid≤b)(k1:MrgT (rotF D s m e) E a mid)(k2:MrgT E F mid b):MrgT D F a b:=by
 have:=h.done h5 h6 k1.1 k1.2 k2.1 k2.2;exact⟨(rotF_same D h1 h2 h3 h4).trans this.1,this.2⟩
structure InsT (D0 D:Nat→TC) (a i:Nat):Prop where
 same:SameOn D0 D a i
 srt:SrtT D a i
theorem ins_start{D:Nat→TC}{a:Nat} : InsT D D a (a+1):=⟨.refl _ _ _,.one D (by omega)⟩
theorem ins_step{D0 D:Nat→TC}{a b i j:Nat}(ht:∀ x y,a≤x→x < y→y < b→(D0 x).2 < (D0 y).2)(h:InsT D0 D a i)(hi:i < b)(h1:a≤j)(h2:j≤i)(k1:∀ k,j≤k→k < i→ltQ (D i) (D k)=true)(k2:j=a∨ltQ (D i) (D (j - 1))=false):InsT D0 (shF D j i) a (i+1):=by
 refine⟨(h.same.wide (Nat.le_refl _) (by omega)).trans (shF_same D h1 h2 (by omega)),srt_shF h1 h2 h.srt (fun k m1 m2=>ltQ_lt (k1 k m1 m2)) ?_⟩
 rcases k2 with k2 | k2
 · exact .inl k2
 · by_cases e:j=a
   · exact .inl e
   · refine .inr (ltQ_ge k2 ?_);obtain⟨x,m1,m2,m3⟩:=h.same.tuo (j - 1) (by omega) (by omega);rw[m3,h.same.out i (.inr (Nat.le_refl _))];exact ht x i m1 m2 hi
theorem ins_done{D0 D:Nat→TC}{a b i:Nat}(h:InsT D0 D a i)(hi:i=b∨(b≤a+1∧D=D0)):MrgT D0 D a b:=by
 rcases hi with rfl | ⟨h1,rfl⟩
 · exact⟨h.same,h.srt⟩
 · exact⟨.refl _ _ _,.one _ h1⟩
def setC(b:Bx)(cs:List Int)(x:Chg):List Int:=if inP x.at_ b then cs.set (idxW b x.at_).toNat x.new else cs
theorem setC_length(b:Bx)(cs:List Int)(x:Chg):(setC b cs x).length=cs.length:=by unfold setC;split <;> simp
def writeC(b:Bx)(cs:List Int)(l:List Chg):List Int:=l.foldl (setC b) cs
theorem writeC_length(b:Bx)(l:List Chg):∀ cs:List Int,(writeC b cs l).length=cs.length:=by
 unfold writeC
 induction l with
 | nil=>intro cs;rfl
 | cons x l ih=>intro cs;rw[List.foldl_cons,ih,setC_length]
theorem writeC_take{b:Bx}{cs:List Int}{l:List Chg}{k:Nat}{x:Chg}(h:l[k]? = some x):writeC b cs (l.take (k+1))=setC b (writeC b cs (l.take k)) x:=by
 unfold writeC;obtain⟨hk,rfl⟩:=List.getElem?_eq_some_iff.1 h;rw[List.take_add_one,List.getElem?_eq_getElem hk,List.foldl_append];rfl
def writeG(g:Gr)(l:List Chg):Gr:={g with cells:=writeC g.box g.cells l }
def matF(g:Gr)(p:Pt):Int:=(fld g p).getD 0
end Go.Proofs.YtoecbicdahbccaaGreatDoor
namespace Go.Proofs.YtoecbicdahbccaaGreatDoor
open Go Go.RowKit Go.ChangeShapes Go.WideShapes Go.ChangeAt
def coverB(P:Program)(fs:Array Field)(n:Nat):Bool:=(List.range n).all fun j=>(List.range fs.size).any fun i=>match fs[i]? with | some f=>decide (f.offset≤j) && decide (j < f.offset+P.cellsOf f.type) | none=>false
theorem cover_of{P:Program}{fs:Array Field}{n:Nat}(h:coverB P fs n=true):∀ j,j < n→∃ (i:Nat) (f:Field),fs[i]? = some f∧f.offset≤j∧j < f.offset+P.cellsOf f.type:=fun j hj=>by
 unfold coverB at h;rw[List.all_eq_true]at h;have h1:=h j (List.mem_range.2 hj);rw[List.any_eq_true]at h1;obtain⟨i,hi,h2⟩:=h1
 cases hf:fs[i]? with
 | none=>rw[hf]at h2;cases h2
 | some f=>
   rw[hf]at h2;simp only[Bool.and_eq_true,decide_eq_true_eq]at h2;exact⟨i,f,hf,h2.1,h2.2⟩
theorem own_:ownKnob Tryz.prog.godebug=none:=by kernel_rfl
theorem laidOut_:laidOutB Tryz.prog=true:=by kernel_rfl
theorem ints_int_:IntsT Tryz.prog 3:=ints_int Tryz.underlying3 (by kernel_rfl)
theorem ints_Pt:IntsT Tryz.prog 23:=by
 refine ints_struct Tryz.underlying23 (fun i f h=>?_) (fun j hj=>?_)
 · match i,h with
   | 0,h=>injection h with h;subst h;exact ints_int_
   | 1,h=>injection h with h;subst h;exact ints_int_
   | 2,h=>injection h with h;subst h;exact ints_int_
   | i+3,h=>simp at h
 · exact cover_of (by kernel_rfl) j hj
def Ed.ints(x:Ed):List Int:=[x.st.tick,x.st.clock,x.st.site,x.st.seq,x.kind,x.box.lo.x,x.box.lo.y,x.box.lo.z,x.box.hi.x,x.box.hi.y,x.box.hi.z,x.at_.x,x.at_.y,x.at_.z,x.turn,x.cell,x.size]
def Pt.ints(x:Pt):List Int:=[x.x,x.y,x.z]
def Chg.ints(x:Chg):List Int:=[x.at_.x,x.at_.y,x.at_.z,x.old,x.new]
end Go.Proofs.YtoecbicdahbccaaGreatDoor
namespace Go.Proofs.YtoecbicdahbccaaGreatDoor
open Go Go.RowKit
theorem refAdd_any(p q:Pt)(w:World):
    Calls Tryz.prog 55 #[.agg #[.int .i64 p.x,.int .i64 p.y,.int .i64 p.z],.agg #[.int .i64 q.x,.int .i64 q.y,.int .i64 q.z]] w fun e w'=>e = .returned (.agg #[.int .i64 (addP p q).x,.int .i64 (addP p q).y,.int .i64 (addP p q).z])∧Ext w w':=by
 go_enter Tryz.func55,Tryz.ntmps55
 go_wp2
 refine bodyPost_ret (v:=.agg #[.int .i64 (addP p q).x,.int .i64 (addP p q).y,.int .i64 (addP p q).z]) ?_ rfl ?_
 · simp (maxDischargeDepth:=9) only [results,Tryz.results55]
   first
    | (go_simp;done)
    | (go_simp;simp[addP];done)
    | (simp (maxDischargeDepth:=9) [go_sem, *];done)
    | (simp (maxDischargeDepth:=9) [go_sem, *];simp[addP])
 · exact⟨rfl,byX⟩
theorem refnear_any(n:Int)(w:World):
    Calls Tryz.prog 107 #[.int .i64 n] w fun e w'=>e = .returned (.bool (nearN n))∧Ext w w':=by
 go_enter Tryz.func107,Tryz.ntmps107
 go_wp2
 all_goals
  go_ret
  refine⟨ret_bool ?_,byX⟩;rw[Bool.eq_iff_iff];simp[nearN]
  try omega
theorem refRanged_any(p:Pt)(w:World):
    Calls Tryz.prog 61 #[.agg #[.int .i64 p.x,.int .i64 p.y,.int .i64 p.z]] w fun e w'=>e = .returned (.bool (rngP p))∧Ext w w':=by
 go_enter Tryz.func61,Tryz.ntmps61
 go_upto_region 1 with fail
 obtain⟨W0,hW⟩:∃ W,W=w.alloc (.cells #[.int .i64 p.x,.int .i64 p.y,.int .i64 p.z] 23):=⟨_,rfl⟩;have hx0:Ext w W0:=by rw[hW];exact(Ext.refl w).alloc _
 have B0:Arr W0 w.heap.size 23 [.int .i64 p.x,.int .i64 p.y,.int .i64 p.z]:=by rw[hW];exact Arr.new w _ _
 rw[← hW];clear hW;have cB0:=B0.cell;have fB0:=B0.frozen;have lB0:=B0.lt
 go_wp2_with (first | (go_at_call 107;(refine(refnear_any _ _).mono ?_);rintro e wx ⟨rfl,xx⟩;have xz:=xx.size;(try simp only[World.size_alloc_,World.size_setCell_]at xz);obtain⟨B0,cB0,fB0,lB0⟩:=Arr.look (w':=wx) B0 byX))
 all_goals
  go_ret
  exact⟨ret_bool (by simp_all [rngP]),byX⟩
theorem refIsMaterial_any(n:Int)(w:World):
    Calls Tryz.prog 63 #[.int .i64 n] w fun e w'=>e = .returned (.bool (matN n))∧Ext w w':=by
 go_enter Tryz.func63,Tryz.ntmps63
 go_wp2
 all_goals
  go_ret
  refine⟨ret_bool ?_,byX⟩;rw[Bool.eq_iff_iff];simp[matN]
  try omega
theorem refIndex_any(b:Bx)(p:Pt)(w:World):
    Calls Tryz.prog 41 #[.agg #[.int .i64 b.lo.x,.int .i64 b.lo.y,.int .i64 b.lo.z,.int .i64 b.hi.x,.int .i64 b.hi.y,.int .i64 b.hi.z],.agg #[.int .i64 p.x,.int .i64 p.y,.int .i64 p.z]] w fun e w'=>e = .returned (.int .i64 (if inP p b then idxW b p else -1))∧Ext w w':=by
 have HI:=Lib.hid (fun w'=>refIn_any p b w');have HV:=Lib.hid (show idxW b p=wrap64 ((subP p b.lo).x+wrap64 ((sizeP b).x * wrap64 ((subP p b.lo).y+wrap64 ((sizeP b).y * (subP p b.lo).z))))from rfl);have HZ:=Lib.hid (fun w'=>refSize_any b w');have HS:=Lib.hid (fun w'=>refSub_any p b.lo w');have B0:=Arr.new w 25 [.int .i64 b.lo.x,.int .i64 b.lo.y,.int .i64 b.lo.z,.int .i64 b.hi.x,.int .i64 b.hi.y,.int .i64 b.hi.z];have B1:=Arr.new (w.alloc (.cells #[.int .i64 b.lo.x,.int .i64 b.lo.y,.int .i64 b.lo.z,.int .i64 b.hi.x,.int .i64 b.hi.y,.int .i64 b.hi.z] 25)) 23 [.int .i64 p.x,.int .i64 p.y,.int .i64 p.z];have B0:=B0.alloc (.cells #[.int .i64 p.x,.int .i64 p.y,.int .i64 p.z] 23);simp only[World.size_alloc_]at B1;have HB0:=Lib.hid B0;have HB1:=Lib.hid B1;clear B0 B1;generalize subP p b.lo=d at HV HS;generalize sizeP b=s at HV HZ
 cases hq:inP p b
 · rw[hq]at HI;clear hq
   go_enter Tryz.func41,Tryz.ntmps41
   go_wp2_with (first | (refine ldB 23 3 HB1.out Tryz.underlying23 ?_) | (refine ldB 23 3 (HB1.out.alloc _) Tryz.underlying23 ?_) | (refine ldB 23 3 ((HB1.out.alloc _).alloc _) Tryz.underlying23 ?_) | (refine ldB 25 2 HB0.out Tryz.underlying25 ?_) | (refine ldB 25 2 (HB0.out.alloc _) Tryz.underlying25 ?_) | (refine ldB 25 2 ((HB0.out.alloc _).alloc _) Tryz.underlying25 ?_) | (go_at_call 18;refine(HI.out _).mono ?_;rintro e wx ⟨rfl,xx⟩;obtain⟨xc,xf,xl,xe,xn,xm⟩:=xx.look;have xz:=xx.size;(try simp only[World.size_alloc_]at xz);(try (have qh:=xx.one (b:=w.heap.size) (by(try simp only[World.size_alloc_]);omega);obtain⟨qc,qf,ql,qe,qn,qm⟩:=qh));(try (have qh:=xx.one (b:=w.heap.size+1) (by(try simp only[World.size_alloc_]);omega);obtain⟨qc,qf,ql,qe,qn,qm⟩:=qh));(try (have qh:=xx.one (b:=w.heap.size+1+1) (by(try simp only[World.size_alloc_]);omega);obtain⟨qc,qf,ql,qe,qn,qm⟩:=qh));(try (have qh:=xx.one (b:=w.heap.size+1+1+1) (by(try simp only[World.size_alloc_]);omega);obtain⟨qc,qf,ql,qe,qn,qm⟩:=qh))))
   go_ret
   exact⟨rfl,byX⟩
 · rw[hq]at HI;clear hq
   go_enter Tryz.func41,Tryz.ntmps41
   go_wp2_with (first | (refine ldB 23 3 HB1.out Tryz.underlying23 ?_) | (refine ldB 23 3 (HB1.out.alloc _) Tryz.underlying23 ?_) | (refine ldB 23 3 ((HB1.out.alloc _).alloc _) Tryz.underlying23 ?_) | (refine ldB 25 2 HB0.out Tryz.underlying25 ?_) | (refine ldB 25 2 (HB0.out.alloc _) Tryz.underlying25 ?_) | (refine ldB 25 2 ((HB0.out.alloc _).alloc _) Tryz.underlying25 ?_) | (go_at_call 18;refine(HI.out _).mono ?_;rintro e wx ⟨rfl,xx⟩;obtain⟨xc,xf,xl,xe,xn,xm⟩:=xx.look;have xz:=xx.size;(try simp only[World.size_alloc_]at xz);(try (have qh:=xx.one (b:=w.heap.size) (by(try simp only[World.size_alloc_]);omega);obtain⟨qc,qf,ql,qe,qn,qm⟩:=qh));(try (have qh:=xx.one (b:=w.heap.size+1) (by(try simp only[World.size_alloc_]);omega);obtain⟨qc,qf,ql,qe,qn,qm⟩:=qh));(try (have qh:=xx.one (b:=w.heap.size+1+1) (by(try simp only[World.size_alloc_]);omega);obtain⟨qc,qf,ql,qe,qn,qm⟩:=qh));(try (have qh:=xx.one (b:=w.heap.size+1+1+1) (by(try simp only[World.size_alloc_]);omega);obtain⟨qc,qf,ql,qe,qn,qm⟩:=qh))) | (go_at_call 92;refine(HZ.out _).mono ?_;rintro e wx ⟨rfl,xx⟩;obtain⟨xc,xf,xl,xe,xn,xm⟩:=xx.look;have xz:=xx.size;(try simp only[World.size_alloc_,World.size_setCell_]at xz);(try (have qh:=xx.one (b:=w.heap.size) (by(try simp only[World.size_alloc_,World.size_setCell_]);omega);obtain⟨qc,qf,ql,qe,qn,qm⟩:=qh));(try (have qh:=xx.one (b:=w.heap.size+1) (by(try simp only[World.size_alloc_,World.size_setCell_]);omega);obtain⟨qc,qf,ql,qe,qn,qm⟩:=qh));(try (have qh:=xx.one (b:=w.heap.size+1+1) (by(try simp only[World.size_alloc_,World.size_setCell_]);omega);obtain⟨qc,qf,ql,qe,qn,qm⟩:=qh));(try (have qh:=xx.one (b:=w.heap.size+1+1+1) (by(try simp only[World.size_alloc_,World.size_setCell_]);omega);obtain⟨qc,qf,ql,qe,qn,qm⟩:=qh))) | (go_at_call 54;refine(HS.out _).mono ?_;rintro e wx ⟨rfl,xx⟩;obtain⟨xc,xf,xl,xe,xn,xm⟩:=xx.look;have xz:=xx.size;(try simp only[World.size_alloc_]at xz);(try (have qh:=xx.one (b:=w.heap.size) (by(try simp only[World.size_alloc_]);omega);obtain⟨qc,qf,ql,qe,qn,qm⟩:=qh));(try (have qh:=xx.one (b:=w.heap.size+1) (by(try simp only[World.size_alloc_]);omega);obtain⟨qc,qf,ql,qe,qn,qm⟩:=qh));(try (have qh:=xx.one (b:=w.heap.size+1+1) (by(try simp only[World.size_alloc_]);omega);obtain⟨qc,qf,ql,qe,qn,qm⟩:=qh));(try (have qh:=xx.one (b:=w.heap.size+1+1+1) (by(try simp only[World.size_alloc_]);omega);obtain⟨qc,qf,ql,qe,qn,qm⟩:=qh))))
   go_ret
   exact⟨ret_int (by rw[HV.out]),byX⟩
structure GoodL (g:Gr) (v:Int) (a:Pt) (l:List Pt):Prop where
 sort:SortP l
 mem:a∈l
 reach:∀ q,q∈l→Reach (fld g) v a q
theorem GoodL.inb{g:Gr}{v:Int}{a:Pt}{l:List Pt}(h:GoodL g v a l)(ha:fld g a=some v){q:Pt}(hq:q∈l):inP q g.box=true:=fld_some ((h.reach q hq).val ha)
theorem GoodL.len{g:Gr}{v:Int}{a:Pt}{l:List Pt}{sx sy sz:Nat}(h:GoodL g v a l)(ha:fld g a=some v)(G:GoodG g sx sy sz):l.length≤g.cells.length:=
 nodup_map_le (idxG g sx sy) _ l h.sort.nodup (fun _x hx=>(G.idx (h.inb ha hx)).1) (fun _x _y hx hy e=>G.inj (h.inb ha hx) (h.inb ha hy) e)
theorem GoodL.put{g:Gr}{v:Int}{a:Pt}{l:List Pt}{sx sy sz k:Nat}(h:GoodL g v a l)(ha:fld g a=some v)(G:GoodG g sx sy sz)(hr:rngP g.box.hi=true)(hk:g.cells[k]? = some v)(hn:l.any (fun y=>nearW y (atG g sx sy k))=true):GoodL g v a (putL l (atG g sx sy k)):=by
 have hkl:=(List.getElem?_eq_some_iff.1 hk).1;have hat:=G.at_ hkl;obtain⟨y,hy,hny⟩:=List.any_eq_true.1 hn;have hF:fld g (atG g sx sy k)=some v:=by
  obtain⟨u,h1,h2⟩:=G.fld_in hat.1;rw[hat.2,hk]at h2;rw[h1,h2]
 have hR:Reach (fld g) v a (atG g sx sy k):=(h.reach y hy).step ((nearW_iff (G.small hr (h.inb ha hy)) (G.small hr hat.1)).1 hny) hF;rw[putL_ins];exact⟨insP_sort _ _ h.sort,(insP_mem _ _ _).2 (.inr h.mem),fun q hq=>by
  rcases (insP_mem _ _ _).1 hq with rfl | hq
  · exact hR
  · exact h.reach q hq⟩
def Closed(g:Gr)(v:Int)(sx sy:Nat)(l:List Pt)(k:Nat):Prop:=∀ j,j < k→atG g sx sy j∉l→l.any (fun y=>nearW y (atG g sx sy j))=true→g.cells[j]?≠some v
structure PassR (g:Gr) (v:Int) (a:Pt) (sx sy:Nat) (l0 l:List Pt) (gb:Bool) (k:Nat):Prop where
 good:GoodL g v a l
 more:gb=true→l0.length < l.length
 same:gb=false→l=l0∧Closed g v sx sy l0 k
theorem PassR.keep{g:Gr}{v:Int}{a:Pt}{sx sy k:Nat}{l0 l:List Pt}{gb:Bool}(h:PassR g v a sx sy l0 l gb k)(hno:atG g sx sy k∈l∨l.any (fun y=>nearW y (atG g sx sy k))=false∨g.cells[k]?≠some v):PassR g v a sx sy l0 l gb (k+1):=
 ⟨h.good,h.more,fun hg=>by
   obtain⟨rfl,hc⟩:=h.same hg;refine⟨rfl,fun j hj h1 h2=>?_⟩
   rcases Nat.lt_succ_iff_lt_or_eq.1 hj with h3 | rfl
   · exact hc j h3 h1 h2
   · rcases hno with h4 | h4 | h4
     · exact absurd h4 h1
     · rw[h2]at h4;cases h4
     · exact h4⟩
theorem PassR.grow{g:Gr}{v:Int}{a:Pt}{sx sy sz k:Nat}{l0 l:List Pt}{gb:Bool}(h:PassR g v a sx sy l0 l gb k)(ha:fld g a=some v)(G:GoodG g sx sy sz)(hr:rngP g.box.hi=true)(h1:atG g sx sy k∉l)(h2:l.any (fun y=>nearW y (atG g sx sy k))=true)(h3:g.cells[k]? = some v):PassR g v a sx sy l0 (putL l (atG g sx sy k)) true (k+1):=
 ⟨h.good.put ha G hr h3 h2,fun _=>by
   have e:(putL l (atG g sx sy k)).length=l.length+1:=by rw[putL_ins,insP_len h1]
   rw[e]
   cases gb
   · rw[(h.same rfl).1];omega
   · have:=h.more rfl;omega,fun h=>by cases h⟩
theorem fld_fin(g:Gr)(hv:validG g=true)(l:List Pt)(hd:l.Nodup)(h:∀ q,q∈l→fld g q≠none):l.length≤g.cells.length:=by
 obtain⟨sx,sy,sz,G⟩:=good_of hv;have hin:∀ q,q∈l→inP q g.box=true:=fun q hq=>by
  cases hh:inP q g.box
  · exact absurd (fld_out hh) (h q hq)
  · rfl
 exact nodup_map_le (idxG g sx sy) _ l hd (fun x hx=>(G.idx (hin x hx)).1) (fun x y hx hy e=>G.inj (hin x hx) (hin y hy) e)
theorem fld_small(g:Gr)(hv:validG g=true)(q:Pt)(h:fld g q≠none):Small q:=by
 obtain⟨sx,sy,sz,G⟩:=good_of hv;have hr:rngP g.box.hi=true:=by unfold validG at hv;simp only[Bool.and_eq_true]at hv;exact hv.2.1
 cases hh:inP q g.box
 · exact absurd (fld_out hh) h
 · exact G.small hr hh
def cN(t m:Int):Int:=if ngI t m then -(axI t m) - 1 else axI t m+1
def nmK(t:Int)(k:Nat):List UInt8:=(axisL (t / 8).toNat).take k
def sgK(t:Int)(k:Nat):Int:=t % 2 ^ k
def byK(t:Int)(k:Nat):UInt8:=(axisL (t / 8).toNat)[k]?.getD 120
theorem cN_dec:∀ t,t < 48→∀ k,k < 3→nmK (t:Nat) (k+1)=nmK (t:Nat) k++[byK (t:Nat) k]∧120≤(byK (t:Nat) k).toNat∧(byK (t:Nat) k).toNat≤122∧
    ((ngI (t:Nat) (k:Nat)=true∧cN (t:Nat) (k:Nat)=119 - ((byK (t:Nat) k).toNat:Int)∧bits .or .i64 (sgK (t:Nat) k) (2 ^ k)=sgK (t:Nat) (k+1))∨(ngI (t:Nat) (k:Nat)=false∧cN (t:Nat) (k:Nat)=((byK (t:Nat) k).toNat:Int) - 119∧sgK (t:Nat) (k+1)=sgK (t:Nat) k)):=by decide+kernel
theorem cN_fact{t:Int}(ht:0≤t∧t < 48)(k:Nat)(hk:k < 3):nmK t (k+1)=nmK t k++[byK t k]∧120≤(byK t k).toNat∧(byK t k).toNat≤122∧
    ((cN t k < 0∧cN t k=119 - ((byK t k).toNat:Int)∧bits .or .i64 (sgK t k) (2 ^ k)=sgK t (k+1))∨(¬ cN t k < 0∧cN t k=((byK t k).toNat:Int) - 119∧sgK t (k+1)=sgK t k)):=by
 have h:=cN_dec t.toNat (by omega) k hk;rw[Int.toNat_of_nonneg ht.1]at h;obtain⟨h1,h2,h3,h4⟩:=h;refine⟨h1,h2,h3,?_⟩
 rcases h4 with⟨_,a,b⟩ | ⟨_,a,b⟩
 · exact .inl ⟨by omega,a,b⟩
 · exact .inr ⟨by omega,a,b⟩
theorem str_add(a:List UInt8)(b:UInt8):Value.string (⟨a.toArray⟩++⟨[b].toArray⟩)=strV (a++[b]):=by
 unfold strV;congr 1
theorem str_back(b:UInt8)(w:World):(convert 180 9 (.slice (some ⟨w.heap.size,0,none⟩) 1 1)).run Tryz.prog (w.alloc (.cells #[.int .u8 (b.toNat:Int)] 5)) = .ok (strV [b]) (w.alloc (.cells #[.int .u8 (b.toNat:Int)] 5)):=
 run_convert_bytes_back (P:=Tryz.prog) _ 180 9 5 ⟨w.heap.size,0,none⟩ 1 [b] Tryz.underlying180 Tryz.underlying5 Tryz.underlying9 (fun j hj=>by
  have hj0:j=0:=by simp at hj;exact hj
  subst hj0;simp[add_lit])
theorem name_eq:∀ t,t < 48→∀ i,i < 6→(axisL i == nmK (t:Nat) 3)=decide (i=t / 8):=by decide+kernel
theorem number_any(t:Int)(ht:0≤t∧t < 48)(w:World)(hA:AxesIn w):
    Calls Tryz.prog 156 #[.agg #[.int .i64 (cN t 0),.int .i64 (cN t 1),.int .i64 (cN t 2)]] w fun e w'=>e = .returned (.int .i64 t)∧Ext w w':=by
 have F0:=cN_fact ht 0 (by decide);have F1:=cN_fact ht 1 (by decide);have F2:=cN_fact ht 2 (by decide);simp only[Int.cast_ofNat_Int,Int.pow_zero,Int.reducePow,Nat.reduceAdd]at F0 F1 F2;generalize cN t 0=c0 at F0 ⊢;generalize cN t 1=c1 at F1 ⊢;generalize cN t 2=c2 at F2 ⊢;have H0:=Lib.hid F0;have H1:=Lib.hid F1;have H2:=Lib.hid F2;have HT:=Lib.hid ht;have HA:=Lib.hid hA;clear F0 F1 F2 ht hA
 go_enter Tryz.func156,Tryz.ntmps156
 go_upto_region 1 with fail
 obtain⟨W0,hW⟩:∃ W,W=w.alloc (.cells #[.int .i64 c0,.int .i64 c1,.int .i64 c2] 125):=⟨_,rfl⟩;have hx0:Ext w W0:=by rw[hW];exact(Ext.refl w).alloc _
 have B0:Arr W0 w.heap.size 125 [.int .i64 c0,.int .i64 c1,.int .i64 c2]:=by rw[hW];exact Arr.new w _ _
 rw[← hW];clear hW;have cB0:=B0.cell;have fB0:=B0.frozen;have lB0:=B0.lt
 go_upto_region 4 with(refine ldB 125 1 B0 Tryz.underlying125 ?_)
 go_loopw [10,3,4] (fun i nm sg wr=>∃ k:Nat,k≤3∧i = .int .i64 (k:Int)∧nm=strV (nmK t k)∧sg = .int .i64 (sgK t k)∧Ext w wr) (fun i _ _ _=>3 - (intOf i).toNat)
 case atStart=>exact⟨0,by omega,rfl,rfl,by congr 1;unfold sgK;omega,hx0⟩
 case round=>
  clear cB0 fB0 lB0 B0 hx0;obtain⟨k,hk,rfl,rfl,rfl,hx⟩:=hrel;have HX:=Lib.hid hx;clear hx;obtain rfl | rfl | rfl | rfl:k=0∨k=1∨k=2∨k=3:=by omega
  · obtain⟨hn,hb1,hb2,h⟩:=H0.out;have HN:=Lib.hid hn;obtain⟨b,hb⟩:∃ b,byK t 0=b:=⟨_,rfl⟩;rw[hb]at hb1 hb2 h HN;have hbk:=str_back b wr;have hlen:¬ 9223372036854775807 < (nmK t 0).length+1:=by have:(nmK t 0).length≤0:=List.length_take_le ..;omega
    generalize nmK t 0=nm at HN hlen ⊢;clear hn hb H0 H1 H2 HA
    rcases h with⟨h1,h2,h3⟩ | ⟨h1,h2,h3⟩
    all_goals
     have HS:=Lib.hid h3;clear h3;generalize sgK t 0=sg at HS ⊢
    · have hv:wrap64 (wrap64 (120+wrap64 (-c0)) - 1) % 256=(b.toNat:Int):=by unfold wrap64;omega
      have HC2:=Lib.hid h2;clear h2 hb1 hb2
      go_wp2_with (refine wpList_index_cell 125 3 (.tmp 9) (.tmp 10) rfl rfl 3 [.int .i64 c0,.int .i64 c1,.int .i64 c2] .i64 0 (.int .i64 c0) rfl rfl Tryz.underlying125 (by kernel_rfl) (by kernel_rfl) (by decide) rfl ?_)
      exact⟨⟨1,by omega,rfl,by rw[HN.out,← str_add],by rw[← HS.out],HX.out.alloc _⟩,by simp[intOf]⟩
    · have hv:wrap64 (wrap64 (120+c0) - 1) % 256=(b.toNat:Int):=by unfold wrap64;omega
      have HC2:=Lib.hid h2;clear h2 hb1 hb2
      go_wp2_with (refine wpList_index_cell 125 3 (.tmp 9) (.tmp 10) rfl rfl 3 [.int .i64 c0,.int .i64 c1,.int .i64 c2] .i64 0 (.int .i64 c0) rfl rfl Tryz.underlying125 (by kernel_rfl) (by kernel_rfl) (by decide) rfl ?_)
      exact⟨⟨1,by omega,rfl,by rw[HN.out,← str_add],by rw[HS.out],HX.out.alloc _⟩,by simp[intOf]⟩
  · obtain⟨hn,hb1,hb2,h⟩:=H1.out;have HN:=Lib.hid hn;obtain⟨b,hb⟩:∃ b,byK t 1=b:=⟨_,rfl⟩;rw[hb]at hb1 hb2 h HN;have hbk:=str_back b wr;have hlen:¬ 9223372036854775807 < (nmK t 1).length+1:=by have:(nmK t 1).length≤1:=List.length_take_le ..;omega
    generalize nmK t 1=nm at HN hlen ⊢;clear hn hb H0 H1 H2 HA
    rcases h with⟨h1,h2,h3⟩ | ⟨h1,h2,h3⟩
    all_goals
     have HS:=Lib.hid h3;clear h3;generalize sgK t 1=sg at HS ⊢
    · have hv:wrap64 (wrap64 (120+wrap64 (-c1)) - 1) % 256=(b.toNat:Int):=by unfold wrap64;omega
      have HC2:=Lib.hid h2;clear h2 hb1 hb2
      go_wp2_with (refine wpList_index_cell 125 3 (.tmp 9) (.tmp 10) rfl rfl 3 [.int .i64 c0,.int .i64 c1,.int .i64 c2] .i64 1 (.int .i64 c1) rfl rfl Tryz.underlying125 (by kernel_rfl) (by kernel_rfl) (by decide) rfl ?_)
      exact⟨⟨2,by omega,rfl,by rw[HN.out,← str_add],by rw[← HS.out],HX.out.alloc _⟩,by simp[intOf]⟩
    · have hv:wrap64 (wrap64 (120+c1) - 1) % 256=(b.toNat:Int):=by unfold wrap64;omega
      have HC2:=Lib.hid h2;clear h2 hb1 hb2
      go_wp2_with (refine wpList_index_cell 125 3 (.tmp 9) (.tmp 10) rfl rfl 3 [.int .i64 c0,.int .i64 c1,.int .i64 c2] .i64 1 (.int .i64 c1) rfl rfl Tryz.underlying125 (by kernel_rfl) (by kernel_rfl) (by decide) rfl ?_)
      exact⟨⟨2,by omega,rfl,by rw[HN.out,← str_add],by rw[HS.out],HX.out.alloc _⟩,by simp[intOf]⟩
  · obtain⟨hn,hb1,hb2,h⟩:=H2.out;have HN:=Lib.hid hn;obtain⟨b,hb⟩:∃ b,byK t 2=b:=⟨_,rfl⟩;rw[hb]at hb1 hb2 h HN;have hbk:=str_back b wr;have hlen:¬ 9223372036854775807 < (nmK t 2).length+1:=by have:(nmK t 2).length≤2:=List.length_take_le ..;omega
    generalize nmK t 2=nm at HN hlen ⊢;clear hn hb H0 H1 H2 HA
    rcases h with⟨h1,h2,h3⟩ | ⟨h1,h2,h3⟩
    all_goals
     have HS:=Lib.hid h3;clear h3;generalize sgK t 2=sg at HS ⊢
    · have hv:wrap64 (wrap64 (120+wrap64 (-c2)) - 1) % 256=(b.toNat:Int):=by unfold wrap64;omega
      have HC2:=Lib.hid h2;clear h2 hb1 hb2
      go_wp2_with (refine wpList_index_cell 125 3 (.tmp 9) (.tmp 10) rfl rfl 3 [.int .i64 c0,.int .i64 c1,.int .i64 c2] .i64 2 (.int .i64 c2) rfl rfl Tryz.underlying125 (by kernel_rfl) (by kernel_rfl) (by decide) rfl ?_)
      exact⟨⟨3,by omega,rfl,by rw[HN.out,← str_add],by rw[← HS.out],HX.out.alloc _⟩,by simp[intOf]⟩
    · have hv:wrap64 (wrap64 (120+c2) - 1) % 256=(b.toNat:Int):=by unfold wrap64;omega
      have HC2:=Lib.hid h2;clear h2 hb1 hb2
      go_wp2_with (refine wpList_index_cell 125 3 (.tmp 9) (.tmp 10) rfl rfl 3 [.int .i64 c0,.int .i64 c1,.int .i64 c2] .i64 2 (.int .i64 c2) rfl rfl Tryz.underlying125 (by kernel_rfl) (by kernel_rfl) (by decide) rfl ?_)
      exact⟨⟨3,by omega,rfl,by rw[HN.out,← str_add],by rw[HS.out],HX.out.alloc _⟩,by simp[intOf]⟩
  · clear H0 H1 H2;have HA2:=Lib.hid (HA.out.ext HX.out)
    go_upto_region 12 with(refine wpList_load_cells 179 (.global 2) rfl rfl 2 0 [strV (axisL 0),strV (axisL 1),strV (axisL 2),strV (axisL 3),strV (axisL 4),strV (axisL 5)] (fun j v hv=>?_) rfl _ Tryz.underlying179 rfl (by kernel_rfl) ?_)
    · rw[Nat.zero_add]
      match j,hv with
      | 0,hv=>rw[← hv];exact HA2.out.at_ 0 (by decide)
      | 1,hv=>rw[← hv];exact HA2.out.at_ 1 (by decide)
      | 2,hv=>rw[← hv];exact HA2.out.at_ 2 (by decide)
      | 3,hv=>rw[← hv];exact HA2.out.at_ 3 (by decide)
      | 4,hv=>rw[← hv];exact HA2.out.at_ 4 (by decide)
      | 5,hv=>rw[← hv];exact HA2.out.at_ 5 (by decide)
    go_loopw [32] (fun i wq=>∃ k:Nat,(k:Int)≤t / 8∧i = .int .i64 (k:Int)∧wr=wq) (fun i _=>6 - (intOf i).toNat)
    case atStart=>exact⟨0,by have:=HT.out;omega,rfl,rfl⟩
    case round=>
     obtain⟨k,hk,rfl,rfl⟩:=hrel;have hkt:=HT.out;obtain⟨q,hq⟩:∃ q:Nat,t / 8=(q:Int):=⟨(t / 8).toNat,by omega⟩;have HE:=name_eq t.toNat (by omega) k (by omega);rw[Int.toNat_of_nonneg hkt.1]at HE;have hkl:k < 6:=by omega
     have hcs:[strV (axisL 0),strV (axisL 1),strV (axisL 2),strV (axisL 3),strV (axisL 4),strV (axisL 5)][k]? = some (strV (axisL k)):=by
      obtain rfl | rfl | rfl | rfl | rfl | rfl:k=0∨k=1∨k=2∨k=3∨k=4∨k=5:=by omega
      all_goals rfl
     have HCS:=Lib.hid hcs;clear hcs
     by_cases hk8:k=t.toNat / 8
     · have hr:=Lib.hid (show wrap64 (8 * (k:Int)+sgK t 3)=t by unfold sgK wrap64;omega);rw[decide_eq_true hk8]at HE;clear hk8 hq
       go_wp2_with (refine wpList_index_cell 179 9 (.tmp 31) (.tmp 32) rfl rfl 6 [strV (axisL 0),strV (axisL 1),strV (axisL 2),strV (axisL 3),strV (axisL 4),strV (axisL 5)] .i64 k (strV (axisL k)) rfl rfl Tryz.underlying179 (by kernel_rfl) (by kernel_rfl) hkl HCS.out ?_)
       go_ret
       exact⟨ret_int hr.out,HX.out⟩
     · rw[decide_eq_false hk8]at HE;have hn:=Lib.hid (show((k+1:Nat):Int)≤t / 8 by omega);clear hk8 hq
       go_wp2_with (refine wpList_index_cell 179 9 (.tmp 31) (.tmp 32) rfl rfl 6 [strV (axisL 0),strV (axisL 1),strV (axisL 2),strV (axisL 3),strV (axisL 4),strV (axisL 5)] .i64 k (strV (axisL k)) rfl rfl Tryz.underlying179 (by kernel_rfl) (by kernel_rfl) hkl HCS.out ?_)
       exact⟨⟨k+1,hn.out,rfl,trivial⟩,by simp[intOf];omega⟩
def ciL(s t:Int)(k:Nat):List Int:=[0,1,2].map fun m=>if (List.range k).any (fun j=>decide (axI s (j:Nat)=m))then cN t m else 0
theorem ci_dec:∀ s,s < 48→ciL (s:Nat) (invI (s:Nat)) 3 = [cN (invI (s:Nat)) 0,cN (invI (s:Nat)) 1,cN (invI (s:Nat)) 2]∧∀ k,k < 3→ciL (s:Nat) (invI (s:Nat)) (k+1)=(ciL (s:Nat) (invI (s:Nat)) k).set (axI (s:Nat) (k:Nat)).toNat (if ngI (s:Nat) (k:Nat)then -(k:Int) - 1 else(k:Int)+1):=by decide+kernel
theorem Invert_any(s:Int)(hs:0≤s∧s < 48)(w:World)(hA:AxesIn w):Calls Tryz.prog 128 #[.int .i64 s] w fun e w'=>e = .returned (.int .i64 (invI s))∧Ext w w':=by
 have HN:=Lib.hid (fun(W:World) (hx:Ext w W)=>number_any (invI s) (invI_rng hs) W (hA.ext hx));have HI:=Lib.hid (show ∀ W:World,Calls Tryz.prog 153 #[.int .i64 s] W fun e w'=>e = .returned (.bool true)∧Ext W w' by intro W;have h:=isTurn_any s W;rw[show isT s=true by unfold isT;rw[decide_eq_true hs]]at h;exact h);have HX0:=Lib.hid (fun(k:Nat) (hk:k < 3) (W:World) (hx:Ext w W)=>axis_any s k hs (by omega) W (hA.ext hx));have HR:=Lib.hid (fun(k:Nat) (hk:k < 3)=>axI_in s k hs (by omega));have hd:=ci_dec s.toNat (by omega);rw[Int.toNat_of_nonneg hs.1]at hd;have HD:=Lib.hid hd;clear hd hs hA;generalize invI s=t at HN HD ⊢
 go_enter Tryz.func128,Tryz.ntmps128
 go_upto_region 3 with(go_at_call 153;refine(HI.out _).mono ?_;rintro e W1 ⟨rfl,hx⟩;have HX1:=Lib.hid hx;clear hx)
 go_upto_region 5 with fail
 have HA0:=Lib.hid (Arr.new W1 125 [.int .i64 0,.int .i64 0,.int .i64 0]);have HXA:=Lib.hid (HX1.out.alloc (.cells #[.int .i64 0,.int .i64 0,.int .i64 0] 125));have HLE:=Lib.hid HX1.out.size;obtain⟨b,hb⟩:∃ b,b=W1.heap.size:=⟨_,rfl⟩;rw[← hb]at HA0 HLE ⊢;clear hb
 go_loopw [10] (fun i wr=>∃ k:Nat,k≤3∧i = .int .i64 (k:Int)∧Arr wr b 125 ((ciL s t k).map (Value.int .i64))∧Ext w wr) (fun i _=>3 - (intOf i).toNat)
 case atStart=>exact⟨0,by omega,rfl,HA0.out,HXA.out⟩
 case round=>
  obtain⟨k,hk,rfl,hB,hx⟩:=hrel;have HX:=Lib.hid hx;have HB:=Lib.hid hB;clear hx hB HA0 HXA
  by_cases hk3:k < 3
  · have HAX:=Lib.hid (HX0.out k hk3 wr HX.out);have ha:=HR.out k hk3;have HS:=HD.out.2 k hk3;generalize axI s (k:Nat)=a at HAX ha HS;obtain⟨n,hn⟩:∃ n,ngI s (k:Nat)=n:=⟨_,rfl⟩;rw[hn]at HAX HS;replace HS:=Lib.hid HS;obtain⟨x0,x1,x2,hl⟩:∃ x0 x1 x2,ciL s t k = [x0,x1,x2]:=⟨_,_,_,rfl⟩;rw[hl]at HS HB;clear hn hl HX0 HR;have hw1:wrap64 ((k:Int)+1)=(k:Int)+1:=by unfold wrap64;omega
    have hw2:wrap64 (wrap64 (-(k:Int)) - 1) = -(k:Int) - 1:=by unfold wrap64;omega
    obtain rfl | rfl | rfl:a=0∨a=1∨a=2:=by omega
    all_goals
     cases n
     all_goals
      go_upto_region 8 with(go_at_call 155;refine HAX.out.mono ?_;rintro e W2 ⟨rfl,hx⟩;have HB1:=Lib.hid (HB.out.ext hx);have HX2:=Lib.hid (HX.out.trans hx);clear hx)
      have cB:=HB1.out.cell;have fB:=HB1.out.frozen;have lB:=HB1.out.lt;simp only[List.map_cons,List.map_nil]at cB;go_wp2
      go_roundw
      case rel=>first | exact⟨k+1,by omega,by simp,by rw[HS.out];exact HB1.out.set _ _,HX2.out.setCell HLE.out _⟩ | exact⟨k+1,by omega,by simp,by rw[HS.out];exact(HB1.out.set _ _).set _ _,(HX2.out.setCell HLE.out _).setCell HLE.out _⟩
      case measure=>simp[intOf];omega
  · obtain rfl:k=3:=by omega
    have HB3:=Lib.hid (show Arr wr b 125 [.int .i64 (cN t 0),.int .i64 (cN t 1),.int .i64 (cN t 2)]by have h:=HB.out;rw[HD.out.1]at h;exact h)
    go_wp2_with (first | (refine ldB 125 3 HB3.out Tryz.underlying125 ?_) | (go_at_call 156;refine(HN.out _ HX.out).mono ?_;rintro e W2 ⟨rfl,hx⟩;have HX2:=Lib.hid (HX.out.trans hx);clear hx))
    go_ret
    exact⟨rfl,HX2.out⟩
end Go.Proofs.YtoecbicdahbccaaGreatDoor
