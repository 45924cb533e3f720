/- A part of the walk of the layer of apply: contracts and plain laws that a row's text leans on. -/
import Derived.Deep.DeepAppendRoom
import Derived.Deep.DeepCutAuto
import Derived.Deep.MidRow
import Derived.Great.BuildSlice
import Derived.Test.YtoecbicdahbccaaGreatDoorZa2
set_option maxRecDepth 100000
set_option maxHeartbeats 16000000
namespace Go.Proofs.YtoecbicdahbccaaGreatDoor
open Go Go.RowKit
def befP(a b:Pt):Bool:=decide (a.z < b.z) || (decide (a.z=b.z) && (decide (a.y < b.y) || (decide (a.y=b.y) && decide (a.x < b.x))))
def putK(l:List Pt)(p:Pt):Nat:=(l.takeWhile fun y=>befP y p).length
def putL(l:List Pt)(p:Pt):List Pt:=if l[putK l p]? = some p then l else l.take (putK l p)++(p:: l.drop (putK l p))
theorem befP_iff(a b:Pt):befP a b=true↔(a.z < b.z∨a.z=b.z∧(a.y < b.y∨a.y=b.y∧a.x < b.x)):=by simp[befP]
theorem befP_irr(a:Pt):befP a a=false:=by rw[Bool.eq_false_iff];intro h;rw[befP_iff]at h;omega
theorem befP_trans{a b c:Pt}(h:befP a b=true)(k:befP b c=true):befP a c=true:=by rw[befP_iff]at *;omega
theorem befP_total{a b:Pt}(h:befP a b=false)(k:a≠b):befP b a=true:=by
 rw[Bool.eq_false_iff]at h;have h1:¬ (a.z < b.z∨a.z=b.z∧(a.y < b.y∨a.y=b.y∧a.x < b.x)):=fun g=>h ((befP_iff a b).2 g);rw[befP_iff];have h2:¬ (a.x=b.x∧a.y=b.y∧a.z=b.z):=fun⟨e1,e2,e3⟩=>k (by cases a;cases b;simp_all);omega
theorem befP_asymm{a b:Pt}(h:befP a b=true):befP b a=false:=by
 rw[Bool.eq_false_iff];intro k;rw[befP_iff]at *;omega
theorem befP_ne{a b:Pt}(h:befP a b=true):a≠b:=by rintro rfl;rw[befP_irr]at h;cases h
def SortP(l:List Pt):Prop:=l.Pairwise fun a b=>befP a b=true
theorem SortP.nodup{l:List Pt}(h:SortP l):l.Nodup:=h.imp fun h=>befP_ne h
theorem SortP.eq{a b:List Pt}(ha:SortP a)(hb:SortP b)(h:∀ q,q∈a↔q∈b):a=b:=by
 induction a generalizing b with
 | nil=>
   cases b with
   | nil=>rfl
   | cons y ys=>exact absurd ((h y).2 (List.mem_cons_self ..)) (by simp)
 | cons x xs ih=>
   cases b with
   | nil=>exact absurd ((h x).1 (List.mem_cons_self ..)) (by simp)
   | cons y ys=>
     unfold SortP at ha hb;rw[List.pairwise_cons]at ha hb;have hxy:x=y:=by
      rcases List.mem_cons.1 ((h x).1 (List.mem_cons_self ..))with e | hx
      · exact e
      · rcases List.mem_cons.1 ((h y).2 (List.mem_cons_self ..))with e | hy
        · exact e.symm
        · have h1:=befP_asymm (ha.1 y hy);rw[hb.1 x hx]at h1
          cases h1
     subst hxy;congr 1
     refine ih ha.2 hb.2 fun q=>⟨fun hq=>?_,fun hq=>?_⟩
     · rcases List.mem_cons.1 ((h q).1 (List.mem_cons_of_mem _ hq))with rfl | h1
       · exact absurd rfl (befP_ne (ha.1 q hq))
       · exact h1
     · rcases List.mem_cons.1 ((h q).2 (List.mem_cons_of_mem _ hq))with rfl | h1
       · exact absurd rfl (befP_ne (hb.1 q hq))
       · exact h1
def insP(p:Pt):List Pt→List Pt
 | []=>[p]
 | x:: xs=>if befP x p then x:: insP p xs else if x=p then x:: xs else p:: x:: xs
theorem putL_ins(p:Pt):∀ l,putL l p=insP p l
 | []=>rfl
 | x:: xs=>by
   have ih:=putL_ins p xs;unfold insP;unfold putL at ih ⊢;have hk:putK (x:: xs) p=if befP x p then putK xs p+1 else 0:=by
    unfold putK;rw[List.takeWhile_cons]
    split <;> simp_all
   rw[hk]
   by_cases hb:befP x p=true
   · rw[if_pos hb,if_pos hb,← ih];simp only[List.getElem?_cons_succ,List.take_succ_cons,List.drop_succ_cons]
     split <;> rfl
   · rw[if_neg hb,if_neg hb];simp
theorem insP_mem(p q:Pt):∀ l,q∈insP p l↔q=p∨q∈l
 | []=>by simp[insP]
 | x:: xs=>by
   have ih:=insP_mem p q xs;unfold insP
   split
   · simp only[List.mem_cons,ih];constructor <;> (intro h;rcases h with h | h | h <;> simp_all)
   · split
     · rename_i h;subst h;simp
     · simp
theorem insP_sort(p:Pt):∀ l,SortP l→SortP (insP p l)
 | [],_=>List.pairwise_singleton ..
 | x:: xs,h=>by
   unfold SortP at h;rw[List.pairwise_cons]at h;unfold insP
   split
   · rename_i hb
     unfold SortP;rw[List.pairwise_cons];refine⟨fun q hq=>?_,insP_sort p xs h.2⟩
     rcases (insP_mem p q xs).1 hq with rfl | hq
     · exact hb
     · exact h.1 q hq
   · split
     · exact List.pairwise_cons.2 h
     · rename_i hb hne
       have hpx:befP p x=true:=befP_total (by simpa using hb) hne;refine List.pairwise_cons.2 ⟨fun q hq=>?_,List.pairwise_cons.2 h⟩
       rcases List.mem_cons.1 hq with rfl | hq
       · exact hpx
       · exact befP_trans hpx (h.1 q hq)
theorem insP_len{p:Pt} : ∀ {l},p∉l→(insP p l).length=l.length+1
 | [],_=>rfl
 | x:: xs,h=>by
   simp only[List.mem_cons,not_or]at h;unfold insP
   split
   · rw[List.length_cons,insP_len h.2];rfl
   · rw[if_neg (fun e=>h.1 e.symm)];rfl
theorem nodup_leN:∀ (n:Nat) (l:List Nat),l.Nodup→(∀ x,x∈l→x < n)→l.length≤n
 | 0,[],_,_=>Nat.le_refl _
 | 0,x:: _,_,h=>absurd (h x (List.mem_cons_self ..)) (by omega)
 | n+1,l,hd,h=>by
   by_cases hn:n∈l
   · have h1:=nodup_leN n (l.erase n) (hd.erase n) (fun x hx=>by
       have hx':=(hd.mem_erase_iff).1 hx;have:=h x hx'.2;omega)
     rw[List.length_erase_of_mem hn]at h1;omega
   · have:=nodup_leN n l hd (fun x hx=>by
       have h1:=h x hx;have h2:x≠n:=by rintro rfl;exact hn hx
       omega)
     omega
theorem nodup_map_le{α:Type}(f:α→Nat)(n:Nat)(l:List α)(hd:l.Nodup)(h:∀ x,x∈l→f x < n)(hi:∀ x y,x∈l→y∈l→f x=f y→x=y):l.length≤n:=by
 have:=nodup_leN n (l.map f) (by
  unfold List.Nodup at hd ⊢;rw[List.pairwise_map];exact hd.imp_of_mem (fun {a b} ha hb hne he=>hne (hi a b ha hb he))) (fun x hx=>by obtain⟨y,hy,rfl⟩:=List.mem_map.1 hx;exact h y hy)
 simpa using this
def adj(a b:Pt):Prop:=(b.x=a.x∧b.y=a.y∧(b.z=a.z+1∨b.z=a.z - 1))∨(b.x=a.x∧b.z=a.z∧(b.y=a.y+1∨b.y=a.y - 1))∨(b.y=a.y∧b.z=a.z∧(b.x=a.x+1∨b.x=a.x - 1))
theorem adj_symm{a b:Pt}(h:adj a b):adj b a:=by unfold adj at *;omega
inductive Reach (F:Pt→Option Int) (c:Int) (a:Pt):Pt→Prop
 | base:Reach F c a a
 | step {p q:Pt} : Reach F c a p→adj p q→F q=some c→Reach F c a q
theorem Reach.val{F:Pt→Option Int}{c:Int}{a q:Pt}(h:Reach F c a q)(ha:F a=some c):F q=some c:=by
 cases h with
 | base=>exact ha
 | step _ _ h=>exact h
theorem Reach.trans{F:Pt→Option Int}{c:Int}{a b q:Pt}(h:Reach F c a b)(k:Reach F c b q):Reach F c a q:=by
 induction k with
 | base=>exact h
 | step _ h1 h2 ih=>exact ih.step h1 h2
theorem Reach.symm{F:Pt→Option Int}{c:Int}{a q:Pt}(h:Reach F c a q)(ha:F a=some c):Reach F c q a:=by
 induction h with
 | base=>exact .base
 | step h1 h2 h3 ih=>exact((Reach.base (F:=F)).step (adj_symm h2) (h1.val ha)).trans ih
structure IsReg (F:Pt→Option Int) (c:Int) (a:Pt) (l:List Pt):Prop where
 sort:SortP l
 mem:∀ q,q∈l↔Reach F c a q
theorem IsReg.uniq{F:Pt→Option Int}{c:Int}{a:Pt}{l m:List Pt}(h:IsReg F c a l)(k:IsReg F c a m):l=m:=h.sort.eq k.sort fun q=>(h.mem q).trans (k.mem q).symm
structure IsBrd (F:Pt→Option Int) (c:Int) (a:Pt) (l:List Pt):Prop where
 sort:SortP l
 mem:∀ q,q∈l↔(∃ v,F q=some v∧v≠c)∧∃ p,Reach F c a p∧adj p q
theorem IsBrd.uniq{F:Pt→Option Int}{c:Int}{a:Pt}{l m:List Pt}(h:IsBrd F c a l)(k:IsBrd F c a m):l=m:=h.sort.eq k.sort fun q=>(h.mem q).trans (k.mem q).symm
structure Two (P:Program) (g:FuncId) (F:Int→Int→Int):Prop where
 enters:∀ args w,(callFunc g args).run P w = .ok (.enter g args) w
 call:∀ x y w,Calls P g #[.int .i64 x,.int .i64 y] w fun e w'=>e = .returned (.int .i64 (F x y))∧Ext w w'
theorem two_greater:Two Tryz.prog 143 max:=⟨fun _ _=>by kernel_rfl,greater_any⟩
theorem two_lesser:Two Tryz.prog 144 min:=⟨fun _ _=>by kernel_rfl,lesser_any⟩
theorem join1_any(i:Nat)(hi:i < 3)(g:FuncId)(F:Int→Int→Int)(hF:Two Tryz.prog g F)(b0 b1 b2:Nat)(x y:Int)(w:World)(e0:w.cell? ⟨b0,0,none⟩=some (.func (.func g) #[] #[]))(e1:w.cell? ⟨b1,i,none⟩=some (.int .i64 x))(e2:w.cell? ⟨b2,i,none⟩=some (.int .i64 y)):
    Calls Tryz.prog 162 #[.int .i64 i,.pointer (some ⟨b0,0,none⟩),.pointer (some ⟨b1,0,none⟩),.pointer (some ⟨b2,0,none⟩)] w fun e w'=>e = .returned (.int .i64 (F x y))∧Ext w w':=by
 have hm:=mixed;have hG:=near_old;have eg:=hF.enters;have HF:=Lib.hid hF.call;have q0:=World.block_lt_of_cell? w _ e0;have q1:=World.block_lt_of_cell? w _ e1;have q2:=World.block_lt_of_cell? w _ e2;simp only at q0 q1 q2;clear hF
 go_enter Tryz.func162,Tryz.ntmps162
 go_wp2
 refine wp_region_near (by assumption) (by kernel_rfl) ?_
 repeat (go_big_quiet_step ((go_at_fn g;exact near_call (HF.out _ _ _))))
 refine wpQuiet_nil ?_;intro w1 hw1;have hy:=Ext.of_near hw1;clear hw1;go_wp2
 go_ret
 exact⟨rfl,hy⟩
theorem join2_any(i:Nat)(hi:i < 3)(g:FuncId)(F:Int→Int→Int)(hF:Two Tryz.prog g F)(b0 b1 b2:Nat)(x y:Int)(w:World)(e0:w.cell? ⟨b0,0,none⟩=some (.func (.func g) #[] #[]))(e1:w.cell? ⟨b1,i,none⟩=some (.int .i64 x))(e2:w.cell? ⟨b2,i,none⟩=some (.int .i64 y)):
    Calls Tryz.prog 163 #[.int .i64 i,.pointer (some ⟨b0,0,none⟩),.pointer (some ⟨b1,0,none⟩),.pointer (some ⟨b2,0,none⟩)] w fun e w'=>e = .returned (.int .i64 (F x y))∧Ext w w':=by
 have hm:=mixed;have hG:=near_old;have eg:=hF.enters;have HF:=Lib.hid hF.call;have q0:=World.block_lt_of_cell? w _ e0;have q1:=World.block_lt_of_cell? w _ e1;have q2:=World.block_lt_of_cell? w _ e2;simp only at q0 q1 q2;clear hF
 go_enter Tryz.func163,Tryz.ntmps163
 go_wp2
 refine wp_region_near (by assumption) (by kernel_rfl) ?_
 repeat (go_big_quiet_step ((go_at_fn g;exact near_call (HF.out _ _ _))))
 refine wpQuiet_nil ?_;intro w1 hw1;have hy:=Ext.of_near hw1;clear hw1;go_wp2
 go_ret
 exact⟨rfl,hy⟩
theorem isNaN_any(a:Int)(w:World):
    Calls Tryz.prog 135 #[.int .i64 a] w fun e w'=>e = .returned (.bool false)∧w=w':=by
 go_enter Tryz.func135,Tryz.ntmps135
 go_wp2
 go_ret
 exact⟨rfl,rfl⟩
def cmpI(a b:Int):Int:=if a < b then -1 else if b < a then 1 else 0
theorem Compare_any(a b:Int)(w:World):
    Calls Tryz.prog 96 #[.int .i64 a,.int .i64 b] w fun e w'=>e = .returned (.int .i64 (cmpI a b))∧w=w':=by
 go_enter Tryz.func96,Tryz.ntmps96
 go_wp2_with (go_at_call 135;refine(isNaN_any _ _).mono ?_;rintro e w' ⟨rfl,rfl⟩)
 all_goals (go_ret;exact⟨ret_int (by unfold cmpI;split <;> (try split) <;> omega),rfl⟩)
def orI(a b:Int):Int:=if a=0 then b else a
theorem eqPt_run(a b:Pt)(w:World):(binOp .eql 23 (.agg #[.int .i64 a.x,.int .i64 a.y,.int .i64 a.z]) (.agg #[.int .i64 b.x,.int .i64 b.y,.int .i64 b.z])).run Tryz.prog w = .ok (.bool (decide (a=b))) w:=by
 obtain⟨a1,a2,a3⟩:=a;obtain⟨b1,b2,b3⟩:=b;simp[go_sem]
 by_cases h1:a1=b1
 · by_cases h2:a2=b2
   · by_cases h3:a3=b3 <;> simp[h1,h2,h3]
   · simp[h1,h2]
 · simp[h1]
theorem eqBx_run(a b:Bx)(w:World):(binOp .eql 25 (.agg #[.int .i64 a.lo.x,.int .i64 a.lo.y,.int .i64 a.lo.z,.int .i64 a.hi.x,.int .i64 a.hi.y,.int .i64 a.hi.z]) (.agg #[.int .i64 b.lo.x,.int .i64 b.lo.y,.int .i64 b.lo.z,.int .i64 b.hi.x,.int .i64 b.hi.y,.int .i64 b.hi.z])).run Tryz.prog w = .ok (.bool (decide (a=b))) w:=by
 obtain⟨⟨a1,a2,a3⟩,⟨a4,a5,a6⟩⟩:=a;obtain⟨⟨b1,b2,b3⟩,⟨b4,b5,b6⟩⟩:=b;simp[go_sem]
 by_cases h1:a1=b1 <;> by_cases h2:a2=b2 <;> by_cases h3:a3=b3 <;> by_cases h4:a4=b4 <;> by_cases h5:a5=b5 <;> by_cases h6:a6=b6 <;> simp[h1,h2,h3,h4,h5,h6]
theorem neqBx_run(a b:Bx)(w:World):(binOp .neq 25 (.agg #[.int .i64 a.lo.x,.int .i64 a.lo.y,.int .i64 a.lo.z,.int .i64 a.hi.x,.int .i64 a.hi.y,.int .i64 a.hi.z]) (.agg #[.int .i64 b.lo.x,.int .i64 b.lo.y,.int .i64 b.lo.z,.int .i64 b.hi.x,.int .i64 b.hi.y,.int .i64 b.hi.z])).run Tryz.prog w = .ok (.bool (decide (a≠b))) w:=by
 obtain⟨⟨a4,a5,a6⟩,⟨a7,a8,a9⟩⟩:=a;obtain⟨⟨b4,b5,b6⟩,⟨b7,b8,b9⟩⟩:=b;simp[go_sem]
 by_cases h4:a4=b4
 · by_cases h5:a5=b5
   · by_cases h6:a6=b6
     · by_cases h7:a7=b7
       · by_cases h8:a8=b8
         · by_cases h9:a9=b9 <;> simp[h4,h5,h6,h7,h8,h9]
         · simp[h4,h5,h6,h7,h8]
       · simp[h4,h5,h6,h7]
     · simp[h4,h5,h6]
   · simp[h4,h5]
 · simp[h4]
def oneP:Pt:=⟨1,1,1⟩
def smlP(p:Pt):Prop:=(-1000000≤p.x∧p.x≤1000000)∧(-1000000≤p.y∧p.y≤1000000)∧(-1000000≤p.z∧p.z≤1000000)
def smlB(b:Bx):Prop:=smlP b.lo∧smlP b.hi
theorem notEmpty{b:Bx}(h:emptyB b=false):b.lo.x < b.hi.x∧b.lo.y < b.hi.y∧b.lo.z < b.hi.z:=by
 unfold emptyB inP at h;simp only[Bool.not_eq_false',Bool.and_eq_true,decide_eq_true_eq]at h;omega
def valsAt(r0 r1 r2:Int):Nat→List Value
 | 0=>[.int .i64 0,.int .i64 0,.int .i64 0]
 | 1=>[.int .i64 r0,.int .i64 0,.int .i64 0]
 | 2=>[.int .i64 r0,.int .i64 r1,.int .i64 0]
 | _=>[.int .i64 r0,.int .i64 r1,.int .i64 r2]
theorem each_any(g:FuncId)(lb:Array Value)(r0 r1 r2:Int)(w:World)(eg:∀ args w,(callFunc g args).run Tryz.prog w = .ok (.enter g args) w)
    (h0:∀ w',Ext w w'→Calls Tryz.prog g (#[.int .i64 0]++lb) w' fun e w''=>e = .returned (.int .i64 r0)∧Ext w' w'')
    (h1:∀ w',Ext w w'→Calls Tryz.prog g (#[.int .i64 1]++lb) w' fun e w''=>e = .returned (.int .i64 r1)∧Ext w' w'')
    (h2:∀ w',Ext w w'→Calls Tryz.prog g (#[.int .i64 2]++lb) w' fun e w''=>e = .returned (.int .i64 r2)∧Ext w' w''):
    Calls Tryz.prog 161 #[.func (.func g) #[] lb] w fun e w'=>e = .returned (.agg #[.int .i64 r0,.int .i64 r1,.int .i64 r2])∧Ext w w':=by
 have H0:=Lib.hid h0;have H1:=Lib.hid h1;have H2:=Lib.hid h2;clear h0 h1 h2
 go_enter Tryz.func161,Tryz.ntmps161
 go_wp2
 go_loopw [5] (fun i wr=>∃ k:Nat,k≤3∧i = .int .i64 k∧Arr wr w.heap.size 23 (valsAt 0 0 0 0)∧Arr wr (w.heap.size+1) 125 (valsAt r0 r1 r2 k)∧Ext w wr) (fun i _=>3 - (intOf i).toNat)
 case atStart=>exact⟨0,by omega,rfl,(Arr.new w _ (valsAt 0 0 0 0)).alloc _,Arr.new1 w _ _ (valsAt 0 0 0 0),((Ext.refl w).alloc _).alloc _⟩
 case round=>
  obtain⟨k,hk,rfl,hA,hB,hx⟩:=hrel;have hz:=hB.lt;have hz0:=hA.lt;obtain rfl | rfl | rfl | rfl:k=0∨k=1∨k=2∨k=3:=by omega
  · go_wp2_with (go_at_fn g;refine(H0.out _ hx).mono ?_;rintro e w1 ⟨rfl,x1⟩;have B1:=hB.ext x1;have A1:=hA.ext x1;have d0:=B1.cell 0;have df:=B1.frozen 0;simp only[valsAt,List.getElem?_cons_zero]at d0)
    go_roundw
    case rel=>exact⟨1,by omega,rfl,A1.other (by simp) _,B1.set 0 (.int .i64 r0),(hx.trans x1).setCell (by simp) _⟩
    case measure=>simp[intOf]
  · go_wp2_with (go_at_fn g;refine(H1.out _ hx).mono ?_;rintro e w1 ⟨rfl,x1⟩;have B1:=hB.ext x1;have A1:=hA.ext x1;have d0:=B1.cell 1;have df:=B1.frozen 1;simp only[valsAt,List.getElem?_cons_zero,List.getElem?_cons_succ]at d0)
    go_roundw
    case rel=>exact⟨2,by omega,rfl,A1.other (by simp) _,B1.set 1 (.int .i64 r1),(hx.trans x1).setCell (by simp) _⟩
    case measure=>simp[intOf]
  · go_wp2_with (go_at_fn g;refine(H2.out _ hx).mono ?_;rintro e w1 ⟨rfl,x1⟩;have B1:=hB.ext x1;have A1:=hA.ext x1;have d0:=B1.cell 2;have df:=B1.frozen 2;simp only[valsAt,List.getElem?_cons_zero,List.getElem?_cons_succ]at d0)
    go_roundw
    case rel=>exact⟨3,by omega,rfl,A1.other (by simp) _,B1.set 2 (.int .i64 r2),(hx.trans x1).setCell (by simp) _⟩
    case measure=>simp[intOf]
  · have d0:=hB.cell 0;have d1:=hB.cell 1;have d2:=hB.cell 2;have a0:=hA.cell 0;have a1:=hA.cell 1;have a2:=hA.cell 2;have f0:=hA.frozen 0;have f1:=hA.frozen 1;have f2:=hA.frozen 2;simp only[valsAt,List.getElem?_cons_zero,List.getElem?_cons_succ]at d0 d1 d2 a0 a1 a2
    go_wp2_with fail
    exact bodyPost_ret (v:=.agg #[.int .i64 r0,.int .i64 r1,.int .i64 r2]) (by simp[results,Tryz.results161,go_sem, *]) rfl ⟨rfl,((hx.setCell (by simp) _).setCell (by simp) _).setCell (by simp) _⟩
theorem wpList_load_part{P:Program}{ops:Array Oper}{rest:List Oper}{o:Oper}{a:Act}{w:World}{Q:Exit→Act→World→Prop}(ty:TypeId)(x:Operand)(ho:o.op = .load ty x)(hw:Region.wanted o (yielded ops a.tmps)=true)
    {b:Nat} {t:TypeId} {vs:List Value} (hB:Arr w b t vs) (off:Nat) (cs:List Value) (hcs:(vs.drop off).take cs.length=cs) (hx:a.eval x = .pointer (some ⟨b,off,none⟩)) (d:TypeDesc) (hu:P.underlying ty=some d)
    (hd:d.isRow=true) (hi:(P.info? ty).map (·.size)=some cs.length) (h:wpList P ops Q rest (a.put o.dst (.agg cs.toArray)) w):wpList P ops Q (o:: rest) a w:=by
 refine wpList_step fun K hK=>?_;rw[if_pos hw];refine wp_load_mid ty x ho b off hx cs d (fun j v hv=>?_) hu hd hi (hK _ _ h);rw[hB.cell,← List.getElem?_drop];have h1:((vs.drop off).take cs.length)[j]? = some v:=by rw[hcs];exact hv
 rw[List.getElem?_take]at h1
 split at h1
 · exact h1
 · cases h1
structure Sp where
 tick:Int
 clock:Int
 site:Int
 seq:Int
 deriving DecidableEq
def validS(s:Sp):Bool:=decide ((0≤s.tick∧s.tick≤4000)∧(1≤s.clock∧s.clock≤1000000)∧(1≤s.site∧s.site≤8)∧(1≤s.seq∧s.seq≤1000))
theorem validS_iff(s:Sp):validS s=true↔((0≤s.tick∧s.tick≤4000)∧(1≤s.clock∧s.clock≤1000000)∧(1≤s.site∧s.site≤8)∧(1≤s.seq∧s.seq≤1000)):=by simp[validS]
theorem validS_no(s:Sp)(h:¬ ((0≤s.tick∧s.tick≤4000)∧(1≤s.clock∧s.clock≤1000000)∧(1≤s.site∧s.site≤8)∧(1≤s.seq∧s.seq≤1000))):validS s=false:=by
 unfold validS;exact decide_eq_false h
theorem parts_any(s:Sp)(w:World):
    Calls Tryz.prog 141 #[.agg #[.int .i64 s.tick,.int .i64 s.clock,.int .i64 s.site,.int .i64 s.seq]] w fun e w'=>e = .returned (.agg #[.int .i64 s.tick,.int .i64 s.clock,.int .i64 s.site,.int .i64 s.seq])∧Ext w w':=by
 go_enter Tryz.func141,Tryz.ntmps141
 go_wp2
 refine bodyPost_ret (v:=.agg #[.int .i64 s.tick,.int .i64 s.clock,.int .i64 s.site,.int .i64 s.seq]) ?_ rfl ?_
 · simp (maxDischargeDepth:=9) only [results,Tryz.results141]
   first
    | (go_simp;done)
    | (go_simp;simp;done)
    | (simp (maxDischargeDepth:=9) [go_sem, *];done)
    | (simp (maxDischargeDepth:=9) [go_sem, *];simp)
 · exact⟨rfl,byX⟩
def okTo(s:Sp):Nat→Prop
 | 0=>True
 | 1=>(0≤s.tick∧s.tick≤4000)
 | 2=>(0≤s.tick∧s.tick≤4000)∧(1≤s.clock∧s.clock≤1000000)
 | 3=>(0≤s.tick∧s.tick≤4000)∧(1≤s.clock∧s.clock≤1000000)∧(1≤s.site∧s.site≤8)
 | _=>(0≤s.tick∧s.tick≤4000)∧(1≤s.clock∧s.clock≤1000000)∧(1≤s.site∧s.site≤8)∧(1≤s.seq∧s.seq≤1000)
theorem Valid_any(s:Sp)(w:World):
    Calls Tryz.prog 108 #[.agg #[.int .i64 s.tick,.int .i64 s.clock,.int .i64 s.site,.int .i64 s.seq]] w fun e w'=>e = .returned (.bool (validS s))∧Ext w w':=by
 have i0:∀ w,(Instr.index 150 (.agg #[.int .i64 s.tick,.int .i64 s.clock,.int .i64 s.site,.int .i64 s.seq]) (.int .i64 0)).run Tryz.prog w = .ok (.int .i64 s.tick) w:=fun _=>by kernel_rfl
 have i1:∀ w,(Instr.index 150 (.agg #[.int .i64 s.tick,.int .i64 s.clock,.int .i64 s.site,.int .i64 s.seq]) (.int .i64 1)).run Tryz.prog w = .ok (.int .i64 s.clock) w:=fun _=>by kernel_rfl
 have i2:∀ w,(Instr.index 150 (.agg #[.int .i64 s.tick,.int .i64 s.clock,.int .i64 s.site,.int .i64 s.seq]) (.int .i64 2)).run Tryz.prog w = .ok (.int .i64 s.site) w:=fun _=>by kernel_rfl
 have i3:∀ w,(Instr.index 150 (.agg #[.int .i64 s.tick,.int .i64 s.clock,.int .i64 s.site,.int .i64 s.seq]) (.int .i64 3)).run Tryz.prog w = .ok (.int .i64 s.seq) w:=fun _=>by kernel_rfl
 go_enter Tryz.func108,Tryz.ntmps108
 go_wp2_with (first | (go_at_call 141;refine(parts_any s _).mono ?_;rintro e wx ⟨rfl,xx⟩;obtain⟨xc,xf,xl,xe,xn,xm⟩:=xx.look;have xz:=xx.size;(try simp only[World.size_alloc_]at xz);(try (have qh:=xx.one (b:=w.heap.size) (by(try simp only[World.size_alloc_]);omega);obtain⟨qc,qf,ql,qe,qn,qm⟩:=qh));(try (have qh:=xx.one (b:=w.heap.size+1) (by(try simp only[World.size_alloc_]);omega);obtain⟨qc,qf,ql,qe,qn,qm⟩:=qh));(try (have qh:=xx.one (b:=w.heap.size+1+1) (by(try simp only[World.size_alloc_]);omega);obtain⟨qc,qf,ql,qe,qn,qm⟩:=qh));(try (have qh:=xx.one (b:=w.heap.size+1+1+1) (by(try simp only[World.size_alloc_]);omega);obtain⟨qc,qf,ql,qe,qn,qm⟩:=qh))))
 go_loop [11] (fun i=>∃ k:Nat,k≤4∧i = .int .i64 k∧okTo s k) (fun i=>4 - (intOf i).toNat)
 case atStart=>exact⟨0,by omega,rfl,trivial⟩
 case round=>
  obtain⟨k,hk,rfl,ho⟩:=hrel;obtain rfl | rfl | rfl | rfl | rfl:k=0∨k=1∨k=2∨k=3∨k=4:=by omega
  all_goals have HO:=Lib.hid ho;clear ho
  · go_wp2
    all_goals first
     | (go_round
        case rel=>exact⟨1,by omega,rfl,by have h:=HO.out;simp only[okTo]at h ⊢;omega⟩
        case measure=>simp[intOf])
     | (go_ret
        exact⟨ret_bool (validS_no _ (by omega)).symm,byX⟩)
  · go_wp2
    all_goals first
     | (go_round
        case rel=>exact⟨2,by omega,rfl,by have h:=HO.out;simp only[okTo]at h ⊢;omega⟩
        case measure=>simp[intOf])
     | (go_ret
        exact⟨ret_bool (validS_no _ (by omega)).symm,byX⟩)
  · go_wp2
    all_goals first
     | (go_round
        case rel=>exact⟨3,by omega,rfl,by have h:=HO.out;simp only[okTo]at h ⊢;omega⟩
        case measure=>simp[intOf])
     | (go_ret
        exact⟨ret_bool (validS_no _ (by omega)).symm,byX⟩)
  · go_wp2
    all_goals first
     | (go_round
        case rel=>exact⟨4,by omega,rfl,by have h:=HO.out;simp only[okTo]at h ⊢;omega⟩
        case measure=>simp[intOf])
     | (go_ret
        exact⟨ret_bool (validS_no _ (by omega)).symm,byX⟩)
  · have hv:=(validS_iff s).2 HO.out;have HV:=Lib.hid hv;clear hv;go_wp2
    go_ret
    exact⟨ret_bool HV.out.symm,byX⟩
theorem Arr.kept{w w':World}{b:Nat}{t:TypeId}{vs:List Value}{row:Option Nat}(h:Arr w b t vs)(hg:w.grownBy w' row)(hr:row≠some b):Arr w' b t vs:=(hg.block b h.lt (fun e=>hr e.symm)).trans h
theorem wpList_buildRow{P:Program}{ops:Array Oper}{rest:List Oper}{o:Oper}{a:Act}{w:World}{Q:Exit→Act→World→Prop}(hg:o.guard=none)(t e:TypeId)(s:Nat)(ho:o.op = .buildSlice t 1 #[(0,.tmp s)])
    (k:Nat) (hk:0 < k) (hk2:k≤1000) (x:List Value) (hx:x.length=k) (hs:a.eval (.tmp s) = .agg x.toArray) (hu:P.underlying t=some (.slice e)) (hi:(P.info? e).map (·.size)=some k) (hz:((P.info? e).bind (·.zero)).isSome=true)
    (h:wpList P ops Q rest (a.put o.dst (.slice (some ⟨w.heap.size,0,none⟩) 1 1)) (w.alloc (.cells x.toArray e))):wpList P ops Q (o:: rest) a w:=by
 cases hie:P.info? e with
 | none=>simp[hie]at hi
 | some ie=>
   have hsz:ie.size=k:=by simpa[hie]using hi
   obtain⟨z,hzz⟩:=Option.isSome_iff_exists.1 (by simpa[hie]using hz:(ie.zero).isSome=true);refine wpList_buildSlice hg t e 1 _ ho _ ie z hu hie hzz (by rw[hsz];omega) (by rw[hsz];omega) ?_ h;have hf:=Great.fill_whole (s:=k) hk [.agg x.toArray] ((Array.range (1 * k)).map (z.cells[· % z.cells.size]!)) (fun v hv=>by
    simp only[List.mem_singleton]at hv;subst hv;simpa[Value.cells]using hx) (by simp)
   rw[hsz];simp only[List.map_toArray,List.map_cons,List.map_nil,hs];simpa[Value.cells]using hf
def axisL:Nat→List UInt8
 | 0=>[120,121,122]
 | 1=>[120,122,121]
 | 2=>[121,120,122]
 | 3=>[121,122,120]
 | 4=>[122,120,121]
 | 5=>[122,121,120]
 | _=>[]
structure AxesIn (w:World):Prop where
 at_:∀ i,i < 6→w.cell? ⟨2,i,none⟩=some (strV (axisL i))
 lt:2 < w.heap.size
theorem AxesIn.ext{w w':World}(h:AxesIn w)(hx:Ext w w'):AxesIn w':=⟨fun i hi=>(hx.cell (p:=⟨2,i,none⟩) h.lt).trans (h.at_ i hi),Nat.lt_of_lt_of_le h.lt hx.size⟩
section
variable {P:Program}
structure BoxR (T:TypeId) (n:Nat) (zs cs:List Value) (W:World) (listed:Array Bool) (g:Nat) (w:World):Prop where
 ext:Ext W w
 laid:listed.getD n true=true→W.heap.size≤g∧Arr w g T (if listed.getD (n+1) true=true then cs else zs)
 st:listed.getD (n+1) true=true→listed.getD n true=true
def boxV(V:Nat→Value)(n:Nat)(g i:Nat):Value:=if i < n then V i else if i=n then .pointer (some ⟨g,0,none⟩)else undef
theorem BoxR.keep{T n:Nat}{zs cs:List Value}{W w w':World}{listed:Array Bool}{g:Nat}(h:BoxR T n zs cs W listed g w){i:Nat}(hi:i < n)(hx:Ext w w'):BoxR T n zs cs W (listed.setIfInBounds i true) g w':=by
 have h1:(listed.setIfInBounds i true).getD n true=listed.getD n true:=getD_set_ne true (by omega);have h2:(listed.setIfInBounds i true).getD (n+1) true=listed.getD (n+1) true:=getD_set_ne true (by omega);refine⟨h.ext.trans hx,?_,?_⟩
 · rw[h1,h2];intro h3;obtain⟨h4,h5⟩:=h.laid h3;exact⟨h4,h5.ext hx⟩
 · rw[h1,h2];exact h.st
end
section
variable {a w w' W:World} {o:Obj} {cs:Array Value} {b g:Nat} {t:TypeId} {vs zs ys:List Value}
theorem xNew(h:Hid (Ext a w))(hW:W=(w.alloc o).setRow w.heap.size cs):Hid (Ext a W):=Lib.hid (by rw[hW];exact(h.out.alloc _).setRow (g:=w.heap.size) h.out.size _)
theorem aNew(h:Hid (Arr w b t vs))(hW:W=(w.alloc o).setRow w.heap.size cs):Hid (Arr W b t vs):=Lib.hid (by rw[hW];exact(h.out.alloc _).setRow_other (by have:=h.out.lt;omega) _)
theorem nNew(hW:W=(w.alloc (.cells zs.toArray t)).setRow w.heap.size ys.toArray):Hid (Arr W w.heap.size t ys):=Lib.hid (by rw[hW];exact(Arr.new w t zs).setRow ys)
theorem xRow(h:Hid (Ext a w))(hW:W=w.setRow g cs)(hg:a.heap.size≤g):Hid (Ext a W):=Lib.hid (by rw[hW];exact h.out.setRow hg _)
theorem aRow(h:Hid (Arr w b t vs))(hW:W=w.setRow g cs)(hne:b≠g):Hid (Arr W b t vs):=Lib.hid (by rw[hW];exact h.out.setRow_other hne _)
theorem nRow(h:Hid (Arr w b t vs))(hW:W=w.setRow b ys.toArray):Hid (Arr W b t ys):=Lib.hid (by rw[hW];exact h.out.setRow ys)
theorem xEx(h:Hid (Ext a w))(hx:Ext w w'):Hid (Ext a w'):=Lib.hid (h.out.trans hx)
theorem aEx(h:Hid (Arr w b t vs))(hx:Ext w w'):Hid (Arr w' b t vs):=Lib.hid (h.out.ext hx)
theorem aLt(h:Hid (Arr w b t vs)):Hid (b < w.heap.size):=Lib.hid h.out.lt
end
end Go.Proofs.YtoecbicdahbccaaGreatDoor
