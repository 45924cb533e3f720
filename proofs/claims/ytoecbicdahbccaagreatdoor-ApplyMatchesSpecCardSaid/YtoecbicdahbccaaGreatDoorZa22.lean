/- A part of the walk of the layer of apply: contracts and plain laws that a row's text leans on. -/
import Derived.Test.YtoecbicdahbccaaGreatDoorZa19
set_option maxRecDepth 100000
set_option maxHeartbeats 16000000
namespace Go.Proofs.YtoecbicdahbccaaGreatDoor
open Go Go.Shelf Go.RowKit Go.Lib Go.Sort
section
variable {P:Program} {k:Nat} {enc:Chg→List Value} {cf:Chg→Chg→Int} {g:Nat} {cb:Array Value} {blk off cap n0:Nat} {d0:Array Chg} {w0:World}
theorem symMerge_st(L:StC P k)(R:RowK enc k w0 blk off d0)(hs:d0.size=n0)(hsz:n0 < 4611686018427387904)(eg:∀ args w,(callFunc g args).run P w = .ok (.enter g args) w)(hcmp:CmpLays P g cb enc k cf blk off n0 w0)(hlt:∀ x y,ltOf cf x y=befP x.at_ y.at_):
    ∀ (N:Nat) (D:Nat→TC) (a m b:Nat) (w:World),b - a < N→PreT D a m b→b≤n0→RSt enc k w0 blk off n0 D w→
    Calls P 134 #[.slice (some ⟨blk,off,none⟩) n0 cap,.int .i64 a,.int .i64 m,.int .i64 b,.func (.func g) #[] cb] w fun e w'=>e = .returned (.tuple #[])∧∃ E,MrgT D E a b∧RSt enc k w0 blk off n0 E w':=by
 have mixed:=L.mixed;have t0:=L.t0;have v0:=L.v0;have t3:=L.t3;have a3:=L.a3;have z3:=L.z3;have v3:=L.v3;have t4:=L.t4;have a4:=L.a4;have z4:=L.z4;have v4:=L.v4;have t38:=L.t38;have a38:=L.a38;have z38:=L.z38;have v38:=L.v38;have t86:=L.t86;have a86:=L.a86;have z86:=L.z86;have v86:=L.v86;have t162:=L.t162;have a162:=L.a162;have z162:=L.z162;have v162:=L.v162;have aE:=L.aE;have zE:=L.zE;have HC:Aside _:=hcmp;have e1:=L.erof;have e2:=L.esyf;have HRO:=Lib.hid (fun(D:Nat→TC) (a m b:Nat) (h1:a < m) (h2:m < b) (h3:b≤n0) W (S:RSt enc k w0 blk off n0 D W)=>rotate_st (cap:=cap) L R hs hsz h1 h2 h3 (.func (.func g) #[] cb) W S);have HF:=L.syf;have HLT:=Lib.hid hlt;clear hcmp L hlt;intro N
 induction N with
 | zero=>intro _ _ _ _ _ h;exact absurd h (Nat.not_lt_zero _)
 | succ N ih=>
   intro D a m b w hN hpre hb S;have S0:Aside _:=S;have HP:=Lib.hid hpre;have HIH:=Lib.hid ih;have ham:=hpre.lo;have hmb:=hpre.hi;clear S hpre ih
   go_enter HF,Tryz.ntmps134
   clear HF
   by_cases hm1:m=a+1
   · have hz:((m:Int) - (a:Int) == 1)=true:=beq_iff_eq.2 (by omega);have hz2:(m:Int) - (a:Int)=1:=by omega
     have HM1:=Lib.hid hm1;clear HRO HIH hm1 hN;go_wp2
     go_loopg [10,11] (b - m) (fun g1 v10 v11 wr=>∃ i j:Nat,v10 = .int .i64 i∧v11 = .int .i64 j∧m≤i∧i≤j∧j≤b∧j - i≤g1∧Hid ((i=m∨ltQ (D (i - 1)) (D a)=true)∧(j=b∨ltQ (D j) (D a)=false))∧Aside (RSt enc k w0 blk off n0 D wr))
     case atStart=>exact⟨m,b,rfl,rfl,Nat.le_refl _,by omega,Nat.le_refl _,Nat.le_refl _,Lib.hid ⟨.inl rfl,.inl rfl⟩,S0⟩
     case round=>
      clear S0;obtain⟨i,j,rfl,rfl,h1,h2,h3,hg1,HK,S1⟩:=hrel
      by_cases hij:i < j
      · have hijz:(i:Int) < (j:Int):=by omega
        obtain⟨dk,h4,hrow⟩:=S1.out;have S2:Aside (SWK enc k w0 blk off dk wr):=h4;have HR:=Lib.hid hrow;have hds:dk.size=n0:=hrow.1;obtain⟨h,hh⟩:∃ h,h=(i+j) / 2:=⟨_,rfl⟩;have hh1:i≤h∧h < j:=by omega
        have hq1:IntKind.u64.wrap ((i:Int)+(j:Int))=(i:Int)+(j:Int):=by rw[IntKind.wrap_u64];omega
        have hq2:((i:Int)+(j:Int)) / 2=(h:Int):=by omega
        have hrl:=row_lt HLT.out hrow (show h < n0 by omega) (show a < n0 by omega);clear h4 hrow S1 hh
        cases hlq:ltQ (D h) (D a)with
        | true=>
          have hlv:=hrl.trans hlq;clear hrl
          go_wp2_with fail
          have ea10:((h:Int)).toNat=h:=by omega
          have pa10:(0:Int)≤(h:Int):=by omega
          have ba10:(h:Int) < (n0:Int):=by omega
          have ra10:IntKind.i64.wrap ((h:Int))=(h:Int):=by rw[IntKind.wrap_i64];omega
          have ea11:((a:Int)).toNat=a:=by omega
          have pa11:(0:Int)≤(a:Int):=by omega
          have ba11:(a:Int) < (n0:Int):=by omega
          have ra11:IntKind.i64.wrap ((a:Int))=(a:Int):=by rw[IntKind.wrap_i64];omega
          obtain⟨x1,hx1⟩:∃ x,x=dk[h]!:=⟨_,rfl⟩;obtain⟨y1,hy1⟩:∃ x,x=dk[a]!:=⟨_,rfl⟩;have l1a:=S2.out.ld R (by omega) P h (by omega);have l1b:=S2.out.ld R (by omega) P a (by omega);rw[← hx1]at l1a;rw[← hy1]at l1b;have hc1:=S2.out.cmp HC.out (by omega) x1 y1;have hv1:cf x1 y1 < 0:=by rw[hx1,hy1];exact of_decide_eq_true hlv
          have hd1:decide (cf x1 y1 < 0)=true:=decide_eq_true hv1;clear hx1 hy1 hlv
          go_wp2_with fail
          go_quiet_grown (first | (go_at_fn g;refine Calls.grown_of (hc1 _ _)))
          have Z1:Aside (SWK enc k w0 blk off dk (grow (wr.drewN nq) osq)):=S2.out.grown nq osq;clear l1a l1b hc1 S2;generalize grow (wr.drewN nq) osq=w2 at Z1 ⊢;clear nq osq;go_wp2
          go_roundg (j - (h+1))
          case measure=>omega
          case rel=>exact⟨h+1,j,by first | rfl | go_num | (congr 1;omega),rfl,by omega,by omega,h3,Nat.le_refl _,Lib.hid ⟨.inr hlq,HK.out.2⟩,⟨_,Z1.out,HR.out⟩⟩
        | false=>
          have hlv:=hrl.trans hlq;clear hrl
          go_wp2_with fail
          have ea20:((h:Int)).toNat=h:=by omega
          have pa20:(0:Int)≤(h:Int):=by omega
          have ba20:(h:Int) < (n0:Int):=by omega
          have ra20:IntKind.i64.wrap ((h:Int))=(h:Int):=by rw[IntKind.wrap_i64];omega
          have ea21:((a:Int)).toNat=a:=by omega
          have pa21:(0:Int)≤(a:Int):=by omega
          have ba21:(a:Int) < (n0:Int):=by omega
          have ra21:IntKind.i64.wrap ((a:Int))=(a:Int):=by rw[IntKind.wrap_i64];omega
          obtain⟨x2,hx2⟩:∃ x,x=dk[h]!:=⟨_,rfl⟩;obtain⟨y2,hy2⟩:∃ x,x=dk[a]!:=⟨_,rfl⟩;have l2a:=S2.out.ld R (by omega) P h (by omega);have l2b:=S2.out.ld R (by omega) P a (by omega);rw[← hx2]at l2a;rw[← hy2]at l2b;have hc2:=S2.out.cmp HC.out (by omega) x2 y2;have hv2:¬ cf x2 y2 < 0:=by rw[hx2,hy2];exact of_decide_eq_false hlv
          have hd2:decide (cf x2 y2 < 0)=false:=decide_eq_false hv2;clear hx2 hy2 hlv
          go_wp2_with fail
          go_quiet_grown (first | (go_at_fn g;refine Calls.grown_of (hc2 _ _)))
          have Z2:Aside (SWK enc k w0 blk off dk (grow (wr.drewN nq) osq)):=S2.out.grown nq osq;clear l2a l2b hc2 S2;generalize grow (wr.drewN nq) osq=w2 at Z2 ⊢;clear nq osq;go_wp2
          go_roundg (h - i)
          case measure=>omega
          case rel=>exact⟨i,h,rfl,by first | rfl | go_num | (congr 1;omega),h1,by omega,by omega,Nat.le_refl _,Lib.hid ⟨HK.out.1,.inr hlq⟩,⟨_,Z2.out,HR.out⟩⟩
      · have hijz:¬ (i:Int) < (j:Int):=by omega
        obtain rfl:i=j:=by omega
        have HM:=Lib.hid (mrg_left HP.out HM1.out h1 h3 HK.out.1 HK.out.2);obtain⟨i1,hi1⟩:∃ i1,i=i1+1:=⟨i - 1,by omega⟩;subst hi1;clear hijz hij HK;have hi2:i1+1 - 1=i1:=rfl;rw[hi2]at HM
        go_wp2_with fail
        go_loopg [13] (i1 - a) (fun g1 v13 wr=>∃ kk:Nat,v13 = .int .i64 kk∧a≤kk∧kk≤i1∧i1 - kk≤g1∧Aside (RSt enc k w0 blk off n0 (shR D a kk) wr))
        case atStart=>exact⟨a,rfl,Nat.le_refl _,by omega,Nat.le_refl _,(by rw[shR_self];exact S1)⟩
        case round=>
         clear S1;obtain⟨kk,rfl,k1,k2,hg2,S1⟩:=hrel
         by_cases hkk:kk < i1
         · have hkz:(kk:Int) < (i1:Int):=by omega
           obtain⟨dk,h4,hrow⟩:=S1.out;have S2:Aside (SWK enc k w0 blk off dk wr):=h4;have HR:=Lib.hid hrow;have hds:dk.size=n0:=hrow.1;clear h4 hrow S1
           go_wp2_with fail
           have ea30:((kk:Int)).toNat=kk:=by omega
           have pa30:(0:Int)≤(kk:Int):=by omega
           have ba30:(kk:Int) < (n0:Int):=by omega
           have ra30:IntKind.i64.wrap ((kk:Int))=(kk:Int):=by rw[IntKind.wrap_i64];omega
           have ea31:((kk:Int)+1).toNat=(kk+1):=by omega
           have pa31:(0:Int)≤(kk:Int)+1:=by omega
           have ba31:(kk:Int)+1 < (n0:Int):=by omega
           have ra31:IntKind.i64.wrap ((kk:Int)+1)=(kk:Int)+1:=by rw[IntKind.wrap_i64];omega
           have Z3:Aside (SWK enc k w0 blk off (swp dk kk (kk+1)) ((wr.drew.setCells blk (off+kk * k) (enc dk[(kk+1)]!)).setCells blk (off+(kk+1) * k) (enc dk[kk]!))):=S2.out.swapped R kk (kk+1) (by omega) (by omega);have l3a:=S2.out.ld1 R (by omega) P kk (by omega);have l3b:=S2.out.ld1 R (by omega) P (kk+1) (by omega);have s3a:=S2.out.st1 R (by omega) P kk (by omega) dk[(kk+1)]!;have s3b:=S2.out.st2 R (by omega) P kk (kk+1) (by omega) (by omega) dk[(kk+1)]! dk[kk]!;have n3a:(enc dk[kk]!).length=k:=R.hk _;have n3b:(enc dk[(kk+1)]!).length=k:=R.hk _;generalize enc dk[kk]! = cI3 at Z3 l3a s3b n3a;generalize enc dk[(kk+1)]! = cJ3 at Z3 l3b s3a s3b n3b;clear S2
           go_wp2_with fail
           go_big_region_o
           clear l3a l3b s3a s3b;generalize (wr.drew.setCells blk (off+kk * k) cJ3).setCells blk (off+(kk+1) * k) cI3=w2 at Z3 ⊢;go_wp2
           go_roundg (i1 - (kk+1))
           case measure=>omega
           case rel=>exact⟨kk+1,by first | rfl | go_num | (congr 1;omega),by omega,by omega,Nat.le_refl _,⟨_,Z3.out,by rw[← shR_step D k1];exact HR.out.swp (by omega) (by omega)⟩⟩
         · have hkz:¬ (kk:Int) < (i1:Int):=by omega
           obtain rfl:kk=i1:=by omega
           go_wp2
           refine bodyPost_ret (results_none rfl _ _ _) rfl ?_;exact⟨rfl,_,HM.out,S1.out⟩
   · have hz:((m:Int) - (a:Int) == 1)=false:=beq_eq_false_iff_ne.2 (by omega);have hz2:¬ (m:Int) - (a:Int)=1:=by omega
     have HM1:=Lib.hid hm1;clear hm1
     by_cases hb1:b=m+1
     · have hy:((b:Int) - (m:Int) == 1)=true:=beq_iff_eq.2 (by omega);have hy2:(b:Int) - (m:Int)=1:=by omega
       have HB1:=Lib.hid hb1;clear HRO HIH hb1 hN;go_wp2
       go_loopg [14,15] (m - a) (fun g1 v10 v11 wr=>∃ i j:Nat,v10 = .int .i64 i∧v11 = .int .i64 j∧a≤i∧i≤j∧j≤m∧j - i≤g1∧Hid ((i=a∨ltQ (D m) (D (i - 1))=false)∧(j=m∨ltQ (D m) (D j)=true))∧Aside (RSt enc k w0 blk off n0 D wr))
       case atStart=>exact⟨a,m,rfl,rfl,Nat.le_refl _,by omega,Nat.le_refl _,Nat.le_refl _,Lib.hid ⟨.inl rfl,.inl rfl⟩,S0⟩
       case round=>
        clear S0;obtain⟨i,j,rfl,rfl,h1,h2,h3,hg1,HK,S1⟩:=hrel
        by_cases hij:i < j
        · have hijz:(i:Int) < (j:Int):=by omega
          obtain⟨dk,h4,hrow⟩:=S1.out;have S2:Aside (SWK enc k w0 blk off dk wr):=h4;have HR:=Lib.hid hrow;have hds:dk.size=n0:=hrow.1;obtain⟨h,hh⟩:∃ h,h=(i+j) / 2:=⟨_,rfl⟩;have hh1:i≤h∧h < j:=by omega
          have hq1:IntKind.u64.wrap ((i:Int)+(j:Int))=(i:Int)+(j:Int):=by rw[IntKind.wrap_u64];omega
          have hq2:((i:Int)+(j:Int)) / 2=(h:Int):=by omega
          have hrl:=row_lt HLT.out hrow (show m < n0 by omega) (show h < n0 by omega);clear h4 hrow S1 hh
          cases hlq:ltQ (D m) (D h)with
          | false=>
            have hlv:=hrl.trans hlq;clear hrl
            go_wp2_with fail
            have ea40:((m:Int)).toNat=m:=by omega
            have pa40:(0:Int)≤(m:Int):=by omega
            have ba40:(m:Int) < (n0:Int):=by omega
            have ra40:IntKind.i64.wrap ((m:Int))=(m:Int):=by rw[IntKind.wrap_i64];omega
            have ea41:((h:Int)).toNat=h:=by omega
            have pa41:(0:Int)≤(h:Int):=by omega
            have ba41:(h:Int) < (n0:Int):=by omega
            have ra41:IntKind.i64.wrap ((h:Int))=(h:Int):=by rw[IntKind.wrap_i64];omega
            obtain⟨x4,hx4⟩:∃ x,x=dk[m]!:=⟨_,rfl⟩;obtain⟨y4,hy4⟩:∃ x,x=dk[h]!:=⟨_,rfl⟩;have l4a:=S2.out.ld R (by omega) P m (by omega);have l4b:=S2.out.ld R (by omega) P h (by omega);rw[← hx4]at l4a;rw[← hy4]at l4b;have hc4:=S2.out.cmp HC.out (by omega) x4 y4;have hv4:¬ cf x4 y4 < 0:=by rw[hx4,hy4];exact of_decide_eq_false hlv
            have hd4:decide (cf x4 y4 < 0)=false:=decide_eq_false hv4;clear hx4 hy4 hlv
            go_wp2_with fail
            go_quiet_grown (first | (go_at_fn g;refine Calls.grown_of (hc4 _ _)))
            have Z4:Aside (SWK enc k w0 blk off dk (grow (wr.drewN nq) osq)):=S2.out.grown nq osq;clear l4a l4b hc4 S2;generalize grow (wr.drewN nq) osq=w2 at Z4 ⊢;clear nq osq;go_wp2
            go_roundg (j - (h+1))
            case measure=>omega
            case rel=>exact⟨h+1,j,by first | rfl | go_num | (congr 1;omega),rfl,by omega,by omega,h3,Nat.le_refl _,Lib.hid ⟨.inr hlq,HK.out.2⟩,⟨_,Z4.out,HR.out⟩⟩
          | true=>
            have hlv:=hrl.trans hlq;clear hrl
            go_wp2_with fail
            have ea50:((m:Int)).toNat=m:=by omega
            have pa50:(0:Int)≤(m:Int):=by omega
            have ba50:(m:Int) < (n0:Int):=by omega
            have ra50:IntKind.i64.wrap ((m:Int))=(m:Int):=by rw[IntKind.wrap_i64];omega
            have ea51:((h:Int)).toNat=h:=by omega
            have pa51:(0:Int)≤(h:Int):=by omega
            have ba51:(h:Int) < (n0:Int):=by omega
            have ra51:IntKind.i64.wrap ((h:Int))=(h:Int):=by rw[IntKind.wrap_i64];omega
            obtain⟨x5,hx5⟩:∃ x,x=dk[m]!:=⟨_,rfl⟩;obtain⟨y5,hy5⟩:∃ x,x=dk[h]!:=⟨_,rfl⟩;have l5a:=S2.out.ld R (by omega) P m (by omega);have l5b:=S2.out.ld R (by omega) P h (by omega);rw[← hx5]at l5a;rw[← hy5]at l5b;have hc5:=S2.out.cmp HC.out (by omega) x5 y5;have hv5:cf x5 y5 < 0:=by rw[hx5,hy5];exact of_decide_eq_true hlv
            have hd5:decide (cf x5 y5 < 0)=true:=decide_eq_true hv5;clear hx5 hy5 hlv
            go_wp2_with fail
            go_quiet_grown (first | (go_at_fn g;refine Calls.grown_of (hc5 _ _)))
            have Z5:Aside (SWK enc k w0 blk off dk (grow (wr.drewN nq) osq)):=S2.out.grown nq osq;clear l5a l5b hc5 S2;generalize grow (wr.drewN nq) osq=w2 at Z5 ⊢;clear nq osq;go_wp2
            go_roundg (h - i)
            case measure=>omega
            case rel=>exact⟨i,h,rfl,by first | rfl | go_num | (congr 1;omega),h1,by omega,by omega,Nat.le_refl _,Lib.hid ⟨HK.out.1,.inr hlq⟩,⟨_,Z5.out,HR.out⟩⟩
        · have hijz:¬ (i:Int) < (j:Int):=by omega
          obtain rfl:i=j:=by omega
          have HM:=Lib.hid (mrg_right HP.out HB1.out h1 h3 HK.out.1 HK.out.2);clear hijz hij HK
          go_wp2_with fail
          go_loopg [17] (m - i) (fun g1 v13 wr=>∃ kk:Nat,v13 = .int .i64 kk∧i≤kk∧kk≤m∧kk - i≤g1∧Aside (RSt enc k w0 blk off n0 (shF D kk m) wr))
          case atStart=>exact⟨m,rfl,h3,Nat.le_refl _,Nat.le_refl _,(by rw[shF_self];exact S1)⟩
          case round=>
           clear S1;obtain⟨kk,rfl,k1,k2,hg2,S1⟩:=hrel
           by_cases hkk:i < kk
           · have hkz:(i:Int) < (kk:Int):=by omega
             obtain⟨k3,hk3⟩:∃ k3,kk=k3+1:=⟨kk - 1,by omega⟩;subst hk3;obtain⟨dk,h4,hrow⟩:=S1.out;have S2:Aside (SWK enc k w0 blk off dk wr):=h4;have HR:=Lib.hid hrow;have hds:dk.size=n0:=hrow.1;have hkd:decide ((i:Int) < (k3:Int)+1)=true:=decide_eq_true (by omega);have hkd2:(i:Int) < (k3:Int)+1:=by omega
             clear h4 hrow S1 hkz
             go_wp2_with fail
             have ea60:((k3:Int)+1).toNat=(k3+1):=by omega
             have pa60:(0:Int)≤(k3:Int)+1:=by omega
             have ba60:(k3:Int)+1 < (n0:Int):=by omega
             have ra60:IntKind.i64.wrap ((k3:Int)+1)=(k3:Int)+1:=by rw[IntKind.wrap_i64];omega
             have ea61:((k3:Int)).toNat=k3:=by omega
             have pa61:(0:Int)≤(k3:Int):=by omega
             have ba61:(k3:Int) < (n0:Int):=by omega
             have ra61:IntKind.i64.wrap ((k3:Int))=(k3:Int):=by rw[IntKind.wrap_i64];omega
             have Z6:Aside (SWK enc k w0 blk off (swp dk (k3+1) k3) ((wr.drew.setCells blk (off+(k3+1) * k) (enc dk[k3]!)).setCells blk (off+k3 * k) (enc dk[(k3+1)]!))):=S2.out.swapped R (k3+1) k3 (by omega) (by omega);have l6a:=S2.out.ld1 R (by omega) P (k3+1) (by omega);have l6b:=S2.out.ld1 R (by omega) P k3 (by omega);have s6a:=S2.out.st1 R (by omega) P (k3+1) (by omega) dk[k3]!;have s6b:=S2.out.st2 R (by omega) P (k3+1) k3 (by omega) (by omega) dk[k3]! dk[(k3+1)]!;have n6a:(enc dk[(k3+1)]!).length=k:=R.hk _;have n6b:(enc dk[k3]!).length=k:=R.hk _;generalize enc dk[(k3+1)]! = cI6 at Z6 l6a s6b n6a;generalize enc dk[k3]! = cJ6 at Z6 l6b s6a s6b n6b;clear S2
             go_wp2_with fail
             go_big_region_o
             clear l6a l6b s6a s6b;generalize (wr.drew.setCells blk (off+(k3+1) * k) cJ6).setCells blk (off+k3 * k) cI6=w2 at Z6 ⊢;go_wp2
             go_roundg (k3 - i)
             case measure=>omega
             case rel=>exact⟨k3,by first | rfl | go_num | (congr 1;omega),by omega,by omega,Nat.le_refl _,⟨_,Z6.out,by have h5:=shF_step D (Nat.succ_pos k3) k2;rw[show k3+1 - 1=k3 from rfl]at h5;rw[← h5];exact HR.out.swp (by omega) (by omega)⟩⟩
           · have hkz:¬ (i:Int) < (kk:Int):=by omega
             obtain rfl:i=kk:=by omega
             go_wp2
             refine bodyPost_ret (results_none rfl _ _ _) rfl ?_;exact⟨rfl,_,HM.out,S1.out⟩
     · have hy:((b:Int) - (m:Int) == 1)=false:=beq_eq_false_iff_ne.2 (by omega);have hy2:¬ (b:Int) - (m:Int)=1:=by omega
       clear hb1;obtain⟨mid,hmid⟩:∃ mid,mid=(a+b) / 2:=⟨_,rfl⟩;have hq1:IntKind.u64.wrap ((a:Int)+(b:Int))=(a:Int)+(b:Int):=by rw[IntKind.wrap_u64];omega
       have hq2:((a:Int)+(b:Int)) / 2=(mid:Int):=by omega
       obtain⟨s0,hs0⟩:∃ s0,s0=symS a m b:=⟨_,rfl⟩;obtain⟨r0,hr0⟩:∃ r0,r0=symR a m b:=⟨_,rfl⟩;have hrng:=sym_rng HP.out;have hsv:(if mid < m then((mid+m:Nat):Int) - b else(a:Int))=(s0:Int):=by
        rw[hs0,hmid];unfold symS;split <;> omega
       have hrv:(if mid < m then mid else m)=r0:=by
        rw[hr0,hmid];unfold symR;split <;> omega
       rw[← hs0,← hr0,← hmid]at hrng;obtain⟨hg1,hg2,hg3,hg4,hg5⟩:=hrng;have HMID:=Lib.hid hmid;have HSV:=Lib.hid hsv;have HRV:=Lib.hid hrv;have HSR:=Lib.hid (show s0=symS a m b∧r0=symR a m b from⟨hs0,hr0⟩);have hab:a < mid∧mid < b:=by omega
       clear hmid hs0 hr0 hsv hrv
       go_upto_if 140 with fail
       go_cut [20,21]from 138 (fun v1 v2 wc=>v1 = .int .i64 s0∧v2 = .int .i64 r0∧wc=w)
       case first=>
        have HV:=HSV.out;have HW:=HRV.out
        by_cases hmm:mid < m
        · rw[if_pos hmm]at HV HW;have hmz:(mid:Int) < (m:Int):=by omega
          have hv2:(mid:Int)+(m:Int) - (b:Int)=(s0:Int):=by omega
          have HW2:=Lib.hid HW;clear HV HW;go_wp2
          go_meet
          case rel=>exact⟨rfl,by rw[HW2.out],rfl⟩
        · rw[if_neg hmm]at HV HW;have hmz:¬ (mid:Int) < (m:Int):=by omega
          have HV2:=Lib.hid HV;have HW2:=Lib.hid HW;clear HV HW;go_wp2
          go_meet
          case rel=>exact⟨by rw[HV2.out],by rw[HW2.out],rfl⟩
       case rest=>
       obtain⟨rfl,rfl,hwc⟩:=hcut;obtain rfl:=hwc.symm
       go_wp2_with fail
       go_loopg [20,21] (r0 - s0) (fun g1 v10 v11 wr=>∃ i j:Nat,v10 = .int .i64 i∧v11 = .int .i64 j∧s0≤i∧i≤j∧j≤r0∧j - i≤g1∧Hid ((i=s0∨ltQ (D (mid+m - 1 - (i - 1))) (D (i - 1))=false)∧(j=r0∨ltQ (D (mid+m - 1 - j)) (D j)=true))∧Aside (RSt enc k w0 blk off n0 D wr))
       case atStart=>exact⟨s0,r0,rfl,rfl,Nat.le_refl _,by omega,Nat.le_refl _,Nat.le_refl _,Lib.hid ⟨.inl rfl,.inl rfl⟩,S0⟩
       case round=>
        clear S0;obtain⟨i,j,rfl,rfl,h1,h2,h3,hg1,HK,S1⟩:=hrel
        by_cases hij:i < j
        · have hijz:(i:Int) < (j:Int):=by omega
          obtain⟨dk,h4,hrow⟩:=S1.out;have S2:Aside (SWK enc k w0 blk off dk wr):=h4;have HR:=Lib.hid hrow;have hds:dk.size=n0:=hrow.1;obtain⟨h,hh⟩:∃ h,h=(i+j) / 2:=⟨_,rfl⟩;have hh1:i≤h∧h < j:=by omega
          have hq1:IntKind.u64.wrap ((i:Int)+(j:Int))=(i:Int)+(j:Int):=by rw[IntKind.wrap_u64];omega
          have hq2:((i:Int)+(j:Int)) / 2=(h:Int):=by omega
          have hat:=sym_at HP.out (c:=h) (by rw[← HSR.out.1];omega) (by rw[← HSR.out.2];omega);rw[← HMID.out]at hat;obtain⟨q,hq⟩:∃ q,q=mid+m - 1 - h:=⟨_,rfl⟩;rw[← hq]at hat;obtain⟨ha1,ha2,ha3,ha4⟩:=hat;have hqz:(mid:Int)+(m:Int) - 1 - (h:Int)=(q:Int):=by omega
          have hrl:=row_lt HLT.out hrow (show q < n0 by omega) (show h < n0 by omega);have HQ:=Lib.hid hq;clear h4 hrow S1 hh hq
          cases hlq:ltQ (D q) (D h)with
          | false=>
            have hlv:=hrl.trans hlq;clear hrl
            go_wp2_with fail
            have ea70:((q:Int)).toNat=q:=by omega
            have pa70:(0:Int)≤(q:Int):=by omega
            have ba70:(q:Int) < (n0:Int):=by omega
            have ra70:IntKind.i64.wrap ((q:Int))=(q:Int):=by rw[IntKind.wrap_i64];omega
            have ea71:((h:Int)).toNat=h:=by omega
            have pa71:(0:Int)≤(h:Int):=by omega
            have ba71:(h:Int) < (n0:Int):=by omega
            have ra71:IntKind.i64.wrap ((h:Int))=(h:Int):=by rw[IntKind.wrap_i64];omega
            obtain⟨x7,hx7⟩:∃ x,x=dk[q]!:=⟨_,rfl⟩;obtain⟨y7,hy7⟩:∃ x,x=dk[h]!:=⟨_,rfl⟩;have l7a:=S2.out.ld R (by omega) P q (by omega);have l7b:=S2.out.ld R (by omega) P h (by omega);rw[← hx7]at l7a;rw[← hy7]at l7b;have hc7:=S2.out.cmp HC.out (by omega) x7 y7;have hv7:¬ cf x7 y7 < 0:=by rw[hx7,hy7];exact of_decide_eq_false hlv
            have hd7:decide (cf x7 y7 < 0)=false:=decide_eq_false hv7;clear hx7 hy7 hlv
            go_wp2_with fail
            go_quiet_grown (first | (go_at_fn g;refine Calls.grown_of (hc7 _ _)))
            have Z7:Aside (SWK enc k w0 blk off dk (grow (wr.drewN nq) osq)):=S2.out.grown nq osq;clear l7a l7b hc7 S2;generalize grow (wr.drewN nq) osq=w2 at Z7 ⊢;clear nq osq;go_wp2
            go_roundg (j - (h+1))
            case measure=>omega
            case rel=>exact⟨h+1,j,by first | rfl | go_num | (congr 1;omega),rfl,by omega,by omega,h3,Nat.le_refl _,Lib.hid ⟨.inr (by rw[Nat.add_sub_cancel,← HQ.out];exact hlq),HK.out.2⟩,⟨_,Z7.out,HR.out⟩⟩
          | true=>
            have hlv:=hrl.trans hlq;clear hrl
            go_wp2_with fail
            have ea80:((q:Int)).toNat=q:=by omega
            have pa80:(0:Int)≤(q:Int):=by omega
            have ba80:(q:Int) < (n0:Int):=by omega
            have ra80:IntKind.i64.wrap ((q:Int))=(q:Int):=by rw[IntKind.wrap_i64];omega
            have ea81:((h:Int)).toNat=h:=by omega
            have pa81:(0:Int)≤(h:Int):=by omega
            have ba81:(h:Int) < (n0:Int):=by omega
            have ra81:IntKind.i64.wrap ((h:Int))=(h:Int):=by rw[IntKind.wrap_i64];omega
            obtain⟨x8,hx8⟩:∃ x,x=dk[q]!:=⟨_,rfl⟩;obtain⟨y8,hy8⟩:∃ x,x=dk[h]!:=⟨_,rfl⟩;have l8a:=S2.out.ld R (by omega) P q (by omega);have l8b:=S2.out.ld R (by omega) P h (by omega);rw[← hx8]at l8a;rw[← hy8]at l8b;have hc8:=S2.out.cmp HC.out (by omega) x8 y8;have hv8:cf x8 y8 < 0:=by rw[hx8,hy8];exact of_decide_eq_true hlv
            have hd8:decide (cf x8 y8 < 0)=true:=decide_eq_true hv8;clear hx8 hy8 hlv
            go_wp2_with fail
            go_quiet_grown (first | (go_at_fn g;refine Calls.grown_of (hc8 _ _)))
            have Z8:Aside (SWK enc k w0 blk off dk (grow (wr.drewN nq) osq)):=S2.out.grown nq osq;clear l8a l8b hc8 S2;generalize grow (wr.drewN nq) osq=w2 at Z8 ⊢;clear nq osq;go_wp2
            go_roundg (h - i)
            case measure=>omega
            case rel=>exact⟨i,h,rfl,by first | rfl | go_num | (congr 1;omega),h1,by omega,by omega,Nat.le_refl _,Lib.hid ⟨HK.out.1,.inr (by rw[← HQ.out];exact hlq)⟩,⟨_,Z8.out,HR.out⟩⟩
        · have hijz:¬ (i:Int) < (j:Int):=by omega
          obtain rfl:i=j:=by omega
          have hk1:=HK.out.1;have hk2:=HK.out.2;rw[HSR.out.1,HMID.out]at hk1;rw[HSR.out.2,HMID.out]at hk2;obtain⟨⟨q1,q2,q3,q4,q5,q6,q7⟩,hcut⟩:=sym_ok HP.out (by rw[← HSR.out.1];exact h1) (by rw[← HSR.out.2];exact h3) hk1 hk2;rw[← HMID.out]at q3 q4 q5 q6 q7 hcut;obtain⟨e,he⟩:∃ e,e=mid+m - i:=⟨_,rfl⟩;rw[← he]at q3 q4 q5 q7 hcut;have hze:(mid:Int)+(m:Int) - (i:Int)=(e:Int):=by omega
          have HCUT:=Lib.hid hcut;clear hk1 hk2 hcut he HK HSR HMID hij;obtain⟨b1,hb1⟩:∃ b1,b1=decide (i < m∧m < e):=⟨_,rfl⟩;obtain⟨b2,hb2⟩:∃ b2,b2=decide (a < i∧i < mid):=⟨_,rfl⟩;obtain⟨b3,hb3⟩:∃ b3,b3=decide (mid < e∧e < b):=⟨_,rfl⟩;have HB1:=Lib.hid hb1;have HB2:=Lib.hid hb2;have HB3:=Lib.hid hb3;clear hb1 hb2 hb3
          go_upto_region 39 with fail
          go_cut [185]from 149 (fun v wc=>v = .bool b1∧wc=wr)
          case first=>
           by_cases c1:i < m <;> by_cases c2:m < e
           all_goals
            have cz1:=Int.ofNat_lt (n:=i) (m:=m);have cz2:=Int.ofNat_lt (n:=m) (m:=e);simp only[c1,c2,iff_true,iff_false]at cz1 cz2;go_wp2
            go_meet
            case rel=>exact⟨by rw[HB1.out];simp[c1,c2],rfl⟩
          case rest=>
          obtain⟨rfl,hwc⟩:=hcut;obtain rfl:=hwc.symm
          go_upto_if 185 with fail
          go_cut []from 149 (fun wc=>Aside (RSt enc k w0 blk off n0 (rotF D i m e) wc))
          case first=>
           cases b1 with
           | true=>
             have hd:=of_decide_eq_true HB1.out.symm;have HX:=Lib.hid (HRO.out D i m e hd.1 hd.2 (by omega) _ S1.out);clear hd
             go_wp2_with (go_at_fn 159;refine HX.out.mono ?_;rintro e W' ⟨rfl,hS⟩;have S2:Aside _:=hS;clear hS)
             go_meet
             case rel=>exact S2
           | false=>
             have hd:=of_decide_eq_false HB1.out.symm;have hn:rotF D i m e=D:=rot_none D q2 q3 (by omega);have HN:=Lib.hid hn;clear hd hn;go_wp2
             go_meet
             case rel=>exact(by rw[HN.out];exact S1)
          case rest=>
          have S3:Aside (RSt enc k w0 blk off n0 (rotF D i m e) wc):=hcut;clear hcut S1
          go_upto_region 41 with fail
          go_cut [199]from 149 (fun v wd=>v = .bool b2∧wd=wc)
          case first=>
           by_cases c1:a < i <;> by_cases c2:i < mid
           all_goals
            have cz1:=Int.ofNat_lt (n:=a) (m:=i);have cz2:=Int.ofNat_lt (n:=i) (m:=mid);simp only[c1,c2,iff_true,iff_false]at cz1 cz2;go_wp2
            go_meet
            case rel=>exact⟨by rw[HB2.out];simp[c1,c2],rfl⟩
          case rest=>
          obtain⟨rfl,hwc⟩:=hcut;obtain rfl:=hwc.symm
          go_upto_if 199 with fail
          go_cut []from 149 (fun wd=>∃ E,Hid (MrgT (rotF D i m e) E a mid)∧Aside (RSt enc k w0 blk off n0 E wd))
          case first=>
           cases b2 with
           | true=>
             have hd:=of_decide_eq_true HB2.out.symm;have HX:=Lib.hid (HIH.out (rotF D i m e) a i mid _ (by omega) (cut_pre1 HCUT.out hd) (by omega) S3.out);clear hd
             go_wp2_with (go_at_fn 134;refine HX.out.mono ?_;rintro e W' ⟨rfl,E,hE,hS⟩;have S4:Aside _:=hS;have HE:=Lib.hid hE;clear hS hE)
             go_meet
             case rel=>exact⟨_,HE,S4⟩
           | false=>
             have hd:=of_decide_eq_false HB2.out.symm;have HN:=Lib.hid (cut_left HCUT.out hd q1 q6);clear hd;go_wp2
             go_meet
             case rel=>exact⟨_,HN,S3⟩
          case rest=>
          obtain⟨E,HE,S4⟩:=hcut;clear S3
          go_upto_region 43 with fail
          go_cut [213]from 149 (fun v wd=>v = .bool b3∧wd=wc)
          case first=>
           by_cases c1:mid < e <;> by_cases c2:e < b
           all_goals
            have cz1:=Int.ofNat_lt (n:=mid) (m:=e);have cz2:=Int.ofNat_lt (n:=e) (m:=b);simp only[c1,c2,iff_true,iff_false]at cz1 cz2;go_wp2
            go_meet
            case rel=>exact⟨by rw[HB3.out];simp[c1,c2],rfl⟩
          case rest=>
          obtain⟨rfl,hwc⟩:=hcut;obtain rfl:=hwc.symm
          cases b3 with
          | true=>
            have hd:=of_decide_eq_true HB3.out.symm;have HX:=Lib.hid (HIH.out E mid e b _ (by omega) (cut_pre2 HCUT.out HE.out.1 hd) (by omega) S4.out);clear hd
            go_wp2_with (go_at_fn 134;refine HX.out.mono ?_;rintro e W' ⟨rfl,F,hF,hS⟩;have S5:Aside _:=hS;have HFF:=Lib.hid hF;clear hS hF)
            go_end0
            exact⟨rfl,_,mrg_done HCUT.out q1 q2 q3 q4 (by omega) (by omega) HE.out HFF.out,S5.out⟩
          | false=>
            have hd:=of_decide_eq_false HB3.out.symm;have HFF:=Lib.hid (cut_right2 HCUT.out HE.out.1 hd q7 q4);clear hd;go_wp2
            go_end0
            exact⟨rfl,_,mrg_done HCUT.out q1 q2 q3 q4 (by omega) (by omega) HE.out HFF.out,S4.out⟩
end
end Go.Proofs.YtoecbicdahbccaaGreatDoor
