/- ApplyMatchesSpec: for every input the law returns true, and each argument reads as it did. No condition. -/
import Derived.Test.YtoecbicdahbccaaGreatDoorCards
import Derived.Test.YtoecbicdahbccaaGreatDoorTie
import Derived.Test.YtoecbicdahbccaaGreatDoorZa54
set_option maxRecDepth 100000
set_option maxHeartbeats 16000000
namespace Go.Proofs.YtoecbicdahbccaaGreatDoor
open Go Go.RowKit Go.ChangeShapes Go.WideShapes Go.ChangeAt
theorem applyMatchesSpec_lifted(os:Os)(started:os.Started)(H:Type)(enc:TypeId × Value→H):
    ReturnsInHanded {} Tryz.checked os 3 .any (fun w args=>(Rows.applyMatchesSpecSpec.pre enc Tryz.prog Tryz.f3 Rows.applyMatchesSpecRow.domain false w args∧laidMetH Tryz.prog laidL w)∧sizedMet enc Tryz.prog Tryz.f3 (OpenSpec.ofChange Rows.applyMatchesSpecSpec) false w args) (Rows.applyMatchesSpecSpec.post enc Tryz.prog Tryz.f3 false true false false):=by
 refine returnsInHanded_of_change_and (C:=Tryz.checked) (X:=fun w _=>laidMetH Tryz.prog laidL w) (fun _ _ _ hh h=>h.of_heap hh) own_ started (by kernel_rfl) Tryz.func3
  (ChangeSpec.witness_shaped (enc:=enc) (C:=Tryz.checked) (os:=os) (X:=fun w _=>laidMetH Tryz.prog laidL w) false (World.laidAll Tryz.prog os laidL) #[.agg #[.int .i64 0,.int .i64 0,.int .i64 0,.int .i64 0,.int .i64 0,.int .i64 0,.slice none 0 0],.agg #[.int .i64 0,.int .i64 0,.int .i64 0,.int .i64 0,.int .i64 0,.int .i64 0,.int .i64 0,.int .i64 0,.int .i64 0,.int .i64 0,.int .i64 0,.int .i64 0,.int .i64 0,.int .i64 0,.int .i64 0,.int .i64 0,.int .i64 0],.int .i64 0,.int .i64 0,.agg #[.int .i64 0,.int .i64 0,.int .i64 0]] 8 (World.laidAll_os _ _ _) (World.shaped_of_ZipB (by kernel_rfl) (by kernel_rfl)) (by kernel_rfl) (by kernel_rfl) (by kernel_rfl)
    (by rw[MakeChecks.laidMetH_plain _ _ _ (by kernel_rfl)];exact laidMet_laidAll _ (by kernel_rfl) (by kernel_rfl))) ?_
 intro W base args ds gs before hval0 hW hcnd _ hLd _;have hval:∀ (j:Nat) t v,Tryz.f3.params[j]? = some t→args[j]? = some v→Value.okWide Tryz.prog W .any base t v:=hval0;have hLd:=laid_of hLd;have hW':=hW;obtain⟨p,q,hA0,hV,rfl,hfz,hnd⟩:=hW;have hA:DataW.TrodAll enc Tryz.prog W 0 (fun _=>true) true Tryz.f3.params.toList args.toList ds p:=hA0;have hAll:=hA;rw[Tryz.params3]at hA hval;obtain⟨v0,vs0,d0,ds0,p0,q0,ha,rfl,rfl,h0,r0⟩:=trodAll_cons hA;obtain⟨v1,vs1,d1,ds1,p1,q1,rfl,rfl,rfl,h1,r1⟩:=trodAll_cons r0;obtain⟨v2,vs2,d2,ds2,p2,q2,rfl,rfl,rfl,h2,r2⟩:=trodAll_cons r1;obtain⟨v3,vs3,d3,ds3,p3,q3,rfl,rfl,rfl,h3,r3⟩:=trodAll_cons r2;obtain⟨v4,vs4,d4,ds4,p4,q4,rfl,rfl,rfl,h4,r4⟩:=trodAll_cons r3;obtain⟨rfl,rfl,rfl⟩:=trodAll_nil r4;obtain⟨rfl,rfl⟩:=trodVars_none hV;have hargs:args = #[v0,v1,v2,v3,v4]:=by apply Array.ext';exact ha
 subst hargs;obtain⟨g,A,c,rfl,hs⟩:=read_grid (hval 0 _ _ rfl rfl) h0;obtain⟨x,rfl,hfx⟩:=read_Ed (hval 1 _ _ rfl rfl) h1;obtain⟨d,rfl,rfl,rfl,_⟩:=open_int Tryz.underlying3 (hval 2 _ _ rfl rfl) h2;obtain⟨m,rfl,rfl,rfl,_⟩:=open_int Tryz.underlying3 (hval 3 _ _ rfl rfl) h3;obtain⟨p,rfl,hfp⟩:=read_Pt (hval 4 _ _ rfl rfl) h4;refine(ApplyMatchesSpec_any (A:=A) (c:=c) (p:=p) (fits_of hfx) W hLd.2.2 hLd.1 hLd.2.1 hs).mono fun e W' ⟨he,hx⟩=>?_;subst he;have hlt:∀ x,x∈(p0++(p1++([]++([]++(p4++[])))))→x.block < W.heap.size:=fun x hx2=>hW'.lt x (by simpa using hx2);exact⟨_,rfl,_,_,_,[],_,[],hW',trodAll_mk1 (shut_bool Tryz.underlying4 true),args_below laidOut_ _ _ _ _ W' (by rw[Tryz.params3];intro t ht;simp at ht;rcases ht with rfl | rfl | rfl | rfl <;> exact⟨by kernel_rfl,of_decide_eq_true (by kernel_rfl)⟩) hAll hx.below hlt,rfl,hx.below.frame _,fun h=>by cases h⟩
theorem applyMatchesSpec_row:Rows.ApplyMatchesSpecSaid:=
 OpenClaim.holds_of_wide 3 Tryz.f3 rfl rfl rfl rfl rfl rfl rfl ⟨rfl,rfl,rfl,rfl,rfl⟩ rfl rfl rfl rfl rfl (by kernel_rfl) Tryz.func3 (by kernel_rfl)
  (of_decide_eq_true (by kernel_rfl)) (by unfold Func.isWrapper;rw[if_neg (of_decide_eq_false (by kernel_rfl))];exact⟨rfl,rfl⟩)
  (fun os started H enc _=>applyMatchesSpec_lifted os started H enc)
theorem applyMatchesSpec_holds:Rows.ApplyMatchesSpecCardSaid:=
 Claim7.holds_tied_plain_at .later [] [.data,.data,.data] true Rows.applyMatchesSpecCard.stood.harness false
  applyMatchesSpec_row (fun _ h=>by cases h) (by kernel_rfl) (fun _ h=>by cases h) applyMatchesSpec_row_tie rfl ⟨rfl,rfl⟩ (by kernel_rfl) rfl
  (fun f fn hf hfn=>by
    obtain rfl:f=3:=Option.some.inj ((show Tryz.prog.funcNamed "voxel/voxellaw26.ApplyMatchesSpec" = some 3 by kernel_rfl).symm.trans hf) |>.symm;obtain rfl:fn=Tryz.f3:=(Option.some.inj (Tryz.func3.symm.trans hfn)).symm;exact⟨by kernel_rfl,fun j t ht=>by
     rw[Tryz.params3]at ht;have hm:t∈[28,32,3,3,23]:=by simpa using Array.mem_of_getElem? ht
     have hall:([28,32,3,3,23].all fun u=>!Tryz.prog.wantsStandIn u)=true:=by kernel_rfl
     exact(show Tryz.prog.wantsStandIn t=false by simpa using List.all_eq_true.1 hall t hm)⟩)
  (by kernel_rfl)
end Go.Proofs.YtoecbicdahbccaaGreatDoor
