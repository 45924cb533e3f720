/- A part of the walk of the layer of apply: contracts and plain laws that a row's text leans on. -/
import Derived.Test.YtoecbicdahbccaaGreatDoorZa27
import Derived.Test.YtoecbicdahbccaaGreatDoorZa39
set_option maxRecDepth 100000
set_option maxHeartbeats 16000000
namespace Go.Proofs.YtoecbicdahbccaaGreatDoor
open Go Go.RowKit
theorem IsJoin.diff{b:Bx}{F G H:Pt→Int}{m:List Chg}(h:IsJoin (diffL b F G) (diffL b G H) m):m=diffL b F H:=by
 refine diffL_uniq h.sort fun c=>(h.mem c).trans ?_;simp only[diffL_mem];constructor
 · rintro⟨hne,⟨x,⟨h1,h2,h3,h4⟩,e1,e2,h5⟩ | ⟨h1,h2,h3,h4,h5⟩⟩
   · rw[e1]at h1 h2 h3 h4;refine⟨h1,by omega,?_,?_⟩
     · rcases h5 with⟨y,⟨k1,k2,k3,k4⟩,e3,e4⟩ | ⟨k1,k2⟩
       · rw[e3]at k3;omega
       · have:G c.at_=H c.at_:=Decidable.byContradiction fun hn=>k1 ⟨c.at_,G c.at_,H c.at_⟩ ⟨h1,rfl,rfl,hn⟩ rfl;omega
     · rcases h5 with⟨y,⟨k1,k2,k3,k4⟩,e3,e4⟩ | ⟨k1,k2⟩
       · rw[e3]at k3;omega
       · have:G c.at_=H c.at_:=Decidable.byContradiction fun hn=>k1 ⟨c.at_,G c.at_,H c.at_⟩ ⟨h1,rfl,rfl,hn⟩ rfl;omega
   · have:F c.at_=G c.at_:=Decidable.byContradiction fun hn=>h1 ⟨c.at_,F c.at_,G c.at_⟩ ⟨h2,rfl,rfl,hn⟩ rfl;exact⟨h2,by omega,by omega,by omega⟩
 · rintro⟨h1,h2,h3,h4⟩;refine⟨by omega,?_⟩
   by_cases hFG:F c.at_=G c.at_
   · refine .inr ⟨?_,h1,by omega,h3,by omega⟩;rintro x ⟨k1,k2,k3,k4⟩ e;rw[e]at k4;exact k4 hFG
   · refine .inl ⟨⟨c.at_,F c.at_,G c.at_⟩,⟨h1,rfl,rfl,hFG⟩,rfl,h2.symm,?_⟩
     by_cases hGH:G c.at_=H c.at_
     · refine .inr ⟨?_,hGH.trans h3.symm⟩;rintro y ⟨k1,k2,k3,k4⟩ e;rw[e]at k4;exact k4 hGH
     · exact .inl ⟨⟨c.at_,G c.at_,H c.at_⟩,⟨h1,rfl,rfl,hGH⟩,rfl,h3.symm⟩
theorem revC_mem{l:List Chg}{c:Chg} : c∈revC l↔swapC c∈l:=by
 unfold revC;rw[List.mem_map];constructor
 · rintro⟨x,hx,rfl⟩;exact List.mem_reverse.1 hx
 · intro h;exact⟨swapC c,List.mem_reverse.2 h,rfl⟩
theorem revC_once{l:List Chg}(h:OnceC l):OnceC (revC l):=by
 unfold OnceC revC at *;rw[List.map_map];have e:((fun x:Chg=>x.at_) ∘ swapC)=fun x:Chg=>x.at_:=rfl;rw[e,List.map_reverse];unfold List.Nodup at *;rw[List.pairwise_reverse];exact h.imp fun h=>h.symm
theorem write_rev{g:Gr}(hv:validG g=true){G:Pt→Int}(hG:∀ p,inP p g.box=true→0≤G p∧G p < 256):writeG (writeG g (diffL g.box (matF g) G)) (revC (diffL g.box (matF g) G))=g:=by
 have hv2:=writeG_valid hv (diffL_good (F:=matF g) hG);have hgr:goodC (revC (diffL g.box (matF g) G)):=fun c hc=>by
  obtain⟨h1,h2,h3,h4⟩:=diffL_mem.1 (revC_mem.1 hc);have h3':c.old=G c.at_:=h3;have h2':c.new=matF g c.at_:=h2;rw[h2'];exact matF_rng hv h1
 refine grid_ext (writeG_valid hv2 hgr) hv rfl fun p hp=>?_;have hp2:inP p g.box=true:=hp
 by_cases h:matF g p=G p
 · rw[matF_write_no hv2 hgr p (fun c hc e=>by
     obtain⟨_,_,_,h4⟩:=diffL_mem.1 (revC_mem.1 hc);have h4':matF g c.at_≠G c.at_:=h4;rw[e]at h4';exact h4' h),write_diff hv hG hp2,h]
 · exact matF_write_at hv2 hgr (revC_once (diffL_sort _ _ _).once) ⟨p,G p,matF g p⟩ (revC_mem.2 (diffL_mem.2 ⟨hp2,rfl,rfl,h⟩)) hp2
theorem write_to{g h:Gr}{d:Int}(hg:validG g=true)(hh:validG h=true)(hb:g.box=cubeD d)(hb2:h.box=cubeD d):writeG g (diffL (cubeD d) (matF g) (matF h))=h:=by
 have hr:∀ p,inP p g.box=true→0≤matF h p∧matF h p < 256:=fun p hp=>matF_rng hh (by rw[hb2,← hb];exact hp);rw[← hb];refine grid_ext (writeG_valid hg (diffL_good hr)) hh (by rw[writeG_box,hb,hb2]) fun p hp=>?_;exact write_diff hg hr hp
theorem rev_back{g h:Gr}{d:Int}(hg:validG g=true)(hh:validG h=true)(hb:g.box=cubeD d)(hb2:h.box=cubeD d):writeG h (revC (diffL (cubeD d) (matF g) (matF h)))=g:=by
 have hr:∀ p,inP p g.box=true→0≤matF h p∧matF h p < 256:=fun p hp=>matF_rng hh (by rw[hb2,← hb];exact hp);have h1:=write_rev hg hr;have h2:=write_to hg hh hb hb2;rw[hb]at h1;rw[h2]at h1;exact h1
end Go.Proofs.YtoecbicdahbccaaGreatDoor
