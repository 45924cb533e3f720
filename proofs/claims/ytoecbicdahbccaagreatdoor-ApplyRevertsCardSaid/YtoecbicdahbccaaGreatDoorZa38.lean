/- A part of the walk of the layer of apply: contracts and plain laws that a row's text leans on. -/
import Derived.Test.YtoecbicdahbccaaGreatDoorZa37
set_option maxRecDepth 100000
set_option maxHeartbeats 16000000
namespace Go.Proofs.YtoecbicdahbccaaGreatDoor
open Go Go.RowKit
theorem join_of{a b:List Chg}(ha:OnceC a)(hb:OnceC b){W w':World}{e:Ending}(h:RetJ a b W e w'):∃ out v,IsJoin a b out∧e = .returned v∧SlC out v w'∧Ext W w':=by
 obtain⟨s,v,h1,h2,h3,h4⟩:=h;exact⟨_,v,join_is h1 ha hb,h2,SlC.own h3,h4⟩
theorem revert_of{l:List Chg}{W w':World}{e:Ending}(h:∃ v,e = .returned v∧w'.ownsRow W.heap.size 58 5 v l.length (rowsC (revC l)).flatten∧Ext W w'):∃ v,e = .returned v∧SlC (revC l) v w'∧Ext W w':=by
 obtain⟨v,h1,h2,h3⟩:=h;exact⟨v,h1,SlC.own (by unfold OwC;rw[revC_len];exact h2),h3⟩
end Go.Proofs.YtoecbicdahbccaaGreatDoor
