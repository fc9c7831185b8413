/-
  Texts put together (part 30): the walks and the plain laws on which the statement stands.
-/
import Derived.Test.YtiifmcicleljjaaGreatDoorZ28
set_option maxRecDepth 100000
set_option maxHeartbeats 12800000
namespace Go.Proofs.YtiifmcicleljjaaGreatDoor
open Go.RowKit Go Go.Shelf
theorem kS.one {w:World} {B:Nat} {v:Value} {l:List Int} (h:kS w B v l):v.oneCell'=true:=by
 obtain⟨b,R,e,_,_⟩:=h;rw[e];rfl
end Go.Proofs.YtiifmcicleljjaaGreatDoor
