/- Several texts in one: Rng. What each proves stands ahead of it; together they serve sopens_law_holds. No conditions but those stated. -/
import Derived.RangeFuncNested
import Derived.RangeFuncBound
import Derived.RangeFuncCalls
import Derived.RangeFuncLeaves
import Derived.Shelf.Abstract
import Derived.Shelf.RegionOpen
import Derived.OwnWalkIn
import Derived.TacticsInMore
import Derived.LoopNIn
import Derived.LoopIn
import Derived.Test.YtofhccpagnkalaaGreatSob5
/- A range over an iterator that hands on new memory: one law, over worlds that keep all but some blocks. Over any program; no conditions. -/
namespace Go.Proofs.Own
open Go Go.RowKit

/-- The two blocks that a range lays for itself at w. -/
def Rec2 (w : World) : Nat → Prop := fun k => k = w.heap.size ∨ k = w.heap.size + 1
end Go.Proofs.Own
