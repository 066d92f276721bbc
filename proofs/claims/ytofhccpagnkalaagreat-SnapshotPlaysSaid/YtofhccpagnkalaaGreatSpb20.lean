/- Several texts in one: Last. What each proves stands ahead of it; together they serve splays_law_holds. No conditions but those stated. -/
import Derived.LoopIn
import Derived.LoopNIn
import Derived.OwnWalkIn
import Derived.RangeFuncBound
import Derived.RangeFuncCalls
import Derived.RangeFuncLeaves
import Derived.RangeFuncNested
import Derived.Shelf.Abstract
import Derived.Shelf.RegionOpen
import Derived.TacticsInMore
import Derived.Test.YtofhccpagnkalaaGreatSpb6
import Derived.Test.YtofhccpagnkalaaGreatSpb10
import Derived.Test.YtofhccpagnkalaaGreatSpb5
import Derived.Test.YtofhccpagnkalaaGreatSpb7
/- The contract of vow.last: the state that bytes have, and how many of them are good; no conditions but the ranges. -/
namespace Go.Proofs.YtofhccpagnkalaaGreat
open Go.RowKit Go.Maps Go.Proofs.Own Go.Shelf
attribute [local go_sem] Oper.semAt_some

def vE (l : List Nat) : Nat := endE (numL 7 (numL H60 (frBody l))) (numB H60 (frBody l) || numB 7 (numL H60 (frBody l)))
/-- A frame of a state follows. -/
def vGo (l : List Nat) : Prop := takeE l = 0 ∧ l.getD 1 0 = 3 ∧ vE l = 0
instance (l : List Nat) : Decidable (vGo l) := inferInstanceAs (Decidable (_ ∧ _))
end Go.Proofs.YtofhccpagnkalaaGreat
