/- For scbodies_law_holds. -/
import Derived.JoinedOf
import Derived.Test.YtgeihgombjbkbaaGreatRows
import Derived.Test.YtgeihgombjbkbaaGreatSbb40
set_option maxHeartbeats 16000000
set_option maxRecDepth 100000
namespace Go.Proofs.YtgeihgombjbkbaaGreat
open Go Go.Proofs.Rn

theorem tP:Tryz.prog.mayEnter=true:=by kernel_rfl

theorem qB:Tryz.prog.stopsHeard=true:=by kernel_rfl
