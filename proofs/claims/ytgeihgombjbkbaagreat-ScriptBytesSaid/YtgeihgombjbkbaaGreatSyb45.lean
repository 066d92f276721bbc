/- For scbytes_law_holds. -/
import Derived.JoinedOf
import Derived.Test.YtgeihgombjbkbaaGreatRows
import Derived.Test.YtgeihgombjbkbaaGreatSyb43
set_option maxHeartbeats 16000000
set_option maxRecDepth 100000
namespace Go.Proofs.YtgeihgombjbkbaaGreat
open Go Go.Proofs.Rn

theorem tE:Tryz.prog.mayEnter=true:=by kernel_rfl

theorem pI:Tryz.prog.stopsHeard=true:=by kernel_rfl
