/- Closed facts of the law; no conditions. -/
import Derived.Test.YtkbpafbbogjifaaGreatBc
import Derived.Test.YtkbpafbbogjifaaGreatBEd
import Derived.Test.YtkbpafbbogjifaaGreatRows
import Derived.JoinedOf
namespace Go.Proofs.YtkbpafbbogjifaaGreat
open Go Go.Proofs.Rn

set_option maxRecDepth 100000 in
theorem cl_stopsHeard : Tryz.prog.stopsHeard = true := by kernel_rfl
end Go.Proofs.YtkbpafbbogjifaaGreat
