/- Closed facts of the law; no conditions. -/
import Derived.Test.YtjdebeibhnjbgaaGreatBc
import Derived.Test.YtjdebeibhnjbgaaGreatBEd
import Derived.Test.YtjdebeibhnjbgaaGreatRows
import Derived.JoinedOf
namespace Go.Proofs.YtjdebeibhnjbgaaGreat
open Go Go.Proofs.Rn

set_option maxRecDepth 100000 in
theorem cl_lifted : (Rows.clusterNobodyRow.lifted == Tryz.prog.liftsFinal) = true := by kernel_rfl
set_option maxRecDepth 100000 in
theorem cl_make : (Tryz.prog.make == some Rows.clusterNobodyRow.make) = true := by kernel_rfl
end Go.Proofs.YtjdebeibhnjbgaaGreat
