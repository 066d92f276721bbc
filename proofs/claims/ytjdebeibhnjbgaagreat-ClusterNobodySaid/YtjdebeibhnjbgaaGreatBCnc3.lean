/- Closed facts of the law; no conditions. -/
import Derived.Test.YtjdebeibhnjbgaaGreatBc
import Derived.Test.YtjdebeibhnjbgaaGreatBEd
import Derived.Test.YtjdebeibhnjbgaaGreatRows
import Derived.JoinedOf
namespace Go.Proofs.YtjdebeibhnjbgaaGreat
open Go Go.Proofs.Rn

set_option maxRecDepth 100000 in
theorem cl_unf : Tryz.prog.unfollowed 3 = true := by unfold Program.unfollowed; rw [clos]; kernel_rfl
set_option maxRecDepth 100000 in
theorem cl_unfollowed : (Rows.clusterNobodyRow.unfollowed == Tryz.prog.unfollowed 3) = true := by rw [cl_unf]; kernel_rfl
set_option maxRecDepth 100000 in
theorem cl_recurses : (Rows.clusterNobodyRow.recurses == Tryz.prog.recurses 3) = true := by unfold Program.recurses; rw [cl_unf]; kernel_rfl
set_option maxRecDepth 100000 in
theorem cl_inPlace : (Rows.clusterNobodyRow.inPlace == Tryz.prog.inPlace 3) = true := by rw [inPlace_eq inT_all clos]; exact beq_iff_eq.2 (by kernel_rfl)
set_option maxRecDepth 100000 in
theorem cl_named : (Rows.clusterNobodyRow.named == Tryz.prog.varsNamed 3) = true := by unfold Program.varsNamed; rw [clos]; kernel_rfl
end Go.Proofs.YtjdebeibhnjbgaaGreat
