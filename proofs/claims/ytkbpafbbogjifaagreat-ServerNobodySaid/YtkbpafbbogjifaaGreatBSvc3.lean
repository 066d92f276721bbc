/- Closed facts of the law; no conditions. -/
import Derived.Test.YtkbpafbbogjifaaGreatBc
import Derived.Test.YtkbpafbbogjifaaGreatBEd
import Derived.Test.YtkbpafbbogjifaaGreatRows
import Derived.JoinedOf
namespace Go.Proofs.YtkbpafbbogjifaaGreat
open Go Go.Proofs.Rn

set_option maxRecDepth 100000 in
theorem cl_unf : Tryz.prog.unfollowed 3 = true := by unfold Program.unfollowed; rw [clos]; kernel_rfl
set_option maxRecDepth 100000 in
theorem cl_unfollowed : (Rows.serverNobodyRow.unfollowed == Tryz.prog.unfollowed 3) = true := by rw [cl_unf]; kernel_rfl
set_option maxRecDepth 100000 in
theorem cl_recurses : (Rows.serverNobodyRow.recurses == Tryz.prog.recurses 3) = true := by unfold Program.recurses; rw [cl_unf]; kernel_rfl
set_option maxRecDepth 100000 in
theorem cl_inPlace : (Rows.serverNobodyRow.inPlace == Tryz.prog.inPlace 3) = true := by rw [inPlace_eq inT_all clos]; exact beq_iff_eq.2 (by kernel_rfl)
set_option maxRecDepth 100000 in
theorem cl_named : (Rows.serverNobodyRow.named == Tryz.prog.varsNamed 3) = true := by unfold Program.varsNamed; rw [clos]; kernel_rfl
end Go.Proofs.YtkbpafbbogjifaaGreat
