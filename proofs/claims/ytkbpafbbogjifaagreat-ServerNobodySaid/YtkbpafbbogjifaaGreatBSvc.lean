/- All closed facts of the law; no conditions. -/
import Derived.Test.YtkbpafbbogjifaaGreatBSvc1
import Derived.Test.YtkbpafbbogjifaaGreatBSvc2
import Derived.Test.YtkbpafbbogjifaaGreatBSvc3
import Derived.Test.YtkbpafbbogjifaaGreatBSvc4
import Derived.Test.YtkbpafbbogjifaaGreatBSvc5
import Derived.Test.YtkbpafbbogjifaaGreatBLo
namespace Go.Proofs.YtkbpafbbogjifaaGreat
open Go Go.Proofs.Rn

theorem and_i {a b : Bool} (h : a = true) (k : b = true) : (a && b) = true := by rw [h, k]; rfl
theorem cl_wf : Rows.serverNobodyRow.wf (OpenSpec.ofChange Rows.serverNobodySpec) = true := by kernel_rfl
theorem cl_mapsRowed : mapsRowed Tryz.prog = true := by kernel_rfl
theorem cl_plainKeys : (Rows.serverNobodyRow.plainKeys == Tryz.prog.plainKeys) = true := by kernel_rfl
set_option maxRecDepth 100000 in
theorem closed : joinedFacts Tryz.prog 3 Tryz.f3 Rows.serverNobodySpec Rows.serverNobodyRow = true := by
  unfold joinedFacts
  exact and_i (and_i (and_i (and_i (and_i (and_i (and_i (and_i (and_i (and_i (and_i (and_i (and_i (and_i (and_i (and_i (and_i (and_i (and_i (and_i (and_i (and_i (and_i (and_i (and_i (and_i (and_i (and_i (and_i (and_i (and_i (cl_wf) laid) cl_mapsRowed) cl_params) (by kernel_rfl)) (by kernel_rfl)) (by kernel_rfl)) (by kernel_rfl)) (by kernel_rfl)) cl_inPlace) cl_unfollowed) cl_recurses) cl_named) cl_maps) cl_ifaces) (by kernel_rfl)) cl_loops) cl_wideKeys) (by kernel_rfl)) cl_result) cl_ifacesOut) cl_loopsOut) cl_plainKeys) (by kernel_rfl)) cl_stopsHeard) cl_mayEnter) cl_lifted) cl_make) (by kernel_rfl)) (by kernel_rfl)) cl_veiled) cl_fits
end Go.Proofs.YtkbpafbbogjifaaGreat
