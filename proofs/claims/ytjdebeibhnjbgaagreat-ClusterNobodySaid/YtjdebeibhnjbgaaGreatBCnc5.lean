/- Closed facts of the law: the types that its arguments lead to; no conditions. -/
import Derived.Test.YtjdebeibhnjbgaaGreatBc
import Derived.Test.YtjdebeibhnjbgaaGreatBEd
import Derived.Test.YtjdebeibhnjbgaaGreatRows
import Derived.JoinedOf
namespace Go.Proofs.YtjdebeibhnjbgaaGreat
open Go Go.Proofs.Rn

theorem shk : 10 ≤ Tryz.prog.types.size := Nat.le_of_ble_eq_true (by kernel_rfl)
theorem sh0 : shutAll Tryz.prog 10 33 = true := by kernel_rfl
theorem rd0 : Tryz.prog.readableRec 33 = true := by rw [read_eq shk sh0]; kernel_rfl
theorem lp0 : Tryz.prog.loopsFrom 33 = false := by rw [loop_eq shk sh0]; kernel_rfl
theorem mp0 : Tryz.prog.mapsRec 33 = false := by unfold Program.mapsRec; rw [any_eq shk sh0]; kernel_rfl
theorem fc0 : Tryz.prog.ifacesRec 33 = false := by unfold Program.ifacesRec; rw [any_eq shk sh0]; kernel_rfl
theorem wk0 : Tryz.prog.wideKeysFrom 33 = false := by unfold Program.wideKeysFrom; rw [any_eq shk sh0]; kernel_rfl
theorem vl0 : Tryz.prog.veiledRec 33 = false := by unfold Program.veiledRec; rw [any_eq shk sh0]; kernel_rfl
theorem vo0 : Tryz.prog.veiledOwn 33 = true := by unfold Program.veiledOwn; rw [vl0]; rfl
theorem sh1 : shutAll Tryz.prog 10 2 = true := by kernel_rfl
theorem rd1 : Tryz.prog.readableRec 2 = true := by rw [read_eq shk sh1]; kernel_rfl
theorem lp1 : Tryz.prog.loopsFrom 2 = false := by rw [loop_eq shk sh1]; kernel_rfl
theorem mp1 : Tryz.prog.mapsRec 2 = false := by unfold Program.mapsRec; rw [any_eq shk sh1]; kernel_rfl
theorem fc1 : Tryz.prog.ifacesRec 2 = false := by unfold Program.ifacesRec; rw [any_eq shk sh1]; kernel_rfl
theorem wk1 : Tryz.prog.wideKeysFrom 2 = false := by unfold Program.wideKeysFrom; rw [any_eq shk sh1]; kernel_rfl
theorem vl1 : Tryz.prog.veiledRec 2 = false := by unfold Program.veiledRec; rw [any_eq shk sh1]; kernel_rfl
theorem vo1 : Tryz.prog.veiledOwn 2 = true := by unfold Program.veiledOwn; rw [vl1]; rfl
theorem sh2 : shutAll Tryz.prog 10 4 = true := by kernel_rfl
theorem rd2 : Tryz.prog.readableRec 4 = true := by rw [read_eq shk sh2]; kernel_rfl
theorem lp2 : Tryz.prog.loopsFrom 4 = false := by rw [loop_eq shk sh2]; kernel_rfl
theorem mp2 : Tryz.prog.mapsRec 4 = false := by unfold Program.mapsRec; rw [any_eq shk sh2]; kernel_rfl
theorem fc2 : Tryz.prog.ifacesRec 4 = false := by unfold Program.ifacesRec; rw [any_eq shk sh2]; kernel_rfl
theorem wk2 : Tryz.prog.wideKeysFrom 4 = false := by unfold Program.wideKeysFrom; rw [any_eq shk sh2]; kernel_rfl
theorem vl2 : Tryz.prog.veiledRec 4 = false := by unfold Program.veiledRec; rw [any_eq shk sh2]; kernel_rfl
theorem vo2 : Tryz.prog.veiledOwn 4 = true := by unfold Program.veiledOwn; rw [vl2]; rfl
theorem plL : (Tryz.f3.params.toList ++ Rows.clusterNobodySpec.plain.varTypes Tryz.prog) = [33, 2] := by kernel_rfl
theorem prL : (Tryz.f3.params.toList ++ Rows.clusterNobodySpec.plain.varTypes Tryz.prog ++ Tryz.f3.resultTypes.toList) = [33, 2, 4] := by kernel_rfl
theorem rsL : Tryz.f3.resultTypes.toList = [4] := by kernel_rfl
theorem cl_params : Tryz.f3.params.all (Tryz.prog.readableRec ·) = true := by
  rw [← Array.all_toList, show Tryz.f3.params.toList = [33, 2] by kernel_rfl]
  simp only [List.all_cons, List.all_nil, rd0, rd1, Bool.and_self]
theorem cl_maps : (Rows.clusterNobodyRow.maps == (Tryz.f3.params.toList ++ Rows.clusterNobodySpec.plain.varTypes Tryz.prog).any (Tryz.prog.mapsRec ·)) = true := by
  rw [plL]
  simp only [List.any_cons, List.any_nil, mp0, mp1, Bool.or_self]
  kernel_rfl
theorem cl_ifaces : (Rows.clusterNobodyRow.ifaces == (Tryz.f3.params.toList ++ Rows.clusterNobodySpec.plain.varTypes Tryz.prog).any (Tryz.prog.ifacesRec ·)) = true := by
  rw [plL]
  simp only [List.any_cons, List.any_nil, fc0, fc1, Bool.or_self]
  kernel_rfl
theorem cl_loops : (Rows.clusterNobodyRow.loops == (Tryz.f3.params.toList ++ Rows.clusterNobodySpec.plain.varTypes Tryz.prog).any (Tryz.prog.loopsFrom ·)) = true := by
  rw [plL]
  simp only [List.any_cons, List.any_nil, lp0, lp1, Bool.or_self]
  kernel_rfl
theorem cl_wideKeys : (Rows.clusterNobodyRow.wideKeys == (Tryz.f3.params.toList ++ Rows.clusterNobodySpec.plain.varTypes Tryz.prog ++ Tryz.f3.resultTypes.toList).any (Tryz.prog.wideKeysFrom ·)) = true := by
  rw [prL]
  simp only [List.any_cons, List.any_nil, wk0, wk1, wk2, Bool.or_self]
  kernel_rfl
theorem cl_ifacesOut : (Rows.clusterNobodyRow.ifacesOut == Tryz.f3.resultTypes.toList.any (Tryz.prog.ifacesRec ·)) = true := by
  rw [rsL]
  simp only [List.any_cons, List.any_nil, fc2, Bool.or_self]
  kernel_rfl
theorem cl_loopsOut : (Rows.clusterNobodyRow.loopsOut == Tryz.f3.resultTypes.toList.any (Tryz.prog.loopsFrom ·)) = true := by
  rw [rsL]
  simp only [List.any_cons, List.any_nil, lp2, Bool.or_self]
  kernel_rfl
theorem cl_veiled : (Rows.clusterNobodyRow.veiled == (Tryz.f3.params.toList ++ Rows.clusterNobodySpec.plain.varTypes Tryz.prog ++ Tryz.f3.resultTypes.toList).any (Tryz.prog.veiledRec ·)) = true := by
  rw [prL]
  simp only [List.any_cons, List.any_nil, vl0, vl1, vl2, Bool.or_self]
  kernel_rfl
theorem cl_result : Tryz.f3.resultTypes.all (fun t => Tryz.prog.readableRec t && decide (t < Tryz.prog.types.size)) = true := by
  rw [← Array.all_toList, rsL]
  simp only [List.all_cons, List.all_nil, rd2, Bool.true_and, Bool.and_true]
  exact decide_eq_true (Nat.lt_of_lt_of_le (by decide) shk)
theorem cl_fits : Rows.clusterNobodyRow.veiledFits Tryz.prog Tryz.f3.params.toList (Tryz.f3.params.toList ++ Rows.clusterNobodySpec.plain.varTypes Tryz.prog ++ Tryz.f3.resultTypes.toList) = true := by
  unfold OpenClaim.veiledFits
  rw [prL, show Rows.clusterNobodyRow.start = .entering from rfl, show (Rows.clusterNobodyRow.laid.filterMap fun x => (Tryz.prog.globalNamed x.1).bind fun g => (Tryz.prog.globals[g]?).map (·.type)) = [] by kernel_rfl]
  simp only [List.append_nil, List.all_cons, List.all_nil, vo0, vo1, vo2, Bool.and_self, Bool.true_or]
end Go.Proofs.YtjdebeibhnjbgaaGreat
