/- THE STATEMENT ClusterNobody: a cluster that is nil, or that no call made, has nothing, and nothing happens to it. For every input; no conditions. -/
import Derived.Test.YtjdebeibhnjbgaaGreatBCnd
import Derived.Test.YtjdebeibhnjbgaaGreatBCnc
import Derived.Test.YtjdebeibhnjbgaaGreatChecked
namespace Go.Proofs.YtjdebeibhnjbgaaGreat
open Go.ChangeShapes Go.WideShapes Go.ChangeAt Go.RowKit Go.Deep Go.Proofs.Own

section
variable {H : Type} {enc : TypeId × Value → H} {W : World}
set_option maxRecDepth 100000 in
/-- An argument that is one of the calls. -/
theorem open_act1 {base : Nat} {v : Value} {d : DataW H} {ps : List MemPlace} (hv : Value.okWide Tryz.prog W .any base 33 v) (h : DataW.Trod enc Tryz.prog W 0 (fun _ => true) true 33 v d ps) :
    ∃ r : CAct, v = .agg (actV r).toArray := by
  obtain ⟨cs, rfl, hsz⟩ := okWide_struct Tryz.underlying33 hv
  obtain ⟨fuel, hf⟩ := h
  obtain ⟨r, e⟩ := open_act hf
  refine ⟨r, ?_⟩
  have e' : cs.toList = actV r := e
  rw [← e']
end

set_option maxRecDepth 100000 in
theorem cnobody_law_lifted (os : Os) (started : os.Started) (H : Type) (enc : TypeId × Value → H) :
    ReturnsInHanded {} Tryz.checked os 3 .any (Rows.clusterNobodySpec.pre6 enc Tryz.prog Tryz.f3 Rows.clusterNobodyRow.domain false) (Rows.clusterNobodySpec.post enc Tryz.prog Tryz.f3 false true false false) := by
  refine returnsInHanded_of_change (C := Tryz.checked) own started (by kernel_rfl) Tryz.func3
    (ChangeSpec.witness6 (enc := enc) (C := Tryz.checked) false ⟨#[], #[.agg #[.int .i64 0, .int .i64 0, .int .i64 0, .int .i64 0, .int .u64 0, .int .i64 0, .int .u64 0, .int .u64 0, .int .u64 0, .int .i64 0, .int .i64 0, .int .i64 0, .slice none 0 0, .slice none 0 0, .int .i64 0, .slice none 0 0, .int .i64 0, .int .i64 0, .slice none 0 0], .int .i64 0], []⟩ 8 (by kernel_rfl) (by kernel_rfl) (by kernel_rfl) (by kernel_rfl)) ?_
  intro W base args ds gs before hval0 hW hcnd _
  have hval : ∀ (j : Nat) t v, Tryz.f3.params[j]? = some t → args[j]? = some v → Value.okWide Tryz.prog W .any base t v := hval0
  have hW' := hW
  obtain ⟨p, q, hA0, hV, _, hfz, hnd⟩ := hW
  have hA : DataW.TrodAll enc Tryz.prog W 0 (fun _ => true) true Tryz.f3.params.toList args.toList ds p := hA0
  rw [Tryz.params3] at hA hval
  obtain ⟨v0, v1, d0, d1, p0, p1, rfl, rfl, rfl, h0, h1⟩ := trodAll_two hA
  obtain ⟨r, rfl⟩ := open_act1 (hval 0 33 v0 rfl rfl) h0
  obtain ⟨t, rfl⟩ := okWide_int Tryz.underlying2 (hval 1 2 v1 rfl rfl)
  refine (cnobody_any r t W).mono fun e W' ⟨he, hb⟩ => ?_
  exact ⟨_, he, law_post laid (by kernel_rfl) ⟨4, rfl, Tryz.underlying4⟩ rfl (fun ds hds => by
    match ds, hds with
    | [x0, x1], _ => rfl) hW' hb⟩

theorem cnobody_law_holds : Rows.ClusterNobodySaid :=
  OpenClaim.holds_of_wide 3 Tryz.f3 rfl rfl rfl rfl rfl rfl rfl ⟨rfl, rfl, rfl, rfl, rfl⟩ rfl rfl rfl rfl rfl (by kernel_rfl) Tryz.func3 closed
    (of_decide_eq_true (by kernel_rfl)) (by unfold Func.isWrapper; first | (rw [if_pos (by decide +kernel)]; kernel_rfl) | (rw [if_neg (by decide +kernel)]; exact ⟨rfl, rfl⟩))
    (fun os started H enc _ => cnobody_law_lifted os started H enc)
#print axioms cnobody_law_holds
end Go.Proofs.YtjdebeibhnjbgaaGreat
