/- THE STATEMENT ServerNobody: a server that is nil, or that no call made, stands nowhere and does nothing; so does one whose power went, which tells that. For every input; no conditions. -/
import Derived.Test.YtkbpafbbogjifaaGreatBSvd
import Derived.Test.YtkbpafbbogjifaaGreatBSvc
import Derived.Test.YtkbpafbbogjifaaGreatChecked
namespace Go.Proofs.YtkbpafbbogjifaaGreat
open Go.ChangeShapes Go.WideShapes Go.ChangeAt Go.RowKit Go.Deep Go.Proofs.Own

section
variable {H : Type} {enc : TypeId × Value → H} {W : World}
set_option maxRecDepth 100000 in
/-- An argument that is one of the calls. -/
theorem open_rop1 {base : Nat} {v : Value} {d : DataW H} {ps : List MemPlace} (hv : Value.okWide Tryz.prog W .any base 32 v) (h : DataW.Trod enc Tryz.prog W 0 (fun _ => true) true 32 v d ps) :
    ∃ r : ROp, v = .agg (ropV r).toArray ∧ ROk W r := by
  obtain ⟨cs, rfl, hsz⟩ := okWide_struct Tryz.underlying32 hv
  obtain ⟨fuel, hf⟩ := h
  obtain ⟨r, e, hr⟩ := open_rop hf
  refine ⟨r, ?_, hr⟩
  have e' : cs.toList = ropV r := e
  rw [← e']
end

set_option maxRecDepth 100000 in
theorem svnobody_law_lifted (os : Os) (started : os.Started) (H : Type) (enc : TypeId × Value → H) :
    ReturnsInHanded {} Tryz.checked os 3 .any (Rows.serverNobodySpec.pre6 enc Tryz.prog Tryz.f3 Rows.serverNobodyRow.domain false) (Rows.serverNobodySpec.post enc Tryz.prog Tryz.f3 false true false false) := by
  refine returnsInHanded_of_change (C := Tryz.checked) own started (by kernel_rfl) Tryz.func3
    (ChangeSpec.witness6 (enc := enc) (C := Tryz.checked) false ⟨#[], #[.agg #[.int .i64 0, .int .i64 0, .int .i64 0, .int .u64 0, .int .u64 0, .int .i64 0, .int .i64 0, .int .i64 0, .int .u64 0, .int .u64 0, .int .u64 0, .int .u64 0, .int .u64 0, .bool false, .bool false, .slice none 0 0, .int .u64 0, .int .u64 0, .slice none 0 0, .slice none 0 0, .slice none 0 0, .slice none 0 0, .slice none 0 0]], []⟩ 8 (by kernel_rfl) (by kernel_rfl) (by kernel_rfl) (by kernel_rfl)) ?_
  intro W base args ds gs before hval0 hW hcnd _
  have hval : ∀ (j : Nat) t v, Tryz.f3.params[j]? = some t → args[j]? = some v → Value.okWide Tryz.prog W .any base t v := hval0
  have hW' := hW
  obtain ⟨p, q, hA0, hV, _, hfz, hnd⟩ := hW
  have hA : DataW.TrodAll enc Tryz.prog W 0 (fun _ => true) true Tryz.f3.params.toList args.toList ds p := hA0
  rw [Tryz.params3] at hA hval
  obtain ⟨v0, d0, rfl, rfl, h0⟩ := trodAll_one hA
  obtain ⟨r, rfl, b0⟩ := open_rop1 (hval 0 32 v0 rfl rfl) h0
  refine (svnobody_any r W b0).mono fun e W' ⟨he, hb⟩ => ?_
  exact ⟨_, he, law_post laid (by kernel_rfl) ⟨4, rfl, Tryz.underlying4⟩ rfl (fun ds hds => by
    match ds, hds with
    | [x0], _ => rfl) hW' hb⟩

theorem svnobody_law_holds : Rows.ServerNobodySaid :=
  OpenClaim.holds_of_wide 3 Tryz.f3 rfl rfl rfl rfl rfl rfl rfl ⟨rfl, rfl, rfl, rfl, rfl⟩ rfl rfl rfl rfl rfl (by kernel_rfl) Tryz.func3 closed
    (of_decide_eq_true (by kernel_rfl)) (by unfold Func.isWrapper; first | (rw [if_pos (by decide +kernel)]; kernel_rfl) | (rw [if_neg (by decide +kernel)]; exact ⟨rfl, rfl⟩))
    (fun os started H enc _ => svnobody_law_lifted os started H enc)
#print axioms svnobody_law_holds
end Go.Proofs.YtkbpafbbogjifaaGreat
