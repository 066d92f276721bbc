/- Several texts in one: VkeH. What each proves stands ahead of it. -/
import Derived.Test.YtofhccpagnkalaaBunVp
/- THE STATEMENT VowKeeps: behind any crash the state that is opened anew is the one kept last or the one being kept. For every input; no conditions. -/
namespace Go.Proofs.Ytofhccpagnkalaa
open Go.ChangeShapes Go.WideShapes Go.ChangeAt Go.RowKit Go.Deep Go.Proofs.Own


set_option maxRecDepth 100000 in
theorem vkeeps_law_lifted (os : Os) (started : os.Started) (H : Type) (enc : TypeId × Value → H) :
    ReturnsInHanded {} Try.checked os 8 .any (Rows.vowKeepsSpec.pre6 enc Try.prog Try.f8 Rows.vowKeepsRow.domain false) (Rows.vowKeepsSpec.post enc Try.prog Try.f8 false true false false) := by
  refine returnsInHanded_of_change (C := Try.checked) own started (by kernel_rfl) Try.func8
    (ChangeSpec.witness6 (enc := enc) (C := Try.checked) false ⟨#[], #[.slice none 0 0, .int .u8 0, .slice none 0 0], []⟩ 8 (by kernel_rfl) (by kernel_rfl) (by kernel_rfl) (by kernel_rfl)) ?_
  intro W base args ds gs before hval0 hW hcnd _
  have hval : ∀ (j : Nat) t v, Try.f8.params[j]? = some t → args[j]? = some v → Value.okWide Try.prog W .any base t v := hval0
  have hW' := hW
  obtain ⟨p, q, hA0, hV, _, hfz, hnd⟩ := hW
  have hA : DataW.TrodAll enc Try.prog W 0 (fun _ => true) true Try.f8.params.toList args.toList ds p := hA0
  rw [Try.params8] at hA hval
  obtain ⟨v0, v1, v2, d0, d1, d2, p0, p1, p2, rfl, rfl, rfl, h0, h1, h2⟩ := trodAll_three hA
  obtain ⟨q0, n0, c0, rfl⟩ := okWide_slice Try.underlying69 (hval 0 69 v0 rfl rfl); obtain ⟨f0, g0⟩ := h0; obtain ⟨ss, b0⟩ := open_states (v := .slice q0 n0 c0) g0
  obtain ⟨k1, rfl, b1⟩ := open_u8 (hval 1 5 v1 rfl rfl) h1
  obtain ⟨q2, n2, c2, rfl⟩ := okWide_slice Try.underlying70 (hval 2 70 v2 rfl rfl); obtain ⟨f2, g2⟩ := h2; obtain ⟨ts, b2⟩ := open_tears (v := .slice q2 n2 c2) g2
  refine (vkeeps_any W _ _ k1 ss ts b0 b2 b1).mono fun e W' ⟨he, hb⟩ => ?_
  exact ⟨_, he, law_post laid (by kernel_rfl) ⟨4, rfl, Try.underlying4⟩ rfl (fun ds hds => by
    match ds, hds with
    | [x0, x1, x2], _ => rfl) hW' hb⟩

theorem vkeeps_law_holds : Rows.VowKeepsSaid :=
  OpenClaim.holds_of_wide 8 Try.f8 rfl rfl rfl rfl rfl rfl rfl ⟨rfl, rfl, rfl, rfl, rfl⟩ rfl rfl rfl rfl rfl (by kernel_rfl) Try.func8 (by kernel_rfl)
    (of_decide_eq_true (by kernel_rfl)) (by unfold Func.isWrapper; first | (rw [if_pos (by decide +kernel)]; kernel_rfl) | (rw [if_neg (by decide +kernel)]; exact ⟨rfl, rfl⟩))
    (fun os started H enc _ => vkeeps_law_lifted os started H enc)
#print axioms vkeeps_law_holds
end Go.Proofs.Ytofhccpagnkalaa
