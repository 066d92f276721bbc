/- Several texts in one: SolH. What each proves stands ahead of it; together they serve sopens_law_holds. No conditions but those stated. -/
import Derived.Test.YtofhccpagnkalaaGreatSob17
import Derived.Test.YtofhccpagnkalaaGreatSob30
/- THE STATEMENT SnapshotOpens: the document opens its snapshot as the program does. For every input; no conditions. -/
namespace Go.Proofs.YtofhccpagnkalaaGreat
open Go.ChangeShapes Go.WideShapes Go.ChangeAt Go.RowKit Go.Deep Go.Proofs.Own

theorem open_bytesM {H : Type} {enc : TypeId × Value → H} {W : World} {fuel : Nat} {a : Option Addr} {n c : Nat} {d : DataW H} {p : List MemPlace} (hf : DataW.trod enc Tryz.prog W 0 (fun _ => true) true fuel 22 [.slice a n c] = some (d, p)) (hz : ∀ el sp, d = .slice el sp → (el.length + sp.length) * Tryz.prog.bytesOf 5 ≤ reachBytes) : n ≤ 140737488355328 ∧ (n ≤ 2097152 → ∃ l, l.length = n ∧ Bytes W (.slice a n c) l) := by
  obtain ⟨a1, n1, c1, e1, h⟩ := open_bytes1 hf
  cases e1
  refine ⟨?_, h⟩
  rcases open_slice1 Tryz.underlying22 cellsU8 hf with ⟨hcs, _⟩ | ⟨a', len, cap, m, k, V, D, Pl, hcs, _, hl, hm, hmm, hx, hi⟩
  · have h0 : n = 0 := by simp at hcs; exact hcs.2.1
    omega
  · have h0 : n = len := by simp at hcs; exact hcs.2.1
    have h1 := hz _ _ (congrArg Prod.fst hx)
    have h2 : Tryz.prog.bytesOf 5 = 1 := by kernel_rfl
    have h3 := reachBytes_lt
    rw [h2] at h1
    simp only [List.length_map, List.length_range] at h1
    omega


set_option maxRecDepth 100000 in
theorem sopens_law_lifted (os : Os) (started : os.Started) (H : Type) (enc : TypeId × Value → H) :
    ReturnsInHanded {} Tryz.checked os 3 .any (Rows.snapshotOpensSpec.pre6 enc Tryz.prog Tryz.f3 Rows.snapshotOpensRow.domain false) (Rows.snapshotOpensSpec.post enc Tryz.prog Tryz.f3 false true false false) := by
  refine returnsInHanded_of_change_sized (C := Tryz.checked) own started (by kernel_rfl) Tryz.func3
    (ChangeSpec.witness6 (enc := enc) (C := Tryz.checked) false ⟨#[], #[.slice none 0 0, .slice none 0 0, .bool false, .bool false], []⟩ 8 (by kernel_rfl) (by kernel_rfl) (by kernel_rfl) (by kernel_rfl)) ?_
  intro W base args ds gs before hval0 hW hcnd hsz _
  have hval : ∀ (j : Nat) t v, Tryz.f3.params[j]? = some t → args[j]? = some v → Value.okWide Tryz.prog W .any base t v := hval0
  have hW' := hW
  obtain ⟨p, q, hA0, hV, _, hfz, hnd⟩ := hW
  have hA : DataW.TrodAll enc Tryz.prog W 0 (fun _ => true) true Tryz.f3.params.toList args.toList ds p := hA0
  rw [Tryz.params3] at hA hval
  obtain ⟨v0, v1, v2, v3, d0, d1, d2, d3, p0, p1, p2, p3, rfl, rfl, rfl, h0, h1, h2, h3⟩ := trodAll_four hA
  obtain ⟨q0, n0, c0, rfl⟩ := okWide_slice Tryz.underlying22 (hval 0 22 v0 rfl rfl); obtain ⟨f0, g0⟩ := h0; obtain ⟨m0, b0⟩ := open_bytesM g0 (fun el sp he => sized_slice hsz (j := 0) (t := 22) (e := 5) rfl (congrArg some he) Tryz.underlying22)
  obtain ⟨q1, n1, c1, rfl⟩ := okWide_slice Tryz.underlying22 (hval 1 22 v1 rfl rfl); obtain ⟨f1, g1⟩ := h1; obtain ⟨m1, b1⟩ := open_bytesM g1 (fun el sp he => sized_slice hsz (j := 1) (t := 22) (e := 5) rfl (congrArg some he) Tryz.underlying22)
  obtain ⟨t2, rfl⟩ := okWide_bool Tryz.underlying4 (hval 2 4 v2 rfl rfl)
  obtain ⟨t3, rfl⟩ := okWide_bool Tryz.underlying4 (hval 3 4 v3 rfl rfl)
  refine (sopens_any q0 q1 n0 c0 n1 c1 t2 t3 W m0 m1 b0 b1).mono fun e W' ⟨he, hb⟩ => ?_
  exact ⟨_, he, law_post laid (by kernel_rfl) ⟨4, rfl, Tryz.underlying4⟩ rfl (fun ds hds => by
    match ds, hds with
    | [x0, x1, x2, x3], _ => rfl) hW' hb⟩

theorem sopens_law_holds : Rows.SnapshotOpensSaid :=
  OpenClaim.holds_of_wide 3 Tryz.f3 rfl rfl rfl rfl rfl rfl rfl ⟨rfl, rfl, rfl, rfl, rfl⟩ rfl rfl rfl rfl rfl (by kernel_rfl) Tryz.func3 (by kernel_rfl)
    (of_decide_eq_true (by kernel_rfl)) (by unfold Func.isWrapper; first | (rw [if_pos (by decide +kernel)]; kernel_rfl) | (rw [if_neg (by decide +kernel)]; exact ⟨rfl, rfl⟩))
    (fun os started H enc _ => sopens_law_lifted os started H enc)
#print axioms sopens_law_holds
end Go.Proofs.YtofhccpagnkalaaGreat
