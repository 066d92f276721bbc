/- THE STATEMENT SnapshotReads: Read agrees with the reference for any bytes. For every input; no conditions. -/
import Derived.Test.YtofhccpagnkalaaReads
import Derived.Test.YtofhccpagnkalaaClose
namespace Go.Proofs.Ytofhccpagnkalaa
open Go.ChangeShapes Go.WideShapes Go.ChangeAt Go.RowKit Go.Deep Go.Proofs.Own

theorem own : ownKnob Try.prog.godebug = none := by kernel_rfl
theorem laid : laidOutB Try.prog = true := by kernel_rfl
theorem cellsU8 : Try.prog.cellsOf 5 = 1 := by kernel_rfl

set_option maxRecDepth 100000 in
/-- An argument []byte, as the walk wants it. -/
theorem open_bytes {H : Type} {enc : TypeId × Value → H} {W : World} {v : Value} {d : DataW H} {ps : List MemPlace} {base : Nat} (hv : Value.okWide Try.prog W .any base 22 v)
    (h : DataW.Trod enc Try.prog W 0 (fun _ => true) true 22 v d ps) : ∃ (a : Option Addr) (n c : Nat), v = .slice a n c ∧ (n ≤ 40000 → ∃ l, l.length = n ∧ Bytes W v l) := by
  obtain ⟨a0, n0, c0, rfl⟩ := okWide_slice Try.underlying22 hv
  refine ⟨a0, n0, c0, rfl, fun hn => ?_⟩
  obtain ⟨fuel, hf⟩ := h
  rcases open_slice1 Try.underlying22 cellsU8 hf with ⟨hcs, _⟩ | ⟨a, len, cap, m, k, V, D, Pl, hcs, _, hl, hm, hmm, _, hi⟩
  · obtain ⟨rfl, rfl, rfl⟩ : a0 = none ∧ n0 = 0 ∧ c0 = 0 := by simpa [Value.cells] using hcs
    exact ⟨[], rfl, Bytes.nil W⟩
  · obtain ⟨rfl, rfl, rfl⟩ : a0 = some a ∧ n0 = len ∧ c0 = cap := by simpa [Value.cells] using hcs
    have hm' : m = c0 := by simpa using hmm
    subst hm'
    have cell : ∀ i, i < n0 → ∃ x : Nat, W.cell? (a.add i) = some (.int .u8 x) ∧ x < 256 := by
      intro i hi'
      obtain ⟨hc, ht⟩ := hi i (by omega)
      obtain ⟨z, ez, _, wz⟩ := DataW.trod_int Try.underlying5 ht
      obtain hz : V i = .int .u8 z := by simpa using ez
      have hr : 0 ≤ z ∧ z < 256 := by
        simp only [Lit.wf, Bool.and_eq_true, decide_eq_true_eq] at wz
        have h0 : IntKind.min .u8 = 0 := by decide
        have h1 : IntKind.max .u8 = 255 := by decide
        rw [h0, h1] at wz
        omega
      exact ⟨z.toNat, by rw [hc, hz, Int.toNat_of_nonneg hr.1], by omega⟩
    by_cases hz0 : n0 = 0
    · subst hz0
      exact ⟨[], rfl, ⟨⟨_, _, rfl, hl⟩, Reads.nil _ _ _ _, by simp, by simp⟩⟩
    obtain ⟨X, hX⟩ : ∃ X : Nat → Nat, ∀ i, i < n0 → W.cell? (a.add i) = some (.int .u8 (X i)) ∧ X i < 256 :=
      ⟨fun i => if h : i < n0 then Classical.choose (cell i h) else 0, fun i h => by simp only [dif_pos h]; exact Classical.choose_spec (cell i h)⟩
    have ha : a = ⟨a.block, a.off, none⟩ := spot_none (hX 0 (by omega)).1
    have hlen : ((List.range n0).map X).length = n0 := by simp
    refine ⟨(List.range n0).map X, hlen, ⟨some a, m, by rw [hlen], by rw [hlen]; exact hl⟩, ⟨some a, m, by rw [length_ints, hlen], fun j hj => ⟨a.block, a.off, congrArg some ha, ?_⟩⟩, ?_, by rw [hlen]; omega⟩
    · have hj' : j < n0 := by rw [length_ints, hlen] at hj; exact hj
      rw [← addr_add a a.block a.off j ha, (hX j hj').1, ints_at]
      simp
    · intro x hx
      simp only [List.mem_map, List.mem_range] at hx
      obtain ⟨i, hi', rfl⟩ := hx
      exact (hX i hi').2

theorem reads_all (W : World) (v : Value) (h : ∃ (a : Option Addr) (n c : Nat), v = .slice a n c ∧ (n ≤ 40000 → ∃ l, l.length = n ∧ Bytes W v l)) :
    Calls Try.prog 3 #[v] W fun e w' => e = .returned (.bool true) ∧ Below W.heap.size W w' := by
  obtain ⟨a, n, c, rfl, hB⟩ := h
  by_cases hn : n ≤ 40000
  · obtain ⟨l, hl, hb⟩ := hB hn
    exact reads_short _ l W hb (by omega)
  · exact reads_long a n c W (by omega)

set_option maxRecDepth 100000 in
theorem reads_lifted (os : Os) (started : os.Started) (H : Type) (enc : TypeId × Value → H) :
    ReturnsInHanded {} Try.checked os 3 .any (Rows.snapshotReadsSpec.pre6 enc Try.prog Try.f3 Rows.snapshotReadsRow.domain false) (Rows.snapshotReadsSpec.post enc Try.prog Try.f3 false true false false) := by
  refine returnsInHanded_of_change (C := Try.checked) own started (by kernel_rfl) Try.func3
    (ChangeSpec.witness6 (enc := enc) (C := Try.checked) false ⟨#[], #[.slice none 0 0], []⟩ 8 (by kernel_rfl) (by kernel_rfl) (by kernel_rfl) (by kernel_rfl)) ?_
  intro W base args ds gs before hval0 hW hcnd _
  have hval : ∀ (j : Nat) t v, Try.f3.params[j]? = some t → args[j]? = some v → Value.okWide Try.prog W .any base t v := hval0
  have hW' := hW
  obtain ⟨p, q, hA0, hV, _, hfz, hnd⟩ := hW
  have hA : DataW.TrodAll enc Try.prog W 0 (fun _ => true) true Try.f3.params.toList args.toList ds p := hA0
  rw [Try.params3] at hA hval
  obtain ⟨v0, d0, rfl, rfl, h0⟩ := trodAll_one hA
  refine (reads_all W v0 (open_bytes (hval 0 22 v0 rfl rfl) h0)).mono fun e W' ⟨he, hb⟩ => ?_
  exact ⟨_, he, law_post laid (by kernel_rfl) ⟨4, rfl, Try.underlying4⟩ rfl (fun ds hds => by
    match ds, hds with
    | [x], _ => rfl) hW' hb⟩

theorem reads_holds : Rows.SnapshotReadsSaid :=
  OpenClaim.holds_of_wide 3 Try.f3 rfl rfl rfl rfl rfl rfl rfl ⟨rfl, rfl, rfl, rfl, rfl⟩ rfl rfl rfl rfl rfl (by kernel_rfl) Try.func3 (by kernel_rfl)
    (of_decide_eq_true (by kernel_rfl)) (by unfold Func.isWrapper; first | (rw [if_pos (by decide +kernel)]; kernel_rfl) | (rw [if_neg (by decide +kernel)]; exact ⟨rfl, rfl⟩))
    (fun os started H enc _ => reads_lifted os started H enc)
#print axioms reads_holds
end Go.Proofs.Ytofhccpagnkalaa
