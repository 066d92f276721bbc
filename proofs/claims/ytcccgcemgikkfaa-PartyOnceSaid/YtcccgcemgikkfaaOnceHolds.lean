/- THE STATEMENT PartyOnce: each notice that a party may hear is done once, and by that hearing which tells so. For every input; no conditions. -/
import Derived.Test.YtcccgcemgikkfaaOnce
import Derived.Test.YtcccgcemgikkfaaClose
namespace Go.Proofs.Ytcccgcemgikkfaa
open Go.ChangeShapes Go.WideShapes Go.ChangeAt Go.RowKit Go.Deep Go.Proofs.Own

theorem ownO : ownKnob Try.prog.godebug = none := by kernel_rfl
theorem laidO : laidOutB Try.prog = true := by kernel_rfl

/-- An argument []uint64, as a walk wants it. -/
theorem open_u64s {H : Type} {enc : TypeId × Value → H} {W : World} {v : Value} {d : DataW H} {ps : List MemPlace} {base : Nat} (hv : Value.okWide Try.prog W .any base 27 v)
    (h : DataW.Trod enc Try.prog W 0 (fun _ => true) true 27 v d ps) : ∃ (a : Option Addr) (n c : Nat), v = .slice a n c ∧ n ≤ maxLen ∧ ∃ l : List Int, l.length = n ∧ Reads W .u64 v l ∧ ∀ z ∈ l, (Lit.int .u64 z).wf = true := by
  obtain ⟨a0, n0, c0, rfl⟩ := okWide_slice Try.underlying27 hv
  obtain ⟨fuel, hf⟩ := h
  rcases open_ints Try.underlying27 Try.underlying23 (by kernel_rfl) hf with ⟨hcs, _⟩ | ⟨a, len, cap, zs, hcs, _, hl, hm, hzl, _, hi, hz⟩
  · obtain ⟨rfl, rfl, rfl⟩ : a0 = none ∧ n0 = 0 ∧ c0 = 0 := by simpa [Value.cells] using hcs
    exact ⟨none, 0, 0, rfl, Nat.zero_le _, [], rfl, Reads.nil _ _ _ _, by simp⟩
  · obtain ⟨rfl, rfl, rfl⟩ : a0 = some a ∧ n0 = len ∧ c0 = cap := by simpa [Value.cells] using hcs
    have hzl' : zs.length = c0 := by simpa using hzl
    have hlen : (zs.take n0).length = n0 := by rw [List.length_take]; omega
    refine ⟨some a, n0, c0, rfl, by omega, zs.take n0, hlen, ⟨some a, c0, by rw [hlen], fun j hj => ?_⟩, fun z hz' => hz z (List.mem_of_mem_take hz')⟩
    have hj' : j < zs.length := by omega
    have h0 := hi 0 (by omega)
    have ha : a = ⟨a.block, a.off, none⟩ := spot_none h0
    refine ⟨a.block, a.off, congrArg some ha, ?_⟩
    rw [← addr_add a a.block a.off j ha, hi j hj']
    simp [List.getD_eq_getElem?_getD, hj']

theorem once_all (a : Option Addr) (n c : Nat) (l : List Int) (w : World) (hm : n ≤ maxLen) (hl : l.length = n) (hr : Reads w .u64 (.slice a n c) l) (hw : ∀ z ∈ l, (Lit.int .u64 z).wf = true) :
    Calls Try.prog 4 #[.slice a n c] w fun e w' => e = .returned (.bool true) ∧ Below w.heap.size w w' := by
  by_cases hn : n ≤ 60
  · exact once_walk _ l w (by omega) hr hw
  · exact once_long a n c w (by omega) (by unfold maxLen at hm; omega)

set_option maxRecDepth 100000 in
theorem once_lifted (os : Os) (started : os.Started) (H : Type) (enc : TypeId × Value → H) :
    ReturnsInHanded {} Try.checked os 4 .any (Rows.partyOnceSpec.pre6 enc Try.prog Try.f4 Rows.partyOnceRow.domain false) (Rows.partyOnceSpec.post enc Try.prog Try.f4 false true false false) := by
  refine returnsInHanded_of_change (C := Try.checked) ownO started (by kernel_rfl) Try.func4
    (ChangeSpec.witness6 (enc := enc) (C := Try.checked) false ⟨#[], #[.slice none 0 0], []⟩ 8 (by kernel_rfl) (by kernel_rfl) (by kernel_rfl) (by kernel_rfl)) ?_
  intro W base args ds gs before hval0 hW hcnd _
  have hval : ∀ (j : Nat) t v, Try.f4.params[j]? = some t → args[j]? = some v → Value.okWide Try.prog W .any base t v := hval0
  have hW' := hW
  obtain ⟨p, q, hA0, hV, _, hfz, hnd⟩ := hW
  have hA : DataW.TrodAll enc Try.prog W 0 (fun _ => true) true Try.f4.params.toList args.toList ds p := hA0
  rw [Try.params4] at hA hval
  obtain ⟨v0, d0, rfl, rfl, h0⟩ := trodAll_one hA
  obtain ⟨a, n, c, rfl, hm, l, hl, hr, hw⟩ := open_u64s (hval 0 27 v0 rfl rfl) h0
  refine (once_all a n c l W hm hl hr hw).mono fun e W' ⟨he, hb⟩ => ?_
  exact ⟨_, he, law_post laidO (by kernel_rfl) ⟨4, rfl, Try.underlying4⟩ rfl (fun ds hds => by
    match ds, hds with
    | [x], _ => rfl) hW' hb⟩

theorem once_holds : Rows.PartyOnceSaid :=
  OpenClaim.holds_of_wide 4 Try.f4 rfl rfl rfl rfl rfl rfl rfl ⟨rfl, rfl, rfl, rfl, rfl⟩ rfl rfl rfl rfl rfl (by kernel_rfl) Try.func4 (by kernel_rfl)
    (of_decide_eq_true (by kernel_rfl)) (by unfold Func.isWrapper; first | (rw [if_pos (by decide +kernel)]; kernel_rfl) | (rw [if_neg (by decide +kernel)]; exact ⟨rfl, rfl⟩))
    (fun os started H enc _ => once_lifted os started H enc)
#print axioms once_holds
end Go.Proofs.Ytcccgcemgikkfaa
