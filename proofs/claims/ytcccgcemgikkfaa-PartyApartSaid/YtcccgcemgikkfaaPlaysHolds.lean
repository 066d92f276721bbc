/- THE STATEMENT PartyPlays: whatever a party hears, each call tells what the document says. For every input; no conditions. -/
import Derived.Test.YtcccgcemgikkfaaPlays
import Derived.Test.YtcccgcemgikkfaaClose
namespace Go.Proofs.Ytcccgcemgikkfaa
open Go.ChangeShapes Go.WideShapes Go.ChangeAt Go.RowKit Go.Deep Go.Proofs.Own

theorem own : ownKnob Try.prog.godebug = none := by kernel_rfl
theorem laid : laidOutB Try.prog = true := by kernel_rfl

/-- A notice's kinds, in order. -/
def nk (j : Nat) : IntKind := if j = 0 ∨ j = 1 then .u64 else if j = 7 ∨ j = 8 then .i64 else .i64

theorem fields30 : ∃ fs : Array Field, Try.prog.underlying 31 = some (.struct fs) ∧ fs.size = 9 ∧ oneCellFields Try.prog fs = true ∧ Try.prog.cellsOf 31 = fs.size ∧ ∀ j, j < 9 → ∃ f, fs[j]? = some f ∧ Try.prog.underlying f.type = some (.int (nk j)) := by
  refine ⟨_, Try.underlying31, rfl, by kernel_rfl, by kernel_rfl, fun j hj => ?_⟩
  have : j = 0 ∨ j = 1 ∨ j = 2 ∨ j = 3 ∨ j = 4 ∨ j = 5 ∨ j = 6 ∨ j = 7 ∨ j = 8 := by omega
  rcases this with rfl | rfl | rfl | rfl | rfl | rfl | rfl | rfl | rfl
  · exact ⟨_, rfl, Try.underlying23⟩
  · exact ⟨_, rfl, Try.underlying23⟩
  · exact ⟨_, rfl, Try.underlying3⟩
  · exact ⟨_, rfl, Try.underlying3⟩
  · exact ⟨_, rfl, Try.underlying3⟩
  · exact ⟨_, rfl, Try.underlying3⟩
  · exact ⟨_, rfl, Try.underlying3⟩
  · exact ⟨_, rfl, Try.underlying2⟩
  · exact ⟨_, rfl, Try.underlying2⟩

/-- An argument []api.Notice, as the walk wants it. -/
theorem open_notices {H : Type} {enc : TypeId × Value → H} {W : World} {v : Value} {d : DataW H} {ps : List MemPlace} (hv : Value.okWide Try.prog W .any 0 22 v ∨ ∃ base, Value.okWide Try.prog W .any base 22 v)
    (h : DataW.Trod enc Try.prog W 0 (fun _ => true) true 22 v d ps) : ∃ (a : Option Addr) (n c : Nat) (g : Nat → Nat → Int), v = .slice a n c ∧ n ≤ maxLen ∧ Notices W a n g := by
  obtain ⟨base, hv⟩ : ∃ base, Value.okWide Try.prog W .any base 22 v := by
    rcases hv with h | h
    · exact ⟨0, h⟩
    · exact h
  obtain ⟨a0, n0, c0, rfl⟩ := okWide_slice Try.underlying22 hv
  obtain ⟨fuel, hf⟩ := h
  obtain ⟨fs, hu, hsz, hone, hC, hk⟩ := fields30
  rcases open_slice_fields Try.underlying22 hu hone hC hf with ⟨hcs, _⟩ | ⟨a, len, cap, m, D, Pl, hcs, _, hl, hm, hmm, _, hi⟩
  · obtain ⟨rfl, rfl, rfl⟩ : a0 = none ∧ n0 = 0 ∧ c0 = 0 := by simpa [Value.cells] using hcs
    exact ⟨none, 0, 0, fun _ _ => 0, rfl, Nat.zero_le _, fun k hk => absurd hk (Nat.not_lt_zero k)⟩
  · obtain ⟨rfl, rfl, rfl⟩ : a0 = some a ∧ n0 = len ∧ c0 = cap := by simpa [Value.cells] using hcs
    have hm' : m = c0 := by simpa using hmm
    subst hm'
    have cell : ∀ k, k < n0 → ∀ j, j < 9 → ∃ z, W.cell? (a.add (k * 9 + j)) = some (.int (nk j) z) ∧ (Lit.int (nk j) z).wf = true := by
      intro k hk' j hj
      obtain ⟨ys, n', _, _, hyl, hall⟩ := hi k (by omega)
      obtain ⟨f, hfj, huf⟩ := hk j hj
      obtain ⟨x, y, hcell, _, ht⟩ := hall j f hfj
      obtain ⟨z, ez, _, wz⟩ := DataW.trod_int huf ht
      obtain rfl : x = .int (nk j) z := by simpa using ez
      rw [hsz] at hcell
      exact ⟨z, hcell, wz⟩
    refine ⟨some a, n0, m, fun k j => if hkj : k < n0 ∧ j < 9 then Classical.choose (cell k hkj.1 j hkj.2) else 0, rfl, by omega, fun k hk' => ?_⟩
    have h00 := Classical.choose_spec (cell 0 (by omega) 0 (by omega))
    have ha : a = ⟨a.block, a.off, none⟩ := spot_none h00.1
    have get : ∀ j (hj : j < 9), W.cell? ⟨a.block, a.off + (k * 9 + j), none⟩ = some (.int (nk j) (if hkj : k < n0 ∧ j < 9 then Classical.choose (cell k hkj.1 j hkj.2) else 0)) := fun j hj => by
      rw [dif_pos ⟨hk', hj⟩, ← addr_add a a.block a.off (k * 9 + j) ha]
      exact (Classical.choose_spec (cell k hk' j hj)).1
    refine ⟨a.block, a.off, congrArg some ha, ?_, ?_⟩
    · show (Lit.int .u64 (if hkj : k < n0 ∧ 0 < 9 then Classical.choose (cell k hkj.1 0 hkj.2) else 0)).wf = true
      rw [dif_pos ⟨hk', by decide⟩]
      exact (Classical.choose_spec (cell k hk' 0 (by decide))).2
    · exact ⟨get 0 (by decide), get 1 (by decide), get 2 (by decide), get 3 (by decide), get 4 (by decide), get 5 (by decide), get 6 (by decide), get 7 (by decide), get 8 (by decide)⟩

theorem plays_all (num id : Int) (a : Option Addr) (n c : Nat) (g : Nat → Nat → Int) (w : World) (hid : (Lit.int .u64 id).wf = true) (hm : n ≤ maxLen) (hc : Notices w a n g) :
    Calls Try.prog 3 #[.int .i64 num, .slice a n c, .int .u64 id] w fun e w' => e = .returned (.bool true) ∧ Below w.heap.size w w' := by
  by_cases h0 : num < 0
  · exact plays_bad num id a n c w (.inl h0)
  · by_cases h8 : 8 ≤ num
    · exact plays_bad num id a n c w (.inr h8)
    · by_cases hn : n ≤ 60
      · exact plays_walk num id a n c g w hid (by omega) (by omega) hn hc
      · exact plays_long num id a n c w (by omega) (by omega) (by omega) (by unfold maxLen at hm; omega)

set_option maxRecDepth 100000 in
theorem plays_lifted (os : Os) (started : os.Started) (H : Type) (enc : TypeId × Value → H) :
    ReturnsInHanded {} Try.checked os 3 .any (Rows.partyPlaysSpec.pre6 enc Try.prog Try.f3 Rows.partyPlaysRow.domain false) (Rows.partyPlaysSpec.post enc Try.prog Try.f3 false true false false) := by
  refine returnsInHanded_of_change (C := Try.checked) own started (by kernel_rfl) Try.func3
    (ChangeSpec.witness6 (enc := enc) (C := Try.checked) false ⟨#[], #[.int .i64 0, .slice none 0 0, .int .u64 0], []⟩ 8 (by kernel_rfl) (by kernel_rfl) (by kernel_rfl) (by kernel_rfl)) ?_
  intro W base args ds gs before hval0 hW hcnd _
  have hval : ∀ (j : Nat) t v, Try.f3.params[j]? = some t → args[j]? = some v → Value.okWide Try.prog W .any base t v := hval0
  have hW' := hW
  obtain ⟨p, q, hA0, hV, _, hfz, hnd⟩ := hW
  have hA : DataW.TrodAll enc Try.prog W 0 (fun _ => true) true Try.f3.params.toList args.toList ds p := hA0
  rw [Try.params3] at hA hval
  obtain ⟨v0, v1, v2, d0, d1, d2, p0, p1, p2, rfl, rfl, rfl, h0, h1, h2⟩ := trodAll_three hA
  obtain ⟨num, rfl, _, _, wn⟩ := open_int Try.underlying3 (hval 0 3 v0 rfl rfl) h0
  obtain ⟨a, n, c, g, rfl, hm, hN⟩ := open_notices (.inr ⟨base, hval 1 22 v1 rfl rfl⟩) h1
  obtain ⟨id, rfl, _, _, wid⟩ := open_int Try.underlying23 (hval 2 23 v2 rfl rfl) h2
  refine (plays_all num id a n c g W wid hm hN).mono fun e W' ⟨he, hb⟩ => ?_
  exact ⟨_, he, law_post laid (by kernel_rfl) ⟨4, rfl, Try.underlying4⟩ rfl (fun ds hds => by
    match ds, hds with
    | [x, y, z], _ => rfl) hW' hb⟩

theorem plays_holds : Rows.PartyPlaysSaid :=
  OpenClaim.holds_of_wide 3 Try.f3 rfl rfl rfl rfl rfl rfl rfl ⟨rfl, rfl, rfl, rfl, rfl⟩ rfl rfl rfl rfl rfl (by kernel_rfl) Try.func3 (by kernel_rfl)
    (of_decide_eq_true (by kernel_rfl)) (by unfold Func.isWrapper; first | (rw [if_pos (by decide +kernel)]; kernel_rfl) | (rw [if_neg (by decide +kernel)]; exact ⟨rfl, rfl⟩))
    (fun os started H enc _ => plays_lifted os started H enc)
#print axioms plays_holds
end Go.Proofs.Ytcccgcemgikkfaa
