/- Several texts in one: Opn. What each proves stands ahead of it; together they serve sopens_law_holds. No conditions but those stated. -/
import Derived.Test.YtofhccpagnkalaaGreatSob4
import Derived.Test.YtofhccpagnkalaaGreatSob10
/- Arguments opened, as the walks want them; no conditions. -/
namespace Go.Proofs.YtofhccpagnkalaaGreat
open Go.ChangeShapes Go.WideShapes Go.ChangeAt Go.RowKit Go.Deep Go.Proofs.Own

theorem own : ownKnob Tryz.prog.godebug = none := by kernel_rfl
theorem laid : laidOutB Tryz.prog = true := by kernel_rfl
theorem cellsU8 : Tryz.prog.cellsOf 5 = 1 := by kernel_rfl
section
variable {H : Type} {enc : TypeId × Value → H} {W : World}
/-- A slice of bytes. -/
def BytesArg (W : World) (v : Value) : Prop := ∃ (a : Option Addr) (n c : Nat), v = .slice a n c ∧ (n ≤ 2097152 → ∃ l, l.length = n ∧ Bytes W v l)
theorem open_bytes1 {fuel : Nat} {v : Value} {x : DataW H × List MemPlace} (hf : DataW.trod enc Tryz.prog W 0 (fun _ => true) true fuel 22 [v] = some x) : BytesArg W v := by
  rcases open_slice1 Tryz.underlying22 cellsU8 hf with ⟨hcs, _⟩ | ⟨a, len, cap, m, k, V, D, Pl, hcs, _, hl, hm, hmm, _, hi⟩
  · obtain rfl : v = .slice none 0 0 := by simpa using hcs
    exact ⟨_, _, _, rfl, fun _ => ⟨[], rfl, Bytes.nil W⟩⟩
  · obtain rfl : v = .slice (some a) len cap := by simpa using hcs
    have hm' : m = cap := by simpa using hmm
    subst hm'
    refine ⟨_, _, _, rfl, fun hn => ?_⟩
    have cell : ∀ i, i < len → ∃ x : Nat, W.cell? (a.add i) = some (.int .u8 x) ∧ x < 256 := by
      intro i hi'
      obtain ⟨hc, ht⟩ := hi i (by omega)
      obtain ⟨z, ez, _, wz⟩ := DataW.trod_int Tryz.underlying5 ht
      obtain hz : V i = .int .u8 z := by simpa using ez
      have hr : 0 ≤ z ∧ z < 256 := by
        simp only [Lit.wf, Bool.and_eq_true, decide_eq_true_eq] at wz
        have h0 : IntKind.min .u8 = 0 := by decide
        have h1 : IntKind.max .u8 = 255 := by decide
        rw [h0, h1] at wz
        omega
      exact ⟨z.toNat, by rw [hc, hz, Int.toNat_of_nonneg hr.1], by omega⟩
    by_cases hz0 : len = 0
    · subst hz0
      exact ⟨[], rfl, ⟨⟨_, _, rfl, hl⟩, Reads.nil _ _ _ _, by simp, by simp⟩⟩
    obtain ⟨X, hX⟩ : ∃ X : Nat → Nat, ∀ i, i < len → W.cell? (a.add i) = some (.int .u8 (X i)) ∧ X i < 256 :=
      ⟨fun i => if h : i < len then Classical.choose (cell i h) else 0, fun i h => by simp only [dif_pos h]; exact Classical.choose_spec (cell i h)⟩
    have ha : a = ⟨a.block, a.off, none⟩ := spot_none (hX 0 (by omega)).1
    have hlen : ((List.range len).map X).length = len := by simp
    refine ⟨(List.range len).map X, hlen, ⟨some a, m, by rw [hlen], by rw [hlen]; exact hl⟩, ⟨some a, m, by rw [length_ints, hlen], fun j hj => ⟨a.block, a.off, congrArg some ha, ?_⟩⟩, ?_, by rw [hlen]; omega⟩
    · have hj' : j < len := by rw [length_ints, hlen] at hj; exact hj
      rw [← addr_add a a.block a.off j ha, (hX j hj').1, ints_at]
      simp
    · intro x hx
      simp only [List.mem_map, List.mem_range] at hx
      obtain ⟨i, hi', rfl⟩ := hx
      exact (hX i hi').2
/-- A snapshot. -/
def SnapArg (W : World) (v : Value) : Prop := ∃ (i t : Int) (am : Option Addr) (nm cm : Nat) (ad : Option Addr) (nd cd : Nat), v = .agg #[.int .u64 i, .int .u64 t, .slice am nm cm, .slice ad nd cd] ∧
  (nm ≤ 2097152 → ∃ l, l.length = nm ∧ Ints W (.slice am nm cm) l) ∧ (nd ≤ 2097152 → ∃ l, l.length = nd ∧ Bytes W (.slice ad nd cd) l)
/-- It is one that is not too great. -/
theorem SnapArg.is {i t : Int} {am ad : Option Addr} {nm cm nd cd : Nat} (h : SnapArg W (.agg #[.int .u64 i, .int .u64 t, .slice am nm cm, .slice ad nd cd])) (h1 : nm ≤ 2097152) (h2 : nd ≤ 2097152) :
    ∃ ms d, ms.length = nm ∧ d.length = nd ∧ SnapIs W (.agg #[.int .u64 i, .int .u64 t, .slice am nm cm, .slice ad nd cd]) ⟨i, t, ms, d⟩ := by
  obtain ⟨i', t', am', nm', cm', ad', nd', cd', e, hm, hd⟩ := h
  simp only [Value.agg.injEq, Array.mk.injEq, List.cons.injEq, Value.int.injEq, Value.slice.injEq, true_and, and_true] at e
  obtain ⟨rfl, rfl, ⟨rfl, rfl, rfl⟩, ⟨rfl, rfl, rfl⟩⟩ := e
  obtain ⟨ms, l1, m1⟩ := hm h1
  obtain ⟨d, l2, m2⟩ := hd h2
  exact ⟨ms, d, l1, l2, _, _, rfl, m1, m2⟩
end
end Go.Proofs.YtofhccpagnkalaaGreat
