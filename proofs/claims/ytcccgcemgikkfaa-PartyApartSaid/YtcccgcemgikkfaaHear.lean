/- The contract of the program's Hear; no conditions but the lengths. -/
import Derived.Test.YtcccgcemgikkfaaParty
namespace Go.Proofs.Ytcccgcemgikkfaa
open Go.RowKit Go.Maps Go.Proofs.Own

theorem phear_nil (id x1 x2 x3 x4 x5 x6 x7 x8 : Int) (w : World) :
    Calls Try.prog 12 #[.pointer none, .agg #[.int .u64 id, .int .u64 x1, .int .i64 x2, .int .i64 x3, .int .i64 x4, .int .i64 x5, .int .i64 x6, .int .i64 x7, .int .i64 x8]] w
      fun e w' => e = .returned (.tuple #[.bool false, .int .i64 1]) ∧ Below w.heap.size w w' := by
  go_enter Try.func12, Try.ntmps12
  go_wp2_with (go_at_call 29; refine (none_nil _).mono ?_; rintro e w' ⟨rfl, rfl⟩)
  go_ret2
  exact ⟨rfl, (Below.refl _ _).alloc (Nat.le_refl _) _⟩

theorem phear_none (b : Nat) (id x1 x2 x3 x4 x5 x6 x7 x8 : Int) (w : World) (c1 : w.cell? ⟨b, 1, none⟩ = some (.map none)) :
    Calls Try.prog 12 #[.pointer (some ⟨b, 0, none⟩), .agg #[.int .u64 id, .int .u64 x1, .int .i64 x2, .int .i64 x3, .int .i64 x4, .int .i64 x5, .int .i64 x6, .int .i64 x7, .int .i64 x8]] w
      fun e w' => e = .returned (.tuple #[.bool false, .int .i64 1]) ∧ Below w.heap.size w w' := by
  go_enter Try.func12, Try.ntmps12
  go_wp2_with (go_at_call 29; refine (none_ptr b none _ (cell_alloc c1 _)).mono ?_; rintro e w' ⟨rfl, rfl⟩)
  go_ret2
  exact ⟨rfl, (Below.refl _ _).alloc (Nat.le_refl _) _⟩

set_option maxHeartbeats 1000000 in
theorem phear_party (b : Nat) (F : Nat → Prop) (num : Int) (l : List Int) (id x1 x2 x3 x4 x5 x6 x7 x8 : Int) (w : World) (hp : PartyIs w b F num l) (hne : x3 ≠ num) :
    Calls Try.prog 12 #[.pointer (some ⟨b, 0, none⟩), .agg #[.int .u64 id, .int .u64 x1, .int .i64 x2, .int .i64 x3, .int .i64 x4, .int .i64 x5, .int .i64 x6, .int .i64 x7, .int .i64 x8]] w
      fun e w' => e = .returned (.tuple #[.bool false, .int .i64 2]) ∧ Below w.heap.size w w' := by
  obtain ⟨bm, n, D, v, hp⟩ := hp
  have c1 := hp.c1
  have c0 := hp.c0
  have hbs := World.block_lt_of_cell? _ _ hp.c0
  have hn : (x3 != num) = true := by simp [hne]
  clear hp hne
  have e0 := cell_alloc c0 (.cells #[.int .u64 id, .int .u64 x1, .int .i64 x2, .int .i64 x3, .int .i64 x4, .int .i64 x5, .int .i64 x6, .int .i64 x7, .int .i64 x8] 31)
  go_enter Try.func12, Try.ntmps12
  go_wp2_with (go_at_call 29; refine (none_ptr b (some bm) _ (cell_alloc c1 _)).mono ?_; rintro e w' ⟨rfl, rfl⟩)
  go_quiet (fail)
  go_wp2
  go_ret2
  exact ⟨rfl, below_drewN ((Below.refl _ _).alloc (Nat.le_refl _) _) _⟩

set_option maxHeartbeats 1000000 in
theorem phear_zero (b : Nat) (F : Nat → Prop) (num : Int) (l : List Int) (x1 x2 x3 x4 x5 x6 x7 x8 : Int) (w : World) (hp : PartyIs w b F num l) :
    Calls Try.prog 12 #[.pointer (some ⟨b, 0, none⟩), .agg #[.int .u64 0, .int .u64 x1, .int .i64 x2, .int .i64 x3, .int .i64 x4, .int .i64 x5, .int .i64 x6, .int .i64 x7, .int .i64 x8]] w
      fun e w' => e = .returned (.tuple #[.bool false, .int .i64 2]) ∧ Below w.heap.size w w' := by
  by_cases hne : x3 = num
  · obtain ⟨bm, n, D, v, hp⟩ := hp
    have c1 := hp.c1
    have c0 := hp.c0
    have hbs := World.block_lt_of_cell? _ _ hp.c0
    subst hne
    have hn : (x3 != x3) = false := by simp
    clear hp
    have e0 := cell_alloc c0 (.cells #[.int .u64 0, .int .u64 x1, .int .i64 x2, .int .i64 x3, .int .i64 x4, .int .i64 x5, .int .i64 x6, .int .i64 x7, .int .i64 x8] 31)
    go_enter Try.func12, Try.ntmps12
    go_wp2_with (go_at_call 29; refine (none_ptr b (some bm) _ (cell_alloc c1 _)).mono ?_; rintro e w' ⟨rfl, rfl⟩)
    go_quiet (fail)
    go_wp2
    go_ret2
    exact ⟨rfl, below_drewN ((Below.refl _ _).alloc (Nat.le_refl _) _) _⟩
  · exact phear_party b F num l 0 x1 x2 x3 x4 x5 x6 x7 x8 w hp hne
end Go.Proofs.Ytcccgcemgikkfaa
