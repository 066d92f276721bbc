/- Contracts of the sum of one row of bytes, both ways, and of 'it fits'; no conditions but the ranges. -/
import Derived.Test.YtofhccpagnkalaaGreatSum2
namespace Go.Proofs.YtofhccpagnkalaaGreat
open Go.RowKit Go.Maps Go.Proofs.Own

theorem ret_int {k : IntKind} {a b : Int} (h : a = b) : Ending.returned (.int k a) = .returned (.int k b) := by rw [h]
theorem ret_bool {a b : Bool} (h : a = b) : Ending.returned (.bool a) = .returned (.bool b) := by rw [h]
/-- The sum that a seal has. -/
def sumP (l : List Nat) : Nat := onP 11994318 l
theorem sumP_lt (l : List Nat) (hl : ∀ c ∈ l, c < 256) : sumP l < 16777216 := onP_lt l _ (by decide) hl

theorem rsum_any (sv : Value) (l : List Nat) (w : World) (hr : Reads w .u8 sv (ints l)) (hl : ∀ c ∈ l, c < 256) (hlen : l.length ≤ 2097152) :
    Calls Tryz.prog 154 #[sv] w fun e w' => e = .returned (.int .u32 (sumP l)) ∧ Below w.heap.size w w' := by
  have HR := Lib.hid hr
  have HL := Lib.hid hl
  obtain ⟨a, c, rfl⟩ := hr.shape
  clear hr hl
  go_enter Tryz.func154, Tryz.ntmps154
  go_wp2_with fail
  refine (ron_any _ 11994318 l _ (by decide) HR.out HL.out hlen).mono ?_
  rintro e w1 ⟨rfl, hb1⟩
  go_wp2_with fail
  go_ret
  exact ⟨rfl, hb1⟩

set_option maxHeartbeats 1000000 in
theorem sum_one (b : Nat) (sv : Value) (l : List Nat) (w : World) (c0 : w.cell? ⟨b, 0, none⟩ = some sv) (hr : Reads w .u8 sv (ints l)) (hl : ∀ c ∈ l, c < 256) (hlen : l.length ≤ 2097152) :
    Calls Tryz.prog 151 #[.slice (some ⟨b, 0, none⟩) 1 1] w fun e w' => e = .returned (.int .u32 (sumP l)) ∧ Below w.heap.size w w' := by
  have HR := Lib.hid hr
  have HL := Lib.hid hl
  have hlt := Lib.hid (sumP_lt l hl)
  have hbs : b < w.heap.size := World.block_lt_of_cell? _ _ c0
  obtain ⟨a, c, rfl⟩ := hr.shape
  clear hr hl
  go_enter Tryz.func151, Tryz.ntmps151
  go_wp2_with fail
  go_loopw [3, 8] (fun d i wr => ((i = .int .i64 0 ∧ d = .int .u32 11994318 ∧ wr = w) ∨ (i = .int .i64 1 ∧ d = .int .u32 (sumP l : Nat) ∧ Below w.heap.size w wr))) (fun _ i _ => 1 - (intOf i).toNat)
  case atStart => exact .inl ⟨rfl, rfl, rfl⟩
  case round =>
    rcases hrel with ⟨rfl, rfl, rfl⟩ | ⟨rfl, rfl, hb⟩
    · go_wp2_with fail
      refine (on_any _ 11994318 l _ (by decide) HR.out HL.out hlen).mono ?_
      rintro e w1 ⟨rfl, hb1⟩
      go_wp2_with fail
      go_roundw
      case rel => exact .inr ⟨rfl, rfl, hb1⟩
      case measure => decide
    · have HB := Lib.hid hb
      clear hb
      go_wp2_with fail
      go_ret
      exact ⟨rfl, HB.out⟩

theorem fits_any (sv : Value) (l : List Nat) (n : Nat) (w : World) (hr : Reads w .u8 sv (ints l)) (hl : ∀ c ∈ l, c < 256) (hlen : l.length ≤ 2097152) :
    Calls Tryz.prog 153 #[sv, .int .u32 n] w fun e w' => e = .returned (.bool (decide (sumP l = n))) ∧ Below w.heap.size w w' := by
  have HR := Lib.hid hr
  have HL := Lib.hid hl
  obtain ⟨a, c, rfl⟩ := hr.shape
  clear hr hl
  go_enter Tryz.func153, Tryz.ntmps153
  go_wp2_with fail
  refine (sum_one w.heap.size _ l _ (by go_cell) (HR.out.alloc _) HL.out hlen).mono ?_
  rintro e w1 ⟨rfl, hb1⟩
  go_wp2_with fail
  go_ret
  refine ⟨ret_bool ?_, ((Below.refl _ _).alloc (Nat.le_refl _) _).trans (hb1.mono (by simp))⟩
  by_cases h : sumP l = n <;> simp [h] <;> omega
end Go.Proofs.YtofhccpagnkalaaGreat
