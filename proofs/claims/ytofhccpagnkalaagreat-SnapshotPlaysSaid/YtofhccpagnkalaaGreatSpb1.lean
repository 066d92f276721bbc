/- Several texts in one: Crc. What each proves stands ahead of it; together they serve splays_law_holds. No conditions but those stated. -/
import Derived.WalkKit
/- The plain law of crc24: shifting a byte in at the top, bit by bit, is the document's division, bit by bit; no conditions but the ranges. -/
namespace Go.Proofs.Own

/-- The polynomial without its top. -/
def turns : Nat := 8801531
/-- One turn of the program's sum. -/
def stepP (s : Nat) : Nat := (2 * s % 16777216) ^^^ (if s / 8388608 % 2 = 1 then turns else 0)
/-- One turn of the document's sum, by a bit of the byte. -/
def stepR (s b : Nat) : Nat := (2 * s % 16777216) ^^^ (if s / 8388608 % 2 ≠ b then turns else 0)

theorem turns_lt : turns < 2 ^ 24 := by decide
theorem stepP_lt (s : Nat) : stepP s < 16777216 := by
  unfold stepP
  refine Nat.xor_lt_two_pow (n := 24) (Nat.mod_lt _ (by decide)) ?_
  split
  · exact turns_lt
  · decide
theorem stepR_lt (s b : Nat) : stepR s b < 16777216 := by
  unfold stepR
  refine Nat.xor_lt_two_pow (n := 24) (Nat.mod_lt _ (by decide)) ?_
  split
  · exact turns_lt
  · decide

theorem two_mul_xor (x y : Nat) : 2 * (x ^^^ y) = (2 * x) ^^^ (2 * y) := by
  have := Nat.shiftLeft_xor_distrib (a := x) (b := y) (i := 1)
  simpa [Nat.shiftLeft_eq, Nat.mul_comm] using this
theorem top_xor (x y : Nat) : (x ^^^ y) / 8388608 % 2 = (x / 8388608 % 2 + y / 8388608 % 2) % 2 := by
  have h := Nat.testBit_xor x y 23
  simp only [Nat.testBit_eq_decide_div_mod_eq] at h
  have h1 : (2 : Nat) ^ 23 = 8388608 := by decide
  rw [h1] at h
  rcases Nat.mod_two_eq_zero_or_one (x / 8388608) with hx | hx <;> rcases Nat.mod_two_eq_zero_or_one (y / 8388608) with hy | hy <;>
    rcases Nat.mod_two_eq_zero_or_one ((x ^^^ y) / 8388608) with hz | hz <;> simp [hx, hy, hz] at h ⊢

theorem xlc (a b c : Nat) : a ^^^ (b ^^^ c) = b ^^^ (a ^^^ c) := by rw [← Nat.xor_assoc, Nat.xor_comm a b, Nat.xor_assoc]

theorem step_both (r d : Nat) (_hd : d < 256) : stepP (r ^^^ (d * 65536)) = stepR r (d / 128 % 2) ^^^ ((2 * d % 256) * 65536) := by
  unfold stepP stepR
  have e1 : 2 * (r ^^^ (d * 65536)) % 16777216 = (2 * r % 16777216) ^^^ ((2 * d % 256) * 65536) := by
    rw [two_mul_xor, show (16777216 : Nat) = 2 ^ 24 from rfl, Nat.xor_mod_two_pow]
    congr 1
    omega
  have e2 : (r ^^^ (d * 65536)) / 8388608 % 2 = (r / 8388608 % 2 + d / 128 % 2) % 2 := by
    rw [top_xor]
    congr 2
    omega
  rw [e1, e2]
  rcases Nat.mod_two_eq_zero_or_one (r / 8388608) with hx | hx <;> rcases Nat.mod_two_eq_zero_or_one (d / 128) with hy | hy <;>
    simp [hx, hy, Nat.xor_comm, xlc]

/-- After i turns the two sums differ by what of the byte has not come to the top. -/
def turnP : Nat → Nat → Nat
  | 0, s => s
  | i + 1, s => stepP (turnP i s)
def turnR (c : Nat) : Nat → Nat → Nat
  | 0, s => s
  | i + 1, s => stepR (turnR c i s) (c / 2 ^ (7 - i) % 2)
theorem turn_both (c s : Nat) (hc : c < 256) : ∀ i, i ≤ 8 → turnP i (s ^^^ (c * 65536)) = turnR c i s ^^^ ((c * 2 ^ i % 256) * 65536)
  | 0, _ => by simp [turnP, turnR, Nat.mod_eq_of_lt hc]
  | i + 1, h => by
    rw [turnP, turnR, turn_both c s hc i (by omega), step_both _ _ (Nat.mod_lt _ (by decide))]
    have hi : i = 0 ∨ i = 1 ∨ i = 2 ∨ i = 3 ∨ i = 4 ∨ i = 5 ∨ i = 6 ∨ i = 7 := by omega
    have f1 : c * 2 ^ i % 256 / 128 % 2 = c / 2 ^ (7 - i) % 2 := by
      rcases hi with rfl | rfl | rfl | rfl | rfl | rfl | rfl | rfl <;> simp only [Nat.reducePow, Nat.reduceSub] <;> omega
    have f2 : 2 * (c * 2 ^ i % 256) % 256 = c * 2 ^ (i + 1) % 256 := by
      rcases hi with rfl | rfl | rfl | rfl | rfl | rfl | rfl | rfl <;> simp only [Nat.reducePow, Nat.reduceAdd] <;> omega
    rw [f1, f2]
theorem byte_both (c s : Nat) (hc : c < 256) : turnP 8 (s ^^^ (c * 65536)) = turnR c 8 s := by
  rw [turn_both c s hc 8 (by omega)]
  have : c * 2 ^ 8 % 256 = 0 := by omega
  rw [this]; simp
end Go.Proofs.Own
