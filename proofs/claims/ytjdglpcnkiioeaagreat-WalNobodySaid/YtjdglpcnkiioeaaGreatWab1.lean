/- Several texts in one: Crc. What each proves stands ahead of it; together they serve wkeeps_law_holds,wfiles_law_holds,wnobody_law_holds. No conditions but those stated. -/
import Derived.WalkKit
/- The plain law of crc24: shifting a byte in at the top, bit by bit, is the document's division, bit by bit; no conditions but the ranges. -/
namespace Go.Proofs.Own

/-- The polynomial without its top. -/
def turns : Nat := 8801531
/-- One turn of the program's sum. -/
def stepP (s : Nat) : Nat := (2 * s % 16777216) ^^^ (if s / 8388608 % 2 = 1 then turns else 0)
theorem turns_lt : turns < 2 ^ 24 := by decide
theorem stepP_lt (s : Nat) : stepP s < 16777216 := by
  unfold stepP
  refine Nat.xor_lt_two_pow (n := 24) (Nat.mod_lt _ (by decide)) ?_
  split
  · exact turns_lt
  · decide
/-- After i turns the two sums differ by what of the byte has not come to the top. -/
def turnP : Nat → Nat → Nat
  | 0, s => s
  | i + 1, s => stepP (turnP i s)
end Go.Proofs.Own
