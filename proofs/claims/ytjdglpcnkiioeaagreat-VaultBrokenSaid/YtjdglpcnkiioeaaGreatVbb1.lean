/- Several texts in one: Crc. What each proves stands ahead of it; together they serve vbroken_law_holds. No conditions but those stated. -/
import Derived.WalkKit
namespace Go.Proofs.Own

def turns : Nat := 8801531
def stepP (s : Nat) : Nat := (2 * s % 16777216) ^^^ (if s / 8388608 % 2 = 1 then turns else 0)
theorem turns_lt : turns < 2 ^ 24 := by decide
theorem stepP_lt (s : Nat) : stepP s < 16777216 := by
  unfold stepP
  refine Nat.xor_lt_two_pow (n := 24) (Nat.mod_lt _ (by decide)) ?_
  split
  . exact turns_lt
  . decide
def turnP : Nat -> Nat -> Nat
  | 0, s => s
  | i + 1, s => stepP (turnP i s)
end Go.Proofs.Own
