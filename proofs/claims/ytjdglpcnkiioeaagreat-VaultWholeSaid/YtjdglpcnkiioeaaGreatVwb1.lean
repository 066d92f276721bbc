/- Several texts in one: Crc for vwhole_law_holds. No conditions but those stated. -/
import Derived.WalkKit
namespace Go.Proofs.Own

def turns:Nat:=8801531
def vS (s:Nat):Nat:=(2 * s % 16777216) ^^^ (if s / 8388608 % 2 = 1 then turns else 0)
theorem aHZ:turns < 2 ^ 24:=by decide
theorem aHS (s:Nat):vS s < 16777216:=by
  unfold vS
  refine Nat.xor_lt_two_pow (n:=24) (Nat.mod_lt _ (by decide)) ?_
  split
  . exact aHZ
  . decide
def turnP:Nat -> Nat -> Nat
  | 0,s=>s
  | i + 1,s=>vS (turnP i s)
end Go.Proofs.Own
