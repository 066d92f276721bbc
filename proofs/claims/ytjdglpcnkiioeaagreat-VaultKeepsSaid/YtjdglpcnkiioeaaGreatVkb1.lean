/- Several texts in one: Crc for vltkeeps_law_holds. No conditions but those stated. -/
import Derived.WalkKit
namespace Go.Proofs.Own

def turns:Nat:=8801531
def wP (s:Nat):Nat:=(2 * s % 16777216) ^^^ (if s / 8388608 % 2 = 1 then turns else 0)
theorem aIC:turns < 2 ^ 24:=by decide
theorem aIv (s:Nat):wP s < 16777216:=by
 unfold wP
 refine Nat.xor_lt_two_pow (n:=24) (Nat.mod_lt _ (by decide)) ?_
 split
 ·exact aIC
 ·decide
def turnP:Nat -> Nat -> Nat
 | 0,s=>s
 | i + 1,s=>wP (turnP i s)
end Go.Proofs.Own
