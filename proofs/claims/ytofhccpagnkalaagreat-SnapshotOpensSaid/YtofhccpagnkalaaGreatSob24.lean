/- Several texts in one: Torn. What each proves stands ahead of it; together they serve sopens_law_holds. No conditions but those stated. -/
import Derived.OneCell
import Derived.Test.YtofhccpagnkalaaGreatSob18
import Derived.Test.YtofhccpagnkalaaGreatSob23
import Derived.Test.YtofhccpagnkalaaGreatSob7
/- Contracts of the disk's torn and of the next tear; no conditions but the ranges. -/
namespace Go.Proofs.YtofhccpagnkalaaGreat
open Go.RowKit Go.Maps Go.Proofs.Own

def xorAt (b : List Nat) (j x : Nat) : List Nat := b.set j (b.getD j 0 ^^^ x)
/-- The loose bytes l, torn; the last three of what stays are turned. -/
def tornTo (b : List Nat) (t : Nat) : Nat → List Nat
  | 0 => b
  | i + 1 => xorAt (tornTo b t i) (b.length - 3 + i) (t / 2 ^ (16 - 8 * i) % 256)
def tornL (l : List Nat) (t : Nat × Nat) : List Nat := if 3 ≤ (l.take (t.1 % (l.length + 1))).length then tornTo (l.take (t.1 % (l.length + 1))) t.2 3 else l.take (t.1 % (l.length + 1))
theorem length_tornTo (b : List Nat) (t : Nat) : ∀ i, (tornTo b t i).length = b.length
  | 0 => rfl
  | i + 1 => by rw [tornTo, xorAt, List.length_set, length_tornTo b t i]
end Go.Proofs.YtofhccpagnkalaaGreat
