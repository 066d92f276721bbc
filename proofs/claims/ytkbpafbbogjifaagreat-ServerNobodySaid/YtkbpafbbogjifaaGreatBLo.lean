/- The layout of all types. -/
import Derived.Test.YtkbpafbbogjifaaGreatBLo0
import Derived.Test.YtkbpafbbogjifaaGreatBLo1
import Derived.Test.YtkbpafbbogjifaaGreatBLo2
import Derived.Test.YtkbpafbbogjifaaGreatBLo3
import Derived.Test.YtkbpafbbogjifaaGreatBLo4
namespace Go.Proofs.YtkbpafbbogjifaaGreat
open Go
theorem loR : List.range 752 = List.range' 0 250 ++ List.range' 250 250 ++ List.range' 500 250 ++ List.range' 750 2 := by decide +kernel
theorem laid : laidOutB Tryz.prog = true := by
  unfold laidOutB
  rw [loS, loR]
  simp only [List.all_append, lo0, lo1, lo2, lo3, Bool.and_self, Bool.true_and]
  rw [← loS, loG, loF]
  rfl
end Go.Proofs.YtkbpafbbogjifaaGreat
