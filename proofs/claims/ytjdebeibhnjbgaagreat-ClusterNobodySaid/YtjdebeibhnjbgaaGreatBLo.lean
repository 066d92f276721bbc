/- The layout of all types. -/
import Derived.Test.YtjdebeibhnjbgaaGreatBLo0
import Derived.Test.YtjdebeibhnjbgaaGreatBLo1
import Derived.Test.YtjdebeibhnjbgaaGreatBLo2
import Derived.Test.YtjdebeibhnjbgaaGreatBLo3
import Derived.Test.YtjdebeibhnjbgaaGreatBLo4
namespace Go.Proofs.YtjdebeibhnjbgaaGreat
open Go
theorem loR : List.range 848 = List.range' 0 250 ++ List.range' 250 250 ++ List.range' 500 250 ++ List.range' 750 98 := by decide +kernel
theorem laid : laidOutB Tryz.prog = true := by
  unfold laidOutB
  rw [loS, loR]
  simp only [List.all_append, lo0, lo1, lo2, lo3, Bool.and_self, Bool.true_and]
  rw [← loS, loG, loF]
  rfl
end Go.Proofs.YtjdebeibhnjbgaaGreat
