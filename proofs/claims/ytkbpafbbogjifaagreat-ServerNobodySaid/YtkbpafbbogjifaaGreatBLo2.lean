/- The types' layout, checked in parts. -/
import Derived.ChangeBook
import Derived.KernelRfl
import Derived.Test.YtkbpafbbogjifaaGreatProg
namespace Go.Proofs.YtkbpafbbogjifaaGreat
open Go
theorem lo1 : (List.range' 250 250).all (rowFine Tryz.prog) = true := by kernel_rfl
end Go.Proofs.YtkbpafbbogjifaaGreat
