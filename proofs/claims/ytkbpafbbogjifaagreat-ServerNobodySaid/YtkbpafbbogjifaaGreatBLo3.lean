/- The types' layout, checked in parts. -/
import Derived.ChangeBook
import Derived.KernelRfl
import Derived.Test.YtkbpafbbogjifaaGreatProg
namespace Go.Proofs.YtkbpafbbogjifaaGreat
open Go
theorem lo2 : (List.range' 500 250).all (rowFine Tryz.prog) = true := by kernel_rfl
end Go.Proofs.YtkbpafbbogjifaaGreat
