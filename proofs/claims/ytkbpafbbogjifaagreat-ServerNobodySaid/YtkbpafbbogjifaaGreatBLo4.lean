/- The types' layout, checked in parts. -/
import Derived.ChangeBook
import Derived.KernelRfl
import Derived.Test.YtkbpafbbogjifaaGreatProg
namespace Go.Proofs.YtkbpafbbogjifaaGreat
open Go
theorem lo3 : (List.range' 750 2).all (rowFine Tryz.prog) = true := by kernel_rfl
end Go.Proofs.YtkbpafbbogjifaaGreat
