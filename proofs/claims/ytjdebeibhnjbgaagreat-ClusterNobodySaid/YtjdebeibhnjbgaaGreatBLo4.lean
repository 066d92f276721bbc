/- The types' layout, checked in parts. -/
import Derived.ChangeBook
import Derived.KernelRfl
import Derived.Test.YtjdebeibhnjbgaaGreatProg
namespace Go.Proofs.YtjdebeibhnjbgaaGreat
open Go
theorem lo3 : (List.range' 750 98).all (rowFine Tryz.prog) = true := by kernel_rfl
end Go.Proofs.YtjdebeibhnjbgaaGreat
