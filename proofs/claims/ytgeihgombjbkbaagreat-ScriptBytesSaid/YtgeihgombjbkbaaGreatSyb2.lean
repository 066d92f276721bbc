/- For scbytes_law_holds. -/
import Derived.ChangeBook
import Derived.KernelRfl
import Derived.Test.YtgeihgombjbkbaaGreatProg
namespace Go.Proofs.YtgeihgombjbkbaaGreat
open Go
theorem lo0:(List.range' 0 250).all (rowFine Tryz.prog)=true:=by kernel_rfl
theorem lo1:(List.range' 250 250).all (rowFine Tryz.prog)=true:=by kernel_rfl
