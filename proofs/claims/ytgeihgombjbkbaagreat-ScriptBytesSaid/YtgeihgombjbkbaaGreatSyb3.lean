/- For scbytes_law_holds. -/
import Derived.ChangeBook
import Derived.KernelRfl
import Derived.Test.YtgeihgombjbkbaaGreatProg
namespace Go.Proofs.YtgeihgombjbkbaaGreat
open Go
theorem lo2:(List.range' 500 250).all (rowFine Tryz.prog)=true:=by kernel_rfl
theorem lo3:(List.range' 750 201).all (rowFine Tryz.prog)=true:=by kernel_rfl
