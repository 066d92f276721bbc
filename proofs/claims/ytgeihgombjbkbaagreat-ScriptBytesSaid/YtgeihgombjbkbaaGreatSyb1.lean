/- For scbytes_law_holds. -/
import Derived.ChangeBook
import Derived.KernelRfl
import Derived.Test.YtgeihgombjbkbaaGreatProg
namespace Go.Proofs.YtgeihgombjbkbaaGreat
open Go
theorem loG:Tryz.prog.globals.all (fun g=>decide (g.type<Tryz.prog.types.size))=true:=by kernel_rfl
theorem loF:Tryz.prog.funcs.all (fun f=>f.params.all fun t=>decide (t<Tryz.prog.types.size))=true:=by kernel_rfl
theorem loS:Tryz.prog.types.size=951:=by kernel_rfl
