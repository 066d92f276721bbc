/- For scbytes_law_holds. -/
import Derived.Test.YtgeihgombjbkbaaGreatSyb1
import Derived.Test.YtgeihgombjbkbaaGreatSyb2
import Derived.Test.YtgeihgombjbkbaaGreatSyb3
namespace Go.Proofs.YtgeihgombjbkbaaGreat
open Go
theorem loR:List.range 951=List.range' 0 250++List.range' 250 250++List.range' 500 250++List.range' 750 201:=by decide +kernel
theorem laid:laidOutB Tryz.prog=true:=by
 unfold laidOutB;rw[loS,loR];simp only[List.all_append,lo0,lo1,lo2,lo3,Bool.and_self,Bool.true_and];rw[<- loS,loG,loF];rfl
