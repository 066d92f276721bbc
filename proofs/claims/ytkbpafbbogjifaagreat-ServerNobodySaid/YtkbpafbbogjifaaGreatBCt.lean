/- A runner: calls of the example; no conditions. -/
import Derived.Test.YtkbpafbbogjifaaGreatBCt1
import Derived.Test.YtkbpafbbogjifaaGreatBCt2
import Derived.Test.YtkbpafbbogjifaaGreatBCt3
namespace Go.Proofs.YtkbpafbbogjifaaGreat
open Go Go.RowKit Go.Proofs.Own Go.Proofs.Rn
noncomputable def cts : List Cut := [ct1, ct2, ct3, ct4, ct5]
theorem cts_ok : ∀ c ∈ cts, CutOk Tryz.prog c := fun c hc => by
  simp only [cts, List.mem_cons, List.not_mem_nil, or_false] at hc
  rcases hc with rfl | rfl | rfl | rfl | rfl
  · exact ct1_ok
  · exact ct2_ok
  · exact ct3_ok
  · exact ct4_ok
  · exact ct5_ok
end Go.Proofs.YtkbpafbbogjifaaGreat
