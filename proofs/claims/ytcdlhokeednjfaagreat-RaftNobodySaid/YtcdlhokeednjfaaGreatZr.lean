/- A runner: the example of raft; no conditions. -/
import Derived.Test.YtcdlhokeednjfaaGreatZq
namespace Go.Proofs.YtcdlhokeednjfaaGreat
open Go Go.RowKit Go.Proofs.Own Go.Proofs.Rn
def E0 : En := ⟨fun _ => (0, 0), fun _ => 0, fun _ => (⟨0, 0, none⟩, 0)⟩
set_option maxRecDepth 1000000 in
theorem lives_tells : tells Tryz.prog tyT.get fnT.get hkS 5 [] 60000 = true := by decide +kernel
theorem lives_run (w : World) : Calls Tryz.prog 5 #[] w fun e w' => e = .returned (.bool true) ∧ Below w.heap.size w w' := by
  have := tells_ok («as» := []) w (env_ok w) trivial lives_tells E0
  exact this
#print axioms lives_run
end Go.Proofs.YtcdlhokeednjfaaGreat
