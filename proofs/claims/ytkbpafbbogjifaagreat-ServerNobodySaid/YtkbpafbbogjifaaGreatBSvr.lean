/- A runner: the example of server; no conditions. -/
import Derived.Test.YtkbpafbbogjifaaGreatBSvf
import Derived.Test.YtkbpafbbogjifaaGreatBCt
namespace Go.Proofs.YtkbpafbbogjifaaGreat
open Go Go.RowKit Go.Proofs.Own Go.Proofs.Rn
noncomputable def hkX (f : FuncId) (al : List V) (h : Hp) : Option (V × Hp) := match hkCut cts f al h with
  | some r => some r
  | none => hkF f al h
theorem env_okX (w0 : World) (Q : Exit → Act → World → Prop) (hQ : PanOk Q) : Env Tryz.prog tyT.get fnT.get hkX w0 Q where
  tyk := (env_okF w0 Q hQ).tyk
  pe := (env_okF w0 Q hQ).pe
  mix := (env_okF w0 Q hQ).mix
  pan := hQ
  fnk := (env_okF w0 Q hQ).fnk
  hok := by
    intro f al h r h' hh E w g hw
    unfold hkX at hh
    split at hh
    · rename_i r' e
      cases hh
      exact hkCut_ok cts_ok e g hw
    · exact (env_okF w0 Q hQ).hok f al h r h' hh E w g hw
set_option maxRecDepth 1000000 in
theorem lives_tells : tells Tryz.prog tyT.get fnT.get hkX 5 [] 20000 = true := by decide +kernel
theorem lives_run (w : World) : Calls Tryz.prog 5 #[] w fun e w' => e = .returned (.bool true) ∧ Below w.heap.size w w' := by
  have := tells_ok («as» := []) w (env_okX w) trivial lives_tells E0
  exact this
#print axioms lives_run
end Go.Proofs.YtkbpafbbogjifaaGreat
