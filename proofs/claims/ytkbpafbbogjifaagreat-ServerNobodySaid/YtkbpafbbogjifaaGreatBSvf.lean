/- A runner: the surroundings, with Free and Clone; no conditions. -/
import Derived.Test.YtkbpafbbogjifaaGreatBZq
import Derived.Test.YtkbpafbbogjifaaGreatBZv
import Derived.Test.YtkbpafbbogjifaaGreatBZw
namespace Go.Proofs.YtkbpafbbogjifaaGreat
open Go Go.RowKit Go.Proofs.Own Go.Proofs.Rn
def E0 : En := ⟨fun _ => (0, 0), fun _ => 0, fun _ => (⟨0, 0, none⟩, 0)⟩
def hkF (f : FuncId) (al : List V) (h : Hp) : Option (V × Hp) := match Nat.beq f 455 with
  | true => hkFree al h
  | false => match hkClone f al h with
    | some r => some r
    | none => hkS f al h
theorem env_okF (w0 : World) (Q : Exit → Act → World → Prop) (hQ : PanOk Q) : Env Tryz.prog tyT.get fnT.get hkF w0 Q where
  tyk := (env_ok w0 Q hQ).tyk
  pe := (env_ok w0 Q hQ).pe
  mix := (env_ok w0 Q hQ).mix
  pan := hQ
  fnk := (env_ok w0 Q hQ).fnk
  hok := by
    intro f al h r h' hh E w g hw
    unfold hkF at hh
    split at hh
    · rename_i e
      obtain rfl := Nat.eq_of_beq_eq_true e
      exact ⟨hkFree_ok hh g, _, Tryz.func455, by kernel_rfl, by kernel_rfl⟩
    · split at hh
      · rename_i r' e
        cases hh
        exact hkClone_ok e g
      · exact (env_ok w0 Q hQ).hok f al h r h' hh E w g hw
end Go.Proofs.YtkbpafbbogjifaaGreat
