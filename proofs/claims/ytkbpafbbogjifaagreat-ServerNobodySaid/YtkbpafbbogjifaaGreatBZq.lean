/- A runner: the seat's surroundings; no conditions. -/
import Derived.Test.YtkbpafbbogjifaaGreatBZt
import Derived.Test.YtkbpafbbogjifaaGreatBZp
namespace Go.Proofs.YtkbpafbbogjifaaGreat
open Go Go.RowKit Go.Proofs.Own Go.Proofs.Rn

def hkS (f : FuncId) (al : List V) (h : Hp) : Option (V × Hp) := match Nat.beq f 572 with
  | true => hkLoad al h
  | false => match Nat.beq f 573 with
    | true => hkCas al h
    | false => match Nat.beq f 414 with
      | true => hkSorted al h
      | false => match Nat.beq f 312 with
        | true => hkSortedI al h
        | false => none
theorem env_ok (w0 : World) (Q : Exit → Act → World → Prop) (hQ : PanOk Q) : Env Tryz.prog tyT.get fnT.get hkS w0 Q where
  tyk := tyT_ok.1
  pe := tyT_ok.2
  mix := by kernel_rfl
  pan := hQ
  fnk := fn_ok (l := Tryz.prog.funcs.toList) (by simp) fnT_all (by kernel_rfl) fnT_lt
  hok := by
    intro f al h r h' hh E w g hw
    unfold hkS at hh
    split at hh
    · rename_i e
      obtain rfl := Nat.eq_of_beq_eq_true e
      exact ⟨hkLoad_ok hh g, _, Tryz.func572, by kernel_rfl, by kernel_rfl⟩
    · split at hh
      · rename_i e
        obtain rfl := Nat.eq_of_beq_eq_true e
        exact ⟨hkCas_ok hh g, _, Tryz.func573, by kernel_rfl, by kernel_rfl⟩
      · split at hh
        · rename_i e
          obtain rfl := Nat.eq_of_beq_eq_true e
          exact ⟨hkSorted_ok hh g, _, Tryz.func414, by kernel_rfl, by kernel_rfl⟩
        · split at hh
          · rename_i e
            obtain rfl := Nat.eq_of_beq_eq_true e
            exact ⟨hkSortedI_ok hh g, _, Tryz.func312, by kernel_rfl, by kernel_rfl⟩
          · cases hh
end Go.Proofs.YtkbpafbbogjifaaGreat
