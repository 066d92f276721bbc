/- A runner: maps copied, at this program; no conditions. -/
import Derived.Test.YtkbpafbbogjifaaGreatBZy
import Derived.Test.YtkbpafbbogjifaaGreatBZo
import Derived.Shelf.SlMaps.Clone
namespace Go.Proofs.YtkbpafbbogjifaaGreat
open Go Go.RowKit Go.Proofs.Own Go.Proofs.Rn

set_option maxHeartbeats 2000000 in
set_option maxRecDepth 100000 in
theorem mcloneA (b : Nat) (es : Array MapEntry) (clock : Nat) (w : World) (hb : w.heap[b]? = some (.map es clock)) :
    Calls Tryz.prog 214 #[.map (some b)] w fun e w' => e = .returned (.map (some w.heap.size)) ∧ w' = w.alloc (.map es clock) := by
  have hq := fun w => run_eql_map_nil_sl (P := Tryz.prog) w 273 _ _ (some b) Tryz.underlying273
  go_enter Tryz.func214, Tryz.ntmps214
  go_wp2
  rw [run_callFunc_extern Tryz.func216 (by kernel_rfl) (by kernel_rfl) (by kernel_rfl) (e := Extern.MapsClone.clone) (by kernel_rfl), run_maps_clone_sl w 273 hb]
  simp only [Result.andThen]
  rw [Oper.upon_value]
  go_wp2
  rw [run_typeAssert_map_sl _ 273 20 _ _ _ Tryz.underlying273]
  simp only [Result.andThen]
  rw [Oper.upon_value]
  go_wp2
  go_ret
  exact ⟨rfl, rfl⟩
set_option maxHeartbeats 2000000 in
set_option maxRecDepth 100000 in
theorem mcloneB (b : Nat) (es : Array MapEntry) (clock : Nat) (w : World) (hb : w.heap[b]? = some (.map es clock)) :
    Calls Tryz.prog 215 #[.map (some b)] w fun e w' => e = .returned (.map (some w.heap.size)) ∧ w' = w.alloc (.map es clock) := by
  have hq := fun w => run_eql_map_nil_sl (P := Tryz.prog) w 274 _ _ (some b) Tryz.underlying274
  go_enter Tryz.func215, Tryz.ntmps215
  go_wp2
  rw [run_callFunc_extern Tryz.func216 (by kernel_rfl) (by kernel_rfl) (by kernel_rfl) (e := Extern.MapsClone.clone) (by kernel_rfl), run_maps_clone_sl w 274 hb]
  simp only [Result.andThen]
  rw [Oper.upon_value]
  go_wp2
  rw [run_typeAssert_map_sl _ 274 20 _ _ _ Tryz.underlying274]
  simp only [Result.andThen]
  rw [Oper.upon_value]
  go_wp2
  go_ret
  exact ⟨rfl, rfl⟩
set_option maxHeartbeats 2000000 in
set_option maxRecDepth 100000 in
theorem mcloneC (b : Nat) (es : Array MapEntry) (clock : Nat) (w : World) (hb : w.heap[b]? = some (.map es clock)) :
    Calls Tryz.prog 128 #[.map (some b)] w fun e w' => e = .returned (.map (some w.heap.size)) ∧ w' = w.alloc (.map es clock) := by
  have hq := fun w => run_eql_map_nil_sl (P := Tryz.prog) w 161 _ _ (some b) Tryz.underlying161
  go_enter Tryz.func128, Tryz.ntmps128
  go_wp2
  rw [run_callFunc_extern Tryz.func216 (by kernel_rfl) (by kernel_rfl) (by kernel_rfl) (e := Extern.MapsClone.clone) (by kernel_rfl), run_maps_clone_sl w 161 hb]
  simp only [Result.andThen]
  rw [Oper.upon_value]
  go_wp2
  rw [run_typeAssert_map_sl _ 161 20 _ _ _ Tryz.underlying161]
  simp only [Result.andThen]
  rw [Oper.upon_value]
  go_wp2
  go_ret
  exact ⟨rfl, rfl⟩
def hkClone (f : FuncId) (al : List V) (h : Hp) : Option (V × Hp) := match Nat.beq f 214 with
  | true => hkCl al h
  | false => match Nat.beq f 215 with
    | true => hkCl al h
    | false => match Nat.beq f 128 with
      | true => hkCl al h
      | false => none
theorem hkClone_ok {w0 w : World} {E : En} {f : FuncId} {h h' : Hp} {al : List V} {r : V} (hh : hkClone f al h = some (r, h')) (g : Gd E w0 h w) :
    Calls Tryz.prog f (V.denL E al).toArray w (HkP w0 E h h' r) ∧ ∃ fn, Tryz.prog.funcs[f]? = some fn ∧ fn.body.isSome = true ∧ (fn.name == "runtime.NumGoroutine") = false := by
  unfold hkClone at hh
  split at hh
  · rename_i e
    obtain rfl := Nat.eq_of_beq_eq_true e
    exact ⟨hkCl_ok mcloneA hh g, _, Tryz.func214, by kernel_rfl, by kernel_rfl⟩
  · split at hh
    · rename_i e
      obtain rfl := Nat.eq_of_beq_eq_true e
      exact ⟨hkCl_ok mcloneB hh g, _, Tryz.func215, by kernel_rfl, by kernel_rfl⟩
    · split at hh
      · rename_i e
        obtain rfl := Nat.eq_of_beq_eq_true e
        exact ⟨hkCl_ok mcloneC hh g, _, Tryz.func128, by kernel_rfl, by kernel_rfl⟩
      · cases hh
end Go.Proofs.YtkbpafbbogjifaaGreat
