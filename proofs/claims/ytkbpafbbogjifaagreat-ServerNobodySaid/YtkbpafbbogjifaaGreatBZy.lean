/- A runner: a map copied; over any program; no conditions. -/
import Derived.Test.YtkbpafbbogjifaaGreatBc
namespace Go.Proofs.Rn
open Go Go.RowKit Go.Proofs.Own

def hkCl (al : List V) (h : Hp) : Option (V × Hp) := match al with
  | [.m r] => match h.get r with
    | some (.map es cl) => some (.m h.n, h.new (.map es cl))
    | _ => none
  | _ => none
theorem hkCl_ok {P : Program} {f : FuncId} {w0 w : World} {E : En} {h h' : Hp} {al : List V} {r : V}
    (hc : ∀ b es cl w, w.heap[b]? = some (.map es cl) → Calls P f #[.map (some b)] w fun e w' => e = .returned (.map (some w.heap.size)) ∧ w' = w.alloc (.map es cl))
    (hh : hkCl al h = some (r, h')) (g : Gd E w0 h w) : Calls P f (V.denL E al).toArray w fun e w' => ∃ E', e = .returned (r.den E') ∧ Stp w0 E h E' h' w' ∧ r.wf h'.n h'.zn := by
  unfold hkCl at hh
  split at hh
  · rename_i m
    split at hh
    · rename_i es cl hm
      cases hh
      have ei := g.ent hm
      have hw : Ent.wf h.n h.zn (.map es cl) := g.wf.wf hm
      have ex := E.new_ext h.n h.zn (w.heap.size, 0) 0
      have hmo : mapO (E.new h.n (w.heap.size, 0) 0) es cl = mapO E es cl := by
        unfold mapO
        congr 2
        refine List.map_congr_left fun e he => ?_
        rw [V.den_ext ex _ (hw e he).1, V.den_ext ex _ (hw e he).2]
      have hs := new_ok (w1 := w) (e := .map es cl) (ob := mapO E es cl) (c := 0) g (Kept.refl _ _) (Ent.wf_mono (Nat.le_succ _) (Nat.le_refl _) _ hw) ⟨by simp only [En.new, if_true]; exact g.size, by
        simp only [En.new, if_true]
        show (w.heap.push (mapO E es cl))[w.heap.size]? = _
        rw [Array.getElem?_push_size]
        exact congrArg some hmo.symm⟩
      simp only [V.denL, V.den]
      refine (hc _ _ _ w ei.2).mono ?_
      rintro e w' ⟨rfl, rfl⟩
      exact ⟨_, by simp only [En.new, if_true], hs, by simp only [V.wf]; exact Nat.lt_succ_self _⟩
    · cases hh
  · cases hh
end Go.Proofs.Rn
