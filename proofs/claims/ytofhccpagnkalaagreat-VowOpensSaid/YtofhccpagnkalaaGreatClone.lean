/- The contract of bytes.Clone; no conditions but the length. -/
import Derived.Test.YtofhccpagnkalaaGreatSeal2
namespace Go.Proofs.YtofhccpagnkalaaGreat
open Go.RowKit Go.Maps Go.Proofs.Own

theorem bclone (v : Value) (zs : List Int) (w : World) (hr : Reads w .u8 v zs) (hl : zs.length ≤ 2097152) :
    Calls Tryz.prog 82 #[v] w fun e w' => ∃ v', e = .returned v' ∧ Owns w' w.heap.size 5 .u8 v' zs ∧ Below w.heap.size w w' := by
  have HR := Lib.hid hr
  obtain ⟨a, c, rfl, hc⟩ := hr
  have h0 := fun w => Lib.run_eql_slice_nil (P := Tryz.prog) w 22 5 a zs.length c 0 0 Tryz.underlying22
  clear hc
  cases a with
  | none =>
    have hz : zs = [] := by
      obtain ⟨a', c', h, hc⟩ := HR.out
      rcases zs with _ | ⟨z, zs⟩
      · rfl
      · obtain ⟨b, o, e, _⟩ := hc 0 (by simp)
        subst e
        cases h
    subst hz
    clear h0
    have h0 := fun w => Lib.run_eql_slice_nil (P := Tryz.prog) w 22 5 none 0 c 0 0 Tryz.underlying22
    go_enter Tryz.func82, Tryz.ntmps82
    go_wp2
    go_ret
    exact ⟨_, rfl, Owns.nil _ _ _ _, Below.refl _ _⟩
  | some ad =>
    go_enter Tryz.func82, Tryz.ntmps82
    go_wp2_with (at_builtin; refine wpList_append_ints Tryz.u8s _ _ rfl w.heap.size (.slice (some ⟨w.heap.size, 0, none⟩) 0 0) (.slice (some ad) zs.length c) [] zs rfl rfl (Owns.empty (heap_alloc_new _ _) (Nat.le_refl _)) (HR.out.alloc _) (by decide) (by simp; omega) (by simp) rfl ?_; intro v2 w2 hown2 hgr2 hat2 hnil2 hbel2)
    go_ret
    exact ⟨_, rfl, hown2, ((Below.refl _ _).alloc (Nat.le_refl _) _).trans hbel2⟩

end Go.Proofs.YtofhccpagnkalaaGreat
