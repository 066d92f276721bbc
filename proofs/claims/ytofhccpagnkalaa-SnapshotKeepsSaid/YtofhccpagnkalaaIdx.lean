/- Indexing an array of functions; no conditions. -/
import Derived.Test.YtofhccpagnkalaaSave
import Derived.Laws.EntriesVeiled
namespace Go.Proofs.Ytofhccpagnkalaa
open Go.RowKit Go.Maps Go.Proofs.Own

theorem Try.infoFn : (Try.prog.info? 72).map (fun i => (i.zero, i.size)) = some (some .nilFunc, 1) := by kernel_rfl
theorem idx_fn (a b c d v : Value) (i : Nat) (w : World) (h : #[a, b, c, d][i]? = some v) : (Instr.index 125 (.agg #[a, b, c, d]) (.int .i64 (i : Int))).run Try.prog w = .ok v w := by
  have hi : i < 4 := by have := (Array.getElem?_eq_some_iff.1 h).1; simpa using this
  have h4 : (i : Int) < 4 := by omega
  obtain ⟨i0, h1, h2⟩ := Option.map_eq_some_iff.1 Try.infoFn
  simp only [Prod.mk.injEq] at h2
  have hu := Try.underlying72
  simp [Instr.index, asIntOf, run_underlying Try.underlying125, hi, sizeOf, typeInfo, h1, h2.2, part, isAgg, run_underlying hu, Result.andThen, go_sem]
  exact (Array.getElem?_eq_some_iff.1 h).2
/-- The store's snapshot is laid anew. -/
theorem SBlk5.set4 {w : World} {sb db : Nat} {i t : Int} {mv dv : Value} (h : SBlk5 w sb db i t mv dv) (i' t' : Int) (mv' dv' : Value) :
    SBlk5 ((((w.setCell ⟨sb, 1, none⟩ (.int .u64 i')).setCell ⟨sb, 2, none⟩ (.int .u64 t')).setCell ⟨sb, 3, none⟩ mv').setCell ⟨sb, 4, none⟩ dv') sb db i' t' mv' dv' := by
  refine ⟨?_, ?_, ?_, ?_, ?_, ?_, ?_, ?_, ?_⟩
  · rw [World.cell?_setCell_other _ _ _ _ (by simp), World.cell?_setCell_other _ _ _ _ (by simp), World.cell?_setCell_other _ _ _ _ (by simp), World.cell?_setCell_other _ _ _ _ (by simp)]; exact h.c0
  · rw [World.cell?_setCell_other _ _ _ _ (by simp), World.cell?_setCell_other _ _ _ _ (by simp), World.cell?_setCell_other _ _ _ _ (by simp)]; exact World.cell?_setCell_same _ _ _ h.c1
  · rw [World.cell?_setCell_other _ _ _ _ (by simp), World.cell?_setCell_other _ _ _ _ (by simp)]
    exact World.cell?_setCell_same _ _ _ (by rw [World.cell?_setCell_other _ _ _ _ (by simp)]; exact h.c2)
  · rw [World.cell?_setCell_other _ _ _ _ (by simp)]
    exact World.cell?_setCell_same _ _ _ (by rw [World.cell?_setCell_other _ _ _ _ (by simp), World.cell?_setCell_other _ _ _ _ (by simp)]; exact h.c3)
  · exact World.cell?_setCell_same _ _ _ (by rw [World.cell?_setCell_other _ _ _ _ (by simp), World.cell?_setCell_other _ _ _ _ (by simp), World.cell?_setCell_other _ _ _ _ (by simp)]; exact h.c4)
  · rw [World.frozen?_setCell, World.frozen?_setCell, World.frozen?_setCell, World.frozen?_setCell]; exact h.f1
  · rw [World.frozen?_setCell, World.frozen?_setCell, World.frozen?_setCell, World.frozen?_setCell]; exact h.f2
  · rw [World.frozen?_setCell, World.frozen?_setCell, World.frozen?_setCell, World.frozen?_setCell]; exact h.f3
  · rw [World.frozen?_setCell, World.frozen?_setCell, World.frozen?_setCell, World.frozen?_setCell]; exact h.f4
theorem Kept.set5 (w : World) (sb : Nat) (a b c d : Value) : Kept w ((((w.setCell ⟨sb, 1, none⟩ a).setCell ⟨sb, 2, none⟩ b).setCell ⟨sb, 3, none⟩ c).setCell ⟨sb, 4, none⟩ d) (fun k => k = sb) :=
  (((Kept.setCell w ⟨sb, 1, none⟩ _).trans (Kept.setCell _ ⟨sb, 2, none⟩ _)).trans (Kept.setCell _ ⟨sb, 3, none⟩ _)).trans (Kept.setCell _ ⟨sb, 4, none⟩ _)
theorem DiskIs.set5 {w : World} {sb db db' mb tb : Nat} {D : DiskS} {i t : Int} {mv dv : Value} (h : DiskIs w db' mb tb D) (s : SBlk5 w sb db i t mv dv) (hn : ¬ Own3 db' mb tb sb) (hm : ∀ x, mv ≠ .int .u8 x) (hd : ∀ x, dv ≠ .int .u8 x) (a b c d : Value) :
    DiskIs ((((w.setCell ⟨sb, 1, none⟩ a).setCell ⟨sb, 2, none⟩ b).setCell ⟨sb, 3, none⟩ c).setCell ⟨sb, 4, none⟩ d) db' mb tb D := by
  refine DiskIs.setOther (DiskIs.setOther (DiskIs.setOther (DiskIs.setOther h _ hn ?_) _ hn ?_) _ hn ?_) _ hn ?_
  · intro x e; rw [s.c1] at e; cases e
  · intro x e; rw [World.cell?_setCell_other _ _ _ _ (by simp), s.c2] at e; cases e
  · intro x e; rw [World.cell?_setCell_other _ _ _ _ (by simp), World.cell?_setCell_other _ _ _ _ (by simp), s.c3] at e; exact hm x (Option.some.inj e)
  · intro x e; rw [World.cell?_setCell_other _ _ _ _ (by simp), World.cell?_setCell_other _ _ _ _ (by simp), World.cell?_setCell_other _ _ _ _ (by simp), s.c4] at e; exact hd x (Option.some.inj e)
end Go.Proofs.Ytofhccpagnkalaa
