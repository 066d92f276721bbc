/- Several texts in one: Vo. What each proves stands ahead of it; together they serve wkeeps_law_holds,wfiles_law_holds,wnobody_law_holds. No conditions but those stated. -/
import Derived.Test.YtjdglpcnkiioeaaGreatWab18
import Derived.Test.YtjdglpcnkiioeaaGreatWab20
/- Contracts of the vow's settle and Open; no conditions but the ranges. -/
namespace Go.Proofs.YtjdglpcnkiioeaaGreat
open Go.RowKit Go.Maps Go.Proofs.Own

/-- Block b is a state's two cells. -/
structure SC (W : World) (b : Nat) (t v : Int) : Prop where
  c0 : W.cell? ⟨b, 0, none⟩ = some (.int .u64 t)
  c1 : W.cell? ⟨b, 1, none⟩ = some (.int .i64 v)
  f0 : W.frozen? ⟨b, 0, none⟩ = false
  f1 : W.frozen? ⟨b, 1, none⟩ = false
theorem SC.lt {W : World} {b : Nat} {t v : Int} (h : SC W b t v) : b < W.heap.size := World.block_lt_of_cell? _ _ h.c0
theorem SC.kept {W W' : World} {b : Nat} {t v : Int} {S : Nat → Prop} (h : SC W b t v) (hk : Kept W W' S) (hs : ¬ S b) : SC W' b t v :=
  ⟨hk.cell h.c0 hs, hk.cell h.c1 hs, (hk.frozen (a := ⟨b, 0, none⟩) h.lt hs).trans h.f0, (hk.frozen (a := ⟨b, 1, none⟩) h.lt hs).trans h.f1⟩
theorem SC.below {W W' : World} {b : Nat} {t v : Int} (h : SC W b t v) (hb : Below W.heap.size W W') : SC W' b t v :=
  h.kept (Kept.of_below hb (S := fun _ => False) fun k h1 h2 => by omega) fun h => h
theorem SC.box (w : World) (t v : Int) : SC (w.alloc (.cells #[.int .u64 t, .int .i64 v] 97)) w.heap.size t v := ⟨by go_cell, by go_cell, by simp, by simp⟩
theorem SC.set {W : World} {b : Nat} {t v : Int} (h : SC W b t v) (t' v' : Int) : SC ((W.setCell ⟨b, 0, none⟩ (.int .u64 t')).setCell ⟨b, 1, none⟩ (.int .i64 v')) b t' v' := by
  refine ⟨?_, ?_, ?_, ?_⟩
  · rw [World.cell?_setCell_other _ _ _ _ (by simp)]
    exact World.cell?_setCell_same _ _ _ h.c0
  · exact World.cell?_setCell_same _ _ _ (by rw [World.cell?_setCell_other _ _ _ _ (by simp)]; exact h.c1)
  · rw [World.frozen?_setCell, World.frozen?_setCell]; exact h.f0
  · rw [World.frozen?_setCell, World.frozen?_setCell]; exact h.f1
theorem Kept.set2 (W : World) (b : Nat) (x y : Value) : Kept W ((W.setCell ⟨b, 0, none⟩ x).setCell ⟨b, 1, none⟩ y) (fun k => k = b) := (Kept.setCell W ⟨b, 0, none⟩ x).trans (Kept.setCell _ ⟨b, 1, none⟩ y)
theorem DiskIs.sc {W : World} {db mb tb b : Nat} {D : DiskS} {t v : Int} (h : DiskIs W db mb tb D) (s : SC W b t v) (hn : ¬ Own3 db mb tb b) (t' v' : Int) : DiskIs ((W.setCell ⟨b, 0, none⟩ (.int .u64 t')).setCell ⟨b, 1, none⟩ (.int .i64 v')) db mb tb D :=
  (h.setOther (p := ⟨b, 0, none⟩) _ hn (fun x e => by rw [s.c0] at e; cases e)).setOther (p := ⟨b, 1, none⟩) _ hn (fun x e => by rw [World.cell?_setCell_other _ _ _ _ (by simp), s.c1] at e; cases e)

theorem DGood.cut {D : DiskS} (h : DGood D) (n : ByteArray) (k : Int) (hs : D.steps + 1 ≤ 1000000000) : DGood (cutD D n k).1 ∧ (cutD D n k).1.steps ≤ D.steps + 1 := by
  unfold cutD
  cases e : findFile n D.files with
  | none => exact ⟨h, by simp only; omega⟩
  | some f =>
    simp only
    split
    · exact ⟨h, by simp only; omega⟩
    · split
      · exact ⟨h, by simp only; omega⟩
      · split
        · exact ⟨h.step hs, by simp only; rw [stepD_steps]; omega⟩
        · obtain ⟨e1, e2⟩ := find_name e
          have e3 := total_del_find e
          have e4 := h.wf.each f e2
          refine ⟨h.withFiles hs _ ?_ ?_ ?_, by simp only; rw [stepD_steps]; omega⟩
          · unfold putFile; rw [total_ins]; simp only [List.length_take]; rw [e1]; have := h.tot; omega
          · unfold putFile; rw [length_ins]; simp only; rw [e1]; have := h.few; omega
          · intro g hg
            rcases mem_put.1 hg with rfl | ⟨hg, _⟩
            · exact ⟨e4.1, by simp only [List.length_take]; omega⟩
            · exact h.wf.each g hg

end Go.Proofs.YtjdglpcnkiioeaaGreat
