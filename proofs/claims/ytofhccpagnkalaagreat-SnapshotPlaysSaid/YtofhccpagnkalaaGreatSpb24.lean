/- Several texts in one: Vo, Vw. What each proves stands ahead of it; together they serve splays_law_holds. No conditions but those stated. -/
import Derived.Test.YtofhccpagnkalaaGreatSpb17
import Derived.Test.YtofhccpagnkalaaGreatSpb20
/- Contracts of the vow's settle and Open; no conditions but the ranges. -/
namespace Go.Proofs.YtofhccpagnkalaaGreat
open Go.RowKit Go.Maps Go.Proofs.Own

theorem Kept.set2 (W : World) (b : Nat) (x y : Value) : Kept W ((W.setCell ⟨b, 0, none⟩ x).setCell ⟨b, 1, none⟩ y) (fun k => k = b) := (Kept.setCell W ⟨b, 0, none⟩ x).trans (Kept.setCell _ ⟨b, 1, none⟩ y)
theorem DGood.cut {D : DiskS} (h : DGood D) (n : ByteArray) (k : Int) (hs : D.steps + 1 ≤ 1000000000) : DGood (cutD D n k).1 ∧ (cutD D n k).1.steps ≤ D.steps + 1 := by
  unfold cutD
  cases e : findFile n D.files with
  | none => exact ⟨h, by simp only; omega⟩
  | some f =>
    simp only
    split
    · exact ⟨h, by simp only; omega⟩
    · split
      · exact ⟨h, by simp only; omega⟩
      · split
        · exact ⟨h.step hs, by simp only; rw [stepD_steps]; omega⟩
        · obtain ⟨e1, e2⟩ := find_name e
          have e3 := total_del_find e
          have e4 := h.wf.each f e2
          refine ⟨h.withFiles hs _ ?_ ?_ ?_, by simp only; rw [stepD_steps]; omega⟩
          · unfold putFile; rw [total_ins]; simp only [List.length_take]; rw [e1]; have := h.tot; omega
          · unfold putFile; rw [length_ins]; simp only; rw [e1]; have := h.few; omega
          · intro g hg
            rcases mem_put.1 hg with rfl | ⟨hg, _⟩
            · exact ⟨e4.1, by simp only [List.length_take]; omega⟩
            · exact h.wf.each g hg

end Go.Proofs.YtofhccpagnkalaaGreat

/- The contract of the vow's write; no conditions but the ranges. -/
namespace Go.Proofs.YtofhccpagnkalaaGreat
open Go.RowKit Go.Maps Go.Proofs.Own

/-- Bytes behind a file's, and all of it kept. -/
def wrTo (D : DiskS) (n : ByteArray) (b : List Nat) : DiskS × Nat := if (appendD D n b).2 ≠ 0 then appendD D n b else syncD (appendD D n b).1 n
end Go.Proofs.YtofhccpagnkalaaGreat
