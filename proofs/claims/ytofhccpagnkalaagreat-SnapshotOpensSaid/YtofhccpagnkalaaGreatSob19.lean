/- Several texts in one: Each. What each proves stands ahead of it; together they serve sopens_law_holds. No conditions but those stated. -/
import Derived.Test.YtofhccpagnkalaaGreatSob6
import Derived.Test.YtofhccpagnkalaaGreatSob7
import Derived.Test.YtofhccpagnkalaaGreatSob14
/- The word of frame.Each: it hands on a frame's kind and body as long as bytes begin with a frame; no conditions. -/
namespace Go.Proofs.YtofhccpagnkalaaGreat
open Go.RowKit Go.Maps Go.Proofs.Own Go.Shelf
attribute [local go_sem] Oper.semAt_some

def frOk (l : List Nat) (xs : Array Value) (W : World) : Prop := takeE l = 0 ∧ ∃ v, xs = #[.int .u8 (l.getD 1 0 : Nat), v] ∧ Bytes W v (frBody l)
def frNx (l : List Nat) : List Nat := l.drop (frN l + 8)
theorem Bytes.isCells {W : World} {v : Value} {l : List Nat} {b : Nat} (h : Bytes W v l) (hne : l ≠ []) (hb : v.ownBlock = some b) : ∃ o, W.heap[b]? = some o ∧ o.isCells = true := by
  obtain ⟨b', o, c, rfl, _, _, hc⟩ := h.somewhere (List.length_pos_iff.2 hne)
  obtain rfl : b' = b := Option.some.inj hb
  exact cells_of_cell (hc 0 (List.length_pos_iff.2 hne))
theorem Bytes.keptRec {w A B : World} {v : Value} {l : List Nat} (h : Bytes A v l) (hr : ∀ k, Rec2 w k → ∃ o, A.heap[k]? = some o ∧ o.isCells = false) (hk : Kept A B (Rec2 w)) : Bytes B v l := by
  by_cases hl : l = []
  · subst hl
    exact ⟨h.shape, by obtain ⟨a, c, rfl, _⟩ := h.shape; exact Reads.nil _ _ _ _, h.lt, h.small⟩
  · refine h.kept hk fun b hb e => ?_
    obtain ⟨o, h1, h2⟩ := h.isCells hl hb
    obtain ⟨o', h3, h4⟩ := hr b e
    rw [h1] at h3
    cases h3
    rw [h2] at h4
    cases h4
theorem frOk.kept {w A B : World} {l : List Nat} {xs : Array Value} (h : frOk l xs A) (hr : ∀ k, Rec2 w k → ∃ o, A.heap[k]? = some o ∧ o.isCells = false) (hk : Kept A B (Rec2 w)) : frOk l xs B := by
  obtain ⟨h1, v, rfl, h2⟩ := h
  exact ⟨h1, v, rfl, h2.keptRec hr hk⟩

end Go.Proofs.YtofhccpagnkalaaGreat
