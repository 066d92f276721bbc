/- Both Reads of a snapshot tell the same; plain. -/
import Derived.Test.YtofhccpagnkalaaPread
namespace Go.Proofs.Ytofhccpagnkalaa
open Go.RowKit Go.Maps Go.Proofs.Own

theorem num67_of_le {l : List Nat} (h : numV 7 l ≤ 6) : numV 6 l = numV 7 l ∧ numL 6 l = numL 7 l ∧ numB 6 l = numB 7 l := by
  unfold numV numL numB at *
  by_cases hb : numBad l
  · have h6 : ¬ numGood 6 l := fun g => g.1 hb
    have h7 : ¬ numGood 7 l := fun g => g.1 hb
    simp [h6, h7]
  · by_cases h7 : numX l ≤ 7
    · have g7 : numGood 7 l := ⟨hb, h7⟩
      rw [if_pos g7] at h
      have g6 : numGood 6 l := ⟨hb, h⟩
      simp [g6, g7]
    · have g7 : ¬ numGood 7 l := fun g => h7 g.2
      have g6 : ¬ numGood 6 l := fun g => h7 (Nat.le_trans g.2 (by decide))
      simp [g6, g7]
theorem num67_of_ok {l : List Nat} (h : numB 6 l = false) : numV 6 l = numV 7 l ∧ numL 6 l = numL 7 l ∧ numB 6 l = numB 7 l := by
  have g6 : numGood 6 l := by
    unfold numB at h
    by_cases g : numGood 6 l
    · exact g
    · rw [if_neg g] at h; cases h
  have g7 : numGood 7 l := ⟨g6.1, Nat.le_trans g6.2 (by decide)⟩
  unfold numV numL numB
  simp [g6, g7]
theorem mem67_of_le (l : List Nat) : ∀ k, (∀ x ∈ memV 7 k l, x ≤ 6) → memV 6 k l = memV 7 k l ∧ memL 6 k l = memL 7 k l ∧ memB 6 k l = memB 7 k l
  | 0, _ => ⟨rfl, rfl, rfl⟩
  | k + 1, h => by
    have ih := mem67_of_le l k fun x hx => h x (by rw [memV]; simp [hx])
    have hl : ((numV 7 (memL 7 k l) : Nat) : Int) ≤ 6 := h _ (by rw [memV]; simp)
    have hn := num67_of_le (l := memL 7 k l) (by omega)
    refine ⟨?_, ?_, ?_⟩
    · rw [memV, memV, ih.1, ih.2.1, hn.1]
    · rw [memL, memL, ih.2.1, hn.2.1]
    · rw [memB, memB, ih.2.2, ih.2.1, hn.2.2]
theorem mem67_of_ok (l : List Nat) : ∀ k, memB 6 k l = false → memV 6 k l = memV 7 k l ∧ memL 6 k l = memL 7 k l ∧ memB 6 k l = memB 7 k l
  | 0, _ => ⟨rfl, rfl, rfl⟩
  | k + 1, h => by
    rw [memB, Bool.or_eq_false_iff] at h
    have ih := mem67_of_ok l k h.1
    have hn := num67_of_ok h.2
    rw [ih.2.1] at hn
    refine ⟨?_, ?_, ?_⟩
    · rw [memV, memV, ih.1, ih.2.1, hn.1]
    · rw [memL, memL, ih.2.1, hn.2.1]
    · rw [memB, memB, ih.2.2, ih.2.1, hn.2.2]
theorem get67 {l : List Nat} (h : memV 6 (memN l) (rest3 l) = memV 7 (memN l) (rest3 l) ∧ memL 6 (memN l) (rest3 l) = memL 7 (memN l) (rest3 l) ∧ memB 6 (memN l) (rest3 l) = memB 7 (memN l) (rest3 l)) :
    getS 6 l = getS 7 l ∧ getL 6 l = getL 7 l ∧ getB 6 l = getB 7 l := by
  have e : rest4 6 l = rest4 7 l := h.2.1
  unfold getS getL getB
  rw [e, h.1, h.2.2]
  exact ⟨rfl, rfl, rfl⟩
theorem get67_of_ok7 {l : List Nat} (h : (getS 7 l).ok) : getS 6 l = getS 7 l ∧ getL 6 l = getL 7 l ∧ getB 6 l = getB 7 l := by
  refine get67 (mem67_of_le _ _ fun x hx => ?_)
  have hm : msOk (memV 7 (memN l) (rest3 l)) := h.2.2.2.2.1
  obtain ⟨j, hj, rfl⟩ := List.getElem_of_mem hx
  have := (hm.2.2 j hj).2
  rw [getDi hj] at this
  omega
theorem get67_of_end6 {l : List Nat} (h : endE (getL 6 l) (getB 6 l) = 0) : getS 6 l = getS 7 l ∧ getL 6 l = getL 7 l ∧ getB 6 l = getB 7 l := by
  have hb : getB 6 l = false := by
    unfold endE at h
    split at h
    · cases h
    · rename_i hn
      cases e : getB 6 l
      · rfl
      · exact absurd (.inl e) hn
  unfold getB at hb
  rw [Bool.or_eq_false_iff, Bool.or_eq_false_iff] at hb
  exact get67 (mem67_of_ok _ _ hb.1.2)
theorem readOk67 (l : List Nat) : readOk 6 l ↔ readOk 7 l := by
  constructor
  · intro h
    obtain ⟨h1, h2, h3, h4⟩ := h
    obtain ⟨e1, e2, e3⟩ := get67_of_end6 h3
    exact ⟨h1, h2, by rw [← e2, ← e3]; exact h3, by rw [← e1]; exact h4⟩
  · intro h
    obtain ⟨h1, h2, h3, h4⟩ := h
    obtain ⟨e1, e2, e3⟩ := get67_of_ok7 h4
    exact ⟨h1, h2, by rw [e2, e3]; exact h3, by rw [e1]; exact h4⟩
theorem readB67 (l : List Nat) : readB 6 l = readB 7 l := by
  unfold readB
  by_cases h : readOk 7 l
  · rw [decide_eq_true h, decide_eq_true ((readOk67 l).2 h)]
  · rw [decide_eq_false h, decide_eq_false fun g => h ((readOk67 l).1 g)]
theorem readS67 (l : List Nat) : readS 6 l = readS 7 l := by
  unfold readS
  by_cases h : readOk 7 l
  · rw [if_pos h, if_pos ((readOk67 l).2 h), (get67_of_ok7 h.2.2.2).1]
  · rw [if_neg h, if_neg fun g => h ((readOk67 l).1 g)]
end Go.Proofs.Ytofhccpagnkalaa
