/- Several texts in one: Rnd. What each proves stands ahead of it; together they serve sopens_law_holds. No conditions but those stated. -/
import Derived.Lib.AppendStr
import Derived.Test.YtofhccpagnkalaaGreatSob11
import Derived.Test.YtofhccpagnkalaaGreatSob15
/- What is written is read back: numbers, texts, frames, snapshots: plain laws; no program in sight. -/
namespace Go.Proofs.YtofhccpagnkalaaGreat
open Go.RowKit Go.Maps Go.Proofs.Own

theorem be3_split (n : Nat) : be3 (n / 65536) (n / 256 % 256) (n % 256) = n := by unfold be3; omega
theorem frP_cons (k : Nat) (l r : List Nat) : ∃ s, s = sumP ([102, k, l.length / 65536, l.length / 256 % 256, l.length % 256] ++ l) ∧
    frP k l ++ r = 102 :: k :: (l.length / 65536) :: (l.length / 256 % 256) :: (l.length % 256) :: (l ++ (s / 65536) :: (s / 256 % 256) :: (s % 256) :: r) := by
  refine ⟨_, rfl, ?_⟩
  unfold frP sealP
  simp
theorem frN_round (k : Nat) (l r : List Nat) : frN (frP k l ++ r) = l.length := by
  obtain ⟨s, _, e⟩ := frP_cons k l r
  rw [e]
  exact be3_split l.length
theorem sizeE_round {k : Nat} {l : List Nat} (r : List Nat) (hk : k ≠ 0) (hl : l.length ≤ 65536) : sizeE (frP k l ++ r) = 0 := by
  have hN := frN_round k l r
  obtain ⟨s, _, e⟩ := frP_cons k l r
  unfold sizeE
  rw [hN, e, if_neg (by simp), if_neg (by simp), if_neg (by simp), if_neg (by simpa using hk), if_neg (by simp), if_neg (by omega), if_neg (by simp)]
theorem getD_app (A B : List Nat) (j : Nat) : (A ++ B).getD (A.length + j) 0 = B.getD j 0 := by
  rw [List.getD_eq_getElem?_getD, List.getD_eq_getElem?_getD, List.getElem?_append_right (by omega), Nat.add_sub_cancel_left]
theorem takeE_round {k : Nat} {l : List Nat} (r : List Nat) (hk : k ≠ 0) (hl : l.length ≤ 65536) : takeE (frP k l ++ r) = 0 := by
  have hN := frN_round k l r
  have hS := sizeE_round (k := k) (l := l) r hk hl
  obtain ⟨s, hs, e⟩ := frP_cons k l r
  unfold takeE
  rw [if_neg (by simp [hS]), hN, if_pos]
  have e1 : (frP k l ++ r).take (l.length + 8) = ([102, k, l.length / 65536, l.length / 256 % 256, l.length % 256] ++ l) ++ [s / 65536, s / 256 % 256, s % 256] := by
    have : frP k l ++ r = (([102, k, l.length / 65536, l.length / 256 % 256, l.length % 256] ++ l) ++ [s / 65536, s / 256 % 256, s % 256]) ++ r := by rw [e]; simp
    rw [this]
    exact List.take_left' (by simp)
  have hlen : ([102, k, l.length / 65536, l.length / 256 % 256, l.length % 256] ++ l).length = l.length + 5 := by simp
  rw [e1]
  unfold SumOk
  rw [List.take_left' hlen, ← hs]
  have g : ∀ j, (([102, k, l.length / 65536, l.length / 256 % 256, l.length % 256] ++ l) ++ [s / 65536, s / 256 % 256, s % 256]).getD (l.length + 5 + j) 0 = [s / 65536, s / 256 % 256, s % 256].getD j 0 := by
    intro j
    rw [← hlen]
    exact getD_app _ _ j
  have g0 := g 0
  rw [Nat.add_zero] at g0
  rw [g0, g 1, g 2]
  exact (be3_split s).symm
theorem length_frP (k : Nat) (l : List Nat) : (frP k l).length = l.length + 8 := by unfold frP; rw [length_sealP]; simp
end Go.Proofs.YtofhccpagnkalaaGreat
