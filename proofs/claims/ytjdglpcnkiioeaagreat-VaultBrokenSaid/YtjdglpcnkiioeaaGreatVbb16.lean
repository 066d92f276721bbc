/- Several texts in one: Rb, Rnd. What each proves stands ahead of it; together they serve vbroken_law_holds. No conditions but those stated. -/
import Derived.Lib.AppendStr
import Derived.Test.YtjdglpcnkiioeaaGreatVbb15
import Derived.Test.YtjdglpcnkiioeaaGreatVbb11
namespace Go.Proofs.YtjdglpcnkiioeaaGreat
open Go.RowKit Go.Maps Go.Proofs.Own

theorem shape3 {w : World} {base : Nat} {e : TypeId} {k : IntKind} {v : Value} {zs : List Int} (h : Owns w base e k v zs) : ∃ a n c, v = .slice a n c := let ⟨a, c, h⟩ := h.shape; ⟨a, _, c, h⟩
theorem ints_app (l m : List Nat) : ints l ++ ints m = ints (l ++ m) := by simp [ints]


theorem beN_digs (n : Nat) : beN (digs n) = n := by
  induction n using Nat.strongRecOn with
  | _ n ih =>
    by_cases h : n = 0
    . subst h; rw [digs_zero]; rfl
    . rw [digs_step h, beN_snoc, ih _ (by omega)]; omega
theorem digs_ne {n : Nat} (h : n ≠ 0) : digs n ≠ [] := by rw [digs_step h]; simp
theorem digs_head (n : Nat) (h : n ≠ 0) : (digs n).getD 0 0 ≠ 0 := by
  induction n using Nat.strongRecOn with
  | _ n ih =>
    rw [digs_step h]
    by_cases h2 : n / 256 = 0
    . rw [h2, digs_zero]; simp; omega
    . have h3 := ih _ (by omega) h2
      have := digs_ne h2
      cases hd : digs (n / 256) with
      | nil => exact absurd hd this
      | cons x xs => rw [hd] at h3; simpa using h3
theorem numW_cons (n : Nat) (r : List Nat) : numW n ++ r = (digs n).length :: (digs n ++ r) := rfl
theorem numX_round (n : Nat) (r : List Nat) : numX (numW n ++ r) = n := by
  rw [numW_cons]
  unfold numX
  rw [List.drop_succ_cons, List.drop_zero, List.getD_cons_zero, List.take_left, beN_digs]
theorem numGood_round {n most : Nat} (r : List Nat) (hn : (n : Int) < 18446744073709551616) (hm : n <= most) : numGood most (numW n ++ r) := by
  refine ⟨?_, by rw [numX_round]; exact hm⟩
  have h8 := digs_le8 hn
  rw [numW_cons]
  unfold numBad
  rw [List.getD_cons_zero, List.getD_cons_succ, List.length_cons, List.length_append]
  rintro (h | h | ⟨h1, h2⟩)
  . omega
  . omega
  . have hz : n ≠ 0 := by rintro rfl; rw [digs_zero] at h1; exact absurd h1 (by decide)
    have := digs_head n hz
    cases hd : digs n with
    | nil => exact absurd hd (digs_ne hz)
    | cons x xs => rw [hd] at this h2; exact this (by simpa using h2)
theorem numV_round {n most : Nat} (r : List Nat) (hn : (n : Int) < 18446744073709551616) (hm : n <= most) : numV most (numW n ++ r) = n := by
  unfold numV; rw [if_pos (numGood_round r hn hm), numX_round]
theorem numL_round {n most : Nat} (r : List Nat) (hn : (n : Int) < 18446744073709551616) (hm : n <= most) : numL most (numW n ++ r) = r := by
  unfold numL; rw [if_pos (numGood_round r hn hm), numW_cons, List.getD_cons_zero, List.drop_succ_cons, List.drop_left]
theorem numB_round {n most : Nat} (r : List Nat) (hn : (n : Int) < 18446744073709551616) (hm : n <= most) : numB most (numW n ++ r) = false := by
  unfold numB; rw [if_pos (numGood_round r hn hm)]
theorem textG_round {most : Nat} (d r : List Nat) (hd : d.length <= most) (hm : most <= 1000000) : numV most (numW d.length ++ (d ++ r)) = d.length /\ numL most (numW d.length ++ (d ++ r)) = d ++ r /\ textGood most (numW d.length ++ (d ++ r)) := by
  have h1 := numV_round (most := most) (d ++ r) (n := d.length) (by omega) hd
  have h2 := numL_round (most := most) (d ++ r) (n := d.length) (by omega) hd
  refine ⟨h1, h2, ?_⟩
  unfold textGood
  rw [h1, h2, List.length_append]; omega
theorem textV_round {most : Nat} (d r : List Nat) (hd : d.length <= most) (hm : most <= 1000000) : textV most (numW d.length ++ (d ++ r)) = d := by
  obtain ⟨h1, h2, h3⟩ := textG_round d r hd hm
  unfold textV; rw [if_pos h3, h1, h2, List.take_left]
theorem textL_round {most : Nat} (d r : List Nat) (hd : d.length <= most) (hm : most <= 1000000) : textL most (numW d.length ++ (d ++ r)) = r := by
  obtain ⟨h1, h2, h3⟩ := textG_round d r hd hm
  unfold textL; rw [if_pos h3, h1, h2, List.drop_left]
theorem textB_round {most : Nat} (d r : List Nat) (hd : d.length <= most) (hm : most <= 1000000) : textB most (numW d.length ++ (d ++ r)) = false := by
  obtain ⟨h1, h2, h3⟩ := textG_round d r hd hm
  unfold textB; rw [if_pos h3, numB_round (d ++ r) (by omega) hd]; rfl
theorem be3_split (n : Nat) : be3 (n / 65536) (n / 256 % 256) (n % 256) = n := by unfold be3; omega
theorem frP_cons (k : Nat) (l r : List Nat) : ∃ s, s = sumP ([102, k, l.length / 65536, l.length / 256 % 256, l.length % 256] ++ l) /\
    frP k l ++ r = 102 :: k :: (l.length / 65536) :: (l.length / 256 % 256) :: (l.length % 256) :: (l ++ (s / 65536) :: (s / 256 % 256) :: (s % 256) :: r) := by
  refine ⟨_, rfl, ?_⟩
  unfold frP sealP
  simp
theorem frN_round (k : Nat) (l r : List Nat) : frN (frP k l ++ r) = l.length := by
  obtain ⟨s, _, e⟩ := frP_cons k l r
  rw [e]
  exact be3_split l.length
theorem kind_round (k : Nat) (l r : List Nat) : (frP k l ++ r).getD 1 0 = k := by
  obtain ⟨s, _, e⟩ := frP_cons k l r
  rw [e]; rfl
theorem sizeE_round {k : Nat} {l : List Nat} (r : List Nat) (hk : k ≠ 0) (hl : l.length <= 65536) : sizeE (frP k l ++ r) = 0 := by
  have hN := frN_round k l r
  obtain ⟨s, _, e⟩ := frP_cons k l r
  unfold sizeE
  rw [hN, e, if_neg (by simp), if_neg (by simp), if_neg (by simp), if_neg (by simpa using hk), if_neg (by simp), if_neg (by omega), if_neg (by simp)]
theorem getD_app (A B : List Nat) (j : Nat) : (A ++ B).getD (A.length + j) 0 = B.getD j 0 := by
  rw [List.getD_eq_getElem?_getD, List.getD_eq_getElem?_getD, List.getElem?_append_right (by omega), Nat.add_sub_cancel_left]
theorem takeE_round {k : Nat} {l : List Nat} (r : List Nat) (hk : k ≠ 0) (hl : l.length <= 65536) : takeE (frP k l ++ r) = 0 := by
  have hN := frN_round k l r
  have hS := sizeE_round (k := k) (l := l) r hk hl
  obtain ⟨s, hs, e⟩ := frP_cons k l r
  unfold takeE
  rw [if_neg (by simp [hS]), hN, if_pos]
  have e1 : (frP k l ++ r).take (l.length + 8) = ([102, k, l.length / 65536, l.length / 256 % 256, l.length % 256] ++ l) ++ [s / 65536, s / 256 % 256, s % 256] := by
    have : frP k l ++ r = (([102, k, l.length / 65536, l.length / 256 % 256, l.length % 256] ++ l) ++ [s / 65536, s / 256 % 256, s % 256]) ++ r := by rw [e]; simp
    rw [this]
    exact List.take_left' (by simp)
  have hlen : ([102, k, l.length / 65536, l.length / 256 % 256, l.length % 256] ++ l).length = l.length + 5 := by simp
  rw [e1]
  unfold SumOk
  rw [List.take_left' hlen, <- hs]
  have g : ∀ j, (([102, k, l.length / 65536, l.length / 256 % 256, l.length % 256] ++ l) ++ [s / 65536, s / 256 % 256, s % 256]).getD (l.length + 5 + j) 0 = [s / 65536, s / 256 % 256, s % 256].getD j 0 := by
    intro j
    rw [<- hlen]
    exact getD_app _ _ j
  have g0 := g 0
  rw [Nat.add_zero] at g0
  rw [g0, g 1, g 2]
  exact (be3_split s).symm
theorem frBody_round (k : Nat) (l r : List Nat) : frBody (frP k l ++ r) = l := by
  have hN := frN_round k l r
  obtain ⟨s, _, e⟩ := frP_cons k l r
  unfold frBody
  rw [hN, e]
  have : 102 :: k :: (l.length / 65536) :: (l.length / 256 % 256) :: (l.length % 256) :: (l ++ (s / 65536) :: (s / 256 % 256) :: (s % 256) :: r) = [102, k, l.length / 65536, l.length / 256 % 256, l.length % 256] ++ (l ++ ((s / 65536) :: (s / 256 % 256) :: (s % 256) :: r)) := rfl
  rw [this, <- List.append_assoc, List.take_left' (by simp)]
  rfl
theorem length_frP (k : Nat) (l : List Nat) : (frP k l).length = l.length + 8 := by unfold frP; rw [length_sealP]; simp
end Go.Proofs.YtjdglpcnkiioeaaGreat
