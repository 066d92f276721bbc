/- Several texts in one: Rnd, Vl0, Vl. What each proves stands ahead of it. -/
import Derived.Test.YtofhccpagnkalaaGreatBunC
import Derived.Test.YtofhccpagnkalaaGreatPread
import Derived.Test.YtofhccpagnkalaaGreatBunVa
import Derived.Test.YtofhccpagnkalaaGreatBunSv
/- What is written is read back: numbers, texts, frames, snapshots: plain laws; no program in sight. -/
namespace Go.Proofs.YtofhccpagnkalaaGreat
open Go.RowKit Go.Maps Go.Proofs.Own

theorem beN_digs (n : Nat) : beN (digs n) = n := by
  induction n using Nat.strongRecOn with
  | _ n ih =>
    by_cases h : n = 0
    · subst h; rw [digs_zero]; rfl
    · rw [digs_step h, beN_snoc, ih _ (by omega)]; omega
theorem digs_ne {n : Nat} (h : n ≠ 0) : digs n ≠ [] := by rw [digs_step h]; simp
theorem digs_head (n : Nat) (h : n ≠ 0) : (digs n).getD 0 0 ≠ 0 := by
  induction n using Nat.strongRecOn with
  | _ n ih =>
    rw [digs_step h]
    by_cases h2 : n / 256 = 0
    · rw [h2, digs_zero]; simp; omega
    · have h3 := ih _ (by omega) h2
      have := digs_ne h2
      cases hd : digs (n / 256) with
      | nil => exact absurd hd this
      | cons x xs => rw [hd] at h3; simpa using h3
theorem numW_cons (n : Nat) (r : List Nat) : numW n ++ r = (digs n).length :: (digs n ++ r) := rfl
theorem numX_round (n : Nat) (r : List Nat) : numX (numW n ++ r) = n := by
  rw [numW_cons]
  unfold numX
  rw [List.drop_succ_cons, List.drop_zero, List.getD_cons_zero, List.take_left, beN_digs]
theorem numGood_round {n most : Nat} (r : List Nat) (hn : (n : Int) < 18446744073709551616) (hm : n ≤ most) : numGood most (numW n ++ r) := by
  refine ⟨?_, by rw [numX_round]; exact hm⟩
  have h8 := digs_le8 hn
  rw [numW_cons]
  unfold numBad
  rw [List.getD_cons_zero, List.getD_cons_succ, List.length_cons, List.length_append]
  rintro (h | h | ⟨h1, h2⟩)
  · omega
  · omega
  · have hz : n ≠ 0 := by rintro rfl; rw [digs_zero] at h1; exact absurd h1 (by decide)
    have := digs_head n hz
    cases hd : digs n with
    | nil => exact absurd hd (digs_ne hz)
    | cons x xs => rw [hd] at this h2; exact this (by simpa using h2)
theorem numV_round {n most : Nat} (r : List Nat) (hn : (n : Int) < 18446744073709551616) (hm : n ≤ most) : numV most (numW n ++ r) = n := by
  unfold numV; rw [if_pos (numGood_round r hn hm), numX_round]
theorem numL_round {n most : Nat} (r : List Nat) (hn : (n : Int) < 18446744073709551616) (hm : n ≤ most) : numL most (numW n ++ r) = r := by
  unfold numL; rw [if_pos (numGood_round r hn hm), numW_cons, List.getD_cons_zero, List.drop_succ_cons, List.drop_left]
theorem numB_round {n most : Nat} (r : List Nat) (hn : (n : Int) < 18446744073709551616) (hm : n ≤ most) : numB most (numW n ++ r) = false := by
  unfold numB; rw [if_pos (numGood_round r hn hm)]
theorem textG_round {most : Nat} (d r : List Nat) (hd : d.length ≤ most) (hm : most ≤ 1000000) : numV most (numW d.length ++ (d ++ r)) = d.length ∧ numL most (numW d.length ++ (d ++ r)) = d ++ r ∧ textGood most (numW d.length ++ (d ++ r)) := by
  have h1 := numV_round (most := most) (d ++ r) (n := d.length) (by omega) hd
  have h2 := numL_round (most := most) (d ++ r) (n := d.length) (by omega) hd
  refine ⟨h1, h2, ?_⟩
  unfold textGood
  rw [h1, h2, List.length_append]; omega
theorem textV_round {most : Nat} (d r : List Nat) (hd : d.length ≤ most) (hm : most ≤ 1000000) : textV most (numW d.length ++ (d ++ r)) = d := by
  obtain ⟨h1, h2, h3⟩ := textG_round d r hd hm
  unfold textV; rw [if_pos h3, h1, h2, List.take_left]
theorem textL_round {most : Nat} (d r : List Nat) (hd : d.length ≤ most) (hm : most ≤ 1000000) : textL most (numW d.length ++ (d ++ r)) = r := by
  obtain ⟨h1, h2, h3⟩ := textG_round d r hd hm
  unfold textL; rw [if_pos h3, h1, h2, List.drop_left]
theorem textB_round {most : Nat} (d r : List Nat) (hd : d.length ≤ most) (hm : most ≤ 1000000) : textB most (numW d.length ++ (d ++ r)) = false := by
  obtain ⟨h1, h2, h3⟩ := textG_round d r hd hm
  unfold textB; rw [if_pos h3, numB_round (d ++ r) (by omega) hd]; rfl
theorem numsW_cons (n : Nat) (ns : List Nat) : numsW (n :: ns) = numW n ++ numsW ns := rfl
theorem numsW_app (a b : List Nat) : numsW (a ++ b) = numsW a ++ numsW b := by simp [numsW]
theorem mem_round {m : Nat} (hm : m ≤ 1000000) : ∀ (k : Nat) (ns : List Nat) (r : List Nat), ns.length = k → (∀ n ∈ ns, n ≤ m) →
    memL m k (numsW ns ++ r) = r ∧ memV m k (numsW ns ++ r) = ns.map (fun n : Nat => (n : Int)) ∧ memB m k (numsW ns ++ r) = false := by
  intro k
  induction k with
  | zero => intro ns r h _; obtain rfl : ns = [] := List.eq_nil_of_length_eq_zero h; exact ⟨rfl, rfl, rfl⟩
  | succ k ih =>
    intro ns r h hle
    obtain ⟨ms, n, rfl⟩ : ∃ ms n, ns = ms ++ [n] := ⟨ns.dropLast, ns.getLast (by intro e; subst e; cases h), (List.dropLast_concat_getLast _).symm⟩
    have hk : ms.length = k := by simpa using h
    have hn : n ≤ m := hle n (by simp)
    have e : numsW (ms ++ [n]) ++ r = numsW ms ++ (numW n ++ r) := by rw [numsW_app]; simp [numsW]
    obtain ⟨i1, i2, i3⟩ := ih ms (numW n ++ r) hk fun x hx => hle x (List.mem_append_left _ hx)
    rw [e]
    refine ⟨?_, ?_, ?_⟩
    · rw [memL, i1]; exact numL_round r (by omega) hn
    · rw [memV, i1, i2, numV_round r (by omega) hn]; simp
    · rw [memB, i1, i3, numB_round r (by omega) hn]; rfl

theorem be3_split (n : Nat) : be3 (n / 65536) (n / 256 % 256) (n % 256) = n := by unfold be3; omega
theorem frP_cons (k : Nat) (l r : List Nat) : ∃ s, s = sumP ([102, k, l.length / 65536, l.length / 256 % 256, l.length % 256] ++ l) ∧
    frP k l ++ r = 102 :: k :: (l.length / 65536) :: (l.length / 256 % 256) :: (l.length % 256) :: (l ++ (s / 65536) :: (s / 256 % 256) :: (s % 256) :: r) := by
  refine ⟨_, rfl, ?_⟩
  unfold frP sealP
  simp
theorem frN_round (k : Nat) (l r : List Nat) : frN (frP k l ++ r) = l.length := by
  obtain ⟨s, _, e⟩ := frP_cons k l r
  rw [e]
  exact be3_split l.length
theorem kind_round (k : Nat) (l r : List Nat) : (frP k l ++ r).getD 1 0 = k := by
  obtain ⟨s, _, e⟩ := frP_cons k l r
  rw [e]; rfl
theorem sizeE_round {k : Nat} {l : List Nat} (r : List Nat) (hk : k ≠ 0) (hl : l.length ≤ 65536) : sizeE (frP k l ++ r) = 0 := by
  have hN := frN_round k l r
  obtain ⟨s, _, e⟩ := frP_cons k l r
  unfold sizeE
  rw [hN, e, if_neg (by simp), if_neg (by simp), if_neg (by simp), if_neg (by simpa using hk), if_neg (by simp), if_neg (by omega), if_neg (by simp)]
theorem getD_app (A B : List Nat) (j : Nat) : (A ++ B).getD (A.length + j) 0 = B.getD j 0 := by
  rw [List.getD_eq_getElem?_getD, List.getD_eq_getElem?_getD, List.getElem?_append_right (by omega), Nat.add_sub_cancel_left]
theorem takeE_round {k : Nat} {l : List Nat} (r : List Nat) (hk : k ≠ 0) (hl : l.length ≤ 65536) : takeE (frP k l ++ r) = 0 := by
  have hN := frN_round k l r
  have hS := sizeE_round (k := k) (l := l) r hk hl
  obtain ⟨s, hs, e⟩ := frP_cons k l r
  unfold takeE
  rw [if_neg (by simp [hS]), hN, if_pos]
  have e1 : (frP k l ++ r).take (l.length + 8) = ([102, k, l.length / 65536, l.length / 256 % 256, l.length % 256] ++ l) ++ [s / 65536, s / 256 % 256, s % 256] := by
    have : frP k l ++ r = (([102, k, l.length / 65536, l.length / 256 % 256, l.length % 256] ++ l) ++ [s / 65536, s / 256 % 256, s % 256]) ++ r := by rw [e]; simp
    rw [this]
    exact List.take_left' (by simp)
  have hlen : ([102, k, l.length / 65536, l.length / 256 % 256, l.length % 256] ++ l).length = l.length + 5 := by simp
  rw [e1]
  unfold SumOk
  rw [List.take_left' hlen, ← hs]
  have g : ∀ j, (([102, k, l.length / 65536, l.length / 256 % 256, l.length % 256] ++ l) ++ [s / 65536, s / 256 % 256, s % 256]).getD (l.length + 5 + j) 0 = [s / 65536, s / 256 % 256, s % 256].getD j 0 := by
    intro j
    rw [← hlen]
    exact getD_app _ _ j
  have g0 := g 0
  rw [Nat.add_zero] at g0
  rw [g0, g 1, g 2]
  exact (be3_split s).symm
theorem frBody_round (k : Nat) (l r : List Nat) : frBody (frP k l ++ r) = l := by
  have hN := frN_round k l r
  obtain ⟨s, _, e⟩ := frP_cons k l r
  unfold frBody
  rw [hN, e]
  have : 102 :: k :: (l.length / 65536) :: (l.length / 256 % 256) :: (l.length % 256) :: (l ++ (s / 65536) :: (s / 256 % 256) :: (s % 256) :: r) = [102, k, l.length / 65536, l.length / 256 % 256, l.length % 256] ++ (l ++ ((s / 65536) :: (s / 256 % 256) :: (s % 256) :: r)) := rfl
  rw [this, ← List.append_assoc, List.take_left' (by simp)]
  rfl
theorem length_frP (k : Nat) (l : List Nat) : (frP k l).length = l.length + 8 := by unfold frP; rw [length_sealP]; simp
theorem WholeOk_round {k : Nat} {l : List Nat} (hk : k ≠ 0) (hl : l.length ≤ 65536) : WholeOk (frP k l) := by
  have h1 := takeE_round (k := k) (l := l) [] hk hl
  have h2 := frN_round k l []
  rw [List.append_nil] at h1 h2
  exact ⟨h1, by rw [h2, length_frP]⟩
theorem snapW_len {s : SnapS} (h : s.ok) : (snapW s).length ≤ 65536 := by
  obtain ⟨h1, h2, h3, h4, h5, h6⟩ := h
  have g1 := headW_len (n := s.i.toNat) (k := s.t.toNat) (by rw [Int.toNat_of_nonneg (by omega)]; exact Int.lt_trans h2 (by decide)) (by rw [Int.toNat_of_nonneg (by omega)]; exact Int.lt_of_le_of_lt h4 (by decide)) s.ms h5.2.1
  have g2 := memsW_len h5 s.ms.length
  rw [List.take_length] at g2
  have g3 := numW_len (n := s.d.length) (by omega)
  unfold snapW
  simp only [List.length_append]
  omega
theorem msOk_toNat {ms : List Int} (h : msOk ms) : (ms.map Int.toNat).map (fun n : Nat => (n : Int)) = ms ∧ ∀ n ∈ ms.map Int.toNat, n ≤ 6 := by
  have hj : ∀ x ∈ ms, 0 ≤ x ∧ x < 7 := by
    intro x hx
    obtain ⟨j, hj, rfl⟩ := List.mem_iff_getElem.1 hx
    have h1 := ok_nonneg h.2.2 j hj
    have h2 := (h.2.2 j hj).2
    rw [getDi hj] at h1 h2
    exact ⟨h1, h2⟩
  refine ⟨?_, ?_⟩
  · rw [List.map_map]
    conv => rhs; rw [← List.map_id ms]
    exact List.map_congr_left fun x hx => by have := hj x hx; show ((x.toNat : Nat) : Int) = x; omega
  · intro n hn
    obtain ⟨x, hx, rfl⟩ := List.mem_map.1 hn
    have := hj x hx
    omega
theorem get_round {m : Nat} (h6 : 6 ≤ m) (hm : m ≤ 7) (s : SnapS) (h : s.ok) : getS m (snapW s) = s ∧ getL m (snapW s) = [] ∧ getB m (snapW s) = false := by
  obtain ⟨h1, h2, h3, h4, h5, hd⟩ := h
  obtain ⟨i, t, ms, d⟩ := s
  simp only at h1 h2 h3 h4 h5 hd
  obtain ⟨n, rfl⟩ : ∃ n : Nat, i = n := ⟨i.toNat, by omega⟩
  obtain ⟨k, rfl⟩ : ∃ n : Nat, t = n := ⟨t.toNat, by omega⟩
  obtain ⟨hmm, hml⟩ := msOk_toNat h5
  have e : snapW ⟨n, k, ms, d⟩ = numW n ++ (numW k ++ (numW ms.length ++ (numsW (ms.map Int.toNat) ++ (numW d.length ++ (d ++ []))))) := by
    unfold snapW
    simp [numsW]
  have hn : (n : Int) < 18446744073709551616 := Int.lt_trans h2 (by decide)
  have hk : (k : Int) < 18446744073709551616 := Int.lt_of_le_of_lt h4 (by decide)
  have hn' : n ≤ H59 := by unfold H59; omega
  have hk' : k ≤ H60 := by unfold H60; omega
  have hl7 : ms.length ≤ 7 := h5.2.1
  rw [e]
  have r1 := numL_round (most := H59) (n := n) (numW k ++ (numW ms.length ++ (numsW (ms.map Int.toNat) ++ (numW d.length ++ (d ++ []))))) hn hn'
  have v1 := numV_round (most := H59) (n := n) (numW k ++ (numW ms.length ++ (numsW (ms.map Int.toNat) ++ (numW d.length ++ (d ++ []))))) hn hn'
  have b1 := numB_round (most := H59) (n := n) (numW k ++ (numW ms.length ++ (numsW (ms.map Int.toNat) ++ (numW d.length ++ (d ++ []))))) hn hn'
  have r2 := numL_round (most := H60) (n := k) (numW ms.length ++ (numsW (ms.map Int.toNat) ++ (numW d.length ++ (d ++ [])))) hk hk'
  have v2 := numV_round (most := H60) (n := k) (numW ms.length ++ (numsW (ms.map Int.toNat) ++ (numW d.length ++ (d ++ [])))) hk hk'
  have b2 := numB_round (most := H60) (n := k) (numW ms.length ++ (numsW (ms.map Int.toNat) ++ (numW d.length ++ (d ++ [])))) hk hk'
  have r3 := numL_round (most := 7) (n := ms.length) (numsW (ms.map Int.toNat) ++ (numW d.length ++ (d ++ []))) (by omega) hl7
  have v3 := numV_round (most := 7) (n := ms.length) (numsW (ms.map Int.toNat) ++ (numW d.length ++ (d ++ []))) (by omega) hl7
  have b3 := numB_round (most := 7) (n := ms.length) (numsW (ms.map Int.toNat) ++ (numW d.length ++ (d ++ []))) (by omega) hl7
  obtain ⟨r4, v4, b4⟩ := mem_round (m := m) (by omega) ms.length (ms.map Int.toNat) (numW d.length ++ (d ++ [])) (by simp) (fun x hx => Nat.le_trans (hml x hx) h6)
  have v5 := textV_round (most := 32768) d [] hd (by decide)
  have r5 := textL_round (most := 32768) d [] hd (by decide)
  have b5 := textB_round (most := 32768) d [] hd (by decide)
  unfold getS getL getB rest4 rest3 memN rest2 rest1
  rw [r1, v1, b1, r2, v2, b2, r3, v3, b3, r4, v4, b4, v5, r5, b5, hmm]
  exact ⟨rfl, rfl, rfl⟩
theorem read_round (m : Nat) (h6 : 6 ≤ m) (hm : m ≤ 7) (s : SnapS) (h : s.ok) : readB m (frP 4 (snapW s)) = true ∧ readS m (frP 4 (snapW s)) = s := by
  obtain ⟨g1, g2, g3⟩ := get_round h6 hm s h
  have hb := frBody_round 4 (snapW s) []
  have hk := kind_round 4 (snapW s) []
  rw [List.append_nil] at hb hk
  have hok : readOk m (frP 4 (snapW s)) := by
    refine ⟨WholeOk_round (by decide) (snapW_len h), hk, ?_, ?_⟩
    · rw [hb, g2, g3]; rfl
    · rw [hb, g1]; exact h
  obtain ⟨e1, e2⟩ := read_yes hok
  exact ⟨e1, by rw [e2, hb, g1]⟩
end Go.Proofs.YtofhccpagnkalaaGreat

/- The disks of the vow's example, and what is told of one frame; plain. -/
namespace Go.Proofs.YtofhccpagnkalaaGreat
open Go.RowKit Go.Maps Go.Proofs.Own Go.Shelf

theorem frNx_round (k : Nat) (l r : List Nat) : frNx (frP k l ++ r) = r := by
  unfold frNx
  rw [frN_round, ← length_frP k l, List.drop_left]
/-- A state's frame (its vote one more). -/
def vowW (t m : Nat) : List Nat := frP 3 (numsW [t, m])
theorem vowB_lt {t m : Nat} (ht : t ≤ 1152921504606846976) (hm : m ≤ 7) : ∀ x ∈ [t, m], (x : Int) < 18446744073709551616 := by
  intro x hx
  simp only [List.mem_cons, List.not_mem_nil, or_false] at hx
  rcases hx with rfl | rfl <;> omega
theorem vowB_len {t m : Nat} (ht : t ≤ 1152921504606846976) (hm : m ≤ 7) : (numsW [t, m]).length ≤ 18 := by
  have := numsW_len [t, m] (vowB_lt ht hm)
  simpa using this
theorem vowW_len {t m : Nat} (ht : t ≤ 1152921504606846976) (hm : m ≤ 7) : (vowW t m).length ≤ 26 ∧ 8 ≤ (vowW t m).length := by
  have := vowB_len ht hm
  unfold vowW
  rw [length_frP]
  omega
theorem vow_round {t m : Nat} (r : List Nat) (ht : t ≤ 1152921504606846976) (hm : m ≤ 7) :
    vGo (vowW t m ++ r) ∧ vT (vowW t m ++ r) = t ∧ vV (vowW t m ++ r) = m ∧ frNx (vowW t m ++ r) = r ∧ (frBody (vowW t m ++ r)).length + 8 = (vowW t m).length := by
  have hl := vowB_len ht hm
  have hb : frBody (vowW t m ++ r) = numW t ++ (numW m ++ []) := by
    unfold vowW
    rw [frBody_round]
    simp [numsW]
  have ht' : (t : Int) < 18446744073709551616 := by omega
  have hm' : (m : Int) < 18446744073709551616 := by omega
  have h1 : numL H60 (frBody (vowW t m ++ r)) = numW m ++ [] := by rw [hb]; exact numL_round _ ht' ht
  refine ⟨⟨takeE_round r (by decide) (by omega), kind_round 3 _ r, ?_⟩, ?_, ?_, frNx_round _ _ _, ?_⟩
  · unfold vE
    rw [h1, hb, numL_round [] hm' hm, numB_round (most := H60) _ ht' ht, numB_round [] hm' hm]
    rfl
  · unfold vT
    rw [hb]
    exact numV_round _ ht' ht
  · unfold vV
    rw [h1]
    exact numV_round _ hm' hm
  · unfold vowW
    rw [frBody_round, length_frP]
theorem lastF_round {t m : Nat} (r : List Nat) (n : Nat) (s : LastS) (ht : t ≤ 1152921504606846976) (hm : m ≤ 7) :
    lastF (n + 1) (vowW t m ++ r) s = lastF n r ⟨t, (m : Int) - 1, s.g + (vowW t m).length⟩ := by
  obtain ⟨h1, h2, h3, h4, h5⟩ := vow_round r ht hm
  rw [lastF_go h1, h2, h3, h4, Nat.add_assoc, h5]
theorem lastF_nil (n : Nat) (s : LastS) : lastF n [] s = s := lastF_no (fun h => by have := h.1; revert this; decide) n s
theorem lastR_one {t m : Nat} (ht : t ≤ 1152921504606846976) (hm : m ≤ 7) : lastR (vowW t m) = ⟨t, (m : Int) - 1, (vowW t m).length⟩ := by
  have h8 := (vowW_len ht hm).2
  unfold lastR
  obtain ⟨k, hk⟩ : ∃ k, (vowW t m).length = k + 1 := ⟨(vowW t m).length - 1, by omega⟩
  have h := lastF_round (t := t) (m := m) [] k ⟨0, -1, 0⟩ ht hm
  rw [List.append_nil] at h
  rw [hk, h, lastF_nil, Nat.zero_add, hk]

theorem lw_app (n : ByteArray) (b : List Nat) (hn : 1 ≤ n.size ∧ n.size ≤ 16) (h : b.length ≤ 1000) : appendD (lvD [] 0) n b = (lvD [⟨n, b, 0⟩] 1, 0) := by
  have he : appE (lvD [] 0) n b = 0 := by
    unfold appE
    rw [if_neg (by decide), if_neg (by omega), if_neg]
    rintro (h1 | h1)
    · exact absurd h1.2 (by decide)
    · have : freeD (lvD [] 0) = 1000 := by decide
      rw [this] at h1; omega
  unfold appendD
  rw [he]
  rfl
theorem lw_sync (n : ByteArray) (b : List Nat) (k : Nat) (i : Int) : syncD (lvD [⟨n, b, k⟩] i) n = (lvD [⟨n, b, b.length⟩] (i + 1), 0) := by
  unfold syncD
  rw [show (lvD [⟨n, b, k⟩] i).files = [⟨n, b, k⟩] from rfl, lv_find]
  simp only
  rw [if_neg (by show ¬ (false = true); decide), if_neg (by show ¬ ((-1 : Int) = 0); decide), lv_step]
  simp [putFile, delFile, insFile, lvD]
theorem lw_open0 : vopenD (lvD [] 0) = (lvD [] 0, 0) ∧ vopenS (lvD [] 0) = ⟨0, -1, 0⟩ := ⟨rfl, rfl⟩
theorem lw_keep : keepD (lvD [] 0) 0 (-1) 3 1 = (lvD [⟨nVow, vowW 3 2, (vowW 3 2).length⟩] 2, 0) := by
  have hl := (vowW_len (t := 3) (m := 2) (by decide) (by decide)).1
  unfold keepD
  rw [if_neg (by decide), if_neg (by decide), if_neg (by decide)]
  show vwriteD (lvD [] 0) (vowW 3 2) = _
  unfold vwriteD
  rw [if_neg (by decide), if_pos (by decide)]
  unfold wrTo
  rw [lw_app nVow _ (by decide) (by omega)]
  rw [if_neg (by simp)]
  exact lw_sync nVow _ 0 1
theorem lw_crash : crashD (lvD [⟨nVow, vowW 3 2, (vowW 3 2).length⟩] 2) [] = ⟨1000, [⟨nVow, vowW 3 2, (vowW 3 2).length⟩], true, -1, 2⟩ := by
  have hl := (vowW_len (t := 3) (m := 2) (by decide) (by decide)).2
  have hne : ¬ (vowW 3 2 = []) := fun h => by rw [h] at hl; simp at hl
  unfold crashD lvD
  simp only [crashL, crash1, Nat.lt_irrefl, if_false, if_neg hne, List.append_nil]
theorem lw_find : findFile nVowN [(⟨nVow, vowW 3 2, (vowW 3 2).length⟩ : FileS)] = none := by
  unfold findFile
  rw [List.find?_cons_of_neg (by simp), List.find?_nil]
theorem lw_open : vopenD (lvD [⟨nVow, vowW 3 2, (vowW 3 2).length⟩] 2) = (lvD [⟨nVow, vowW 3 2, (vowW 3 2).length⟩] 3, 0) ∧ vopenS (lvD [⟨nVow, vowW 3 2, (vowW 3 2).length⟩] 2) = ⟨3, 1, (vowW 3 2).length⟩ := by
  obtain ⟨D, hD⟩ : ∃ D, lvD [⟨nVow, vowW 3 2, (vowW 3 2).length⟩] 2 = D := ⟨_, rfl⟩
  have hf : findFile nVowN D.files = none := by rw [← hD]; exact lw_find
  have hd : D.down = false := by rw [← hD]; rfl
  have hg : vgoneD D nVowN = (D, 0) := by
    have h31 : fileE D nVowN = 31 := by unfold fileE; rw [if_neg (by rw [hd]; decide), if_pos hf]
    have hr : removeD D nVowN = (D, 31) := by unfold removeD; rw [hf, h31]
    unfold vgoneD
    rw [hr]
    rfl
  have hv : findFile nVow D.files = some ⟨nVow, vowW 3 2, (vowW 3 2).length⟩ := by rw [← hD]; exact lv_find _ _ _
  have h0 : fileE D nVow = 0 := by unfold fileE; rw [if_neg (by rw [hd]; decide), if_neg (by rw [hv]; simp)]
  have hG : getF D nVow = ⟨nVow, vowW 3 2, (vowW 3 2).length⟩ := by unfold getF; rw [hv]; rfl
  have hL : lastR (vowW 3 2) = ⟨3, 1, (vowW 3 2).length⟩ := lastR_one (t := 3) (m := 2) (by decide) (by decide)
  have hs : settleS D = ⟨3, 1, (vowW 3 2).length⟩ := by
    unfold settleS
    rw [h0, if_neg (by decide), if_neg (by decide), hG]
    exact hL
  have h1 : settle1 D = (D, 0) := by
    unfold settle1
    rw [hG]
    simp only
    rw [hL]
    exact if_neg (Nat.lt_irrefl _)
  have h2 : settleD D = (lvD [⟨nVow, vowW 3 2, (vowW 3 2).length⟩] 3, 0) := by
    unfold settleD
    rw [h0, if_neg (by decide), if_neg (by decide), h1, if_neg (by simp)]
    rw [← hD]
    exact lw_sync nVow _ _ 2
  rw [hD]
  unfold vopenD vopenS
  rw [hg]
  exact ⟨(if_neg (by simp)).trans h2, hs⟩
theorem lw_keep2 (D : DiskS) : keepD D 3 1 3 2 = (D, 34) := by
  unfold keepD
  rw [if_neg (by decide), if_pos (by decide)]
theorem lw_good (i : Int) (h0 : 0 ≤ i) (h1 : i ≤ 100) : DGood (lvD [⟨nVow, vowW 3 2, (vowW 3 2).length⟩] i) := by
  have hl := (vowW_len (t := 3) (m := 2) (by decide) (by decide)).1
  have hn : nVow.size ≤ 16 := by decide
  refine ⟨⟨by show (0 : Int) ≤ 1000; decide, by show (1000 : Int) ≤ _; decide, by show (-1 : Int) ≤ -1; decide, by show (-1 : Int) ≤ _; decide, h0, by show i ≤ _; omega, by show 1 ≤ 1000; decide, fun f hf => ?_⟩, ?_, by show 1 ≤ 128; decide⟩
  · obtain rfl := List.mem_singleton.1 hf
    exact ⟨hn, Nat.le_refl _⟩
  · show total [_] ≤ _
    rw [total_cons]
    simp only [total, List.map_nil, List.sum_nil]
    omega
end Go.Proofs.YtofhccpagnkalaaGreat

/- The chapter's example of the vow; no conditions. -/
namespace Go.Proofs.YtofhccpagnkalaaGreat
open Go.RowKit Go.Maps Go.Proofs.Own Go.Shelf

set_option maxHeartbeats 1600000 in
set_option maxRecDepth 20000 in
theorem vlives_any (w : World) : Calls Tryz.prog 18 #[] w fun e w' => e = .returned (.bool true) ∧ Below w.heap.size w w' := by
  have HO0 := lw_open0
  have HKD := lw_keep
  have HCD := lw_crash
  have HOP := lw_open
  have HGD := lw_good
  generalize vowW 3 2 = b at *
  generalize b.length = n at *
  have HO0 := Lib.hid HO0
  have HKD := Lib.hid HKD
  have HCD := Lib.hid HCD
  have HOP := Lib.hid HOP
  have HGD := Lib.hid HGD
  rename_i a1 a2 a3 a4 a5
  clear a1 a2 a3 a4 a5
  go_enter Tryz.func18, Tryz.ntmps18
  go_wp2_with fail
  refine (dnew 1000 w (by decide) (by decide)).mono ?_
  rintro e w1 ⟨db, mb, tb, rfl, hd1, hb1, h1, h2, h3⟩
  have D1 : Hid (DiskIs w1 db mb tb (lvD [] 0)) := Lib.hid hd1
  have B1 := Lib.hid hb1
  have HO : Hid (∀ k, Own3 db mb tb k → w.heap.size ≤ k) := Lib.hid (by rintro k (rfl | rfl | rfl) <;> assumption)
  have L1 := hb1.size
  clear hd1 hb1 h1 h2 h3
  go_wp2_with fail
  refine (vopen_any db mb tb (lvD [] 0) w1 D1.out lv_good0 (by decide)).mono ?_
  rintro e w2 ⟨-, hok, hd2, hk2⟩
  rw [HO0.out.1] at hok hd2
  rw [HO0.out.2] at hok
  obtain ⟨bb, rfl, hbk, hbb⟩ := hok rfl
  have D2 := Lib.hid hd2
  have K2 := Lib.hid hbk
  have B2 : Hid (Below w.heap.size w w2) := Lib.hid (B1.out.trans (hk2.below L1 HO.out))
  have NB : Hid (¬ Own3 db mb tb bb) := Lib.hid (fun h => by have := D1.out.lt3 _ h; omega)
  have HBB : Hid (w.heap.size ≤ bb) := Lib.hid (Nat.le_trans L1 hbb)
  clear hok hd2 hk2 hbk hbb
  go_wp2_with fail
  refine (vkeep_any bb db mb tb (lvD [] 0) 0 (-1) 3 1 w2 D2.out lv_good0 (by decide) K2.out NB.out (by decide)).mono ?_
  rintro e w3 ⟨rfl, hd3, -, hk3⟩
  rw [HKD.out] at hd3 ⊢
  have D3 := Lib.hid hd3
  have B3 : Hid (Below w.heap.size w w3) := Lib.hid (B2.out.trans (hk3.below B2.out.size (fun k hk => hk.elim (HO.out k) (fun e => e ▸ HBB.out))))
  clear hd3 hk3
  go_wp2_with fail
  refine (dcrash_any db mb tb _ _ [] w3 D3.out (HGD.out 2 (by decide) (by decide)) (TearsIs.nil _) (.inl rfl)).mono ?_
  rintro e w4 ⟨rfl, hd4, hk4⟩
  rw [HCD.out] at hd4 ⊢
  have D4 := Lib.hid hd4
  have B4 : Hid (Below w.heap.size w w4) := Lib.hid (B3.out.trans (hk4.below B3.out.size HO.out))
  clear hd4 hk4
  go_wp2_with fail
  refine (dboot_any db mb tb _ w4 D4.out).mono ?_
  rintro e w5 ⟨rfl, hd5, hk5⟩
  have D5 : Hid (DiskIs w5 db mb tb (lvD [⟨nVow, b, n⟩] 2)) := Lib.hid hd5
  have B5 : Hid (Below w.heap.size w w5) := Lib.hid (B4.out.trans (hk5.below B4.out.size HO.out))
  clear hd5 hk5
  go_wp2_with fail
  refine (vopen_any db mb tb _ w5 D5.out (HGD.out 2 (by decide) (by decide)) (by show (2 : Int) + 2 ≤ _; decide)).mono ?_
  rintro e w6 ⟨-, hok, hd6, hk6⟩
  rw [HOP.out.1] at hok hd6
  rw [HOP.out.2] at hok
  obtain ⟨b2, rfl, hbk, hbb⟩ := hok rfl
  have D6 := Lib.hid hd6
  have K6 := Lib.hid hbk
  have B6 : Hid (Below w.heap.size w w6) := Lib.hid (B5.out.trans (hk6.below B5.out.size HO.out))
  have N6 : Hid (¬ Own3 db mb tb b2) := Lib.hid (fun h => by have := D5.out.lt3 _ h; omega)
  have HB6 : Hid (w.heap.size ≤ b2) := Lib.hid (Nat.le_trans B5.out.size hbb)
  clear hok hd6 hk6 hbk hbb
  go_wp2_with fail
  refine (vstate_any b2 db 3 1 w6 K6.out).mono ?_
  rintro e w7 ⟨rfl, hb7⟩
  have D7 := Lib.hid (D6.out.below hb7)
  have K7 := Lib.hid (K6.out.below hb7)
  have B7 : Hid (Below w.heap.size w w7) := Lib.hid (B6.out.trans (hb7.mono B6.out.size))
  clear hb7
  go_wp2_with fail
  refine (vkeep_any b2 db mb tb _ 3 1 3 2 w7 D7.out (HGD.out 3 (by decide) (by decide)) (by show (3 : Int) + 4 ≤ _; decide) K7.out N6.out (by decide)).mono ?_
  rintro e w8 ⟨rfl, -, -, hk8⟩
  rw [lw_keep2] 
  have B8 : Hid (Below w.heap.size w w8) := Lib.hid (B7.out.trans (hk8.below B7.out.size (fun k hk => hk.elim (HO.out k) (fun e => e ▸ HB6.out))))
  clear hk8
  go_wp2_with fail
  go_ret
  exact ⟨rfl, B8.out⟩
end Go.Proofs.YtofhccpagnkalaaGreat
