/- The contract of frame.size; no conditions but the ranges. -/
import Derived.Test.YtofhccpagnkalaaGreatCopen
namespace Go.Proofs.YtofhccpagnkalaaGreat
open Go.RowKit Go.Maps Go.Proofs.Own

/-- The length that a frame tells. -/
def frN (l : List Nat) : Nat := be3 (l.getD 2 0) (l.getD 3 0) (l.getD 4 0)
/-- Why bytes begin with no frame, the sum set aside: 0: they may. -/
def sizeE (l : List Nat) : Nat :=
  if l.length = 0 then 23 else if l.getD 0 0 ≠ 102 then 20 else if l.length < 2 then 23 else if l.getD 1 0 = 0 then 20 else if l.length < 5 then 23 else
  if 65536 < frN l then 20 else if l.length < frN l + 8 then 23 else 0
/-- .. the sum, too. -/
def takeE (l : List Nat) : Nat := if sizeE l ≠ 0 then sizeE l else if SumOk (frN l + 5) (l.take (frN l + 8)) then 0 else 22
theorem sizeE_len {l : List Nat} (h : sizeE l = 0) : 5 ≤ l.length ∧ frN l ≤ 65536 ∧ frN l + 8 ≤ l.length := by
  unfold sizeE at h
  split at h; · omega
  split at h; · omega
  split at h; · omega
  split at h; · omega
  split at h; · omega
  split at h; · omega
  split at h; · omega
  omega

theorem or64 (a b : Nat) (ha : a < 4294967296) (hb : b < 4294967296) : bits .or .i64 (a : Int) (b : Int) = ((a ||| b : Nat) : Int) := by
  have hx : a ||| b < 2 ^ 32 := Nat.or_lt_two_pow (by omega) (by omega)
  show IntKind.i64.wrap ((BitVec.ofInt 64 (a : Int) ||| BitVec.ofInt 64 (b : Int)).toNat : Int) = _
  have h64 : ∀ n : Nat, n < 4294967296 → (BitVec.ofInt 64 (n : Int)).toNat = n := fun n hn => by
    rw [BitVec.ofInt_natCast, BitVec.toNat_ofNat]; exact Nat.mod_eq_of_lt (by omega)
  rw [BitVec.toNat_or, h64 a ha, h64 b hb, IntKind.wrap_i64]
  omega
theorem be3_64 (x y z : Nat) (hx : x < 256) (hy : y < 256) (hz : z < 256) : bits BinOp.or .i64 (bits BinOp.or .i64 ((x : Int) * 65536) ((y : Int) * 256)) (z : Int) = (be3 x y z : Int) := by
  have o1 : x * 65536 ||| y * 256 < 2 ^ 24 := Nat.or_lt_two_pow (by omega) (by omega)
  rw [show ((x : Int) * 65536) = ((x * 65536 : Nat) : Int) by omega, show ((y : Int) * 256) = ((y * 256 : Nat) : Int) by omega, or64 _ _ (by omega) (by omega), or64 _ _ (by omega) (by omega), or_be3 x y z hy hz]

/-- How long the frame is. -/
def szN (l : List Nat) : Nat := if sizeE l = 0 then frN l + 8 else 0
def SP (n e : Nat) (w : World) : Ending → World → Prop := fun E w' => E = .returned (.tuple #[.int .i64 n, .int .i64 e]) ∧ Below w.heap.size w w'
theorem szN_of {l : List Nat} {k : Nat} (h : sizeE l = k) (h0 : k ≠ 0) : szN l = 0 := by simp [szN, h, h0]

theorem size0 (v : Value) (l : List Nat) (w : World) (hB : Bytes w v l) (h0 : l.length = 0) : Calls Tryz.prog 142 #[v] w (SP (szN l) (sizeE l) w) := by
  have hs : sizeE l = 23 := by simp [sizeE, h0]
  rw [szN_of hs (by decide), hs]
  obtain ⟨a, c, rfl, _⟩ := hB.shape
  rw [h0]
  clear hs h0 hB
  go_enter Tryz.func142, Tryz.ntmps142
  go_wp2_with fail
  go_ret2
  exact ⟨rfl, Below.refl _ _⟩

theorem size1 (v : Value) (l : List Nat) (w : World) (hB : Bytes w v l) (h0 : l.length = 1) : Calls Tryz.prog 142 #[v] w (SP (szN l) (sizeE l) w) := by
  obtain ⟨b, o, c, rfl, hle, hbs, hcell⟩ := hB.somewhere (by omega)
  have c0 : w.cell? ⟨b, o, none⟩ = some (.int .u8 (l.getD 0 0 : Nat)) := hcell 0 (by omega)
  have hs : sizeE l = if l.getD 0 0 ≠ 102 then 20 else 23 := by simp [sizeE, h0]
  rw [h0]
  clear h0 hB hcell
  generalize l.getD 0 0 = x at c0 hs
  by_cases hx : x = 102
  · rw [if_neg (by omega)] at hs
    rw [szN_of hs (by decide), hs]
    have hb : ((x : Int) != 102) = false := by simp; omega
    clear hx hs
    go_enter Tryz.func142, Tryz.ntmps142
    go_wp2_with fail
    go_ret2
    exact ⟨rfl, Below.refl _ _⟩
  · rw [if_pos hx] at hs
    rw [szN_of hs (by decide), hs]
    have hb : ((x : Int) != 102) = true := by simp; omega
    clear hx hs
    go_enter Tryz.func142, Tryz.ntmps142
    go_wp2_with fail
    go_ret2
    exact ⟨rfl, Below.refl _ _⟩

theorem size2 (v : Value) (l : List Nat) (w : World) (hB : Bytes w v l) (h0 : l.length = 2 ∨ l.length = 3 ∨ l.length = 4) : Calls Tryz.prog 142 #[v] w (SP (szN l) (sizeE l) w) := by
  obtain ⟨b, o, c, rfl, hle, hbs, hcell⟩ := hB.somewhere (by omega)
  have c0 : w.cell? ⟨b, o, none⟩ = some (.int .u8 (l.getD 0 0 : Nat)) := hcell 0 (by omega)
  have c1 := hcell 1 (by omega)
  have hs : sizeE l = if l.getD 0 0 ≠ 102 then 20 else if l.getD 1 0 = 0 then 20 else 23 := by
    unfold sizeE
    rw [if_neg (by omega), if_neg (show ¬ l.length < 2 by omega), if_pos (show l.length < 5 by omega)]
  clear hB hcell hle
  generalize l.getD 0 0 = x at c0 hs
  generalize l.getD 1 0 = y at c1 hs
  have key : ∃ k : Nat, k ≠ 0 ∧ sizeE l = k ∧ ((k = 20 ∧ ((y : Int) == 0) = true) ∨ (k = 20 ∧ ((y : Int) == 0) = false ∧ ((x : Int) != 102) = true) ∨ (k = 23 ∧ ((y : Int) == 0) = false ∧ ((x : Int) != 102) = false)) := by
    by_cases hy : y = 0
    · exact ⟨20, by decide, by rw [hs, if_pos hy]; simp, .inl ⟨rfl, by simp; omega⟩⟩
    · by_cases hx : x = 102
      · exact ⟨23, by decide, by rw [hs, if_neg hy]; simp [hx], .inr (.inr ⟨rfl, by simp; omega, by simp; omega⟩)⟩
      · exact ⟨20, by decide, by rw [hs, if_pos hx], .inr (.inl ⟨rfl, by simp; omega, by simp; omega⟩)⟩
  obtain ⟨k, hk, hsk, key⟩ := key
  rw [szN_of hsk hk, hsk]
  clear hs hsk hk
  rcases key with ⟨rfl, k1⟩ | ⟨rfl, k1, k2⟩ | ⟨rfl, k1, k2⟩ <;> rcases h0 with h0 | h0 | h0
  all_goals
    rw [h0]
    clear h0
    go_enter Tryz.func142, Tryz.ntmps142
    go_wp2_with fail
    go_ret2
    exact ⟨rfl, Below.refl _ _⟩

set_option maxHeartbeats 1000000 in
set_option maxRecDepth 20000 in
theorem size5 (v : Value) (l : List Nat) (w : World) (m : Nat) (hB : Bytes w v l) (h0 : l.length = m + 5) : Calls Tryz.prog 142 #[v] w (SP (szN l) (sizeE l) w) := by
  obtain ⟨b, o, c, rfl, hle, hbs, hcell⟩ := hB.somewhere (by omega)
  have c0 : w.cell? ⟨b, o, none⟩ = some (.int .u8 (l.getD 0 0 : Nat)) := hcell 0 (by omega)
  have c1 := hcell 1 (by omega)
  have c2 := hcell 2 (by omega)
  have c3 := hcell 3 (by omega)
  have c4 := hcell 4 (by omega)
  have x2 := hB.getD_lt 2
  have x3 := hB.getD_lt 3
  have x4 := hB.getD_lt 4
  have hmb : (m : Int) ≤ 2097152 := by have := hB.small; omega
  have hs : sizeE l = if l.getD 0 0 ≠ 102 then 20 else if l.getD 1 0 = 0 then 20 else if 65536 < frN l then 20 else if m + 5 < frN l + 8 then 23 else 0 := by
    unfold sizeE
    rw [if_neg (by omega), if_neg (show ¬ l.length < 2 by omega), if_neg (show ¬ l.length < 5 by omega), h0]
  have hN : frN l = be3 (l.getD 2 0) (l.getD 3 0) (l.getD 4 0) := rfl
  have HN := Lib.hid hN
  rw [h0]
  clear hN hB hcell hle h0
  generalize l.getD 0 0 = x at c0 hs
  generalize l.getD 1 0 = y at c1 hs
  generalize l.getD 2 0 = p at c2 x2 HN
  generalize l.getD 3 0 = q at c3 x3 HN
  generalize l.getD 4 0 = r at c4 x4 HN
  have hv := be3_64 p q r x2 x3 x4
  rw [← HN.out] at hv
  have key : ∃ k n8 : Nat, sizeE l = k ∧ szN l = n8 ∧ ((k = 20 ∧ n8 = 0 ∧ (65536 : Int) < (frN l : Int)) ∨ ((frN l : Int) ≤ 65536 ∧ ((k = 20 ∧ n8 = 0 ∧ ((y : Int) == 0) = true) ∨ (k = 20 ∧ n8 = 0 ∧ ((y : Int) == 0) = false ∧ ((x : Int) != 102) = true) ∨
      (k = 23 ∧ n8 = 0 ∧ ((y : Int) == 0) = false ∧ ((x : Int) != 102) = false ∧ (m : Int) + 5 < (frN l : Int) + 8) ∨ (k = 0 ∧ n8 = frN l + 8 ∧ ((y : Int) == 0) = false ∧ ((x : Int) != 102) = false ∧ (frN l : Int) + 8 ≤ (m : Int) + 5)))) := by
    by_cases hn : 65536 < frN l
    · have e : sizeE l = 20 := by rw [hs]; split <;> (try rfl); split <;> (try rfl)
      exact ⟨20, 0, e, szN_of e (by decide), .inl ⟨rfl, rfl, by omega⟩⟩
    · by_cases hy : y = 0
      · have e : sizeE l = 20 := by rw [hs, if_pos hy]; simp
        exact ⟨20, 0, e, szN_of e (by decide), .inr ⟨by omega, .inl ⟨rfl, rfl, by simp; omega⟩⟩⟩
      · by_cases hx : x = 102
        · by_cases ht : m + 5 < frN l + 8
          · have e : sizeE l = 23 := by rw [hs, if_neg hy, if_neg hn, if_pos ht]; simp [hx]
            exact ⟨23, 0, e, szN_of e (by decide), .inr ⟨by omega, .inr (.inr (.inl ⟨rfl, rfl, by simp; omega, by simp; omega, by omega⟩))⟩⟩
          · have e : sizeE l = 0 := by rw [hs, if_neg hy, if_neg hn, if_neg ht]; simp [hx]
            exact ⟨0, _, e, by rw [szN, if_pos e], .inr ⟨by omega, .inr (.inr (.inr ⟨rfl, rfl, by simp; omega, by simp; omega, by omega⟩))⟩⟩
        · have e : sizeE l = 20 := by rw [hs, if_pos hx]
          exact ⟨20, 0, e, szN_of e (by decide), .inr ⟨by omega, .inr (.inl ⟨rfl, rfl, by simp; omega, by simp; omega⟩)⟩⟩
  clear HN hs
  have hn4 : ((m : Int) + 5 == 4) = false := by simp; omega
  have hn3 : ((m : Int) + 5 == 3) = false := by simp; omega
  have hn2 : ((m : Int) + 5 == 2) = false := by simp; omega
  have hn1 : ((m : Int) + 5 == 1) = false := by simp; omega
  have hn0 : ((m : Int) + 5 == 0) = false := by simp; omega
  have i2 : (2 : Int) < (m : Int) + 5 := by omega
  have i3 : (3 : Int) < (m : Int) + 5 := by omega
  have i4 : (4 : Int) < (m : Int) + 5 := by omega
  have i1 : (1 : Int) < (m : Int) + 5 := by omega
  have i0 : (0 : Int) < (m : Int) + 5 := by omega
  obtain ⟨k, n8, e1, e2, key⟩ := key
  rw [e1, e2]
  clear e1 e2
  generalize frN l = n at hv key
  have hz : ((n : Int) + 8 == 0) = false := by simp; omega
  rcases key with ⟨rfl, rfl, hn⟩ | ⟨hn, ⟨rfl, rfl, hy⟩ | ⟨rfl, rfl, hy, hx⟩ | ⟨rfl, rfl, hy, hx, ht⟩ | ⟨rfl, rfl, hy, hx, ht⟩⟩
  · go_enter Tryz.func142, Tryz.ntmps142
    go_wp2_with fail
    go_quiet (fail)
    go_wp2_with fail
    go_ret2
    exact ⟨rfl, Below.drewN _ _⟩
  · go_enter Tryz.func142, Tryz.ntmps142
    go_wp2_with fail
    go_quiet (fail)
    go_wp2_with fail
    go_ret2
    exact ⟨rfl, Below.drewN _ _⟩
  · go_enter Tryz.func142, Tryz.ntmps142
    go_wp2_with fail
    go_quiet (fail)
    go_wp2_with fail
    go_ret2
    exact ⟨rfl, Below.drewN _ _⟩
  · go_enter Tryz.func142, Tryz.ntmps142
    go_wp2_with fail
    go_quiet (fail)
    go_wp2_with fail
    go_ret2
    exact ⟨rfl, Below.drewN _ _⟩
  · go_enter Tryz.func142, Tryz.ntmps142
    go_wp2_with fail
    go_quiet (fail)
    go_wp2_with fail
    go_ret2
    exact ⟨rfl, Below.drewN _ _⟩

theorem size_any (v : Value) (l : List Nat) (w : World) (hB : Bytes w v l) : Calls Tryz.prog 142 #[v] w (SP (szN l) (sizeE l) w) := by
  by_cases h0 : l.length = 0
  · exact size0 v l w hB h0
  · by_cases h1 : l.length = 1
    · exact size1 v l w hB h1
    · by_cases h2 : l.length < 5
      · exact size2 v l w hB (by omega)
      · exact size5 v l w (l.length - 5) hB (by omega)
end Go.Proofs.YtofhccpagnkalaaGreat
