/- The contract of crc24.Open: it says whether the last three bytes are the sum of those ahead of them; no conditions but the ranges. -/
import Derived.Test.YtofhccpagnkalaaGreatByt
namespace Go.Proofs.YtofhccpagnkalaaGreat
open Go.RowKit Go.Maps Go.Proofs.Own

theorem or32 (a b : Nat) (ha : a < 4294967296) (hb : b < 4294967296) : bits .or .u32 (a : Int) (b : Int) = ((a ||| b : Nat) : Int) := by
  have hx : a ||| b < 2 ^ 32 := Nat.or_lt_two_pow (by omega) (by omega)
  show IntKind.u32.wrap ((BitVec.ofInt 32 (a : Int) ||| BitVec.ofInt 32 (b : Int)).toNat : Int) = _
  rw [BitVec.toNat_or, ofInt32 a ha, ofInt32 b hb, wrap32]
  omega
/-- The number that three bytes tell. -/
def be3 (x y z : Nat) : Nat := x * 65536 + y * 256 + z
theorem or_be3 (x y z : Nat) (hy : y < 256) (hz : z < 256) : (x * 65536 ||| y * 256) ||| z = be3 x y z := by
  have h1 : x * 65536 ||| y * 256 = x * 65536 + y * 256 := by
    have := Nat.two_pow_add_eq_or_of_lt (i := 16) (b := y * 256) (by omega) x
    rw [show 2 ^ 16 * x = x * 65536 by omega] at this
    exact this.symm
  have h2 := Nat.two_pow_add_eq_or_of_lt (i := 8) (b := z) (by omega) (x * 256 + y)
  rw [h1]
  unfold be3
  rw [show x * 65536 + y * 256 = 2 ^ 8 * (x * 256 + y) by omega, h2]
theorem be3_32 (x y z : Nat) (hx : x < 256) (hy : y < 256) (hz : z < 256) : bits BinOp.or .u32 (bits BinOp.or .u32 ((x : Int) * 65536) ((y : Int) * 256)) (z : Int) = (be3 x y z : Int) := by
  have o1 : x * 65536 ||| y * 256 < 2 ^ 24 := Nat.or_lt_two_pow (by omega) (by omega)
  rw [show ((x : Int) * 65536) = ((x * 65536 : Nat) : Int) by omega, show ((y : Int) * 256) = ((y * 256 : Nat) : Int) by omega, or32 _ _ (by omega) (by omega), or32 _ _ (by omega) (by omega), or_be3 x y z hy hz]

theorem copen_short (a : Option Addr) (n c : Nat) (w : World) (hn : n < 3) :
    Calls Tryz.prog 143 #[.slice a n c] w fun e w' => e = .returned (.tuple #[.slice none 0 0, .bool false]) ∧ Below w.heap.size w w' := by
  have hlt : (n : Int) - 3 < 0 := by omega
  go_enter Tryz.func143, Tryz.ntmps143
  go_wp2_with fail
  go_ret2
  exact ⟨rfl, Below.refl _ _⟩

/-- Are the last three bytes the sum of those ahead of them? -/
def SumOk (m : Nat) (l : List Nat) : Prop := sumP (l.take m) = be3 (l.getD m 0) (l.getD (m + 1) 0) (l.getD (m + 2) 0)
instance (m : Nat) (l : List Nat) : Decidable (SumOk m l) := inferInstanceAs (Decidable (_ = _))

set_option maxHeartbeats 2000000 in
theorem copen_any (v : Value) (l : List Nat) (m : Nat) (w : World) (hB : Bytes w v l) (hm : l.length = m + 3) :
    Calls Tryz.prog 143 #[v] w fun e w' => Below w.heap.size w w' ∧ (SumOk m l → ∃ v', e = .returned (.tuple #[v', .bool true]) ∧ Bytes w' v' (l.take m)) ∧ (¬ SumOk m l → e = .returned (.tuple #[.slice none 0 0, .bool false])) := by
  have HB := Lib.hid hB
  obtain ⟨b, o, c, rfl, hle, hbs, hcell⟩ := hB.somewhere (by omega)
  obtain ⟨a', c', hB', hcut⟩ := hB.cut_h Tryz.u8s m (by omega)
  rw [hm] at hcut ⊢
  have c0 := hcell m (by omega)
  have c1 := hcell (m + 1) (by omega)
  have c2 := hcell (m + 2) (by omega)
  have hx := hB.getD_lt m
  have hy := hB.getD_lt (m + 1)
  have hz := hB.getD_lt (m + 2)
  have HM := Lib.hid hm
  have HB' := Lib.hid hB'
  have hmm := hB'.small
  have hl' := hB'.lt
  clear hB hB' hcell hm hle
  have HS : Hid (SumOk m l ↔ sumP (l.take m) = be3 (l.getD m 0) (l.getD (m + 1) 0) (l.getD (m + 2) 0)) := Lib.hid Iff.rfl
  generalize l.getD m 0 = x at c0 hx HS
  generalize l.getD (m + 1) 0 = y at c1 hy HS
  generalize l.getD (m + 2) 0 = z at c2 hz HS
  have hv := be3_32 x y z hx hy hz
  have hbe : be3 x y z < 4294967296 := by unfold be3; omega
  generalize be3 x y z = q at hv HS hbe
  have hge : ¬ ((m : Int) + 3 - 3 < 0) := by omega
  have i0 : (0 : Int) ≤ (m : Int) := by omega
  have ib : (m : Int) ≤ 2097152 := by have := HB.out.small; have := HM.out; omega
  have i1 : (m : Int) + 1 < (m : Int) + 3 := by omega
  have i2 : (m : Int) + 2 < (m : Int) + 3 := by omega
  have i3 : (m : Int) < (m : Int) + 3 := by omega
  have j1 : (0 : Int) ≤ (m : Int) + 1 := by omega
  have j2 : (0 : Int) ≤ (m : Int) + 2 := by omega
  have t1 : ((m : Int) + 1).toNat = m + 1 := by omega
  have t2 : ((m : Int) + 2).toNat = m + 2 := by omega
  go_enter Tryz.func143, Tryz.ntmps143
  go_wp2_with fail
  go_quiet (fail)
  go_wp2_with fail
  refine (fits_any _ (l.take m) q _ (HB'.out.drewN nq).rd hl' hmm).mono ?_
  rintro e w1 ⟨rfl, hb1⟩
  have HB1 : Hid (Below w.heap.size w w1) := Lib.hid ((Below.drewN w nq).trans hb1)
  clear hb1 hv
  by_cases hs : sumP (l.take m) = q
  · have hd : decide (sumP (l.take m) = q) = true := by simp [hs]
    have HS2 : Hid (SumOk m l) := Lib.hid (HS.out.2 hs)
    clear hs
    rw [hd]
    go_wp2_with fail
    refine (bclone _ _ _ ((HB'.out.below HB1.out).rd) (by rw [length_ints]; exact hmm)).mono ?_
    rintro e w2 ⟨v, rfl, hown, hb2⟩
    go_wp2_with fail
    go_ret2
    exact ⟨HB1.out.trans (hb2.mono HB1.out.size), fun _ => ⟨v, rfl, Bytes.of_owns hown hl' hmm⟩, fun h => absurd HS2.out h⟩
  · have hd : decide (sumP (l.take m) = q) = false := by simp [hs]
    have HS2 : Hid (¬ SumOk m l) := Lib.hid fun h => hs (HS.out.1 h)
    clear hs
    rw [hd]
    go_wp2_with fail
    go_ret2
    exact ⟨HB1.out, fun h => absurd h HS2.out, fun _ => rfl⟩
end Go.Proofs.YtofhccpagnkalaaGreat
