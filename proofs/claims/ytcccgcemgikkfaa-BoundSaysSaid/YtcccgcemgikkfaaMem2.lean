/- Rows of members: slices.Equal, and both Sounds of such a row. -/
import Derived.Test.YtcccgcemgikkfaaMem
namespace Go.Proofs.Ytcccgcemgikkfaa
open Go.RowKit Go.Maps Go.Proofs.Own

theorem sequal (sa sb : Value) (l m : List Int) (w : World) (hr : Reads w .i64 sa l) (hs : Reads w .i64 sb m) (hl : l.length ≤ 1000000) (hm : m.length ≤ 1000000) :
    Calls Try.prog 52 #[sa, sb] w fun e w' => e = .returned (.bool (decide (l = m))) ∧ Below w.heap.size w w' := by
  obtain ⟨a, c, rfl, hc⟩ := hr
  obtain ⟨b, d, rfl, hd⟩ := hs
  by_cases hll : l.length = m.length
  · have hne : ((l.length : Int) != (m.length : Int)) = false := by rw [hll]; simp
    have HL := Lib.hid hll
    clear hll
    go_enter Try.func52, Try.ntmps52
    go_wp2
    go_loopw [13] (fun i wr => ∃ (k n : Nat), k ≤ l.length ∧ i = .int .i64 k ∧ l.take k = m.take k ∧ wr = w.drewN n) (fun i _ => l.length - (intOf i).toNat)
    case atStart => exact ⟨0, 0, Nat.zero_le _, rfl, by simp, rfl⟩
    case round =>
      obtain ⟨k, n, hk, rfl, ht, rfl⟩ := hrel
      have HT := Lib.hid ht
      clear ht
      by_cases hlt : k < l.length
      · have hlm : k < m.length := by have := HL.out; omega
        obtain ⟨b1, o1, rfl, h1⟩ := hc k hlt
        obtain ⟨b2, o2, rfl, h2⟩ := hd k hlm
        have i0 : (0 : Int) ≤ (k : Int) := by omega
        have i1 : (k : Int) < (l.length : Int) := by omega
        have i2 : (k : Int) < (m.length : Int) := by omega
        by_cases he : l[k] = m[k]
        · have hbe : (l[k] != m[k]) = false := by simp [he]
          have HE := Lib.hid he
          clear he
          go_wp2
          go_quiet (fail)
          go_wp2
          go_roundw
          case rel => exact ⟨k + 1, _, by omega, by go_num, take_same_snoc l m k hlt hlm HT.out HE.out, rfl⟩
          case measure => simp [intOf]; omega
        · have hbe : (l[k] != m[k]) = true := by simp [he]
          have HE := Lib.hid he
          clear he
          go_wp2
          go_quiet (fail)
          go_wp2
          go_ret
          exact ⟨ret_bool (by rw [eq_comm, decide_eq_false_iff_not]; intro e; subst e; exact HE.out rfl), below_drewN (below_drewN (Below.refl _ _) _) _⟩
      · go_wp2
        go_ret
        exact ⟨ret_bool (by rw [eq_comm, decide_eq_true_eq]; have := HT.out; rw [List.take_of_length_le (by omega), List.take_of_length_le (by have := HL.out; omega)] at this; exact this), below_drewN (Below.refl _ _) _⟩
  · have hne : ((l.length : Int) != (m.length : Int)) = true := by simp; omega
    have HL := Lib.hid hll
    clear hll
    go_enter Try.func52, Try.ntmps52
    go_wp2
    go_ret
    exact ⟨ret_bool (by rw [eq_comm, decide_eq_false_iff_not]; intro e; exact HL.out (by rw [e])), Below.refl _ _⟩

theorem msame (sa sb : Value) (l m : List Int) (w : World) (hr : Reads w .i64 sa l) (hs : Reads w .i64 sb m) (hl : l.length ≤ 1000000) (hm : m.length ≤ 1000000) :
    Calls Try.prog 49 #[sa, sb] w fun e w' => e = .returned (.bool (decide (l = m))) ∧ Below w.heap.size w w' := by
  have HR := Lib.hid hr
  have HS := Lib.hid hs
  obtain ⟨a, c, rfl⟩ := hr.shape
  obtain ⟨b, d, rfl⟩ := hs.shape
  clear hr hs
  go_enter Try.func49, Try.ntmps49
  go_wp2_with (go_at_call 52; refine (sequal _ _ l m _ HR.out HS.out hl hm).mono ?_; rintro e w' ⟨rfl, hb⟩)
  go_ret
  exact ⟨rfl, hb⟩

theorem msound (sv : Value) (m : Nat) (w : World) (hr : Reads w .i64 sv (rng m)) (h1 : 1 ≤ m) (h7 : m ≤ 7) :
    Calls Try.prog 47 #[sv] w fun e w' => e = .returned (.bool true) ∧ Below w.heap.size w w' := by
  have HR := Lib.hid hr
  obtain ⟨a, c, rfl⟩ := hr.shape
  clear hr
  have hlm : (rng m).length = m := length_rng m
  have hgt : (0 : Int) < ((rng m).length : Int) := by omega
  have hlm' : (rng m).length ≤ 1000000 := by omega
  have hdec : decide (rng m = rng m) = true := decide_eq_true rfl
  clear hlm
  go_enter Try.func47, Try.ntmps47
  go_wp2_with fail
  refine (mset _ m _ HR.out h7).mono ?_
  rintro e w1 ⟨rfl, rfl⟩
  go_wp2_with fail
  refine (mof m _ h7).mono ?_
  rintro e w2 ⟨v, rfl, ho, hb⟩
  obtain ⟨a2, c2, rfl⟩ := ho.shape
  have HO := Lib.hid ho
  have HB := Lib.hid hb
  clear ho hb
  go_wp2_with fail
  refine (msame _ _ (rng m) (rng m) _ (HR.out.below HB.out) HO.out.reads hlm' hlm').mono ?_
  rintro e w3 ⟨rfl, hb3⟩
  go_wp2_with fail
  go_ret
  exact ⟨rfl, HB.out.trans (hb3.mono HB.out.size)⟩

set_option maxHeartbeats 4000000 in
theorem rmembers (sv : Value) (m : Nat) (w : World) (hr : Reads w .i64 sv (rng m)) (h1 : 1 ≤ m) (h7 : m ≤ 7) :
    Calls Try.prog 48 #[sv] w fun e w' => e = .returned (.bool true) ∧ Below w.heap.size w w' := by
  obtain ⟨a, c, rfl, hc⟩ := hr
  have HC : Hid (∀ j, j < m → ∃ b o, a = some ⟨b, o, none⟩ ∧ w.cell? ⟨b, o + j, none⟩ = some (.int .i64 j)) := Lib.hid fun j hj => by
    obtain ⟨b, o, h1, h2⟩ := hc j (by rw [length_rng]; exact hj)
    exact ⟨b, o, h1, by rw [h2, rng_at]⟩
  clear hc
  rw [length_rng]
  have hg1 : ¬ (m : Int) < 1 := by omega
  have hg7 : ¬ (7 : Int) < (m : Int) := by omega
  go_enter Try.func48, Try.ntmps48
  go_wp2
  go_loopw [3] (fun i wr => ∃ (k n : Nat), k ≤ m ∧ i = .int .i64 k ∧ wr = w.drewN n) (fun i _ => m - (intOf i).toNat)
  case atStart => exact ⟨0, 0, Nat.zero_le _, rfl, rfl⟩
  case round =>
    obtain ⟨k, n, hk, rfl, rfl⟩ := hrel
    by_cases hlt : k < m
    · obtain ⟨b, o, rfl, hcell⟩ := HC.out k hlt
      have hprev : 0 < k → w.cell? ⟨b, o + (k - 1), none⟩ = some (.int .i64 (k - 1 : Nat)) := fun h0 => by
        obtain ⟨b', o', hb', hcell'⟩ := HC.out (k - 1) (by omega)
        obtain ⟨rfl, rfl⟩ : b = b' ∧ o = o' := by simpa using hb'
        exact hcell'
      have hmi : (k : Int) < (m : Int) := by omega
      have hpi : (k : Int) - 1 < (m : Int) := by omega
      have hk7 : k = 0 ∨ k = 1 ∨ k = 2 ∨ k = 3 ∨ k = 4 ∨ k = 5 ∨ k = 6 := by omega
      rcases hk7 with rfl | rfl | rfl | rfl | rfl | rfl | rfl
      · have hz : ((0 : Nat) : Int) = 0 := rfl
        simp only [hz, Nat.add_zero] at hcell hmi ⊢
        clear hprev hpi hz
        go_wp2
        go_quiet (fail)
        go_wp2
        go_roundw
        case rel => exact ⟨1, _, by omega, by go_num, rfl⟩
        case measure => simp [intOf]; omega
      all_goals
        have hp := hprev (by decide)
        have hz : ((0 : Nat) : Int) = 0 := rfl
        have hw0 : IntKind.i64.wrap 0 = 0 := rfl
        have hm0 : (0 : Int) < (m : Int) := by omega
        simp only [Nat.reduceSub, hz, Nat.add_zero] at hp
        clear hprev hpi hz
        go_wp2
        go_quiet (fail)
        go_wp2
        go_roundw
        case rel => exact ⟨_, _, hlt, by go_num, rfl⟩
        case measure => simp [intOf]; omega
    · obtain rfl : k = m := by omega
      go_wp2
      go_ret
      exact ⟨rfl, below_drewN (Below.refl _ _) _⟩

theorem rsound29 (sv : Value) (m : Nat) (w : World) (hr : Reads w .i64 sv (rng m)) (h1 : 1 ≤ m) (h7 : m ≤ 7) :
    Calls Try.prog 46 #[sv] w fun e w' => e = .returned (.bool true) ∧ Below w.heap.size w w' := by
  have HR := Lib.hid hr
  obtain ⟨a, c, rfl⟩ := hr.shape
  clear hr
  go_enter Try.func46, Try.ntmps46
  go_wp2_with (go_at_call 48; refine (rmembers _ m _ HR.out h1 h7).mono ?_; rintro e w' ⟨rfl, hb⟩)
  go_ret
  exact ⟨rfl, hb⟩
end Go.Proofs.Ytcccgcemgikkfaa
