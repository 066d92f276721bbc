/- Rows of members 0 .. m-1, both ways; no conditions but the length. -/
import Derived.Test.YtcccgcemgikkfaaRef2
namespace Go.Proofs.Ytcccgcemgikkfaa
open Go.RowKit Go.Maps Go.Proofs.Own

/-- 0 .. m-1. -/
def rng (m : Nat) : List Int := (List.range m).map fun i : Nat => (i : Int)
theorem length_rng (m : Nat) : (rng m).length = m := by simp [rng]
theorem rng_at (m k : Nat) (h : k < (rng m).length) : (rng m)[k] = (k : Int) := by simp [rng]
theorem rng_succ (m : Nat) : rng (m + 1) = rng m ++ [(m : Int)] := by simp [rng, List.range_succ]
theorem Try.info3 : (Try.prog.info? 3).map (fun i => (i.zero, i.size, i.bytes)) = some (some (.int .i64 0), 1, 8) := by kernel_rfl
theorem Try.i64s : IntSlice Try.prog 66 3 .i64 8 := ⟨Try.underlying66, Try.info3⟩

theorem mnode (n : Int) (w : World) (h0 : 0 ≤ n) (h7 : n < 7) : Calls Try.prog 53 #[.int .i64 n] w fun e w' => e = .returned (.bool true) ∧ w = w' := by
  go_enter Try.func53, Try.ntmps53
  go_wp2
  go_ret
  exact ⟨rfl, rfl⟩

/-- 2^k - 1. -/
def pw : Nat → Int
  | 0 => 0
  | 1 => 1
  | 2 => 3
  | 3 => 7
  | 4 => 15
  | 5 => 31
  | 6 => 63
  | _ => 127

theorem mset (sv : Value) (m : Nat) (w : World) (hr : Reads w .i64 sv (rng m)) (hm : m ≤ 7) :
    Calls Try.prog 51 #[sv] w fun e w' => e = .returned (.int .u64 (pw m)) ∧ w = w' := by
  obtain ⟨a, c, rfl, hc⟩ := hr
  rw [length_rng]
  have HC : Hid (∀ j, j < m → ∃ b o, a = some ⟨b, o, none⟩ ∧ w.cell? ⟨b, o + j, none⟩ = some (.int .i64 j)) := Lib.hid fun j hj => by
    obtain ⟨b, o, h1, h2⟩ := hc j (by rw [length_rng]; exact hj)
    exact ⟨b, o, h1, by rw [h2, rng_at]⟩
  clear hc
  go_enter Try.func51, Try.ntmps51
  go_wp2
  go_loopw [2, 7] (fun s i wr => ∃ k : Nat, k ≤ m ∧ i = .int .i64 k ∧ s = .int .u64 (pw k) ∧ wr = w) (fun _ i _ => m - (intOf i).toNat)
  case atStart => exact ⟨0, Nat.zero_le _, rfl, rfl, rfl⟩
  case round =>
    obtain ⟨k, hk, rfl, rfl, rfl⟩ := hrel
    by_cases hlt : k < m
    · obtain ⟨b, o, rfl, hcell⟩ := HC.out k hlt
      have hk7 : k = 0 ∨ k = 1 ∨ k = 2 ∨ k = 3 ∨ k = 4 ∨ k = 5 ∨ k = 6 := by omega
      rcases hk7 with rfl | rfl | rfl | rfl | rfl | rfl | rfl
      all_goals
        (try (have hz : ((0 : Nat) : Int) = 0 := rfl); (try simp only [hz, Nat.add_zero] at hcell ⊢))
        simp only [pw]
        go_wp2_with (go_at_call 53; refine (mnode _ _ (by decide) (by decide)).mono ?_; rintro e w' ⟨rfl, rfl⟩)
        go_roundw
        case rel => exact ⟨_, hlt, by go_num, rfl, trivial⟩
        case measure => simp [intOf]; omega
    · obtain rfl : k = m := by omega
      go_wp2
      go_ret
      exact ⟨rfl, rfl⟩

theorem pwbit (m k : Nat) (hm : m ≤ 7) (hk : k < 7) : m = 0 ∨ m = 1 ∨ m = 2 ∨ m = 3 ∨ m = 4 ∨ m = 5 ∨ m = 6 ∨ m = 7 := by omega

set_option maxHeartbeats 4000000 in
/-- The row of a set that holds 0 .. m-1. -/
theorem mof (m : Nat) (w : World) (hm : m ≤ 7) :
    Calls Try.prog 50 #[.int .u64 (pw m)] w fun e w' => ∃ v, e = .returned v ∧ Owns w' w.heap.size 3 .i64 v (rng m) ∧ Below w.heap.size w w' := by
  go_enter Try.func50, Try.ntmps50
  go_wp2
  go_loopw [2, 4] (fun d i wr => ∃ k : Nat, k ≤ 7 ∧ i = .int .i64 k ∧ Owns wr w.heap.size 3 .i64 d (rng (min k m)) ∧ Below w.heap.size w wr) (fun _ i _ => 7 - (intOf i).toNat)
  case atStart => exact ⟨0, by omega, rfl, by simpa [rng] using Owns.nil _ _ _ _, Below.refl _ _⟩
  case round =>
    obtain ⟨k, hk, rfl, hown, hbl⟩ := hrel
    obtain ⟨a', c', rfl⟩ := hown.shape
    have HO := Lib.hid hown
    have HB := Lib.hid hbl
    have hsz := hbl.size
    have hln : (rng (min k m)).length ≤ 7 := by rw [length_rng]; omega
    clear hown hbl
    by_cases hlt : k < 7
    · have hm8 : m = 0 ∨ m = 1 ∨ m = 2 ∨ m = 3 ∨ m = 4 ∨ m = 5 ∨ m = 6 ∨ m = 7 := by omega
      have hk7 : k = 0 ∨ k = 1 ∨ k = 2 ∨ k = 3 ∨ k = 4 ∨ k = 5 ∨ k = 6 := by omega
      have hi0 : (0 : Int) ≤ (k : Int) := by omega
      have hi7 : (k : Int) < 7 := by omega
      by_cases hkm : k < m
      · have hb : (bits BinOp.and IntKind.u64 (pw m / 2 ^ k) 1 == 1) = true := by
          rcases hm8 with rfl | rfl | rfl | rfl | rfl | rfl | rfl | rfl <;> rcases hk7 with rfl | rfl | rfl | rfl | rfl | rfl | rfl <;> first | omega | rfl | kernel_rfl
        have e1 : min k m = k := by omega
        have e2 : min (k + 1) m = k + 1 := by omega
        have e3 : (rng (min k m)).length = k := by rw [length_rng]; omega
        have HE := Lib.hid (show rng (min (k + 1) m) = rng (min k m) ++ [(k : Int)] by rw [e1, e2, rng_succ])
        have wk : (Lit.int .i64 (k : Int)).wf = true := by
          rcases hk7 with rfl | rfl | rfl | rfl | rfl | rfl | rfl <;> rfl
        clear e1 e2 hm8 hk7 e3
        go_wp2_with (at_builtin; refine wpList_append_ints Try.i64s _ _ rfl w.heap.size _ _ _ _ rfl rfl (HO.out.alloc _) (Reads.one _ _ _ _) (by decide) (by simp; omega) (by simp; omega) rfl ?_; intro v' w2 hown2 hgr hat hnil hbel)
        go_roundw
        case rel => exact ⟨k + 1, by omega, by go_num, by rw [HE.out]; exact hown2, HB.out.trans (((Below.refl _ _).alloc hsz _).trans hbel)⟩
        case measure => simp [intOf]; omega
      · have hb : (bits BinOp.and IntKind.u64 (pw m / 2 ^ k) 1 == 1) = false := by
          rcases hm8 with rfl | rfl | rfl | rfl | rfl | rfl | rfl | rfl <;> rcases hk7 with rfl | rfl | rfl | rfl | rfl | rfl | rfl <;> first | omega | rfl | kernel_rfl
        have e1 : min k m = m := by omega
        have e2 : min (k + 1) m = m := by omega
        have HE := Lib.hid (show rng (min (k + 1) m) = rng (min k m) by rw [e1, e2])
        clear e1 e2 hm8 hk7
        go_wp2_with fail
        go_roundw
        case rel => exact ⟨k + 1, by omega, by go_num, by rw [HE.out]; exact HO.out, HB.out⟩
        case measure => simp [intOf]; omega
    · obtain rfl : k = 7 := by omega
      have h7 : min 7 m = m := by omega
      go_wp2
      go_ret
      have := HO.out
      rw [h7] at this
      exact ⟨_, rfl, by rw [h7]; exact this, HB.out⟩
end Go.Proofs.Ytcccgcemgikkfaa
