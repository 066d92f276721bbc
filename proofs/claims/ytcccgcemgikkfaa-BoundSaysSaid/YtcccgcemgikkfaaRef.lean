/- Contracts of the reference's functions of layer 37; no conditions but the lengths. -/
import Derived.Test.YtcccgcemgikkfaaRows
import Derived.Test.YtcccgcemgikkfaaKit
namespace Go.Proofs.Ytcccgcemgikkfaa
open Go.RowKit Go.Maps Go.Proofs.Own

theorem ret_int {k : IntKind} {a b : Int} (h : a = b) : Ending.returned (.int k a) = .returned (.int k b) := by rw [h]
theorem ret_bool {a b : Bool} (h : a = b) : Ending.returned (.bool a) = .returned (.bool b) := by rw [h]

theorem count_snoc (l : List Int) (id : Int) (k : Nat) (h : k < l.length) : (l.take (k + 1)).count id = (l.take k).count id + if l[k] = id then 1 else 0 := by
  rw [List.take_succ_eq_append_getElem h, List.count_append]
  simp [List.count_cons]

set_option maxHeartbeats 400000 in
theorem times_any (num id : Int) (sv : Value) (l : List Int) (w : World) (hr : Reads w .u64 sv l) (hl : l.length ≤ 1000000) :
    Calls Try.prog 11 #[.agg #[.int .i64 num, sv], .int .u64 id] w fun e w' => e = .returned (.int .i64 (l.count id)) ∧ Below w.heap.size w w' := by
  obtain ⟨a, c, rfl, hc⟩ := hr
  go_enter Try.func11, Try.ntmps11
  go_wp2
  go_loop [5, 6] (fun n i => ∃ k : Nat, k ≤ l.length ∧ i = .int .i64 k ∧ n = .int .i64 ((l.take k).count id : Nat)) (fun _ i => l.length - (intOf i).toNat)
  case atStart => exact ⟨0, Nat.zero_le _, rfl, by simp⟩
  case round =>
    obtain ⟨k, hk, rfl, rfl⟩ := hrel
    have hcl : (l.take k).count id ≤ k := Nat.le_trans List.count_le_length (List.length_take_le _ _)
    by_cases hlt : k < l.length
    · obtain ⟨b, o, rfl, hb⟩ := hc k hlt
      have hbl := World.block_lt_of_cell? _ _ hb
      have HS := Lib.hid (count_snoc l id k hlt)
      by_cases he : l[k] = id
      · have hbe : (l[k] == id) = true := by simp [he]
        clear he
        go_wp2
        go_round
        case rel => exact ⟨k + 1, by omega, by go_num, by rw [HS.out, if_pos (by simpa using hbe)]; go_num⟩
        case measure => simp [intOf]; omega
      · have hbe : (l[k] == id) = false := by simp [he]
        clear he
        go_wp2
        go_round
        case rel => exact ⟨k + 1, by omega, by go_num, by rw [HS.out, if_neg (by simpa using hbe)]; rfl⟩
        case measure => simp [intOf]; omega
    · go_wp2
      go_ret
      exact ⟨ret_int (by rw [List.take_of_length_le (by omega)]), (Below.refl _ _).alloc (Nat.le_refl _) _⟩

theorem take_same_snoc (l m : List Int) (k : Nat) (h1 : k < l.length) (h2 : k < m.length) (h : l.take k = m.take k) (he : l[k] = m[k]) : l.take (k + 1) = m.take (k + 1) := by
  rw [List.take_succ_eq_append_getElem h1, List.take_succ_eq_append_getElem h2, h, he]

set_option maxHeartbeats 400000 in
theorem same_any (sa sb : Value) (l m : List Int) (w : World) (hr : Reads w .u64 sa l) (hs : Reads w .u64 sb m) (hl : l.length ≤ 1000000) (hm : m.length ≤ 1000000) :
    Calls Try.prog 13 #[sa, sb] w fun e w' => e = .returned (.bool (decide (l = m))) ∧ Below w.heap.size w w' := by
  obtain ⟨a, c, rfl, hc⟩ := hr
  obtain ⟨b, d, rfl, hd⟩ := hs
  by_cases hll : l.length = m.length
  · have hne : ((l.length : Int) != (m.length : Int)) = false := by rw [hll]; simp
    have HL := Lib.hid hll
    clear hll
    go_enter Try.func13, Try.ntmps13
    go_wp2
    go_loopw [5] (fun i wr => ∃ (k n : Nat), k ≤ l.length ∧ i = .int .i64 k ∧ l.take k = m.take k ∧ wr = w.drewN n) (fun i _ => l.length - (intOf i).toNat)
    case atStart => exact ⟨0, 0, Nat.zero_le _, rfl, by simp, rfl⟩
    case round =>
      obtain ⟨k, n, hk, rfl, ht, rfl⟩ := hrel
      have HT := Lib.hid ht
      clear ht
      by_cases hlt : k < l.length
      · have hlm : k < m.length := by have := HL.out; omega
        obtain ⟨b1, o1, rfl, h1⟩ := hc k hlt
        obtain ⟨b2, o2, rfl, h2⟩ := hd k hlm
        have i0 : (0 : Int) ≤ (k : Int) := by omega
        have i1 : (k : Int) < (l.length : Int) := by omega
        have i2 : (k : Int) < (m.length : Int) := by omega
        by_cases he : l[k] = m[k]
        · have hbe : (l[k] != m[k]) = false := by simp [he]
          have HE := Lib.hid he
          clear he
          go_wp2
          go_quiet (fail)
          go_wp2
          go_roundw
          case rel => exact ⟨k + 1, _, by omega, by go_num, take_same_snoc l m k hlt hlm HT.out HE.out, rfl⟩
          case measure => simp [intOf]; omega
        · have hbe : (l[k] != m[k]) = true := by simp [he]
          have HE := Lib.hid he
          clear he
          go_wp2
          go_quiet (fail)
          go_wp2
          go_ret
          exact ⟨ret_bool (by rw [eq_comm, decide_eq_false_iff_not]; intro e; subst e; exact HE.out rfl), below_drewN (below_drewN (Below.refl _ _) _) _⟩
      · go_wp2
        go_ret
        exact ⟨ret_bool (by rw [eq_comm, decide_eq_true_eq]; have := HT.out; rw [List.take_of_length_le (by omega), List.take_of_length_le (by have := HL.out; omega)] at this; exact this), below_drewN (Below.refl _ _) _⟩
  · have hne : ((l.length : Int) != (m.length : Int)) = true := by simp; omega
    have HL := Lib.hid hll
    clear hll
    go_enter Try.func13, Try.ntmps13
    go_wp2
    go_ret
    exact ⟨ret_bool (by rw [eq_comm, decide_eq_false_iff_not]; intro e; exact HL.out (by rw [e])), Below.refl _ _⟩
end Go.Proofs.Ytcccgcemgikkfaa
