/- Contracts of the document's sum: the same function; no conditions but the ranges. -/
import Derived.Test.YtofhccpagnkalaaGreatSum
namespace Go.Proofs.YtofhccpagnkalaaGreat
open Go.RowKit Go.Maps Go.Proofs.Own

theorem turnR_lt (c s : Nat) (hs : s < 16777216) : ∀ i, turnR c i s < 16777216
  | 0 => hs
  | _ + 1 => stepR_lt _ _

theorem stepR_eq (t b : Nat) (h : t / 8388608 % 2 = b) : ((t : Int) * 2 % 16777216) = ((stepR t b : Nat) : Int) := by
  subst h
  simp [stepR]; omega
theorem stepR_ne (t b : Nat) (_ht : t < 16777216) (h : t / 8388608 % 2 ≠ b) : bits BinOp.xor IntKind.u32 ((t : Int) * 2 % 16777216) 8801531 = ((stepR t b : Nat) : Int) := by
  rw [show ((t : Int) * 2 % 16777216) = ((2 * t % 16777216 : Nat) : Int) by omega, turned _ (by omega)]
  simp [stepR, h]

set_option maxHeartbeats 4000000 in
theorem ron_any (sv : Value) (s : Nat) (l : List Nat) (w : World) (hs : s < 16777216) (hr : Reads w .u8 sv (ints l)) (hl : ∀ c ∈ l, c < 256) (hlen : l.length ≤ 2097152) :
    Calls Tryz.prog 159 #[.int .u32 s, sv] w fun e w' => e = .returned (.int .u32 (onP s l)) ∧ Below w.heap.size w w' := by
  obtain ⟨a, c, rfl, hc⟩ := hr
  have HC : Hid (∀ j (h : j < l.length), ∃ b o, a = some ⟨b, o, none⟩ ∧ w.cell? ⟨b, o + j, none⟩ = some (.int .u8 (l[j] : Nat))) := Lib.hid fun j hj => by
    obtain ⟨b, o, h1, h2⟩ := hc j (by rw [length_ints]; exact hj)
    exact ⟨b, o, h1, by rw [h2, ints_at]⟩
  have HL := Lib.hid hl
  clear hc hl
  rw [length_ints]
  go_enter Tryz.func159, Tryz.ntmps159
  go_wp2_with fail
  go_loopw [0, 5] (fun d i wr => ∃ k : Nat, k ≤ l.length ∧ i = .int .i64 k ∧ d = .int .u32 (onP s (l.take k) : Nat) ∧ Below w.heap.size w wr) (fun _ i _ => l.length - (intOf i).toNat)
  case atStart => exact ⟨0, Nat.zero_le _, rfl, by simp [onP]; omega, Below.refl _ _⟩
  case round =>
    obtain ⟨k, hk, rfl, rfl, hbl⟩ := hrel
    have HB := Lib.hid hbl
    have hsz := hbl.size
    clear hbl
    by_cases hlt : k < l.length
    · obtain ⟨b, o, rfl, hcell⟩ := HC.out k hlt
      have hb := World.block_lt_of_cell? _ _ hcell
      have hb : b < w.heap.size := hb
      have hx : l[k] < 256 := HL.out _ (List.getElem_mem hlt)
      have HS := Lib.hid (onP_succ s l k hlt)
      have hsl : onP s (l.take k) < 16777216 := onP_lt _ s hs fun d hd => HL.out d (List.mem_of_mem_take hd)
      generalize l[k] = x at hcell hx HS
      generalize onP s (l.take k) = y at HS hsl ⊢
      rw [byte_both x y hx] at HS
      have HCL := Lib.hid hcell
      clear hcell
      go_wp2_with fail
      go_loopw [0, 6] (fun d i wr => ∃ j : Nat, j ≤ 8 ∧ i = .int .i64 (7 - j) ∧ d = .int .u32 (turnR x j y : Nat) ∧ Below w.heap.size w wr) (fun _ i _ => (intOf i + 1).toNat)
      case atStart => exact ⟨0, Nat.zero_le _, rfl, rfl, HB.out⟩
      case round =>
        obtain ⟨j, hj, rfl, rfl, hbl⟩ := hrel
        have HB6 := Lib.hid hbl
        have hcell2 := Below.at HB6.out HCL.out hb
        clear hbl
        by_cases hjt : j < 8
        · have hi0 : (0 : Int) ≤ 7 - (j : Int) := by omega
          have hyt := turnR_lt x y hsl j
          have HT := Lib.hid (show turnR x (j + 1) y = stepR (turnR x j y) (x / 2 ^ (7 - j) % 2) from rfl)
          generalize turnR x j y = t at HT hyt ⊢
          have hj8 : j = 0 ∨ j = 1 ∨ j = 2 ∨ j = 3 ∨ j = 4 ∨ j = 5 ∨ j = 6 ∨ j = 7 := by omega
          rcases hj8 with rfl | rfl | rfl | rfl | rfl | rfl | rfl | rfl
          · simp only [Nat.reduceSub, Nat.reducePow] at HT
            by_cases hq : t / 8388608 % 2 = x / 128 % 2
            · have hbe : ((t : Int) / 8388608 % 2 != (x : Int) / 128 % 2) = false := by simp; omega
              have HV := Lib.hid (stepR_eq t _ hq)
              clear hq
              go_wp2_with fail
              go_roundw
              case rel => exact ⟨1, by omega, by first | rfl | go_num, by rw [HV.out, HT.out], HB6.out⟩
              case measure => decide
            · have hbe : ((t : Int) / 8388608 % 2 != (x : Int) / 128 % 2) = true := by simp; omega
              have HV := Lib.hid (stepR_ne t _ hyt hq)
              clear hq
              go_wp2_with fail
              go_roundw
              case rel => exact ⟨1, by omega, by first | rfl | go_num, by rw [HV.out, HT.out], HB6.out⟩
              case measure => decide
          · simp only [Nat.reduceSub, Nat.reducePow] at HT
            by_cases hq : t / 8388608 % 2 = x / 64 % 2
            · have hbe : ((t : Int) / 8388608 % 2 != (x : Int) / 64 % 2) = false := by simp; omega
              have HV := Lib.hid (stepR_eq t _ hq)
              clear hq
              go_wp2_with fail
              go_roundw
              case rel => exact ⟨2, by omega, by first | rfl | go_num, by rw [HV.out, HT.out], HB6.out⟩
              case measure => decide
            · have hbe : ((t : Int) / 8388608 % 2 != (x : Int) / 64 % 2) = true := by simp; omega
              have HV := Lib.hid (stepR_ne t _ hyt hq)
              clear hq
              go_wp2_with fail
              go_roundw
              case rel => exact ⟨2, by omega, by first | rfl | go_num, by rw [HV.out, HT.out], HB6.out⟩
              case measure => decide
          · simp only [Nat.reduceSub, Nat.reducePow] at HT
            by_cases hq : t / 8388608 % 2 = x / 32 % 2
            · have hbe : ((t : Int) / 8388608 % 2 != (x : Int) / 32 % 2) = false := by simp; omega
              have HV := Lib.hid (stepR_eq t _ hq)
              clear hq
              go_wp2_with fail
              go_roundw
              case rel => exact ⟨3, by omega, by first | rfl | go_num, by rw [HV.out, HT.out], HB6.out⟩
              case measure => decide
            · have hbe : ((t : Int) / 8388608 % 2 != (x : Int) / 32 % 2) = true := by simp; omega
              have HV := Lib.hid (stepR_ne t _ hyt hq)
              clear hq
              go_wp2_with fail
              go_roundw
              case rel => exact ⟨3, by omega, by first | rfl | go_num, by rw [HV.out, HT.out], HB6.out⟩
              case measure => decide
          · simp only [Nat.reduceSub, Nat.reducePow] at HT
            by_cases hq : t / 8388608 % 2 = x / 16 % 2
            · have hbe : ((t : Int) / 8388608 % 2 != (x : Int) / 16 % 2) = false := by simp; omega
              have HV := Lib.hid (stepR_eq t _ hq)
              clear hq
              go_wp2_with fail
              go_roundw
              case rel => exact ⟨4, by omega, by first | rfl | go_num, by rw [HV.out, HT.out], HB6.out⟩
              case measure => decide
            · have hbe : ((t : Int) / 8388608 % 2 != (x : Int) / 16 % 2) = true := by simp; omega
              have HV := Lib.hid (stepR_ne t _ hyt hq)
              clear hq
              go_wp2_with fail
              go_roundw
              case rel => exact ⟨4, by omega, by first | rfl | go_num, by rw [HV.out, HT.out], HB6.out⟩
              case measure => decide
          · simp only [Nat.reduceSub, Nat.reducePow] at HT
            by_cases hq : t / 8388608 % 2 = x / 8 % 2
            · have hbe : ((t : Int) / 8388608 % 2 != (x : Int) / 8 % 2) = false := by simp; omega
              have HV := Lib.hid (stepR_eq t _ hq)
              clear hq
              go_wp2_with fail
              go_roundw
              case rel => exact ⟨5, by omega, by first | rfl | go_num, by rw [HV.out, HT.out], HB6.out⟩
              case measure => decide
            · have hbe : ((t : Int) / 8388608 % 2 != (x : Int) / 8 % 2) = true := by simp; omega
              have HV := Lib.hid (stepR_ne t _ hyt hq)
              clear hq
              go_wp2_with fail
              go_roundw
              case rel => exact ⟨5, by omega, by first | rfl | go_num, by rw [HV.out, HT.out], HB6.out⟩
              case measure => decide
          · simp only [Nat.reduceSub, Nat.reducePow] at HT
            by_cases hq : t / 8388608 % 2 = x / 4 % 2
            · have hbe : ((t : Int) / 8388608 % 2 != (x : Int) / 4 % 2) = false := by simp; omega
              have HV := Lib.hid (stepR_eq t _ hq)
              clear hq
              go_wp2_with fail
              go_roundw
              case rel => exact ⟨6, by omega, by first | rfl | go_num, by rw [HV.out, HT.out], HB6.out⟩
              case measure => decide
            · have hbe : ((t : Int) / 8388608 % 2 != (x : Int) / 4 % 2) = true := by simp; omega
              have HV := Lib.hid (stepR_ne t _ hyt hq)
              clear hq
              go_wp2_with fail
              go_roundw
              case rel => exact ⟨6, by omega, by first | rfl | go_num, by rw [HV.out, HT.out], HB6.out⟩
              case measure => decide
          · simp only [Nat.reduceSub, Nat.reducePow] at HT
            by_cases hq : t / 8388608 % 2 = x / 2 % 2
            · have hbe : ((t : Int) / 8388608 % 2 != (x : Int) / 2 % 2) = false := by simp; omega
              have HV := Lib.hid (stepR_eq t _ hq)
              clear hq
              go_wp2_with fail
              go_roundw
              case rel => exact ⟨7, by omega, by first | rfl | go_num, by rw [HV.out, HT.out], HB6.out⟩
              case measure => decide
            · have hbe : ((t : Int) / 8388608 % 2 != (x : Int) / 2 % 2) = true := by simp; omega
              have HV := Lib.hid (stepR_ne t _ hyt hq)
              clear hq
              go_wp2_with fail
              go_roundw
              case rel => exact ⟨7, by omega, by first | rfl | go_num, by rw [HV.out, HT.out], HB6.out⟩
              case measure => decide
          · simp only [Nat.reduceSub, Nat.reducePow] at HT
            by_cases hq : t / 8388608 % 2 = x / 1 % 2
            · have hbe : ((t : Int) / 8388608 % 2 != (x : Int) % 2) = false := by simp; omega
              have HV := Lib.hid (stepR_eq t _ hq)
              clear hq
              go_wp2_with fail
              go_roundw
              case rel => exact ⟨8, by omega, by first | rfl | go_num, by rw [HV.out, HT.out], HB6.out⟩
              case measure => decide
            · have hbe : ((t : Int) / 8388608 % 2 != (x : Int) % 2) = true := by simp; omega
              have HV := Lib.hid (stepR_ne t _ hyt hq)
              clear hq
              go_wp2_with fail
              go_roundw
              case rel => exact ⟨8, by omega, by first | rfl | go_num, by rw [HV.out, HT.out], HB6.out⟩
              case measure => decide
        · obtain rfl : j = 8 := by omega
          go_wp2_with fail
          go_roundw
          case rel => exact ⟨k + 1, by omega, by go_num, by rw [HS.out], HB6.out⟩
          case measure => simp [intOf]; omega
    · obtain rfl : k = l.length := by omega
      go_wp2_with fail
      go_ret
      exact ⟨by simp, HB.out⟩
end Go.Proofs.YtofhccpagnkalaaGreat
