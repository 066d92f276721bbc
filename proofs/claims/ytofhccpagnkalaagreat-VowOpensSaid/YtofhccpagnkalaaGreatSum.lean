/- Contracts of crc24's sum, both ways; no conditions but the ranges. -/
import Derived.Test.YtofhccpagnkalaaGreatRows
import Derived.Test.YtofhccpagnkalaaGreatKit
import Derived.Test.YtofhccpagnkalaaGreatCrc
import Derived.OpenShut
namespace Go.Proofs.YtofhccpagnkalaaGreat
open Go.RowKit Go.Maps Go.Proofs.Own

theorem wrap32 (n : Int) : IntKind.u32.wrap n = n % 4294967296 := by simp [IntKind.wrap, IntKind.bits, IntKind.signed]
theorem ofInt32 (a : Nat) (ha : a < 4294967296) : (BitVec.ofInt 32 (a : Int)).toNat = a := by
  rw [BitVec.ofInt_natCast, BitVec.toNat_ofNat]; exact Nat.mod_eq_of_lt (by omega)
theorem xor32 (a b : Nat) (ha : a < 4294967296) (hb : b < 4294967296) : bits .xor .u32 (a : Int) (b : Int) = ((a ^^^ b : Nat) : Int) := by
  have hx : a ^^^ b < 2 ^ 32 := Nat.xor_lt_two_pow (by omega) (by omega)
  show IntKind.u32.wrap ((BitVec.ofInt 32 (a : Int) ^^^ BitVec.ofInt 32 (b : Int)).toNat : Int) = _
  rw [BitVec.toNat_xor, ofInt32 a ha, ofInt32 b hb, wrap32]
  omega
theorem and32 (a b : Nat) (ha : a < 4294967296) (hb : b < 4294967296) : bits .and .u32 (a : Int) (b : Int) = ((a &&& b : Nat) : Int) := by
  have hx : a &&& b < 2 ^ 32 := Nat.and_lt_two_pow _ (by omega)
  show IntKind.u32.wrap ((BitVec.ofInt 32 (a : Int) &&& BitVec.ofInt 32 (b : Int)).toNat : Int) = _
  rw [BitVec.toNat_and, ofInt32 a ha, ofInt32 b hb, wrap32]
  omega
theorem mask24 (a : Nat) (ha : a < 4294967296) : bits .and .u32 (a : Int) 16777215 = ((a % 16777216 : Nat) : Int) := by
  have := and32 a 16777215 ha (by decide)
  rw [show ((16777215 : Nat) : Int) = 16777215 from rfl] at this
  rw [this, show (16777215 : Nat) = 2 ^ 24 - 1 from rfl, Nat.and_two_pow_sub_one_eq_mod]
theorem turned (a : Nat) (ha : a < 4294967296) : bits .xor .u32 (a : Int) 8801531 = ((a ^^^ turns : Nat) : Int) := by
  have := xor32 a 8801531 ha (by decide)
  simpa [turns] using this

theorem on_step (b : Nat) (s : Nat) (w : World) (hs : s < 16777216) (c0 : w.cell? ⟨b, 0, none⟩ = some (.int .u32 s)) (f0 : w.frozen? ⟨b, 0, none⟩ = false) :
    Calls Tryz.prog 171 #[.pointer (some ⟨b, 0, none⟩)] w fun e w' => e = .returned (.tuple #[]) ∧ w'.cell? ⟨b, 0, none⟩ = some (.int .u32 (stepP s)) ∧ w'.frozen? ⟨b, 0, none⟩ = false ∧ Kept w w' (fun k => k = b) := by
  by_cases ht : s < 8388608
  · have hx : ((s : Int) * 2 / 16777216 != 0) = false := by
      have : (s : Int) * 2 / 16777216 = 0 := by omega
      simp [this]
    have hv : ((s : Int) * 2) = ((stepP s : Nat) : Int) := by
      have h1 : s / 8388608 % 2 = 0 := by omega
      have h2 : 2 * s % 16777216 = 2 * s := by omega
      simp [stepP, h1, h2]; omega
    have HV := Lib.hid hv
    clear hv
    go_enter Tryz.func171, Tryz.ntmps171
    go_wp2_with fail
    go_end0
    refine ⟨rfl, ?_, by rw [World.frozen?_setCell]; exact f0, Kept.setCell _ ⟨b, 0, none⟩ _⟩
    rw [HV.out]
    exact World.cell?_setCell_same _ _ _ c0
  · have hx : ((s : Int) * 2 / 16777216 != 0) = true := by
      have : (s : Int) * 2 / 16777216 = 1 := by omega
      simp [this]
    have hv : bits BinOp.xor IntKind.u32 (bits BinOp.and IntKind.u32 ((s : Int) * 2) 16777215) 8801531 = ((stepP s : Nat) : Int) := by
      have h1 : s / 8388608 % 2 = 1 := by omega
      have h3 := mask24 (2 * s) (by omega)
      rw [show ((s : Int) * 2) = ((2 * s : Nat) : Int) by omega, h3, turned _ (by omega)]
      simp [stepP, h1]
    have HV := Lib.hid hv
    clear hv
    go_enter Tryz.func171, Tryz.ntmps171
    go_wp2_with fail
    go_end0
    refine ⟨rfl, ?_, by rw [World.frozen?_setCell, World.frozen?_setCell]; exact f0, (Kept.setCell _ ⟨b, 0, none⟩ _).trans (Kept.setCell _ ⟨b, 0, none⟩ _)⟩
    rw [HV.out]
    exact World.cell?_setCell_same _ _ _ (World.cell?_setCell_same _ _ _ c0)

/-- A row of bytes, as integers. -/
def ints (l : List Nat) : List Int := l.map fun c : Nat => (c : Int)
theorem length_ints (l : List Nat) : (ints l).length = l.length := by simp [ints]
theorem ints_at (l : List Nat) (k : Nat) (h : k < (ints l).length) : (ints l)[k] = ((l[k]'(by simpa [ints] using h) : Nat) : Int) := by simp [ints]
/-- The sum of bytes. -/
def onP (s : Nat) (l : List Nat) : Nat := l.foldl (fun s c => turnP 8 (s ^^^ (c * 65536))) s
theorem onP_succ (s : Nat) (l : List Nat) (k : Nat) (h : k < l.length) : onP s (l.take (k + 1)) = turnP 8 (onP s (l.take k) ^^^ (l[k] * 65536)) := by
  unfold onP
  rw [List.take_succ_eq_append_getElem h, List.foldl_append]
  rfl
theorem turnP_lt (s : Nat) (hs : s < 16777216) : ∀ i, turnP i s < 16777216
  | 0 => hs
  | _ + 1 => stepP_lt _
theorem onP_lt (l : List Nat) : ∀ s, s < 16777216 → (∀ c ∈ l, c < 256) → onP s l < 16777216 := by
  induction l with
  | nil => intro s hs _; exact hs
  | cons c l ih =>
    intro s hs hl
    have hc := hl c (by simp)
    exact ih _ (turnP_lt _ (Nat.xor_lt_two_pow (n := 24) hs (by omega)) 8) fun d hd => hl d (by simp [hd])

set_option maxHeartbeats 2000000 in
theorem on_any (sv : Value) (s : Nat) (l : List Nat) (w : World) (hs : s < 16777216) (hr : Reads w .u8 sv (ints l)) (hl : ∀ c ∈ l, c < 256) (hlen : l.length ≤ 2097152) :
    Calls Tryz.prog 158 #[.int .u32 s, sv] w fun e w' => e = .returned (.int .u32 (onP s l)) ∧ Below w.heap.size w w' := by
  have hmf : ∀ (fn : Fn) (first cap : Array Value) (w : World), (Instr.makeFunc fn first cap).run Tryz.prog w = .ok (.func fn first cap) w := fun _ _ _ _ => rfl
  obtain ⟨a, c, rfl, hc⟩ := hr
  have HC : Hid (∀ j (h : j < l.length), ∃ b o, a = some ⟨b, o, none⟩ ∧ w.cell? ⟨b, o + j, none⟩ = some (.int .u8 (l[j] : Nat))) := Lib.hid fun j hj => by
    obtain ⟨b, o, h1, h2⟩ := hc j (by rw [length_ints]; exact hj)
    exact ⟨b, o, h1, by rw [h2, ints_at]⟩
  have HL := Lib.hid hl
  have hv0 : bits BinOp.and IntKind.u32 (s : Int) 16777215 = (s : Int) := by rw [mask24 s (by omega), Nat.mod_eq_of_lt hs]
  clear hc hl
  rw [length_ints]
  go_enter Tryz.func158, Tryz.ntmps158
  go_wp2_with fail
  go_loopw [13] (fun i wr => ∃ k : Nat, k ≤ l.length ∧ i = .int .i64 k ∧ wr.cell? ⟨w.heap.size, 0, none⟩ = some (.int .u32 (onP s (l.take k) : Nat)) ∧ wr.frozen? ⟨w.heap.size, 0, none⟩ = false ∧ Below w.heap.size w wr) (fun i _ => l.length - (intOf i).toNat)
  case atStart =>
    refine ⟨0, Nat.zero_le _, rfl, ?_, ?_, ?_⟩
    · simp [onP, go_sem]
    · simp [go_sem]
    · first
        | exact (Below.refl _ _).alloc (Nat.le_refl _) _
        | exact ((Kept.alloc w _ (fun k => w.heap.size ≤ k)).trans ((Kept.setCell _ ⟨w.heap.size, 0, none⟩ _).mono (fun k _ e => by subst e; exact Nat.le_refl _))).below (Nat.le_refl _) fun _ h => h
  case round =>
    obtain ⟨k, hk, rfl, c0, f0, hbl⟩ := hrel
    have HB := Lib.hid hbl
    have hsz := hbl.size
    have hbw : w.heap.size < wr.heap.size := World.block_lt_of_cell? _ _ c0
    clear hbl
    by_cases hlt : k < l.length
    · obtain ⟨b, o, rfl, hcell⟩ := HC.out k hlt
      have hb := World.block_lt_of_cell? _ _ hcell
      have hb : b < w.heap.size := hb
      have hcell2 := Below.at HB.out hcell hb
      have hx : l[k] < 256 := HL.out _ (List.getElem_mem hlt)
      have HS := Lib.hid (onP_succ s l k hlt)
      have hsl : onP s (l.take k) < 16777216 := onP_lt _ s hs fun d hd => HL.out d (List.mem_of_mem_take hd)
      generalize l[k] = x at hcell2 hx HS
      generalize onP s (l.take k) = y at c0 HS hsl
      have hxy : y ^^^ (x * 65536) < 16777216 := Nat.xor_lt_two_pow (n := 24) hsl (by omega)
      have hv1 : bits BinOp.xor IntKind.u32 (y : Int) ((x : Int) * 65536) = ((y ^^^ (x * 65536) : Nat) : Int) := by
        rw [show ((x : Int) * 65536) = ((x * 65536 : Nat) : Int) by omega, xor32 _ _ (by omega) (by omega)]
      clear hcell
      go_wp2_with fail
      generalize hw5 : World.setCell _ _ _ = w5
      have k5 : Kept wr w5 (fun k => k = w.heap.size) := by rw [← hw5]; exact Kept.setCell _ ⟨w.heap.size, 0, none⟩ _
      have d0 : w5.cell? ⟨w.heap.size, 0, none⟩ = some (.int .u32 ((y ^^^ (x * 65536) : Nat) : Int)) := by rw [← hw5]; exact World.cell?_setCell_same _ _ _ c0
      have g0 : w5.frozen? ⟨w.heap.size, 0, none⟩ = false := by rw [← hw5, World.frozen?_setCell]; exact f0
      have hb5 : Below w.heap.size w w5 := HB.out.trans (k5.below hsz fun k e => by omega)
      have HB5 := Lib.hid hb5
      have D0 := Lib.hid d0
      have G0 := Lib.hid g0
      clear hw5 k5 c0 f0 hb5 d0 g0 hv1
      generalize y ^^^ (x * 65536) = z at D0 HS hxy
      go_wp2_with fail
      go_loopw [22] (fun i wr => ∃ j : Nat, j ≤ 8 ∧ i = .int .i64 j ∧ wr.cell? ⟨w.heap.size, 0, none⟩ = some (.int .u32 (turnP j z : Nat)) ∧ wr.frozen? ⟨w.heap.size, 0, none⟩ = false ∧ Below w.heap.size w wr) (fun i _ => 8 - (intOf i).toNat)
      case atStart => exact ⟨0, Nat.zero_le _, rfl, D0.out, G0.out, HB5.out⟩
      case round =>
        obtain ⟨j, hj, rfl, c0, f0, hbl⟩ := hrel
        have HB6 := Lib.hid hbl
        have hsz6 := hbl.size
        clear hbl
        by_cases hjt : j < 8
        · have hi0 : (0 : Int) ≤ (j : Int) := by omega
          have hi8 : (j : Int) < 8 := by omega
          have ST := Lib.hid (on_step w.heap.size (turnP j z) _ (turnP_lt z hxy j) c0 f0)
          clear c0 f0
          go_wp2_with fail
          refine ST.out.mono ?_
          rintro e w7 ⟨rfl, c7, f7, k7⟩
          have C7 := Lib.hid c7
          have F7 := Lib.hid f7
          have K7 := Lib.hid k7
          clear c7 f7 k7
          go_wp2_with fail
          go_roundw
          case rel => exact ⟨j + 1, by omega, by go_num, C7.out, F7.out, HB6.out.trans (K7.out.below hsz6 fun k e => by omega)⟩
          case measure => simp [intOf]; omega
        · obtain rfl : j = 8 := by omega
          have C8 := Lib.hid c0
          have F8 := Lib.hid f0
          clear c0 f0
          go_wp2_with fail
          go_roundw
          case rel => exact ⟨k + 1, by omega, by go_num, by rw [HS.out]; exact C8.out, F8.out, HB6.out⟩
          case measure => simp [intOf]; omega
    · obtain rfl : k = l.length := by omega
      go_wp2_with fail
      go_ret
      exact ⟨by simp, HB.out⟩
end Go.Proofs.YtofhccpagnkalaaGreat
