/- Contracts of the disk's Read, New; no conditions but the ranges. -/
import Derived.Test.YtofhccpagnkalaaGreatDisk
namespace Go.Proofs.YtofhccpagnkalaaGreat
open Go.RowKit Go.Maps Go.Proofs.Own

theorem dread_err (db mb tb : Nat) (D : DiskS) (n : ByteArray) (w : World) (h : DiskIs w db mb tb D) (hn : n.size ≤ maxLen) (he : fileE D n ≠ 0) :
    Calls Tryz.prog 42 #[.pointer (some ⟨db, 0, none⟩), .string n] w fun e w' => e = .returned (.tuple #[.slice none 0 0, .int .i64 (fileE D n)]) ∧ Below w.heap.size w w' := by
  have C := Lib.hid (dfile_err db mb tb D n w h hn he)
  obtain ⟨k, hk⟩ : ∃ k, fileE D n = k := ⟨_, rfl⟩
  have hkb : ((k : Int) != 0) = true := bne_iff_ne.2 (by omega)
  rw [hk] at C ⊢
  clear h hn he hk
  go_enter Tryz.func42, Tryz.ntmps42
  go_wp2_with fail
  refine C.out.mono ?_
  rintro e w1 ⟨rfl, hb1⟩
  have B1 := Lib.hid hb1
  have L1 := hb1.size
  clear hb1
  go_wp2_with fail
  go_ret2
  exact ⟨rfl, B1.out.alloc L1 _⟩

theorem dread_ok (db mb tb : Nat) (D : DiskS) (n : ByteArray) (f : FileS) (w : World) (h : DiskIs w db mb tb D) (hd : D.down = false) (hn : n.size ≤ maxLen) (hf : findFile n D.files = some f) :
    Calls Tryz.prog 42 #[.pointer (some ⟨db, 0, none⟩), .string n] w fun e w' => ∃ v, e = .returned (.tuple #[v, .int .i64 0]) ∧ Bytes w' v f.all ∧ Below w.heap.size w w' := by
  have C := Lib.hid (dfile_yes db mb tb D n f w h hd hn hf)
  clear h hd hn hf
  go_enter Tryz.func42, Tryz.ntmps42
  go_wp2_with fail
  refine C.out.mono ?_
  rintro e w1 ⟨v, rfl, hfi, hb1⟩
  obtain ⟨a, c, rfl, hB, _⟩ := hfi
  have HB := Lib.hid hB
  have B1 := Lib.hid hb1
  have L1 := hb1.size
  have hs : (ints f.all).length ≤ 2097152 := by rw [length_ints]; exact hB.small
  clear hb1 hB
  go_wp2_with fail
  refine (bclone _ _ _ (HB.out.alloc _).rd hs).mono ?_
  rintro e w2 ⟨v2, rfl, hown, hb2⟩
  have O2 := Lib.hid hown
  have B2 := Lib.hid hb2
  clear hown hb2
  go_wp2_with fail
  go_ret2
  exact ⟨v2, rfl, Bytes.of_owns O2.out HB.out.lt HB.out.small, (B1.out.alloc L1 _).trans (B2.out.mono (by simp; omega))⟩

theorem MapIs.made (w : World) (vals : ByteArray → Value) : MapIs (w.alloc (.map #[] 0)) w.heap.size vals [] := World.ownsMap_made _ _ _ _

theorem dnew (room : Int) (w : World) (h0 : 0 ≤ room) (h1 : room ≤ 1048576) :
    Calls Tryz.prog 8 #[.int .i64 room] w fun e w' => ∃ db mb tb, e = .returned (.pointer (some ⟨db, 0, none⟩)) ∧ DiskIs w' db mb tb ⟨room, [], false, -1, 0⟩ ∧ Below w.heap.size w w' ∧ w.heap.size ≤ db ∧ w.heap.size ≤ mb ∧ w.heap.size ≤ tb := by
  have hmm := @run_makeMap Tryz.prog
  have a0 : ¬ room < 0 := by omega
  go_enter Tryz.func8, Tryz.ntmps8
  go_wp2_with fail
  refine (mnew _).mono ?_
  rintro e w1 ⟨rfl, h1, hb1⟩
  have M1 := Lib.hid h1
  have B1 := Lib.hid hb1
  have L1 := hb1.size
  have LM := h1.lt
  clear h1 hb1 hmm
  go_wp2_with fail
  go_ret
  have HM : MapIs (w.alloc (.map #[] 0)) w.heap.size (fun _ => zeroV) [] := MapIs.made w _
  have L0 : w.heap.size + 1 < w1.heap.size := by have := LM; simp at this; exact this
  generalize hwF : World.alloc w1 _ = wF
  have BF : Below w1.heap.size w1 wF := by subst hwF; exact (Below.refl _ _).alloc (Nat.le_refl _) _
  have B0 : Below w.heap.size w w1 := ((Below.refl _ _).alloc (Nat.le_refl _) _).trans (B1.out.mono (by simp))
  refine ⟨w1.heap.size, w.heap.size, w.heap.size + 1, rfl, ⟨by subst hwF; go_cell, by subst hwF; go_cell, by subst hwF; go_cell, by subst hwF; go_cell, by subst hwF; go_cell, by subst hwF; simp, by subst hwF; simp, by subst hwF; simp, ?_, ⟨fun _ => zeroV, (HM.below B1.out).below BF, nofun⟩, ⟨by omega, by omega, by omega⟩⟩, B0.trans (BF.mono B0.size), by omega, Nat.le_refl _, by omega⟩
  have hM := M1.out
  rw [show (w.alloc (.map #[] 0)).heap.size = w.heap.size + 1 by simp] at hM
  exact hM.below BF
end Go.Proofs.YtofhccpagnkalaaGreat
