/- A disk that is none: what its calls, and a snapshot's store that is none, tell; no conditions. -/
import Derived.Test.YtofhccpagnkalaaSto
namespace Go.Proofs.Ytofhccpagnkalaa
open Go.RowKit Go.Maps Go.Proofs.Own

/-- p is nil, or a disk that no call made. -/
def NoDisk (w : World) (p : Option Addr) : Prop := p = none ∨ ∃ b, p = some ⟨b, 0, none⟩ ∧ w.cell? ⟨b, 0, none⟩ = some (.map none)
theorem NoDisk.below {w w' : World} {p : Option Addr} (h : NoDisk w p) (hb : Below w.heap.size w w') : NoDisk w' p := by
  rcases h with h | ⟨b, h, c⟩
  · exact .inl h
  · exact .inr ⟨b, h, Below.at hb c (World.block_lt_of_cell? _ _ c)⟩

set_option maxHeartbeats 1000000 in
theorem nod_none (p : Option Addr) (w : World) (h : NoDisk w p) : Calls Try.prog 66 #[.pointer p] w fun e w' => e = .returned (.bool true) ∧ w = w' := by
  have hm := fun w => run_eql_map_nil (P := Try.prog) w 55 9 120 none Try.underlying55
  rcases h with rfl | ⟨b, rfl, c0⟩
  all_goals
    go_enter Try.func66, Try.ntmps66
    go_wp2_with fail
    go_ret
    exact ⟨rfl, rfl⟩
set_option maxHeartbeats 1000000 in
theorem nod_up (p : Option Addr) (w : World) (h : NoDisk w p) : Calls Try.prog 79 #[.pointer p] w fun e w' => e = .returned (.int .i64 1) ∧ w = w' := by
  have H := Lib.hid h
  clear h
  go_enter Try.func79, Try.ntmps79
  go_wp2_with fail
  refine (nod_none p _ H.out).mono ?_
  rintro e w1 ⟨rfl, rfl⟩
  go_wp2_with fail
  go_ret
  exact ⟨rfl, rfl⟩
set_option maxHeartbeats 1000000 in
theorem nod_file (p : Option Addr) (n : ByteArray) (w : World) (h : NoDisk w p) : Calls Try.prog 98 #[.pointer p, .string n] w fun e w' => e = .returned (.tuple #[.agg #[.slice none 0 0, .int .i64 0], .int .i64 1]) ∧ Below w.heap.size w w' := by
  have H := Lib.hid h
  clear h
  go_enter Try.func98, Try.ntmps98
  go_wp2_with fail
  refine (nod_up p _ (H.out.below ((Below.refl _ _).alloc (Nat.le_refl _) _))).mono ?_
  rintro e w1 ⟨rfl, rfl⟩
  go_wp2_with fail
  refine bodyPost_ret (v := .tuple #[.agg #[.slice none 0 0, .int .i64 0], .int .i64 1]) (by simp [results, Try.results98, go_sem]) rfl ?_
  exact ⟨rfl, (Below.refl _ _).alloc (Nat.le_refl _) _⟩
set_option maxHeartbeats 1000000 in
theorem nod_remove (p : Option Addr) (n : ByteArray) (w : World) (h : NoDisk w p) : Calls Try.prog 93 #[.pointer p, .string n] w fun e w' => e = .returned (.int .i64 1) ∧ Below w.heap.size w w' := by
  have H := Lib.hid h
  clear h
  go_enter Try.func93, Try.ntmps93
  go_wp2_with fail
  refine (nod_file p n _ H.out).mono ?_
  rintro e w1 ⟨rfl, hb1⟩
  have B1 := Lib.hid hb1
  have L1 := hb1.size
  clear hb1
  go_wp2_with fail
  go_ret
  exact ⟨rfl, B1.out.alloc L1 (.cells #[.slice none 0 0, .int .i64 0] 120)⟩

/-- p is nil, or a store that no call made. -/
def NoStore (w : World) (p : Option Addr) : Prop := p = none ∨ ∃ b, p = some ⟨b, 0, none⟩ ∧ w.cell? ⟨b, 0, none⟩ = some (.pointer none)
theorem NoStore.below {w w' : World} {p : Option Addr} (h : NoStore w p) (hb : Below w.heap.size w w') : NoStore w' p := by
  rcases h with h | ⟨b, h, c⟩
  · exact .inl h
  · exact .inr ⟨b, h, Below.at hb c (World.block_lt_of_cell? _ _ c)⟩
set_option maxHeartbeats 1000000 in
theorem nos_none (p : Option Addr) (w : World) (h : NoStore w p) : Calls Try.prog 70 #[.pointer p] w fun e w' => e = .returned (.bool true) ∧ w = w' := by
  rcases h with rfl | ⟨b, rfl, c0⟩
  all_goals
    go_enter Try.func70, Try.ntmps70
    go_wp2_with fail
    go_ret
    exact ⟨rfl, rfl⟩
set_option maxHeartbeats 1000000 in
set_option maxRecDepth 20000 in
theorem nos_get (p : Option Addr) (w : World) (h : NoStore w p) : Calls Try.prog 32 #[.pointer p] w fun e w' => e = .returned (.tuple #[.agg #[.int .u64 0, .int .u64 0, .slice none 0 0, .slice none 0 0], .bool false]) ∧ Below w.heap.size w w' := by
  have H := Lib.hid h
  clear h
  go_enter Try.func32, Try.ntmps32
  go_wp2_with fail
  have R1 : Hid (SBlk (w.alloc (.cells #[.int .u64 0, .int .u64 0, .slice none 0 0, .slice none 0 0] 27)) w.heap.size 0 0 (.slice none 0 0) (.slice none 0 0)) := Lib.hid (SBlk.new w)
  have B1 : Hid (Below w.heap.size w (w.alloc (.cells #[.int .u64 0, .int .u64 0, .slice none 0 0, .slice none 0 0] 27))) := Lib.hid ((Below.refl _ _).alloc (Nat.le_refl _) _)
  generalize World.alloc w _ = w1 at *
  refine (nos_none p w1 (H.out.below B1.out)).mono ?_
  rintro e w2 ⟨rfl, rfl⟩
  obtain ⟨q0, q1, q2, q3, g0, g1, g2, g3⟩ := R1.out
  go_wp2_with fail
  generalize hwF : World.setCell _ _ _ = wF
  have KF : Hid (Kept w1 wF (fun k => k = w.heap.size)) := Lib.hid (by subst hwF; exact Kept.set4 _ _ _ _ _ _)
  have RF : Hid (SBlk wF w.heap.size 0 0 (.slice none 0 0) (.slice none 0 0)) := Lib.hid (by subst hwF; exact R1.out.set4 0 0 _ _)
  clear hwF q0 q1 q2 q3 g0 g1 g2 g3
  obtain ⟨q0, q1, q2, q3, _, _, _, _⟩ := RF.out
  refine bodyPost_ret (v := .tuple #[.agg #[.int .u64 0, .int .u64 0, .slice none 0 0, .slice none 0 0], .bool false]) (by simp [results, Try.results32, go_sem, q0, q1, q2, q3]) rfl ?_
  exact ⟨rfl, B1.out.trans (KF.out.below B1.out.size (fun k hk => by omega))⟩
set_option maxHeartbeats 1000000 in
set_option maxRecDepth 20000 in
theorem nos_save (p : Option Addr) (i t : Int) (am ad : Option Addr) (nm cm nd cd : Nat) (w : World) (h : NoStore w p) : Calls Try.prog 33 #[.pointer p, .agg #[.int .u64 i, .int .u64 t, .slice am nm cm, .slice ad nd cd]] w fun e w' => e = .returned (.int .i64 1) ∧ Below w.heap.size w w' := by
  have H := Lib.hid h
  clear h
  go_enter Try.func33, Try.ntmps33
  go_wp2_with fail
  have B1 : Hid (Below w.heap.size w ((w.alloc (.cells #[.pointer p] 61)).alloc (.cells #[.int .u64 i, .int .u64 t, .slice am nm cm, .slice ad nd cd] 27))) := Lib.hid (((Below.refl _ _).alloc (Nat.le_refl _) _).alloc (by simp) _)
  refine (nos_none p _ (H.out.below B1.out)).mono ?_
  rintro e w2 ⟨rfl, rfl⟩
  go_wp2_with fail
  go_ret
  exact ⟨rfl, B1.out⟩
set_option maxHeartbeats 1000000 in
set_option maxRecDepth 20000 in
/-- The snapshot's Open of a disk that is none. -/
theorem nos_open (p : Option Addr) (w : World) (h : NoDisk w p) : Calls Try.prog 34 #[.pointer p] w fun e w' => e = .returned (.tuple #[.pointer none, .int .i64 1]) ∧ Below w.heap.size w w' := by
  have H := Lib.hid h
  clear h
  go_enter Try.func34, Try.ntmps34
  go_wp2_with fail
  have B1 : Hid (Below w.heap.size w (w.alloc (.cells #[.pointer p, .int .u64 0, .int .u64 0, .slice none 0 0, .slice none 0 0] 63))) := Lib.hid ((Below.refl _ _).alloc (Nat.le_refl _) _)
  have C1 : Hid ((w.alloc (.cells #[.pointer p, .int .u64 0, .int .u64 0, .slice none 0 0, .slice none 0 0] 63)).cell? ⟨w.heap.size, 0, none⟩ = some (.pointer p)) := Lib.hid (by go_cell)
  generalize World.alloc w _ = w1 at *
  have G : Calls Try.prog 71 #[.pointer (some ⟨w.heap.size, 0, none⟩)] w1 fun e w' => e = .returned (.int .i64 1) ∧ Below w1.heap.size w1 w' := by
    have c1 := C1.out
    go_enter Try.func71, Try.ntmps71
    go_wp2_with fail
    refine (nod_remove p _ w1 (H.out.below B1.out)).mono ?_
    rintro e w2 ⟨rfl, hb2⟩
    have B2 := Lib.hid hb2
    clear hb2
    go_wp2_with fail
    go_ret
    exact ⟨rfl, B2.out⟩
  refine G.mono ?_
  rintro e w2 ⟨rfl, hb2⟩
  have B2 : Hid (Below w.heap.size w w2) := Lib.hid (B1.out.trans (hb2.mono B1.out.size))
  clear hb2 G
  go_wp2_with fail
  go_ret2
  exact ⟨rfl, B2.out⟩
set_option maxHeartbeats 1000000 in
set_option maxRecDepth 20000 in
/-- .. and of one from which the file beside cannot go. -/
theorem sopen_err (db mb tb : Nat) (D : DiskS) (w : World) (hd : DiskIs w db mb tb D) (hw : DGood D) (hg : (goneD D).2 ≠ 0) :
    Calls Try.prog 34 #[.pointer (some ⟨db, 0, none⟩)] w fun e w' => e = .returned (.tuple #[.pointer none, .int .i64 (goneD D).2]) ∧ DiskIs w' db mb tb (goneD D).1 ∧ Kept w w' (Own3 db mb tb) := by
  have HD := Lib.hid hd
  have HW := Lib.hid hw
  obtain ⟨r, hr⟩ : ∃ r, goneD D = r := ⟨_, rfl⟩
  obtain ⟨D1, e1⟩ := r
  have HR := Lib.hid hr
  rw [hr] at hg ⊢
  have hgb : ((e1 : Int) != 0) = true := by simp; simp at hg; omega
  clear hd hw hg hr
  go_enter Try.func34, Try.ntmps34
  go_wp2_with fail
  have B1 : Hid (Below w.heap.size w (w.alloc (.cells #[.pointer (some ⟨db, 0, none⟩), .int .u64 0, .int .u64 0, .slice none 0 0, .slice none 0 0] 63))) := Lib.hid ((Below.refl _ _).alloc (Nat.le_refl _) _)
  have C1 : Hid ((w.alloc (.cells #[.pointer (some ⟨db, 0, none⟩), .int .u64 0, .int .u64 0, .slice none 0 0, .slice none 0 0] 63)).cell? ⟨w.heap.size, 0, none⟩ = some (.pointer (some ⟨db, 0, none⟩))) := Lib.hid (by go_cell)
  generalize World.alloc w _ = w1 at *
  refine (sgone_any w.heap.size db mb tb D w1 C1.out (HD.out.below B1.out) HW.out).mono ?_
  rintro e w2 ⟨rfl, hd2, hk2⟩
  rw [HR.out] at hd2 ⊢
  have D2 := Lib.hid hd2
  have K2 : Hid (Kept w w2 (Own3 db mb tb)) := Lib.hid ((Kept.below3 B1.out).trans hk2)
  clear hd2 hk2
  go_wp2_with fail
  go_ret2
  exact ⟨rfl, D2.out, K2.out⟩
end Go.Proofs.Ytofhccpagnkalaa
