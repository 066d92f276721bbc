/- Several texts in one: Rsv, Dst. What each proves stands ahead of it; together they serve splays_law_holds. No conditions but those stated. -/
import Derived.Test.YtofhccpagnkalaaGreatSpb29
import Derived.Test.YtofhccpagnkalaaGreatSpb28
import Derived.Test.YtofhccpagnkalaaGreatSpb12
import Derived.Test.YtofhccpagnkalaaGreatSpb2
import Derived.Test.YtofhccpagnkalaaGreatSpb25
/- The document's Save of a snapshot; contract; no conditions but the ranges. -/
namespace Go.Proofs.YtofhccpagnkalaaGreat
open Go.RowKit Go.Maps Go.Proofs.Own

theorem save4_down {D : DiskS} (h : D.down = true) (b : List Nat) : save4 D b = (D, 50) := by
  rw [save4_into]
  have h1 : vgoneD D nOther = (D, 50) := by unfold vgoneD; rw [removeD_down h]; rfl
  exact into_1 h1 (by decide)
/-- What the document's Save tells: OV the snapshot that is handed back. -/
def RSave (R : DiskS × Nat) (OV v0 : Value) (w : World) : Ending → World → Prop := fun e w' => ∃ vd, e = .returned (.tuple #[vd, OV, .int .i64 R.2]) ∧ RIs w' vd R.1 ∧ Below w.heap.size w w' ∧ ∀ g, fsOwn vd = some g → fsOwn v0 = some g ∨ w.heap.size ≤ g

set_option maxHeartbeats 4000000 in
set_option maxRecDepth 20000 in
theorem rsave_bad (a0 : Option Addr) (n0 c0 : Nat) (room : Int) (L : List FileS) (armed steps : Int) (down : Bool) (si st xi xt : Int) (pa qa ya za : Option Addr) (pn pc qn qc yn yc zn zc : Nat) (x : SnapS) (w : World) (hn : L.length = n0) (hr : SRow w 3 (.slice a0 n0 c0) (L.map rfV)) (hx : SnapIs w (.agg #[.int .u64 xi, .int .u64 xt, .slice ya yn yc, .slice za zn zc]) x) (hsn : x.okB = false) : Calls Tryz.prog 71 #[.agg #[.int .i64 room, .slice a0 n0 c0, .bool down, .int .i64 armed, .int .u64 steps], .agg #[.int .u64 si, .int .u64 st, .slice pa pn pc, .slice qa qn qc], .agg #[.int .u64 xi, .int .u64 xt, .slice ya yn yc, .slice za zn zc]] w (RSave (⟨room, L, down, armed, steps⟩, 2) (.agg #[.int .u64 si, .int .u64 st, .slice pa pn pc, .slice qa qn qc]) (.agg #[.int .i64 room, .slice a0 n0 c0, .bool down, .int .i64 armed, .int .u64 steps]) w) := by
  have HN0 := Lib.hid hn
  have HR := Lib.hid hr
  have HX := Lib.hid hx
  clear hn hr hx
  have HSN : Hid (x.okB = false) := Lib.hid hsn
  clear hsn
  have hz1 : (w.alloc (.cells #[.int .i64 room, .slice a0 n0 c0, .bool down, .int .i64 armed, .int .u64 steps] 29)).heap.size = w.heap.size + 1 := by simp
  have hz2 : ((w.alloc (.cells #[.int .i64 room, .slice a0 n0 c0, .bool down, .int .i64 armed, .int .u64 steps] 29)).alloc (.cells #[.int .u64 si, .int .u64 st, .slice pa pn pc, .slice qa qn qc] 40)).heap.size = w.heap.size + 1 + 1 := by simp
  have hz3 : (((w.alloc (.cells #[.int .i64 room, .slice a0 n0 c0, .bool down, .int .i64 armed, .int .u64 steps] 29)).alloc (.cells #[.int .u64 si, .int .u64 st, .slice pa pn pc, .slice qa qn qc] 40)).alloc (.cells #[.int .u64 xi, .int .u64 xt, .slice ya yn yc, .slice za zn zc] 40)).heap.size = w.heap.size + 1 + 1 + 1 := by simp
  have hz4 : ((((w.alloc (.cells #[.int .i64 room, .slice a0 n0 c0, .bool down, .int .i64 armed, .int .u64 steps] 29)).alloc (.cells #[.int .u64 si, .int .u64 st, .slice pa pn pc, .slice qa qn qc] 40)).alloc (.cells #[.int .u64 xi, .int .u64 xt, .slice ya yn yc, .slice za zn zc] 40)).alloc (.cells #[.int .i64 0, .slice none 0 0, .bool false, .int .i64 0, .int .u64 0] 29)).heap.size = w.heap.size + 1 + 1 + 1 + 1 := by simp
  have BX : RD (((((w.alloc (.cells #[.int .i64 room, .slice a0 n0 c0, .bool down, .int .i64 armed, .int .u64 steps] 29)).alloc (.cells #[.int .u64 si, .int .u64 st, .slice pa pn pc, .slice qa qn qc] 40)).alloc (.cells #[.int .u64 xi, .int .u64 xt, .slice ya yn yc, .slice za zn zc] 40)).alloc (.cells #[.int .i64 0, .slice none 0 0, .bool false, .int .i64 0, .int .u64 0] 29)).alloc (.cells #[.int .u64 0, .int .u64 0, .slice none 0 0, .slice none 0 0] 40)) w.heap.size ⟨room, L, down, armed, steps⟩ (.slice a0 n0 c0) := ((((RD.box w ⟨room, L, down, armed, steps⟩ (.slice a0 n0 c0)).below ((Below.refl _ _).alloc (Nat.le_refl _) _)).below ((Below.refl _ _).alloc (Nat.le_refl _) _)).below ((Below.refl _ _).alloc (Nat.le_refl _) _)).below ((Below.refl _ _).alloc (Nat.le_refl _) _)
  have BP : SBlk (((((w.alloc (.cells #[.int .i64 room, .slice a0 n0 c0, .bool down, .int .i64 armed, .int .u64 steps] 29)).alloc (.cells #[.int .u64 si, .int .u64 st, .slice pa pn pc, .slice qa qn qc] 40)).alloc (.cells #[.int .u64 xi, .int .u64 xt, .slice ya yn yc, .slice za zn zc] 40)).alloc (.cells #[.int .i64 0, .slice none 0 0, .bool false, .int .i64 0, .int .u64 0] 29)).alloc (.cells #[.int .u64 0, .int .u64 0, .slice none 0 0, .slice none 0 0] 40)) (w.heap.size + 1) si st (.slice pa pn pc) (.slice qa qn qc) := by
    have h := ((((SBlk.box (w.alloc (.cells #[.int .i64 room, .slice a0 n0 c0, .bool down, .int .i64 armed, .int .u64 steps] 29)) si st (.slice pa pn pc) (.slice qa qn qc))).below (((Below.refl _ _).alloc (Nat.le_refl _) _) : Below ((w.alloc (.cells #[.int .i64 room, .slice a0 n0 c0, .bool down, .int .i64 armed, .int .u64 steps] 29)).alloc (.cells #[.int .u64 si, .int .u64 st, .slice pa pn pc, .slice qa qn qc] 40)).heap.size ((w.alloc (.cells #[.int .i64 room, .slice a0 n0 c0, .bool down, .int .i64 armed, .int .u64 steps] 29)).alloc (.cells #[.int .u64 si, .int .u64 st, .slice pa pn pc, .slice qa qn qc] 40)) (((w.alloc (.cells #[.int .i64 room, .slice a0 n0 c0, .bool down, .int .i64 armed, .int .u64 steps] 29)).alloc (.cells #[.int .u64 si, .int .u64 st, .slice pa pn pc, .slice qa qn qc] 40)).alloc (.cells #[.int .u64 xi, .int .u64 xt, .slice ya yn yc, .slice za zn zc] 40)))).below (((Below.refl _ _).alloc (Nat.le_refl _) _) : Below (((w.alloc (.cells #[.int .i64 room, .slice a0 n0 c0, .bool down, .int .i64 armed, .int .u64 steps] 29)).alloc (.cells #[.int .u64 si, .int .u64 st, .slice pa pn pc, .slice qa qn qc] 40)).alloc (.cells #[.int .u64 xi, .int .u64 xt, .slice ya yn yc, .slice za zn zc] 40)).heap.size (((w.alloc (.cells #[.int .i64 room, .slice a0 n0 c0, .bool down, .int .i64 armed, .int .u64 steps] 29)).alloc (.cells #[.int .u64 si, .int .u64 st, .slice pa pn pc, .slice qa qn qc] 40)).alloc (.cells #[.int .u64 xi, .int .u64 xt, .slice ya yn yc, .slice za zn zc] 40)) ((((w.alloc (.cells #[.int .i64 room, .slice a0 n0 c0, .bool down, .int .i64 armed, .int .u64 steps] 29)).alloc (.cells #[.int .u64 si, .int .u64 st, .slice pa pn pc, .slice qa qn qc] 40)).alloc (.cells #[.int .u64 xi, .int .u64 xt, .slice ya yn yc, .slice za zn zc] 40)).alloc (.cells #[.int .i64 0, .slice none 0 0, .bool false, .int .i64 0, .int .u64 0] 29)))).below (((Below.refl _ _).alloc (Nat.le_refl _) _) : Below ((((w.alloc (.cells #[.int .i64 room, .slice a0 n0 c0, .bool down, .int .i64 armed, .int .u64 steps] 29)).alloc (.cells #[.int .u64 si, .int .u64 st, .slice pa pn pc, .slice qa qn qc] 40)).alloc (.cells #[.int .u64 xi, .int .u64 xt, .slice ya yn yc, .slice za zn zc] 40)).alloc (.cells #[.int .i64 0, .slice none 0 0, .bool false, .int .i64 0, .int .u64 0] 29)).heap.size ((((w.alloc (.cells #[.int .i64 room, .slice a0 n0 c0, .bool down, .int .i64 armed, .int .u64 steps] 29)).alloc (.cells #[.int .u64 si, .int .u64 st, .slice pa pn pc, .slice qa qn qc] 40)).alloc (.cells #[.int .u64 xi, .int .u64 xt, .slice ya yn yc, .slice za zn zc] 40)).alloc (.cells #[.int .i64 0, .slice none 0 0, .bool false, .int .i64 0, .int .u64 0] 29)) (((((w.alloc (.cells #[.int .i64 room, .slice a0 n0 c0, .bool down, .int .i64 armed, .int .u64 steps] 29)).alloc (.cells #[.int .u64 si, .int .u64 st, .slice pa pn pc, .slice qa qn qc] 40)).alloc (.cells #[.int .u64 xi, .int .u64 xt, .slice ya yn yc, .slice za zn zc] 40)).alloc (.cells #[.int .i64 0, .slice none 0 0, .bool false, .int .i64 0, .int .u64 0] 29)).alloc (.cells #[.int .u64 0, .int .u64 0, .slice none 0 0, .slice none 0 0] 40)))
    rw [hz1] at h
    exact h
  have BQ : SBlk (((((w.alloc (.cells #[.int .i64 room, .slice a0 n0 c0, .bool down, .int .i64 armed, .int .u64 steps] 29)).alloc (.cells #[.int .u64 si, .int .u64 st, .slice pa pn pc, .slice qa qn qc] 40)).alloc (.cells #[.int .u64 xi, .int .u64 xt, .slice ya yn yc, .slice za zn zc] 40)).alloc (.cells #[.int .i64 0, .slice none 0 0, .bool false, .int .i64 0, .int .u64 0] 29)).alloc (.cells #[.int .u64 0, .int .u64 0, .slice none 0 0, .slice none 0 0] 40)) (w.heap.size + 1 + 1) xi xt (.slice ya yn yc) (.slice za zn zc) := by
    have h := (((SBlk.box ((w.alloc (.cells #[.int .i64 room, .slice a0 n0 c0, .bool down, .int .i64 armed, .int .u64 steps] 29)).alloc (.cells #[.int .u64 si, .int .u64 st, .slice pa pn pc, .slice qa qn qc] 40)) xi xt (.slice ya yn yc) (.slice za zn zc))).below (((Below.refl _ _).alloc (Nat.le_refl _) _) : Below (((w.alloc (.cells #[.int .i64 room, .slice a0 n0 c0, .bool down, .int .i64 armed, .int .u64 steps] 29)).alloc (.cells #[.int .u64 si, .int .u64 st, .slice pa pn pc, .slice qa qn qc] 40)).alloc (.cells #[.int .u64 xi, .int .u64 xt, .slice ya yn yc, .slice za zn zc] 40)).heap.size (((w.alloc (.cells #[.int .i64 room, .slice a0 n0 c0, .bool down, .int .i64 armed, .int .u64 steps] 29)).alloc (.cells #[.int .u64 si, .int .u64 st, .slice pa pn pc, .slice qa qn qc] 40)).alloc (.cells #[.int .u64 xi, .int .u64 xt, .slice ya yn yc, .slice za zn zc] 40)) ((((w.alloc (.cells #[.int .i64 room, .slice a0 n0 c0, .bool down, .int .i64 armed, .int .u64 steps] 29)).alloc (.cells #[.int .u64 si, .int .u64 st, .slice pa pn pc, .slice qa qn qc] 40)).alloc (.cells #[.int .u64 xi, .int .u64 xt, .slice ya yn yc, .slice za zn zc] 40)).alloc (.cells #[.int .i64 0, .slice none 0 0, .bool false, .int .i64 0, .int .u64 0] 29)))).below (((Below.refl _ _).alloc (Nat.le_refl _) _) : Below ((((w.alloc (.cells #[.int .i64 room, .slice a0 n0 c0, .bool down, .int .i64 armed, .int .u64 steps] 29)).alloc (.cells #[.int .u64 si, .int .u64 st, .slice pa pn pc, .slice qa qn qc] 40)).alloc (.cells #[.int .u64 xi, .int .u64 xt, .slice ya yn yc, .slice za zn zc] 40)).alloc (.cells #[.int .i64 0, .slice none 0 0, .bool false, .int .i64 0, .int .u64 0] 29)).heap.size ((((w.alloc (.cells #[.int .i64 room, .slice a0 n0 c0, .bool down, .int .i64 armed, .int .u64 steps] 29)).alloc (.cells #[.int .u64 si, .int .u64 st, .slice pa pn pc, .slice qa qn qc] 40)).alloc (.cells #[.int .u64 xi, .int .u64 xt, .slice ya yn yc, .slice za zn zc] 40)).alloc (.cells #[.int .i64 0, .slice none 0 0, .bool false, .int .i64 0, .int .u64 0] 29)) (((((w.alloc (.cells #[.int .i64 room, .slice a0 n0 c0, .bool down, .int .i64 armed, .int .u64 steps] 29)).alloc (.cells #[.int .u64 si, .int .u64 st, .slice pa pn pc, .slice qa qn qc] 40)).alloc (.cells #[.int .u64 xi, .int .u64 xt, .slice ya yn yc, .slice za zn zc] 40)).alloc (.cells #[.int .i64 0, .slice none 0 0, .bool false, .int .i64 0, .int .u64 0] 29)).alloc (.cells #[.int .u64 0, .int .u64 0, .slice none 0 0, .slice none 0 0] 40)))
    rw [hz2] at h
    exact h
  have BZ : RD (((((w.alloc (.cells #[.int .i64 room, .slice a0 n0 c0, .bool down, .int .i64 armed, .int .u64 steps] 29)).alloc (.cells #[.int .u64 si, .int .u64 st, .slice pa pn pc, .slice qa qn qc] 40)).alloc (.cells #[.int .u64 xi, .int .u64 xt, .slice ya yn yc, .slice za zn zc] 40)).alloc (.cells #[.int .i64 0, .slice none 0 0, .bool false, .int .i64 0, .int .u64 0] 29)).alloc (.cells #[.int .u64 0, .int .u64 0, .slice none 0 0, .slice none 0 0] 40)) (w.heap.size + 1 + 1 + 1) zeroD (.slice none 0 0) := by
    have h := ((RD.zero (((w.alloc (.cells #[.int .i64 room, .slice a0 n0 c0, .bool down, .int .i64 armed, .int .u64 steps] 29)).alloc (.cells #[.int .u64 si, .int .u64 st, .slice pa pn pc, .slice qa qn qc] 40)).alloc (.cells #[.int .u64 xi, .int .u64 xt, .slice ya yn yc, .slice za zn zc] 40)))).below (((Below.refl _ _).alloc (Nat.le_refl _) _) : Below ((((w.alloc (.cells #[.int .i64 room, .slice a0 n0 c0, .bool down, .int .i64 armed, .int .u64 steps] 29)).alloc (.cells #[.int .u64 si, .int .u64 st, .slice pa pn pc, .slice qa qn qc] 40)).alloc (.cells #[.int .u64 xi, .int .u64 xt, .slice ya yn yc, .slice za zn zc] 40)).alloc (.cells #[.int .i64 0, .slice none 0 0, .bool false, .int .i64 0, .int .u64 0] 29)).heap.size ((((w.alloc (.cells #[.int .i64 room, .slice a0 n0 c0, .bool down, .int .i64 armed, .int .u64 steps] 29)).alloc (.cells #[.int .u64 si, .int .u64 st, .slice pa pn pc, .slice qa qn qc] 40)).alloc (.cells #[.int .u64 xi, .int .u64 xt, .slice ya yn yc, .slice za zn zc] 40)).alloc (.cells #[.int .i64 0, .slice none 0 0, .bool false, .int .i64 0, .int .u64 0] 29)) (((((w.alloc (.cells #[.int .i64 room, .slice a0 n0 c0, .bool down, .int .i64 armed, .int .u64 steps] 29)).alloc (.cells #[.int .u64 si, .int .u64 st, .slice pa pn pc, .slice qa qn qc] 40)).alloc (.cells #[.int .u64 xi, .int .u64 xt, .slice ya yn yc, .slice za zn zc] 40)).alloc (.cells #[.int .i64 0, .slice none 0 0, .bool false, .int .i64 0, .int .u64 0] 29)).alloc (.cells #[.int .u64 0, .int .u64 0, .slice none 0 0, .slice none 0 0] 40)))
    rw [hz3] at h
    exact h
  have BY : SBlk (((((w.alloc (.cells #[.int .i64 room, .slice a0 n0 c0, .bool down, .int .i64 armed, .int .u64 steps] 29)).alloc (.cells #[.int .u64 si, .int .u64 st, .slice pa pn pc, .slice qa qn qc] 40)).alloc (.cells #[.int .u64 xi, .int .u64 xt, .slice ya yn yc, .slice za zn zc] 40)).alloc (.cells #[.int .i64 0, .slice none 0 0, .bool false, .int .i64 0, .int .u64 0] 29)).alloc (.cells #[.int .u64 0, .int .u64 0, .slice none 0 0, .slice none 0 0] 40)) (w.heap.size + 1 + 1 + 1 + 1) 0 0 (.slice none 0 0) (.slice none 0 0) := by
    have h := (SBlk.new ((((w.alloc (.cells #[.int .i64 room, .slice a0 n0 c0, .bool down, .int .i64 armed, .int .u64 steps] 29)).alloc (.cells #[.int .u64 si, .int .u64 st, .slice pa pn pc, .slice qa qn qc] 40)).alloc (.cells #[.int .u64 xi, .int .u64 xt, .slice ya yn yc, .slice za zn zc] 40)).alloc (.cells #[.int .i64 0, .slice none 0 0, .bool false, .int .i64 0, .int .u64 0] 29)))
    rw [hz4] at h
    exact h
  have BB : Below w.heap.size w (((((w.alloc (.cells #[.int .i64 room, .slice a0 n0 c0, .bool down, .int .i64 armed, .int .u64 steps] 29)).alloc (.cells #[.int .u64 si, .int .u64 st, .slice pa pn pc, .slice qa qn qc] 40)).alloc (.cells #[.int .u64 xi, .int .u64 xt, .slice ya yn yc, .slice za zn zc] 40)).alloc (.cells #[.int .i64 0, .slice none 0 0, .bool false, .int .i64 0, .int .u64 0] 29)).alloc (.cells #[.int .u64 0, .int .u64 0, .slice none 0 0, .slice none 0 0] 40)) := (((((Below.refl _ _).alloc (Nat.le_refl _) _).alloc (by simp) _).alloc (by simp; omega) _).alloc (by simp; omega) _).alloc (by simp; omega) _
  have SS := HR.out.below BB
  have FO0 : Hid (∀ g, (.slice a0 n0 c0 : Value).ownBlock = some g → (.slice a0 n0 c0 : Value).ownBlock = some g ∨ w.heap.size ≤ g) := Lib.hid (fun g h => .inl h)
  clear hz1 hz2 hz3 hz4
  go_enter Tryz.func71, Tryz.ntmps71
  go_wp2_with fail
  generalize World.alloc (World.alloc (World.alloc (World.alloc (World.alloc w _) _) _) _) _ = w1 at *
  have X1 := Lib.hid BX
  have P1 := Lib.hid BP
  have Q1 := Lib.hid BQ
  have Z1 := Lib.hid BZ
  have Y1 := Lib.hid BY
  have B1 := Lib.hid BB
  have S1 := Lib.hid SS
  clear BX BP BQ BZ BY BB SS
  obtain ⟨r0, r1, r2, r3, r4, f0, f1, f2, f3, f4⟩ := X1.out
  obtain ⟨p0, p1, p2, p3, _, _, _, _⟩ := P1.out
  obtain ⟨q0, q1, q2, q3, _, _, _, _⟩ := Q1.out
  obtain ⟨z0, z1, z2, z3, z4, g0, g1, g2, g3, g4⟩ := Z1.out
  obtain ⟨y0, y1, y2, y3, e0, e1, e2, e3⟩ := Y1.out
  have hlx := X1.out.lt
  have hlp := P1.out.lt
  have hlq := Q1.out.lt
  have hlz := Z1.out.lt
  have hly := Y1.out.lt
  go_wp2_with fail
  refine (rsound_any _ x w1 (HX.out.below B1.out)).mono ?_
  rintro e w2 ⟨rfl, hb2⟩
  have X2 := Lib.hid (X1.out.below hb2)
  have P2 := Lib.hid (P1.out.below hb2)
  have Q2 := Lib.hid (Q1.out.below hb2)
  have Z2 := Lib.hid (Z1.out.below hb2)
  have Y2 := Lib.hid (Y1.out.below hb2)
  have S2 := Lib.hid (S1.out.below hb2)
  have B2 : Hid (Below w.heap.size w w2) := Lib.hid (B1.out.trans (hb2.mono B1.out.size))
  clear hb2
  clear r0 r1 r2 r3 r4 f0 f1 f2 f3 f4 p0 p1 p2 p3 q0 q1 q2 q3 z0 z1 z2 z3 z4 g0 g1 g2 g3 g4 y0 y1 y2 y3 e0 e1 e2 e3 hlx hlp hlq hlz hly
  clear X1 P1 Q1 Z1 Y1 S1 B1
  rw [HSN.out]
  go_wp2_with fail
  obtain ⟨r0, r1, r2, r3, r4, f0, f1, f2, f3, f4⟩ := X2.out
  obtain ⟨p0, p1, p2, p3, _, _, _, _⟩ := P2.out
  obtain ⟨q0, q1, q2, q3, _, _, _, _⟩ := Q2.out
  obtain ⟨z0, z1, z2, z3, z4, g0, g1, g2, g3, g4⟩ := Z2.out
  obtain ⟨y0, y1, y2, y3, e0, e1, e2, e3⟩ := Y2.out
  have hlx := X2.out.lt
  have hlp := P2.out.lt
  have hlq := Q2.out.lt
  have hlz := Z2.out.lt
  have hly := Y2.out.lt
  have J1 : Hid (RD (set5D w2 (w.heap.size + 1 + 1 + 1) ⟨room, L, down, armed, steps⟩ (.slice a0 n0 c0)) w.heap.size ⟨room, L, down, armed, steps⟩ (.slice a0 n0 c0) ∧ SBlk (set5D w2 (w.heap.size + 1 + 1 + 1) ⟨room, L, down, armed, steps⟩ (.slice a0 n0 c0)) (w.heap.size + 1) si st (.slice pa pn pc) (.slice qa qn qc)) := Lib.hid ⟨X2.out.kept (Kept.set5D w2 (w.heap.size + 1 + 1 + 1) ⟨room, L, down, armed, steps⟩ (.slice a0 n0 c0)) (by omega), P2.out.kept (Kept.set5D w2 (w.heap.size + 1 + 1 + 1) ⟨room, L, down, armed, steps⟩ (.slice a0 n0 c0)) (by omega)⟩
  have J2 : Hid (RD (set5D w2 (w.heap.size + 1 + 1 + 1) ⟨room, L, down, armed, steps⟩ (.slice a0 n0 c0)).drew w.heap.size ⟨room, L, down, armed, steps⟩ (.slice a0 n0 c0) ∧ SBlk (set5D w2 (w.heap.size + 1 + 1 + 1) ⟨room, L, down, armed, steps⟩ (.slice a0 n0 c0)).drew (w.heap.size + 1) si st (.slice pa pn pc) (.slice qa qn qc)) := Lib.hid ⟨J1.out.1.below ((Below.refl _ _).drew), J1.out.2.below ((Below.refl _ _).drew)⟩
  unfold set5D at J1 J2
  simp only at J1 J2
  refine region_start [0, 0, 1, 7, 15] 4 (fun w' => RD w' w.heap.size ⟨room, L, down, armed, steps⟩ (.slice a0 n0 c0) ∧ SBlk w' (w.heap.size + 1) si st (.slice pa pn pc) (.slice qa qn qc)) (by kernel_rfl) ?_
  refine stage_heads [0, 1] (by kernel_rfl) (L := #[true, true, false, false, false]) (by kernel_rfl) (f' := 3) rfl (fun _ _ _ _ h => h) (fun w o h => ⟨h.1.below ((Below.refl _ _).alloc (Nat.le_refl _) o), h.2.below ((Below.refl _ _).alloc (Nat.le_refl _) o)⟩) (.inr (by first | exact ⟨X2.out.below ((Below.refl _ _).drew), P2.out.below ((Below.refl _ _).drew)⟩ | exact ⟨X2.out, P2.out⟩)) ?_
  simp only [List.flatMap_cons, List.flatMap_nil, List.drop_succ_cons, List.drop_zero, List.take_succ_cons, List.take_zero, List.cons_append, List.nil_append, List.append_nil]
  iterate 2 (first | (refine heads_load _ (by rfl) (fun w' hs => by obtain ⟨⟨r0, r1, r2, r3, r4, _⟩, b0, b1, b2, b3, _⟩ := hs; go_simp; try with_reducible rfl) rfl ?_; simp only [Act.put, List.setIfInBounds_toArray, List.set_cons_zero, List.set_cons_succ]) | (refine heads_pure _ (by rfl) (fun w' => by go_simp; try with_reducible rfl) ?_; simp only [Act.put, List.setIfInBounds_toArray, List.set_cons_zero, List.set_cons_succ]))
  refine heads_nil ?_
  refine stage_op 2 (by kernel_rfl) (L := #[true, true, true, false, false]) (by kernel_rfl) ?_
  simp only [List.drop_succ_cons, List.drop_zero, List.take_succ_cons, List.take_zero]
  go_wp2_with fail
  refine step_post (fun _ => (by first | exact J2.out | exact J1.out)) ?_
  refine stage_op 3 (by kernel_rfl) (L := #[true, true, true, true, false]) (by kernel_rfl) ?_
  simp only [List.drop_succ_cons, List.drop_zero, List.take_succ_cons, List.take_zero]
  go_wp2_with fail
  refine step_post nofun ?_
  refine stage_heads [4] (by kernel_rfl) (L := #[true, true, true, true, true]) (by kernel_rfl) (f' := 0) rfl (fun _ _ _ _ h => h) (fun w o h => ⟨h.1.below ((Below.refl _ _).alloc (Nat.le_refl _) o), h.2.below ((Below.refl _ _).alloc (Nat.le_refl _) o)⟩) (.inl (by kernel_rfl)) ?_
  simp only [List.flatMap_cons, List.flatMap_nil, List.drop_succ_cons, List.drop_zero, List.take_succ_cons, List.take_zero, List.append_nil]
  iterate 1 (refine heads_pure _ (by rfl) (fun w' => by go_simp; try with_reducible rfl) ?_; simp only [Act.put, List.setIfInBounds_toArray, List.set_cons_zero, List.set_cons_succ])
  refine heads_nil ?_
  refine stage_done (by kernel_rfl) ?_
  generalize hwz : World.drew _ = wz
  have W1 : wz = ((((((((((w2.setCell ⟨(w.heap.size + 1 + 1 + 1), 0, none⟩ (.int .i64 room)).setCell ⟨(w.heap.size + 1 + 1 + 1), 1, none⟩ (.slice a0 n0 c0)).setCell ⟨(w.heap.size + 1 + 1 + 1), 2, none⟩ (.bool down)).setCell ⟨(w.heap.size + 1 + 1 + 1), 3, none⟩ (.int .i64 armed)).setCell ⟨(w.heap.size + 1 + 1 + 1), 4, none⟩ (.int .u64 steps))).setCell ⟨(w.heap.size + 1 + 1 + 1 + 1), 0, none⟩ (.int .u64 si)).setCell ⟨(w.heap.size + 1 + 1 + 1 + 1), 1, none⟩ (.int .u64 st)).setCell ⟨(w.heap.size + 1 + 1 + 1 + 1), 2, none⟩ (.slice pa pn pc)).setCell ⟨(w.heap.size + 1 + 1 + 1 + 1), 3, none⟩ (.slice qa qn qc)).drew := hwz.symm
  have KS := Kept.set5D w2 (w.heap.size + 1 + 1 + 1) ⟨room, L, down, armed, steps⟩ (.slice a0 n0 c0)
  have RFF := (Z2.out.set ⟨room, L, down, armed, steps⟩ (.slice a0 n0 c0))
  have YS := Y2.out.kept KS (by omega)
  have SS := S2.out.setD Z2.out (fun s e => by cases e) ⟨room, L, down, armed, steps⟩ (.slice a0 n0 c0)
  have K4 := Kept.set4 (set5D w2 (w.heap.size + 1 + 1 + 1) ⟨room, L, down, armed, steps⟩ (.slice a0 n0 c0)) (w.heap.size + 1 + 1 + 1 + 1) si st (.slice pa pn pc) (.slice qa qn qc)
  have RFG0 := (RFF.kept K4 (by omega)).below ((Below.refl _ _).drew)
  have RFY0 := (YS.set4 si st (.slice pa pn pc) (.slice qa qn qc)).below ((Below.refl _ _).drew)
  have SF0 := (SS.setSn (p := none) (q := none) YS si st (.slice pa pn pc) (.slice qa qn qc)).below ((Below.refl _ _).drew)
  have BF0 := B2.out.trans (KS.below B2.out.size (fun k hk => by omega))
  have BF1 := (BF0.trans (K4.below BF0.size (fun k hk => by omega))).drew
  unfold set5D at RFG0 RFY0 SF0 BF1
  simp only at RFG0 RFY0 SF0 BF1
  rw [← W1] at RFG0 RFY0 SF0 BF1
  have RFG := Lib.hid RFG0
  have RFY := Lib.hid RFY0
  have SF := Lib.hid SF0
  have BF := Lib.hid BF1
  clear KS RFF YS SS K4 RFG0 RFY0 SF0 BF0 BF1 W1 hwz
  clear r0 r1 r2 r3 r4 f0 f1 f2 f3 f4 p0 p1 p2 p3 q0 q1 q2 q3 z0 z1 z2 z3 z4 g0 g1 g2 g3 g4 y0 y1 y2 y3 e0 e1 e2 e3 hlx hlp hlq hlz hly
  obtain ⟨q0, q1, q2, q3, q4, _⟩ := RFG.out
  obtain ⟨u0, u1, u2, u3, _⟩ := RFY.out
  simp only at q0 q1 q2 q3 q4
  go_wp2_with fail
  refine bodyPost_ret (v := .tuple #[.agg #[.int .i64 room, .slice a0 n0 c0, .bool down, .int .i64 armed, .int .u64 steps], .agg #[.int .u64 si, .int .u64 st, .slice pa pn pc, .slice qa qn qc], .int .i64 2]) (by simp [results, Tryz.results71, go_sem, q0, q1, q2, q3, q4, u0, u1, u2, u3]) rfl ?_

  exact ⟨_, rfl, RIs.new (D := ⟨room, L, down, armed, steps⟩) HN0.out SF.out, BF.out, FO0.out⟩
set_option maxHeartbeats 4000000 in
set_option maxRecDepth 20000 in
theorem rsave_old (a0 : Option Addr) (n0 c0 : Nat) (room : Int) (L : List FileS) (armed steps : Int) (down : Bool) (si st xi xt : Int) (pa qa ya za : Option Addr) (pn pc qn qc yn yc zn zc : Nat) (x : SnapS) (w : World) (hn : L.length = n0) (hr : SRow w 3 (.slice a0 n0 c0) (L.map rfV)) (hx : SnapIs w (.agg #[.int .u64 xi, .int .u64 xt, .slice ya yn yc, .slice za zn zc]) x) (hsn : x.okB = true) (hle : xi ≤ si) : Calls Tryz.prog 71 #[.agg #[.int .i64 room, .slice a0 n0 c0, .bool down, .int .i64 armed, .int .u64 steps], .agg #[.int .u64 si, .int .u64 st, .slice pa pn pc, .slice qa qn qc], .agg #[.int .u64 xi, .int .u64 xt, .slice ya yn yc, .slice za zn zc]] w (RSave (⟨room, L, down, armed, steps⟩, 34) (.agg #[.int .u64 si, .int .u64 st, .slice pa pn pc, .slice qa qn qc]) (.agg #[.int .i64 room, .slice a0 n0 c0, .bool down, .int .i64 armed, .int .u64 steps]) w) := by
  have HN0 := Lib.hid hn
  have HR := Lib.hid hr
  have HX := Lib.hid hx
  clear hn hr hx
  have HSN : Hid (x.okB = true) := Lib.hid hsn
  clear hsn
  have hz1 : (w.alloc (.cells #[.int .i64 room, .slice a0 n0 c0, .bool down, .int .i64 armed, .int .u64 steps] 29)).heap.size = w.heap.size + 1 := by simp
  have hz2 : ((w.alloc (.cells #[.int .i64 room, .slice a0 n0 c0, .bool down, .int .i64 armed, .int .u64 steps] 29)).alloc (.cells #[.int .u64 si, .int .u64 st, .slice pa pn pc, .slice qa qn qc] 40)).heap.size = w.heap.size + 1 + 1 := by simp
  have hz3 : (((w.alloc (.cells #[.int .i64 room, .slice a0 n0 c0, .bool down, .int .i64 armed, .int .u64 steps] 29)).alloc (.cells #[.int .u64 si, .int .u64 st, .slice pa pn pc, .slice qa qn qc] 40)).alloc (.cells #[.int .u64 xi, .int .u64 xt, .slice ya yn yc, .slice za zn zc] 40)).heap.size = w.heap.size + 1 + 1 + 1 := by simp
  have hz4 : ((((w.alloc (.cells #[.int .i64 room, .slice a0 n0 c0, .bool down, .int .i64 armed, .int .u64 steps] 29)).alloc (.cells #[.int .u64 si, .int .u64 st, .slice pa pn pc, .slice qa qn qc] 40)).alloc (.cells #[.int .u64 xi, .int .u64 xt, .slice ya yn yc, .slice za zn zc] 40)).alloc (.cells #[.int .i64 0, .slice none 0 0, .bool false, .int .i64 0, .int .u64 0] 29)).heap.size = w.heap.size + 1 + 1 + 1 + 1 := by simp
  have BX : RD (((((w.alloc (.cells #[.int .i64 room, .slice a0 n0 c0, .bool down, .int .i64 armed, .int .u64 steps] 29)).alloc (.cells #[.int .u64 si, .int .u64 st, .slice pa pn pc, .slice qa qn qc] 40)).alloc (.cells #[.int .u64 xi, .int .u64 xt, .slice ya yn yc, .slice za zn zc] 40)).alloc (.cells #[.int .i64 0, .slice none 0 0, .bool false, .int .i64 0, .int .u64 0] 29)).alloc (.cells #[.int .u64 0, .int .u64 0, .slice none 0 0, .slice none 0 0] 40)) w.heap.size ⟨room, L, down, armed, steps⟩ (.slice a0 n0 c0) := ((((RD.box w ⟨room, L, down, armed, steps⟩ (.slice a0 n0 c0)).below ((Below.refl _ _).alloc (Nat.le_refl _) _)).below ((Below.refl _ _).alloc (Nat.le_refl _) _)).below ((Below.refl _ _).alloc (Nat.le_refl _) _)).below ((Below.refl _ _).alloc (Nat.le_refl _) _)
  have BP : SBlk (((((w.alloc (.cells #[.int .i64 room, .slice a0 n0 c0, .bool down, .int .i64 armed, .int .u64 steps] 29)).alloc (.cells #[.int .u64 si, .int .u64 st, .slice pa pn pc, .slice qa qn qc] 40)).alloc (.cells #[.int .u64 xi, .int .u64 xt, .slice ya yn yc, .slice za zn zc] 40)).alloc (.cells #[.int .i64 0, .slice none 0 0, .bool false, .int .i64 0, .int .u64 0] 29)).alloc (.cells #[.int .u64 0, .int .u64 0, .slice none 0 0, .slice none 0 0] 40)) (w.heap.size + 1) si st (.slice pa pn pc) (.slice qa qn qc) := by
    have h := ((((SBlk.box (w.alloc (.cells #[.int .i64 room, .slice a0 n0 c0, .bool down, .int .i64 armed, .int .u64 steps] 29)) si st (.slice pa pn pc) (.slice qa qn qc))).below (((Below.refl _ _).alloc (Nat.le_refl _) _) : Below ((w.alloc (.cells #[.int .i64 room, .slice a0 n0 c0, .bool down, .int .i64 armed, .int .u64 steps] 29)).alloc (.cells #[.int .u64 si, .int .u64 st, .slice pa pn pc, .slice qa qn qc] 40)).heap.size ((w.alloc (.cells #[.int .i64 room, .slice a0 n0 c0, .bool down, .int .i64 armed, .int .u64 steps] 29)).alloc (.cells #[.int .u64 si, .int .u64 st, .slice pa pn pc, .slice qa qn qc] 40)) (((w.alloc (.cells #[.int .i64 room, .slice a0 n0 c0, .bool down, .int .i64 armed, .int .u64 steps] 29)).alloc (.cells #[.int .u64 si, .int .u64 st, .slice pa pn pc, .slice qa qn qc] 40)).alloc (.cells #[.int .u64 xi, .int .u64 xt, .slice ya yn yc, .slice za zn zc] 40)))).below (((Below.refl _ _).alloc (Nat.le_refl _) _) : Below (((w.alloc (.cells #[.int .i64 room, .slice a0 n0 c0, .bool down, .int .i64 armed, .int .u64 steps] 29)).alloc (.cells #[.int .u64 si, .int .u64 st, .slice pa pn pc, .slice qa qn qc] 40)).alloc (.cells #[.int .u64 xi, .int .u64 xt, .slice ya yn yc, .slice za zn zc] 40)).heap.size (((w.alloc (.cells #[.int .i64 room, .slice a0 n0 c0, .bool down, .int .i64 armed, .int .u64 steps] 29)).alloc (.cells #[.int .u64 si, .int .u64 st, .slice pa pn pc, .slice qa qn qc] 40)).alloc (.cells #[.int .u64 xi, .int .u64 xt, .slice ya yn yc, .slice za zn zc] 40)) ((((w.alloc (.cells #[.int .i64 room, .slice a0 n0 c0, .bool down, .int .i64 armed, .int .u64 steps] 29)).alloc (.cells #[.int .u64 si, .int .u64 st, .slice pa pn pc, .slice qa qn qc] 40)).alloc (.cells #[.int .u64 xi, .int .u64 xt, .slice ya yn yc, .slice za zn zc] 40)).alloc (.cells #[.int .i64 0, .slice none 0 0, .bool false, .int .i64 0, .int .u64 0] 29)))).below (((Below.refl _ _).alloc (Nat.le_refl _) _) : Below ((((w.alloc (.cells #[.int .i64 room, .slice a0 n0 c0, .bool down, .int .i64 armed, .int .u64 steps] 29)).alloc (.cells #[.int .u64 si, .int .u64 st, .slice pa pn pc, .slice qa qn qc] 40)).alloc (.cells #[.int .u64 xi, .int .u64 xt, .slice ya yn yc, .slice za zn zc] 40)).alloc (.cells #[.int .i64 0, .slice none 0 0, .bool false, .int .i64 0, .int .u64 0] 29)).heap.size ((((w.alloc (.cells #[.int .i64 room, .slice a0 n0 c0, .bool down, .int .i64 armed, .int .u64 steps] 29)).alloc (.cells #[.int .u64 si, .int .u64 st, .slice pa pn pc, .slice qa qn qc] 40)).alloc (.cells #[.int .u64 xi, .int .u64 xt, .slice ya yn yc, .slice za zn zc] 40)).alloc (.cells #[.int .i64 0, .slice none 0 0, .bool false, .int .i64 0, .int .u64 0] 29)) (((((w.alloc (.cells #[.int .i64 room, .slice a0 n0 c0, .bool down, .int .i64 armed, .int .u64 steps] 29)).alloc (.cells #[.int .u64 si, .int .u64 st, .slice pa pn pc, .slice qa qn qc] 40)).alloc (.cells #[.int .u64 xi, .int .u64 xt, .slice ya yn yc, .slice za zn zc] 40)).alloc (.cells #[.int .i64 0, .slice none 0 0, .bool false, .int .i64 0, .int .u64 0] 29)).alloc (.cells #[.int .u64 0, .int .u64 0, .slice none 0 0, .slice none 0 0] 40)))
    rw [hz1] at h
    exact h
  have BQ : SBlk (((((w.alloc (.cells #[.int .i64 room, .slice a0 n0 c0, .bool down, .int .i64 armed, .int .u64 steps] 29)).alloc (.cells #[.int .u64 si, .int .u64 st, .slice pa pn pc, .slice qa qn qc] 40)).alloc (.cells #[.int .u64 xi, .int .u64 xt, .slice ya yn yc, .slice za zn zc] 40)).alloc (.cells #[.int .i64 0, .slice none 0 0, .bool false, .int .i64 0, .int .u64 0] 29)).alloc (.cells #[.int .u64 0, .int .u64 0, .slice none 0 0, .slice none 0 0] 40)) (w.heap.size + 1 + 1) xi xt (.slice ya yn yc) (.slice za zn zc) := by
    have h := (((SBlk.box ((w.alloc (.cells #[.int .i64 room, .slice a0 n0 c0, .bool down, .int .i64 armed, .int .u64 steps] 29)).alloc (.cells #[.int .u64 si, .int .u64 st, .slice pa pn pc, .slice qa qn qc] 40)) xi xt (.slice ya yn yc) (.slice za zn zc))).below (((Below.refl _ _).alloc (Nat.le_refl _) _) : Below (((w.alloc (.cells #[.int .i64 room, .slice a0 n0 c0, .bool down, .int .i64 armed, .int .u64 steps] 29)).alloc (.cells #[.int .u64 si, .int .u64 st, .slice pa pn pc, .slice qa qn qc] 40)).alloc (.cells #[.int .u64 xi, .int .u64 xt, .slice ya yn yc, .slice za zn zc] 40)).heap.size (((w.alloc (.cells #[.int .i64 room, .slice a0 n0 c0, .bool down, .int .i64 armed, .int .u64 steps] 29)).alloc (.cells #[.int .u64 si, .int .u64 st, .slice pa pn pc, .slice qa qn qc] 40)).alloc (.cells #[.int .u64 xi, .int .u64 xt, .slice ya yn yc, .slice za zn zc] 40)) ((((w.alloc (.cells #[.int .i64 room, .slice a0 n0 c0, .bool down, .int .i64 armed, .int .u64 steps] 29)).alloc (.cells #[.int .u64 si, .int .u64 st, .slice pa pn pc, .slice qa qn qc] 40)).alloc (.cells #[.int .u64 xi, .int .u64 xt, .slice ya yn yc, .slice za zn zc] 40)).alloc (.cells #[.int .i64 0, .slice none 0 0, .bool false, .int .i64 0, .int .u64 0] 29)))).below (((Below.refl _ _).alloc (Nat.le_refl _) _) : Below ((((w.alloc (.cells #[.int .i64 room, .slice a0 n0 c0, .bool down, .int .i64 armed, .int .u64 steps] 29)).alloc (.cells #[.int .u64 si, .int .u64 st, .slice pa pn pc, .slice qa qn qc] 40)).alloc (.cells #[.int .u64 xi, .int .u64 xt, .slice ya yn yc, .slice za zn zc] 40)).alloc (.cells #[.int .i64 0, .slice none 0 0, .bool false, .int .i64 0, .int .u64 0] 29)).heap.size ((((w.alloc (.cells #[.int .i64 room, .slice a0 n0 c0, .bool down, .int .i64 armed, .int .u64 steps] 29)).alloc (.cells #[.int .u64 si, .int .u64 st, .slice pa pn pc, .slice qa qn qc] 40)).alloc (.cells #[.int .u64 xi, .int .u64 xt, .slice ya yn yc, .slice za zn zc] 40)).alloc (.cells #[.int .i64 0, .slice none 0 0, .bool false, .int .i64 0, .int .u64 0] 29)) (((((w.alloc (.cells #[.int .i64 room, .slice a0 n0 c0, .bool down, .int .i64 armed, .int .u64 steps] 29)).alloc (.cells #[.int .u64 si, .int .u64 st, .slice pa pn pc, .slice qa qn qc] 40)).alloc (.cells #[.int .u64 xi, .int .u64 xt, .slice ya yn yc, .slice za zn zc] 40)).alloc (.cells #[.int .i64 0, .slice none 0 0, .bool false, .int .i64 0, .int .u64 0] 29)).alloc (.cells #[.int .u64 0, .int .u64 0, .slice none 0 0, .slice none 0 0] 40)))
    rw [hz2] at h
    exact h
  have BZ : RD (((((w.alloc (.cells #[.int .i64 room, .slice a0 n0 c0, .bool down, .int .i64 armed, .int .u64 steps] 29)).alloc (.cells #[.int .u64 si, .int .u64 st, .slice pa pn pc, .slice qa qn qc] 40)).alloc (.cells #[.int .u64 xi, .int .u64 xt, .slice ya yn yc, .slice za zn zc] 40)).alloc (.cells #[.int .i64 0, .slice none 0 0, .bool false, .int .i64 0, .int .u64 0] 29)).alloc (.cells #[.int .u64 0, .int .u64 0, .slice none 0 0, .slice none 0 0] 40)) (w.heap.size + 1 + 1 + 1) zeroD (.slice none 0 0) := by
    have h := ((RD.zero (((w.alloc (.cells #[.int .i64 room, .slice a0 n0 c0, .bool down, .int .i64 armed, .int .u64 steps] 29)).alloc (.cells #[.int .u64 si, .int .u64 st, .slice pa pn pc, .slice qa qn qc] 40)).alloc (.cells #[.int .u64 xi, .int .u64 xt, .slice ya yn yc, .slice za zn zc] 40)))).below (((Below.refl _ _).alloc (Nat.le_refl _) _) : Below ((((w.alloc (.cells #[.int .i64 room, .slice a0 n0 c0, .bool down, .int .i64 armed, .int .u64 steps] 29)).alloc (.cells #[.int .u64 si, .int .u64 st, .slice pa pn pc, .slice qa qn qc] 40)).alloc (.cells #[.int .u64 xi, .int .u64 xt, .slice ya yn yc, .slice za zn zc] 40)).alloc (.cells #[.int .i64 0, .slice none 0 0, .bool false, .int .i64 0, .int .u64 0] 29)).heap.size ((((w.alloc (.cells #[.int .i64 room, .slice a0 n0 c0, .bool down, .int .i64 armed, .int .u64 steps] 29)).alloc (.cells #[.int .u64 si, .int .u64 st, .slice pa pn pc, .slice qa qn qc] 40)).alloc (.cells #[.int .u64 xi, .int .u64 xt, .slice ya yn yc, .slice za zn zc] 40)).alloc (.cells #[.int .i64 0, .slice none 0 0, .bool false, .int .i64 0, .int .u64 0] 29)) (((((w.alloc (.cells #[.int .i64 room, .slice a0 n0 c0, .bool down, .int .i64 armed, .int .u64 steps] 29)).alloc (.cells #[.int .u64 si, .int .u64 st, .slice pa pn pc, .slice qa qn qc] 40)).alloc (.cells #[.int .u64 xi, .int .u64 xt, .slice ya yn yc, .slice za zn zc] 40)).alloc (.cells #[.int .i64 0, .slice none 0 0, .bool false, .int .i64 0, .int .u64 0] 29)).alloc (.cells #[.int .u64 0, .int .u64 0, .slice none 0 0, .slice none 0 0] 40)))
    rw [hz3] at h
    exact h
  have BY : SBlk (((((w.alloc (.cells #[.int .i64 room, .slice a0 n0 c0, .bool down, .int .i64 armed, .int .u64 steps] 29)).alloc (.cells #[.int .u64 si, .int .u64 st, .slice pa pn pc, .slice qa qn qc] 40)).alloc (.cells #[.int .u64 xi, .int .u64 xt, .slice ya yn yc, .slice za zn zc] 40)).alloc (.cells #[.int .i64 0, .slice none 0 0, .bool false, .int .i64 0, .int .u64 0] 29)).alloc (.cells #[.int .u64 0, .int .u64 0, .slice none 0 0, .slice none 0 0] 40)) (w.heap.size + 1 + 1 + 1 + 1) 0 0 (.slice none 0 0) (.slice none 0 0) := by
    have h := (SBlk.new ((((w.alloc (.cells #[.int .i64 room, .slice a0 n0 c0, .bool down, .int .i64 armed, .int .u64 steps] 29)).alloc (.cells #[.int .u64 si, .int .u64 st, .slice pa pn pc, .slice qa qn qc] 40)).alloc (.cells #[.int .u64 xi, .int .u64 xt, .slice ya yn yc, .slice za zn zc] 40)).alloc (.cells #[.int .i64 0, .slice none 0 0, .bool false, .int .i64 0, .int .u64 0] 29)))
    rw [hz4] at h
    exact h
  have BB : Below w.heap.size w (((((w.alloc (.cells #[.int .i64 room, .slice a0 n0 c0, .bool down, .int .i64 armed, .int .u64 steps] 29)).alloc (.cells #[.int .u64 si, .int .u64 st, .slice pa pn pc, .slice qa qn qc] 40)).alloc (.cells #[.int .u64 xi, .int .u64 xt, .slice ya yn yc, .slice za zn zc] 40)).alloc (.cells #[.int .i64 0, .slice none 0 0, .bool false, .int .i64 0, .int .u64 0] 29)).alloc (.cells #[.int .u64 0, .int .u64 0, .slice none 0 0, .slice none 0 0] 40)) := (((((Below.refl _ _).alloc (Nat.le_refl _) _).alloc (by simp) _).alloc (by simp; omega) _).alloc (by simp; omega) _).alloc (by simp; omega) _
  have SS := HR.out.below BB
  have FO0 : Hid (∀ g, (.slice a0 n0 c0 : Value).ownBlock = some g → (.slice a0 n0 c0 : Value).ownBlock = some g ∨ w.heap.size ≤ g) := Lib.hid (fun g h => .inl h)
  clear hz1 hz2 hz3 hz4
  go_enter Tryz.func71, Tryz.ntmps71
  go_wp2_with fail
  generalize World.alloc (World.alloc (World.alloc (World.alloc (World.alloc w _) _) _) _) _ = w1 at *
  have X1 := Lib.hid BX
  have P1 := Lib.hid BP
  have Q1 := Lib.hid BQ
  have Z1 := Lib.hid BZ
  have Y1 := Lib.hid BY
  have B1 := Lib.hid BB
  have S1 := Lib.hid SS
  clear BX BP BQ BZ BY BB SS
  obtain ⟨r0, r1, r2, r3, r4, f0, f1, f2, f3, f4⟩ := X1.out
  obtain ⟨p0, p1, p2, p3, _, _, _, _⟩ := P1.out
  obtain ⟨q0, q1, q2, q3, _, _, _, _⟩ := Q1.out
  obtain ⟨z0, z1, z2, z3, z4, g0, g1, g2, g3, g4⟩ := Z1.out
  obtain ⟨y0, y1, y2, y3, e0, e1, e2, e3⟩ := Y1.out
  have hlx := X1.out.lt
  have hlp := P1.out.lt
  have hlq := Q1.out.lt
  have hlz := Z1.out.lt
  have hly := Y1.out.lt
  go_wp2_with fail
  refine (rsound_any _ x w1 (HX.out.below B1.out)).mono ?_
  rintro e w2 ⟨rfl, hb2⟩
  have X2 := Lib.hid (X1.out.below hb2)
  have P2 := Lib.hid (P1.out.below hb2)
  have Q2 := Lib.hid (Q1.out.below hb2)
  have Z2 := Lib.hid (Z1.out.below hb2)
  have Y2 := Lib.hid (Y1.out.below hb2)
  have S2 := Lib.hid (S1.out.below hb2)
  have B2 : Hid (Below w.heap.size w w2) := Lib.hid (B1.out.trans (hb2.mono B1.out.size))
  clear hb2
  clear r0 r1 r2 r3 r4 f0 f1 f2 f3 f4 p0 p1 p2 p3 q0 q1 q2 q3 z0 z1 z2 z3 z4 g0 g1 g2 g3 g4 y0 y1 y2 y3 e0 e1 e2 e3 hlx hlp hlq hlz hly
  clear X1 P1 Q1 Z1 Y1 S1 B1
  rw [HSN.out]
  obtain ⟨r0, r1, r2, r3, r4, f0, f1, f2, f3, f4⟩ := X2.out
  obtain ⟨p0, p1, p2, p3, _, _, _, _⟩ := P2.out
  obtain ⟨q0, q1, q2, q3, _, _, _, _⟩ := Q2.out
  obtain ⟨z0, z1, z2, z3, z4, g0, g1, g2, g3, g4⟩ := Z2.out
  obtain ⟨y0, y1, y2, y3, e0, e1, e2, e3⟩ := Y2.out
  have hlx := X2.out.lt
  have hlp := P2.out.lt
  have hlq := Q2.out.lt
  have hlz := Z2.out.lt
  have hly := Y2.out.lt
  go_wp2_with fail
  clear r0 r1 r2 r3 r4 f0 f1 f2 f3 f4 p0 p1 p2 p3 q0 q1 q2 q3 z0 z1 z2 z3 z4 g0 g1 g2 g3 g4 y0 y1 y2 y3 e0 e1 e2 e3 hlx hlp hlq hlz hly
  obtain ⟨r0, r1, r2, r3, r4, f0, f1, f2, f3, f4⟩ := X2.out
  obtain ⟨p0, p1, p2, p3, _, _, _, _⟩ := P2.out
  obtain ⟨q0, q1, q2, q3, _, _, _, _⟩ := Q2.out
  obtain ⟨z0, z1, z2, z3, z4, g0, g1, g2, g3, g4⟩ := Z2.out
  obtain ⟨y0, y1, y2, y3, e0, e1, e2, e3⟩ := Y2.out
  have hlx := X2.out.lt
  have hlp := P2.out.lt
  have hlq := Q2.out.lt
  have hlz := Z2.out.lt
  have hly := Y2.out.lt
  have J1 : Hid (RD (set5D w2 (w.heap.size + 1 + 1 + 1) ⟨room, L, down, armed, steps⟩ (.slice a0 n0 c0)) w.heap.size ⟨room, L, down, armed, steps⟩ (.slice a0 n0 c0) ∧ SBlk (set5D w2 (w.heap.size + 1 + 1 + 1) ⟨room, L, down, armed, steps⟩ (.slice a0 n0 c0)) (w.heap.size + 1) si st (.slice pa pn pc) (.slice qa qn qc)) := Lib.hid ⟨X2.out.kept (Kept.set5D w2 (w.heap.size + 1 + 1 + 1) ⟨room, L, down, armed, steps⟩ (.slice a0 n0 c0)) (by omega), P2.out.kept (Kept.set5D w2 (w.heap.size + 1 + 1 + 1) ⟨room, L, down, armed, steps⟩ (.slice a0 n0 c0)) (by omega)⟩
  have J2 : Hid (RD (set5D w2 (w.heap.size + 1 + 1 + 1) ⟨room, L, down, armed, steps⟩ (.slice a0 n0 c0)).drew w.heap.size ⟨room, L, down, armed, steps⟩ (.slice a0 n0 c0) ∧ SBlk (set5D w2 (w.heap.size + 1 + 1 + 1) ⟨room, L, down, armed, steps⟩ (.slice a0 n0 c0)).drew (w.heap.size + 1) si st (.slice pa pn pc) (.slice qa qn qc)) := Lib.hid ⟨J1.out.1.below ((Below.refl _ _).drew), J1.out.2.below ((Below.refl _ _).drew)⟩
  unfold set5D at J1 J2
  simp only at J1 J2
  refine region_start [0, 0, 1, 7, 15] 4 (fun w' => RD w' w.heap.size ⟨room, L, down, armed, steps⟩ (.slice a0 n0 c0) ∧ SBlk w' (w.heap.size + 1) si st (.slice pa pn pc) (.slice qa qn qc)) (by kernel_rfl) ?_
  refine stage_heads [0, 1] (by kernel_rfl) (L := #[true, true, false, false, false]) (by kernel_rfl) (f' := 3) rfl (fun _ _ _ _ h => h) (fun w o h => ⟨h.1.below ((Below.refl _ _).alloc (Nat.le_refl _) o), h.2.below ((Below.refl _ _).alloc (Nat.le_refl _) o)⟩) (.inr (by first | exact ⟨X2.out.below ((Below.refl _ _).drew), P2.out.below ((Below.refl _ _).drew)⟩ | exact ⟨X2.out, P2.out⟩)) ?_
  simp only [List.flatMap_cons, List.flatMap_nil, List.drop_succ_cons, List.drop_zero, List.take_succ_cons, List.take_zero, List.cons_append, List.nil_append, List.append_nil]
  iterate 2 (first | (refine heads_load _ (by rfl) (fun w' hs => by obtain ⟨⟨r0, r1, r2, r3, r4, _⟩, b0, b1, b2, b3, _⟩ := hs; go_simp; try with_reducible rfl) rfl ?_; simp only [Act.put, List.setIfInBounds_toArray, List.set_cons_zero, List.set_cons_succ]) | (refine heads_pure _ (by rfl) (fun w' => by go_simp; try with_reducible rfl) ?_; simp only [Act.put, List.setIfInBounds_toArray, List.set_cons_zero, List.set_cons_succ]))
  refine heads_nil ?_
  refine stage_op 2 (by kernel_rfl) (L := #[true, true, true, false, false]) (by kernel_rfl) ?_
  simp only [List.drop_succ_cons, List.drop_zero, List.take_succ_cons, List.take_zero]
  go_wp2_with fail
  refine step_post (fun _ => (by first | exact J2.out | exact J1.out)) ?_
  refine stage_op 3 (by kernel_rfl) (L := #[true, true, true, true, false]) (by kernel_rfl) ?_
  simp only [List.drop_succ_cons, List.drop_zero, List.take_succ_cons, List.take_zero]
  go_wp2_with fail
  refine step_post nofun ?_
  refine stage_heads [4] (by kernel_rfl) (L := #[true, true, true, true, true]) (by kernel_rfl) (f' := 0) rfl (fun _ _ _ _ h => h) (fun w o h => ⟨h.1.below ((Below.refl _ _).alloc (Nat.le_refl _) o), h.2.below ((Below.refl _ _).alloc (Nat.le_refl _) o)⟩) (.inl (by kernel_rfl)) ?_
  simp only [List.flatMap_cons, List.flatMap_nil, List.drop_succ_cons, List.drop_zero, List.take_succ_cons, List.take_zero, List.append_nil]
  iterate 1 (refine heads_pure _ (by rfl) (fun w' => by go_simp; try with_reducible rfl) ?_; simp only [Act.put, List.setIfInBounds_toArray, List.set_cons_zero, List.set_cons_succ])
  refine heads_nil ?_
  refine stage_done (by kernel_rfl) ?_
  generalize hwz : World.drew _ = wz
  have W1 : wz = ((((((((((w2.setCell ⟨(w.heap.size + 1 + 1 + 1), 0, none⟩ (.int .i64 room)).setCell ⟨(w.heap.size + 1 + 1 + 1), 1, none⟩ (.slice a0 n0 c0)).setCell ⟨(w.heap.size + 1 + 1 + 1), 2, none⟩ (.bool down)).setCell ⟨(w.heap.size + 1 + 1 + 1), 3, none⟩ (.int .i64 armed)).setCell ⟨(w.heap.size + 1 + 1 + 1), 4, none⟩ (.int .u64 steps))).setCell ⟨(w.heap.size + 1 + 1 + 1 + 1), 0, none⟩ (.int .u64 si)).setCell ⟨(w.heap.size + 1 + 1 + 1 + 1), 1, none⟩ (.int .u64 st)).setCell ⟨(w.heap.size + 1 + 1 + 1 + 1), 2, none⟩ (.slice pa pn pc)).setCell ⟨(w.heap.size + 1 + 1 + 1 + 1), 3, none⟩ (.slice qa qn qc)).drew := hwz.symm
  have KS := Kept.set5D w2 (w.heap.size + 1 + 1 + 1) ⟨room, L, down, armed, steps⟩ (.slice a0 n0 c0)
  have RFF := (Z2.out.set ⟨room, L, down, armed, steps⟩ (.slice a0 n0 c0))
  have YS := Y2.out.kept KS (by omega)
  have SS := S2.out.setD Z2.out (fun s e => by cases e) ⟨room, L, down, armed, steps⟩ (.slice a0 n0 c0)
  have K4 := Kept.set4 (set5D w2 (w.heap.size + 1 + 1 + 1) ⟨room, L, down, armed, steps⟩ (.slice a0 n0 c0)) (w.heap.size + 1 + 1 + 1 + 1) si st (.slice pa pn pc) (.slice qa qn qc)
  have RFG0 := (RFF.kept K4 (by omega)).below ((Below.refl _ _).drew)
  have RFY0 := (YS.set4 si st (.slice pa pn pc) (.slice qa qn qc)).below ((Below.refl _ _).drew)
  have SF0 := (SS.setSn (p := none) (q := none) YS si st (.slice pa pn pc) (.slice qa qn qc)).below ((Below.refl _ _).drew)
  have BF0 := B2.out.trans (KS.below B2.out.size (fun k hk => by omega))
  have BF1 := (BF0.trans (K4.below BF0.size (fun k hk => by omega))).drew
  unfold set5D at RFG0 RFY0 SF0 BF1
  simp only at RFG0 RFY0 SF0 BF1
  rw [← W1] at RFG0 RFY0 SF0 BF1
  have RFG := Lib.hid RFG0
  have RFY := Lib.hid RFY0
  have SF := Lib.hid SF0
  have BF := Lib.hid BF1
  clear KS RFF YS SS K4 RFG0 RFY0 SF0 BF0 BF1 W1 hwz
  clear r0 r1 r2 r3 r4 f0 f1 f2 f3 f4 p0 p1 p2 p3 q0 q1 q2 q3 z0 z1 z2 z3 z4 g0 g1 g2 g3 g4 y0 y1 y2 y3 e0 e1 e2 e3 hlx hlp hlq hlz hly
  obtain ⟨q0, q1, q2, q3, q4, _⟩ := RFG.out
  obtain ⟨u0, u1, u2, u3, _⟩ := RFY.out
  simp only at q0 q1 q2 q3 q4
  go_wp2_with fail
  refine bodyPost_ret (v := .tuple #[.agg #[.int .i64 room, .slice a0 n0 c0, .bool down, .int .i64 armed, .int .u64 steps], .agg #[.int .u64 si, .int .u64 st, .slice pa pn pc, .slice qa qn qc], .int .i64 34]) (by simp [results, Tryz.results71, go_sem, q0, q1, q2, q3, q4, u0, u1, u2, u3]) rfl ?_

  exact ⟨_, rfl, RIs.new (D := ⟨room, L, down, armed, steps⟩) HN0.out SF.out, BF.out, FO0.out⟩
set_option maxHeartbeats 4000000 in
set_option maxRecDepth 20000 in
theorem rsave_down (a0 : Option Addr) (n0 c0 : Nat) (room : Int) (L : List FileS) (armed steps : Int) (si st xi xt : Int) (pa qa ya za : Option Addr) (pn pc qn qc yn yc zn zc : Nat) (x : SnapS) (w : World) (hn : L.length = n0) (hr : SRow w 3 (.slice a0 n0 c0) (L.map rfV)) (hx : SnapIs w (.agg #[.int .u64 xi, .int .u64 xt, .slice ya yn yc, .slice za zn zc]) x) (hsn : x.okB = true) (hgt : ¬ xi ≤ si) : Calls Tryz.prog 71 #[.agg #[.int .i64 room, .slice a0 n0 c0, .bool true, .int .i64 armed, .int .u64 steps], .agg #[.int .u64 si, .int .u64 st, .slice pa pn pc, .slice qa qn qc], .agg #[.int .u64 xi, .int .u64 xt, .slice ya yn yc, .slice za zn zc]] w (RSave (⟨room, L, true, armed, steps⟩, 50) (.agg #[.int .u64 si, .int .u64 st, .slice pa pn pc, .slice qa qn qc]) (.agg #[.int .i64 room, .slice a0 n0 c0, .bool true, .int .i64 armed, .int .u64 steps]) w) := by
  have HN0 := Lib.hid hn
  have HR := Lib.hid hr
  have HX := Lib.hid hx
  clear hn hr hx
  have HSN : Hid (x.okB = true) := Lib.hid hsn
  clear hsn
  have hz1 : (w.alloc (.cells #[.int .i64 room, .slice a0 n0 c0, .bool true, .int .i64 armed, .int .u64 steps] 29)).heap.size = w.heap.size + 1 := by simp
  have hz2 : ((w.alloc (.cells #[.int .i64 room, .slice a0 n0 c0, .bool true, .int .i64 armed, .int .u64 steps] 29)).alloc (.cells #[.int .u64 si, .int .u64 st, .slice pa pn pc, .slice qa qn qc] 40)).heap.size = w.heap.size + 1 + 1 := by simp
  have hz3 : (((w.alloc (.cells #[.int .i64 room, .slice a0 n0 c0, .bool true, .int .i64 armed, .int .u64 steps] 29)).alloc (.cells #[.int .u64 si, .int .u64 st, .slice pa pn pc, .slice qa qn qc] 40)).alloc (.cells #[.int .u64 xi, .int .u64 xt, .slice ya yn yc, .slice za zn zc] 40)).heap.size = w.heap.size + 1 + 1 + 1 := by simp
  have hz4 : ((((w.alloc (.cells #[.int .i64 room, .slice a0 n0 c0, .bool true, .int .i64 armed, .int .u64 steps] 29)).alloc (.cells #[.int .u64 si, .int .u64 st, .slice pa pn pc, .slice qa qn qc] 40)).alloc (.cells #[.int .u64 xi, .int .u64 xt, .slice ya yn yc, .slice za zn zc] 40)).alloc (.cells #[.int .i64 0, .slice none 0 0, .bool false, .int .i64 0, .int .u64 0] 29)).heap.size = w.heap.size + 1 + 1 + 1 + 1 := by simp
  have BX : RD (((((w.alloc (.cells #[.int .i64 room, .slice a0 n0 c0, .bool true, .int .i64 armed, .int .u64 steps] 29)).alloc (.cells #[.int .u64 si, .int .u64 st, .slice pa pn pc, .slice qa qn qc] 40)).alloc (.cells #[.int .u64 xi, .int .u64 xt, .slice ya yn yc, .slice za zn zc] 40)).alloc (.cells #[.int .i64 0, .slice none 0 0, .bool false, .int .i64 0, .int .u64 0] 29)).alloc (.cells #[.int .u64 0, .int .u64 0, .slice none 0 0, .slice none 0 0] 40)) w.heap.size ⟨room, L, true, armed, steps⟩ (.slice a0 n0 c0) := ((((RD.box w ⟨room, L, true, armed, steps⟩ (.slice a0 n0 c0)).below ((Below.refl _ _).alloc (Nat.le_refl _) _)).below ((Below.refl _ _).alloc (Nat.le_refl _) _)).below ((Below.refl _ _).alloc (Nat.le_refl _) _)).below ((Below.refl _ _).alloc (Nat.le_refl _) _)
  have BP : SBlk (((((w.alloc (.cells #[.int .i64 room, .slice a0 n0 c0, .bool true, .int .i64 armed, .int .u64 steps] 29)).alloc (.cells #[.int .u64 si, .int .u64 st, .slice pa pn pc, .slice qa qn qc] 40)).alloc (.cells #[.int .u64 xi, .int .u64 xt, .slice ya yn yc, .slice za zn zc] 40)).alloc (.cells #[.int .i64 0, .slice none 0 0, .bool false, .int .i64 0, .int .u64 0] 29)).alloc (.cells #[.int .u64 0, .int .u64 0, .slice none 0 0, .slice none 0 0] 40)) (w.heap.size + 1) si st (.slice pa pn pc) (.slice qa qn qc) := by
    have h := ((((SBlk.box (w.alloc (.cells #[.int .i64 room, .slice a0 n0 c0, .bool true, .int .i64 armed, .int .u64 steps] 29)) si st (.slice pa pn pc) (.slice qa qn qc))).below (((Below.refl _ _).alloc (Nat.le_refl _) _) : Below ((w.alloc (.cells #[.int .i64 room, .slice a0 n0 c0, .bool true, .int .i64 armed, .int .u64 steps] 29)).alloc (.cells #[.int .u64 si, .int .u64 st, .slice pa pn pc, .slice qa qn qc] 40)).heap.size ((w.alloc (.cells #[.int .i64 room, .slice a0 n0 c0, .bool true, .int .i64 armed, .int .u64 steps] 29)).alloc (.cells #[.int .u64 si, .int .u64 st, .slice pa pn pc, .slice qa qn qc] 40)) (((w.alloc (.cells #[.int .i64 room, .slice a0 n0 c0, .bool true, .int .i64 armed, .int .u64 steps] 29)).alloc (.cells #[.int .u64 si, .int .u64 st, .slice pa pn pc, .slice qa qn qc] 40)).alloc (.cells #[.int .u64 xi, .int .u64 xt, .slice ya yn yc, .slice za zn zc] 40)))).below (((Below.refl _ _).alloc (Nat.le_refl _) _) : Below (((w.alloc (.cells #[.int .i64 room, .slice a0 n0 c0, .bool true, .int .i64 armed, .int .u64 steps] 29)).alloc (.cells #[.int .u64 si, .int .u64 st, .slice pa pn pc, .slice qa qn qc] 40)).alloc (.cells #[.int .u64 xi, .int .u64 xt, .slice ya yn yc, .slice za zn zc] 40)).heap.size (((w.alloc (.cells #[.int .i64 room, .slice a0 n0 c0, .bool true, .int .i64 armed, .int .u64 steps] 29)).alloc (.cells #[.int .u64 si, .int .u64 st, .slice pa pn pc, .slice qa qn qc] 40)).alloc (.cells #[.int .u64 xi, .int .u64 xt, .slice ya yn yc, .slice za zn zc] 40)) ((((w.alloc (.cells #[.int .i64 room, .slice a0 n0 c0, .bool true, .int .i64 armed, .int .u64 steps] 29)).alloc (.cells #[.int .u64 si, .int .u64 st, .slice pa pn pc, .slice qa qn qc] 40)).alloc (.cells #[.int .u64 xi, .int .u64 xt, .slice ya yn yc, .slice za zn zc] 40)).alloc (.cells #[.int .i64 0, .slice none 0 0, .bool false, .int .i64 0, .int .u64 0] 29)))).below (((Below.refl _ _).alloc (Nat.le_refl _) _) : Below ((((w.alloc (.cells #[.int .i64 room, .slice a0 n0 c0, .bool true, .int .i64 armed, .int .u64 steps] 29)).alloc (.cells #[.int .u64 si, .int .u64 st, .slice pa pn pc, .slice qa qn qc] 40)).alloc (.cells #[.int .u64 xi, .int .u64 xt, .slice ya yn yc, .slice za zn zc] 40)).alloc (.cells #[.int .i64 0, .slice none 0 0, .bool false, .int .i64 0, .int .u64 0] 29)).heap.size ((((w.alloc (.cells #[.int .i64 room, .slice a0 n0 c0, .bool true, .int .i64 armed, .int .u64 steps] 29)).alloc (.cells #[.int .u64 si, .int .u64 st, .slice pa pn pc, .slice qa qn qc] 40)).alloc (.cells #[.int .u64 xi, .int .u64 xt, .slice ya yn yc, .slice za zn zc] 40)).alloc (.cells #[.int .i64 0, .slice none 0 0, .bool false, .int .i64 0, .int .u64 0] 29)) (((((w.alloc (.cells #[.int .i64 room, .slice a0 n0 c0, .bool true, .int .i64 armed, .int .u64 steps] 29)).alloc (.cells #[.int .u64 si, .int .u64 st, .slice pa pn pc, .slice qa qn qc] 40)).alloc (.cells #[.int .u64 xi, .int .u64 xt, .slice ya yn yc, .slice za zn zc] 40)).alloc (.cells #[.int .i64 0, .slice none 0 0, .bool false, .int .i64 0, .int .u64 0] 29)).alloc (.cells #[.int .u64 0, .int .u64 0, .slice none 0 0, .slice none 0 0] 40)))
    rw [hz1] at h
    exact h
  have BQ : SBlk (((((w.alloc (.cells #[.int .i64 room, .slice a0 n0 c0, .bool true, .int .i64 armed, .int .u64 steps] 29)).alloc (.cells #[.int .u64 si, .int .u64 st, .slice pa pn pc, .slice qa qn qc] 40)).alloc (.cells #[.int .u64 xi, .int .u64 xt, .slice ya yn yc, .slice za zn zc] 40)).alloc (.cells #[.int .i64 0, .slice none 0 0, .bool false, .int .i64 0, .int .u64 0] 29)).alloc (.cells #[.int .u64 0, .int .u64 0, .slice none 0 0, .slice none 0 0] 40)) (w.heap.size + 1 + 1) xi xt (.slice ya yn yc) (.slice za zn zc) := by
    have h := (((SBlk.box ((w.alloc (.cells #[.int .i64 room, .slice a0 n0 c0, .bool true, .int .i64 armed, .int .u64 steps] 29)).alloc (.cells #[.int .u64 si, .int .u64 st, .slice pa pn pc, .slice qa qn qc] 40)) xi xt (.slice ya yn yc) (.slice za zn zc))).below (((Below.refl _ _).alloc (Nat.le_refl _) _) : Below (((w.alloc (.cells #[.int .i64 room, .slice a0 n0 c0, .bool true, .int .i64 armed, .int .u64 steps] 29)).alloc (.cells #[.int .u64 si, .int .u64 st, .slice pa pn pc, .slice qa qn qc] 40)).alloc (.cells #[.int .u64 xi, .int .u64 xt, .slice ya yn yc, .slice za zn zc] 40)).heap.size (((w.alloc (.cells #[.int .i64 room, .slice a0 n0 c0, .bool true, .int .i64 armed, .int .u64 steps] 29)).alloc (.cells #[.int .u64 si, .int .u64 st, .slice pa pn pc, .slice qa qn qc] 40)).alloc (.cells #[.int .u64 xi, .int .u64 xt, .slice ya yn yc, .slice za zn zc] 40)) ((((w.alloc (.cells #[.int .i64 room, .slice a0 n0 c0, .bool true, .int .i64 armed, .int .u64 steps] 29)).alloc (.cells #[.int .u64 si, .int .u64 st, .slice pa pn pc, .slice qa qn qc] 40)).alloc (.cells #[.int .u64 xi, .int .u64 xt, .slice ya yn yc, .slice za zn zc] 40)).alloc (.cells #[.int .i64 0, .slice none 0 0, .bool false, .int .i64 0, .int .u64 0] 29)))).below (((Below.refl _ _).alloc (Nat.le_refl _) _) : Below ((((w.alloc (.cells #[.int .i64 room, .slice a0 n0 c0, .bool true, .int .i64 armed, .int .u64 steps] 29)).alloc (.cells #[.int .u64 si, .int .u64 st, .slice pa pn pc, .slice qa qn qc] 40)).alloc (.cells #[.int .u64 xi, .int .u64 xt, .slice ya yn yc, .slice za zn zc] 40)).alloc (.cells #[.int .i64 0, .slice none 0 0, .bool false, .int .i64 0, .int .u64 0] 29)).heap.size ((((w.alloc (.cells #[.int .i64 room, .slice a0 n0 c0, .bool true, .int .i64 armed, .int .u64 steps] 29)).alloc (.cells #[.int .u64 si, .int .u64 st, .slice pa pn pc, .slice qa qn qc] 40)).alloc (.cells #[.int .u64 xi, .int .u64 xt, .slice ya yn yc, .slice za zn zc] 40)).alloc (.cells #[.int .i64 0, .slice none 0 0, .bool false, .int .i64 0, .int .u64 0] 29)) (((((w.alloc (.cells #[.int .i64 room, .slice a0 n0 c0, .bool true, .int .i64 armed, .int .u64 steps] 29)).alloc (.cells #[.int .u64 si, .int .u64 st, .slice pa pn pc, .slice qa qn qc] 40)).alloc (.cells #[.int .u64 xi, .int .u64 xt, .slice ya yn yc, .slice za zn zc] 40)).alloc (.cells #[.int .i64 0, .slice none 0 0, .bool false, .int .i64 0, .int .u64 0] 29)).alloc (.cells #[.int .u64 0, .int .u64 0, .slice none 0 0, .slice none 0 0] 40)))
    rw [hz2] at h
    exact h
  have BZ : RD (((((w.alloc (.cells #[.int .i64 room, .slice a0 n0 c0, .bool true, .int .i64 armed, .int .u64 steps] 29)).alloc (.cells #[.int .u64 si, .int .u64 st, .slice pa pn pc, .slice qa qn qc] 40)).alloc (.cells #[.int .u64 xi, .int .u64 xt, .slice ya yn yc, .slice za zn zc] 40)).alloc (.cells #[.int .i64 0, .slice none 0 0, .bool false, .int .i64 0, .int .u64 0] 29)).alloc (.cells #[.int .u64 0, .int .u64 0, .slice none 0 0, .slice none 0 0] 40)) (w.heap.size + 1 + 1 + 1) zeroD (.slice none 0 0) := by
    have h := ((RD.zero (((w.alloc (.cells #[.int .i64 room, .slice a0 n0 c0, .bool true, .int .i64 armed, .int .u64 steps] 29)).alloc (.cells #[.int .u64 si, .int .u64 st, .slice pa pn pc, .slice qa qn qc] 40)).alloc (.cells #[.int .u64 xi, .int .u64 xt, .slice ya yn yc, .slice za zn zc] 40)))).below (((Below.refl _ _).alloc (Nat.le_refl _) _) : Below ((((w.alloc (.cells #[.int .i64 room, .slice a0 n0 c0, .bool true, .int .i64 armed, .int .u64 steps] 29)).alloc (.cells #[.int .u64 si, .int .u64 st, .slice pa pn pc, .slice qa qn qc] 40)).alloc (.cells #[.int .u64 xi, .int .u64 xt, .slice ya yn yc, .slice za zn zc] 40)).alloc (.cells #[.int .i64 0, .slice none 0 0, .bool false, .int .i64 0, .int .u64 0] 29)).heap.size ((((w.alloc (.cells #[.int .i64 room, .slice a0 n0 c0, .bool true, .int .i64 armed, .int .u64 steps] 29)).alloc (.cells #[.int .u64 si, .int .u64 st, .slice pa pn pc, .slice qa qn qc] 40)).alloc (.cells #[.int .u64 xi, .int .u64 xt, .slice ya yn yc, .slice za zn zc] 40)).alloc (.cells #[.int .i64 0, .slice none 0 0, .bool false, .int .i64 0, .int .u64 0] 29)) (((((w.alloc (.cells #[.int .i64 room, .slice a0 n0 c0, .bool true, .int .i64 armed, .int .u64 steps] 29)).alloc (.cells #[.int .u64 si, .int .u64 st, .slice pa pn pc, .slice qa qn qc] 40)).alloc (.cells #[.int .u64 xi, .int .u64 xt, .slice ya yn yc, .slice za zn zc] 40)).alloc (.cells #[.int .i64 0, .slice none 0 0, .bool false, .int .i64 0, .int .u64 0] 29)).alloc (.cells #[.int .u64 0, .int .u64 0, .slice none 0 0, .slice none 0 0] 40)))
    rw [hz3] at h
    exact h
  have BY : SBlk (((((w.alloc (.cells #[.int .i64 room, .slice a0 n0 c0, .bool true, .int .i64 armed, .int .u64 steps] 29)).alloc (.cells #[.int .u64 si, .int .u64 st, .slice pa pn pc, .slice qa qn qc] 40)).alloc (.cells #[.int .u64 xi, .int .u64 xt, .slice ya yn yc, .slice za zn zc] 40)).alloc (.cells #[.int .i64 0, .slice none 0 0, .bool false, .int .i64 0, .int .u64 0] 29)).alloc (.cells #[.int .u64 0, .int .u64 0, .slice none 0 0, .slice none 0 0] 40)) (w.heap.size + 1 + 1 + 1 + 1) 0 0 (.slice none 0 0) (.slice none 0 0) := by
    have h := (SBlk.new ((((w.alloc (.cells #[.int .i64 room, .slice a0 n0 c0, .bool true, .int .i64 armed, .int .u64 steps] 29)).alloc (.cells #[.int .u64 si, .int .u64 st, .slice pa pn pc, .slice qa qn qc] 40)).alloc (.cells #[.int .u64 xi, .int .u64 xt, .slice ya yn yc, .slice za zn zc] 40)).alloc (.cells #[.int .i64 0, .slice none 0 0, .bool false, .int .i64 0, .int .u64 0] 29)))
    rw [hz4] at h
    exact h
  have BB : Below w.heap.size w (((((w.alloc (.cells #[.int .i64 room, .slice a0 n0 c0, .bool true, .int .i64 armed, .int .u64 steps] 29)).alloc (.cells #[.int .u64 si, .int .u64 st, .slice pa pn pc, .slice qa qn qc] 40)).alloc (.cells #[.int .u64 xi, .int .u64 xt, .slice ya yn yc, .slice za zn zc] 40)).alloc (.cells #[.int .i64 0, .slice none 0 0, .bool false, .int .i64 0, .int .u64 0] 29)).alloc (.cells #[.int .u64 0, .int .u64 0, .slice none 0 0, .slice none 0 0] 40)) := (((((Below.refl _ _).alloc (Nat.le_refl _) _).alloc (by simp) _).alloc (by simp; omega) _).alloc (by simp; omega) _).alloc (by simp; omega) _
  have SS := HR.out.below BB
  have FO0 : Hid (∀ g, (.slice a0 n0 c0 : Value).ownBlock = some g → (.slice a0 n0 c0 : Value).ownBlock = some g ∨ w.heap.size ≤ g) := Lib.hid (fun g h => .inl h)
  clear hz1 hz2 hz3 hz4
  go_enter Tryz.func71, Tryz.ntmps71
  go_wp2_with fail
  generalize World.alloc (World.alloc (World.alloc (World.alloc (World.alloc w _) _) _) _) _ = w1 at *
  have X1 := Lib.hid BX
  have P1 := Lib.hid BP
  have Q1 := Lib.hid BQ
  have Z1 := Lib.hid BZ
  have Y1 := Lib.hid BY
  have B1 := Lib.hid BB
  have S1 := Lib.hid SS
  clear BX BP BQ BZ BY BB SS
  obtain ⟨r0, r1, r2, r3, r4, f0, f1, f2, f3, f4⟩ := X1.out
  obtain ⟨p0, p1, p2, p3, _, _, _, _⟩ := P1.out
  obtain ⟨q0, q1, q2, q3, _, _, _, _⟩ := Q1.out
  obtain ⟨z0, z1, z2, z3, z4, g0, g1, g2, g3, g4⟩ := Z1.out
  obtain ⟨y0, y1, y2, y3, e0, e1, e2, e3⟩ := Y1.out
  have hlx := X1.out.lt
  have hlp := P1.out.lt
  have hlq := Q1.out.lt
  have hlz := Z1.out.lt
  have hly := Y1.out.lt
  go_wp2_with fail
  refine (rsound_any _ x w1 (HX.out.below B1.out)).mono ?_
  rintro e w2 ⟨rfl, hb2⟩
  have X2 := Lib.hid (X1.out.below hb2)
  have P2 := Lib.hid (P1.out.below hb2)
  have Q2 := Lib.hid (Q1.out.below hb2)
  have Z2 := Lib.hid (Z1.out.below hb2)
  have Y2 := Lib.hid (Y1.out.below hb2)
  have S2 := Lib.hid (S1.out.below hb2)
  have B2 : Hid (Below w.heap.size w w2) := Lib.hid (B1.out.trans (hb2.mono B1.out.size))
  clear hb2
  clear r0 r1 r2 r3 r4 f0 f1 f2 f3 f4 p0 p1 p2 p3 q0 q1 q2 q3 z0 z1 z2 z3 z4 g0 g1 g2 g3 g4 y0 y1 y2 y3 e0 e1 e2 e3 hlx hlp hlq hlz hly
  clear X1 P1 Q1 Z1 Y1 S1 B1
  rw [HSN.out]
  obtain ⟨r0, r1, r2, r3, r4, f0, f1, f2, f3, f4⟩ := X2.out
  obtain ⟨p0, p1, p2, p3, _, _, _, _⟩ := P2.out
  obtain ⟨q0, q1, q2, q3, _, _, _, _⟩ := Q2.out
  obtain ⟨z0, z1, z2, z3, z4, g0, g1, g2, g3, g4⟩ := Z2.out
  obtain ⟨y0, y1, y2, y3, e0, e1, e2, e3⟩ := Y2.out
  have hlx := X2.out.lt
  have hlp := P2.out.lt
  have hlq := Q2.out.lt
  have hlz := Z2.out.lt
  have hly := Y2.out.lt
  go_wp2_with fail
  clear r0 r1 r2 r3 r4 f0 f1 f2 f3 f4 p0 p1 p2 p3 q0 q1 q2 q3 z0 z1 z2 z3 z4 g0 g1 g2 g3 g4 y0 y1 y2 y3 e0 e1 e2 e3 hlx hlp hlq hlz hly
  obtain ⟨r0, r1, r2, r3, r4, f0, f1, f2, f3, f4⟩ := X2.out
  obtain ⟨p0, p1, p2, p3, _, _, _, _⟩ := P2.out
  obtain ⟨q0, q1, q2, q3, _, _, _, _⟩ := Q2.out
  obtain ⟨z0, z1, z2, z3, z4, g0, g1, g2, g3, g4⟩ := Z2.out
  obtain ⟨y0, y1, y2, y3, e0, e1, e2, e3⟩ := Y2.out
  have hlx := X2.out.lt
  have hlp := P2.out.lt
  have hlq := Q2.out.lt
  have hlz := Z2.out.lt
  have hly := Y2.out.lt
  have J1 : Hid (RD (set5D w2 (w.heap.size + 1 + 1 + 1) ⟨room, L, true, armed, steps⟩ (.slice a0 n0 c0)) w.heap.size ⟨room, L, true, armed, steps⟩ (.slice a0 n0 c0) ∧ SBlk (set5D w2 (w.heap.size + 1 + 1 + 1) ⟨room, L, true, armed, steps⟩ (.slice a0 n0 c0)) (w.heap.size + 1) si st (.slice pa pn pc) (.slice qa qn qc)) := Lib.hid ⟨X2.out.kept (Kept.set5D w2 (w.heap.size + 1 + 1 + 1) ⟨room, L, true, armed, steps⟩ (.slice a0 n0 c0)) (by omega), P2.out.kept (Kept.set5D w2 (w.heap.size + 1 + 1 + 1) ⟨room, L, true, armed, steps⟩ (.slice a0 n0 c0)) (by omega)⟩
  have J2 : Hid (RD (set5D w2 (w.heap.size + 1 + 1 + 1) ⟨room, L, true, armed, steps⟩ (.slice a0 n0 c0)).drew w.heap.size ⟨room, L, true, armed, steps⟩ (.slice a0 n0 c0) ∧ SBlk (set5D w2 (w.heap.size + 1 + 1 + 1) ⟨room, L, true, armed, steps⟩ (.slice a0 n0 c0)).drew (w.heap.size + 1) si st (.slice pa pn pc) (.slice qa qn qc)) := Lib.hid ⟨J1.out.1.below ((Below.refl _ _).drew), J1.out.2.below ((Below.refl _ _).drew)⟩
  unfold set5D at J1 J2
  simp only at J1 J2
  refine region_start [0, 0, 1, 7, 15] 4 (fun w' => RD w' w.heap.size ⟨room, L, true, armed, steps⟩ (.slice a0 n0 c0) ∧ SBlk w' (w.heap.size + 1) si st (.slice pa pn pc) (.slice qa qn qc)) (by kernel_rfl) ?_
  refine stage_heads [0, 1] (by kernel_rfl) (L := #[true, true, false, false, false]) (by kernel_rfl) (f' := 3) rfl (fun _ _ _ _ h => h) (fun w o h => ⟨h.1.below ((Below.refl _ _).alloc (Nat.le_refl _) o), h.2.below ((Below.refl _ _).alloc (Nat.le_refl _) o)⟩) (.inr (by first | exact ⟨X2.out.below ((Below.refl _ _).drew), P2.out.below ((Below.refl _ _).drew)⟩ | exact ⟨X2.out, P2.out⟩)) ?_
  simp only [List.flatMap_cons, List.flatMap_nil, List.drop_succ_cons, List.drop_zero, List.take_succ_cons, List.take_zero, List.cons_append, List.nil_append, List.append_nil]
  iterate 2 (first | (refine heads_load _ (by rfl) (fun w' hs => by obtain ⟨⟨r0, r1, r2, r3, r4, _⟩, b0, b1, b2, b3, _⟩ := hs; go_simp; try with_reducible rfl) rfl ?_; simp only [Act.put, List.setIfInBounds_toArray, List.set_cons_zero, List.set_cons_succ]) | (refine heads_pure _ (by rfl) (fun w' => by go_simp; try with_reducible rfl) ?_; simp only [Act.put, List.setIfInBounds_toArray, List.set_cons_zero, List.set_cons_succ]))
  refine heads_nil ?_
  refine stage_op 2 (by kernel_rfl) (L := #[true, true, true, false, false]) (by kernel_rfl) ?_
  simp only [List.drop_succ_cons, List.drop_zero, List.take_succ_cons, List.take_zero]
  go_wp2_with fail
  refine step_post (fun _ => (by first | exact J2.out | exact J1.out)) ?_
  refine stage_op 3 (by kernel_rfl) (L := #[true, true, true, true, false]) (by kernel_rfl) ?_
  simp only [List.drop_succ_cons, List.drop_zero, List.take_succ_cons, List.take_zero]
  go_wp2_with fail
  refine step_post nofun ?_
  refine stage_heads [4] (by kernel_rfl) (L := #[true, true, true, true, true]) (by kernel_rfl) (f' := 0) rfl (fun _ _ _ _ h => h) (fun w o h => ⟨h.1.below ((Below.refl _ _).alloc (Nat.le_refl _) o), h.2.below ((Below.refl _ _).alloc (Nat.le_refl _) o)⟩) (.inl (by kernel_rfl)) ?_
  simp only [List.flatMap_cons, List.flatMap_nil, List.drop_succ_cons, List.drop_zero, List.take_succ_cons, List.take_zero, List.append_nil]
  iterate 1 (refine heads_pure _ (by rfl) (fun w' => by go_simp; try with_reducible rfl) ?_; simp only [Act.put, List.setIfInBounds_toArray, List.set_cons_zero, List.set_cons_succ])
  refine heads_nil ?_
  refine stage_done (by kernel_rfl) ?_
  generalize hwz : World.drew _ = wz
  have W1 : wz = ((((((((((w2.setCell ⟨(w.heap.size + 1 + 1 + 1), 0, none⟩ (.int .i64 room)).setCell ⟨(w.heap.size + 1 + 1 + 1), 1, none⟩ (.slice a0 n0 c0)).setCell ⟨(w.heap.size + 1 + 1 + 1), 2, none⟩ (.bool true)).setCell ⟨(w.heap.size + 1 + 1 + 1), 3, none⟩ (.int .i64 armed)).setCell ⟨(w.heap.size + 1 + 1 + 1), 4, none⟩ (.int .u64 steps))).setCell ⟨(w.heap.size + 1 + 1 + 1 + 1), 0, none⟩ (.int .u64 si)).setCell ⟨(w.heap.size + 1 + 1 + 1 + 1), 1, none⟩ (.int .u64 st)).setCell ⟨(w.heap.size + 1 + 1 + 1 + 1), 2, none⟩ (.slice pa pn pc)).setCell ⟨(w.heap.size + 1 + 1 + 1 + 1), 3, none⟩ (.slice qa qn qc)).drew := hwz.symm
  have KS := Kept.set5D w2 (w.heap.size + 1 + 1 + 1) ⟨room, L, true, armed, steps⟩ (.slice a0 n0 c0)
  have RFF := (Z2.out.set ⟨room, L, true, armed, steps⟩ (.slice a0 n0 c0))
  have YS := Y2.out.kept KS (by omega)
  have SS := S2.out.setD Z2.out (fun s e => by cases e) ⟨room, L, true, armed, steps⟩ (.slice a0 n0 c0)
  have K4 := Kept.set4 (set5D w2 (w.heap.size + 1 + 1 + 1) ⟨room, L, true, armed, steps⟩ (.slice a0 n0 c0)) (w.heap.size + 1 + 1 + 1 + 1) si st (.slice pa pn pc) (.slice qa qn qc)
  have RFG0 := (RFF.kept K4 (by omega)).below ((Below.refl _ _).drew)
  have RFY0 := (YS.set4 si st (.slice pa pn pc) (.slice qa qn qc)).below ((Below.refl _ _).drew)
  have SF0 := (SS.setSn (p := none) (q := none) YS si st (.slice pa pn pc) (.slice qa qn qc)).below ((Below.refl _ _).drew)
  have BF0 := B2.out.trans (KS.below B2.out.size (fun k hk => by omega))
  have BF1 := (BF0.trans (K4.below BF0.size (fun k hk => by omega))).drew
  unfold set5D at RFG0 RFY0 SF0 BF1
  simp only at RFG0 RFY0 SF0 BF1
  rw [← W1] at RFG0 RFY0 SF0 BF1
  have RFG := Lib.hid RFG0
  have RFY := Lib.hid RFY0
  have SF := Lib.hid SF0
  have BF := Lib.hid BF1
  clear KS RFF YS SS K4 RFG0 RFY0 SF0 BF0 BF1 W1 hwz
  clear r0 r1 r2 r3 r4 f0 f1 f2 f3 f4 p0 p1 p2 p3 q0 q1 q2 q3 z0 z1 z2 z3 z4 g0 g1 g2 g3 g4 y0 y1 y2 y3 e0 e1 e2 e3 hlx hlp hlq hlz hly
  obtain ⟨q0, q1, q2, q3, q4, _⟩ := RFG.out
  obtain ⟨u0, u1, u2, u3, _⟩ := RFY.out
  simp only at q0 q1 q2 q3 q4
  go_wp2_with fail
  refine bodyPost_ret (v := .tuple #[.agg #[.int .i64 room, .slice a0 n0 c0, .bool true, .int .i64 armed, .int .u64 steps], .agg #[.int .u64 si, .int .u64 st, .slice pa pn pc, .slice qa qn qc], .int .i64 50]) (by simp [results, Tryz.results71, go_sem, q0, q1, q2, q3, q4, u0, u1, u2, u3]) rfl ?_

  exact ⟨_, rfl, RIs.new (D := ⟨room, L, true, armed, steps⟩) HN0.out SF.out, BF.out, FO0.out⟩
set_option maxHeartbeats 4000000 in
set_option maxRecDepth 20000 in
theorem rsave_new (a0 : Option Addr) (n0 c0 : Nat) (room : Int) (L : List FileS) (armed steps : Int) (si st xi xt : Int) (pa qa ya za : Option Addr) (pn pc qn qc yn yc zn zc : Nat) (x : SnapS) (w : World) (hn : L.length = n0) (hr : SRow w 3 (.slice a0 n0 c0) (L.map rfV)) (hx : SnapIs w (.agg #[.int .u64 xi, .int .u64 xt, .slice ya yn yc, .slice za zn zc]) x) (hsn : x.okB = true) (hgt : ¬ xi ≤ si) (hok : x.ok) (hg : DGood ⟨room, L, false, armed, steps⟩) (hst : (⟨room, L, false, armed, steps⟩ : DiskS).steps + 4 ≤ 1000000000) (OV : Value) (hOV : (if (save4 ⟨room, L, false, armed, steps⟩ (frP 4 (snapW x))).2 = 0 then .agg #[.int .u64 xi, .int .u64 xt, .slice ya yn yc, .slice za zn zc] else .agg #[.int .u64 si, .int .u64 st, .slice pa pn pc, .slice qa qn qc]) = OV) : Calls Tryz.prog 71 #[.agg #[.int .i64 room, .slice a0 n0 c0, .bool false, .int .i64 armed, .int .u64 steps], .agg #[.int .u64 si, .int .u64 st, .slice pa pn pc, .slice qa qn qc], .agg #[.int .u64 xi, .int .u64 xt, .slice ya yn yc, .slice za zn zc]] w (RSave (save4 ⟨room, L, false, armed, steps⟩ (frP 4 (snapW x))) OV (.agg #[.int .i64 room, .slice a0 n0 c0, .bool false, .int .i64 armed, .int .u64 steps]) w) := by
  have HN0 := Lib.hid hn
  have HR := Lib.hid hr
  have HX := Lib.hid hx
  clear hn hr hx
  have HSN : Hid (x.okB = true) := Lib.hid hsn
  clear hsn
  have HBY : Hid (∀ W : World, SnapIs W (.agg #[.int .u64 xi, .int .u64 xt, .slice ya yn yc, .slice za zn zc]) x → Calls Tryz.prog 110 #[.agg #[.int .u64 xi, .int .u64 xt, .slice ya yn yc, .slice za zn zc]] W fun e W' => ∃ bv, e = .returned bv ∧ Bytes W' bv (frP 4 (snapW x)) ∧ Below W.heap.size W W') := Lib.hid (fun W h => rsbytes_any _ x W h hok)
  have HBS : Hid ((frP 4 (snapW x)).length ≤ 2097152) := Lib.hid (by rw [length_frP]; have := snapW_len hok; omega)
  have HG := Lib.hid hg
  have HST := Lib.hid hst
  clear hg hst hok
  obtain ⟨bs, hbs⟩ : ∃ bs, frP 4 (snapW x) = bs := ⟨_, rfl⟩
  rw [hbs] at HBY HBS hOV ⊢
  have HOV := Lib.hid hOV
  clear hbs hOV
  have hz1 : (w.alloc (.cells #[.int .i64 room, .slice a0 n0 c0, .bool false, .int .i64 armed, .int .u64 steps] 29)).heap.size = w.heap.size + 1 := by simp
  have hz2 : ((w.alloc (.cells #[.int .i64 room, .slice a0 n0 c0, .bool false, .int .i64 armed, .int .u64 steps] 29)).alloc (.cells #[.int .u64 si, .int .u64 st, .slice pa pn pc, .slice qa qn qc] 40)).heap.size = w.heap.size + 1 + 1 := by simp
  have hz3 : (((w.alloc (.cells #[.int .i64 room, .slice a0 n0 c0, .bool false, .int .i64 armed, .int .u64 steps] 29)).alloc (.cells #[.int .u64 si, .int .u64 st, .slice pa pn pc, .slice qa qn qc] 40)).alloc (.cells #[.int .u64 xi, .int .u64 xt, .slice ya yn yc, .slice za zn zc] 40)).heap.size = w.heap.size + 1 + 1 + 1 := by simp
  have hz4 : ((((w.alloc (.cells #[.int .i64 room, .slice a0 n0 c0, .bool false, .int .i64 armed, .int .u64 steps] 29)).alloc (.cells #[.int .u64 si, .int .u64 st, .slice pa pn pc, .slice qa qn qc] 40)).alloc (.cells #[.int .u64 xi, .int .u64 xt, .slice ya yn yc, .slice za zn zc] 40)).alloc (.cells #[.int .i64 0, .slice none 0 0, .bool false, .int .i64 0, .int .u64 0] 29)).heap.size = w.heap.size + 1 + 1 + 1 + 1 := by simp
  have BX : RD (((((w.alloc (.cells #[.int .i64 room, .slice a0 n0 c0, .bool false, .int .i64 armed, .int .u64 steps] 29)).alloc (.cells #[.int .u64 si, .int .u64 st, .slice pa pn pc, .slice qa qn qc] 40)).alloc (.cells #[.int .u64 xi, .int .u64 xt, .slice ya yn yc, .slice za zn zc] 40)).alloc (.cells #[.int .i64 0, .slice none 0 0, .bool false, .int .i64 0, .int .u64 0] 29)).alloc (.cells #[.int .u64 0, .int .u64 0, .slice none 0 0, .slice none 0 0] 40)) w.heap.size ⟨room, L, false, armed, steps⟩ (.slice a0 n0 c0) := ((((RD.box w ⟨room, L, false, armed, steps⟩ (.slice a0 n0 c0)).below ((Below.refl _ _).alloc (Nat.le_refl _) _)).below ((Below.refl _ _).alloc (Nat.le_refl _) _)).below ((Below.refl _ _).alloc (Nat.le_refl _) _)).below ((Below.refl _ _).alloc (Nat.le_refl _) _)
  have BP : SBlk (((((w.alloc (.cells #[.int .i64 room, .slice a0 n0 c0, .bool false, .int .i64 armed, .int .u64 steps] 29)).alloc (.cells #[.int .u64 si, .int .u64 st, .slice pa pn pc, .slice qa qn qc] 40)).alloc (.cells #[.int .u64 xi, .int .u64 xt, .slice ya yn yc, .slice za zn zc] 40)).alloc (.cells #[.int .i64 0, .slice none 0 0, .bool false, .int .i64 0, .int .u64 0] 29)).alloc (.cells #[.int .u64 0, .int .u64 0, .slice none 0 0, .slice none 0 0] 40)) (w.heap.size + 1) si st (.slice pa pn pc) (.slice qa qn qc) := by
    have h := ((((SBlk.box (w.alloc (.cells #[.int .i64 room, .slice a0 n0 c0, .bool false, .int .i64 armed, .int .u64 steps] 29)) si st (.slice pa pn pc) (.slice qa qn qc))).below (((Below.refl _ _).alloc (Nat.le_refl _) _) : Below ((w.alloc (.cells #[.int .i64 room, .slice a0 n0 c0, .bool false, .int .i64 armed, .int .u64 steps] 29)).alloc (.cells #[.int .u64 si, .int .u64 st, .slice pa pn pc, .slice qa qn qc] 40)).heap.size ((w.alloc (.cells #[.int .i64 room, .slice a0 n0 c0, .bool false, .int .i64 armed, .int .u64 steps] 29)).alloc (.cells #[.int .u64 si, .int .u64 st, .slice pa pn pc, .slice qa qn qc] 40)) (((w.alloc (.cells #[.int .i64 room, .slice a0 n0 c0, .bool false, .int .i64 armed, .int .u64 steps] 29)).alloc (.cells #[.int .u64 si, .int .u64 st, .slice pa pn pc, .slice qa qn qc] 40)).alloc (.cells #[.int .u64 xi, .int .u64 xt, .slice ya yn yc, .slice za zn zc] 40)))).below (((Below.refl _ _).alloc (Nat.le_refl _) _) : Below (((w.alloc (.cells #[.int .i64 room, .slice a0 n0 c0, .bool false, .int .i64 armed, .int .u64 steps] 29)).alloc (.cells #[.int .u64 si, .int .u64 st, .slice pa pn pc, .slice qa qn qc] 40)).alloc (.cells #[.int .u64 xi, .int .u64 xt, .slice ya yn yc, .slice za zn zc] 40)).heap.size (((w.alloc (.cells #[.int .i64 room, .slice a0 n0 c0, .bool false, .int .i64 armed, .int .u64 steps] 29)).alloc (.cells #[.int .u64 si, .int .u64 st, .slice pa pn pc, .slice qa qn qc] 40)).alloc (.cells #[.int .u64 xi, .int .u64 xt, .slice ya yn yc, .slice za zn zc] 40)) ((((w.alloc (.cells #[.int .i64 room, .slice a0 n0 c0, .bool false, .int .i64 armed, .int .u64 steps] 29)).alloc (.cells #[.int .u64 si, .int .u64 st, .slice pa pn pc, .slice qa qn qc] 40)).alloc (.cells #[.int .u64 xi, .int .u64 xt, .slice ya yn yc, .slice za zn zc] 40)).alloc (.cells #[.int .i64 0, .slice none 0 0, .bool false, .int .i64 0, .int .u64 0] 29)))).below (((Below.refl _ _).alloc (Nat.le_refl _) _) : Below ((((w.alloc (.cells #[.int .i64 room, .slice a0 n0 c0, .bool false, .int .i64 armed, .int .u64 steps] 29)).alloc (.cells #[.int .u64 si, .int .u64 st, .slice pa pn pc, .slice qa qn qc] 40)).alloc (.cells #[.int .u64 xi, .int .u64 xt, .slice ya yn yc, .slice za zn zc] 40)).alloc (.cells #[.int .i64 0, .slice none 0 0, .bool false, .int .i64 0, .int .u64 0] 29)).heap.size ((((w.alloc (.cells #[.int .i64 room, .slice a0 n0 c0, .bool false, .int .i64 armed, .int .u64 steps] 29)).alloc (.cells #[.int .u64 si, .int .u64 st, .slice pa pn pc, .slice qa qn qc] 40)).alloc (.cells #[.int .u64 xi, .int .u64 xt, .slice ya yn yc, .slice za zn zc] 40)).alloc (.cells #[.int .i64 0, .slice none 0 0, .bool false, .int .i64 0, .int .u64 0] 29)) (((((w.alloc (.cells #[.int .i64 room, .slice a0 n0 c0, .bool false, .int .i64 armed, .int .u64 steps] 29)).alloc (.cells #[.int .u64 si, .int .u64 st, .slice pa pn pc, .slice qa qn qc] 40)).alloc (.cells #[.int .u64 xi, .int .u64 xt, .slice ya yn yc, .slice za zn zc] 40)).alloc (.cells #[.int .i64 0, .slice none 0 0, .bool false, .int .i64 0, .int .u64 0] 29)).alloc (.cells #[.int .u64 0, .int .u64 0, .slice none 0 0, .slice none 0 0] 40)))
    rw [hz1] at h
    exact h
  have BQ : SBlk (((((w.alloc (.cells #[.int .i64 room, .slice a0 n0 c0, .bool false, .int .i64 armed, .int .u64 steps] 29)).alloc (.cells #[.int .u64 si, .int .u64 st, .slice pa pn pc, .slice qa qn qc] 40)).alloc (.cells #[.int .u64 xi, .int .u64 xt, .slice ya yn yc, .slice za zn zc] 40)).alloc (.cells #[.int .i64 0, .slice none 0 0, .bool false, .int .i64 0, .int .u64 0] 29)).alloc (.cells #[.int .u64 0, .int .u64 0, .slice none 0 0, .slice none 0 0] 40)) (w.heap.size + 1 + 1) xi xt (.slice ya yn yc) (.slice za zn zc) := by
    have h := (((SBlk.box ((w.alloc (.cells #[.int .i64 room, .slice a0 n0 c0, .bool false, .int .i64 armed, .int .u64 steps] 29)).alloc (.cells #[.int .u64 si, .int .u64 st, .slice pa pn pc, .slice qa qn qc] 40)) xi xt (.slice ya yn yc) (.slice za zn zc))).below (((Below.refl _ _).alloc (Nat.le_refl _) _) : Below (((w.alloc (.cells #[.int .i64 room, .slice a0 n0 c0, .bool false, .int .i64 armed, .int .u64 steps] 29)).alloc (.cells #[.int .u64 si, .int .u64 st, .slice pa pn pc, .slice qa qn qc] 40)).alloc (.cells #[.int .u64 xi, .int .u64 xt, .slice ya yn yc, .slice za zn zc] 40)).heap.size (((w.alloc (.cells #[.int .i64 room, .slice a0 n0 c0, .bool false, .int .i64 armed, .int .u64 steps] 29)).alloc (.cells #[.int .u64 si, .int .u64 st, .slice pa pn pc, .slice qa qn qc] 40)).alloc (.cells #[.int .u64 xi, .int .u64 xt, .slice ya yn yc, .slice za zn zc] 40)) ((((w.alloc (.cells #[.int .i64 room, .slice a0 n0 c0, .bool false, .int .i64 armed, .int .u64 steps] 29)).alloc (.cells #[.int .u64 si, .int .u64 st, .slice pa pn pc, .slice qa qn qc] 40)).alloc (.cells #[.int .u64 xi, .int .u64 xt, .slice ya yn yc, .slice za zn zc] 40)).alloc (.cells #[.int .i64 0, .slice none 0 0, .bool false, .int .i64 0, .int .u64 0] 29)))).below (((Below.refl _ _).alloc (Nat.le_refl _) _) : Below ((((w.alloc (.cells #[.int .i64 room, .slice a0 n0 c0, .bool false, .int .i64 armed, .int .u64 steps] 29)).alloc (.cells #[.int .u64 si, .int .u64 st, .slice pa pn pc, .slice qa qn qc] 40)).alloc (.cells #[.int .u64 xi, .int .u64 xt, .slice ya yn yc, .slice za zn zc] 40)).alloc (.cells #[.int .i64 0, .slice none 0 0, .bool false, .int .i64 0, .int .u64 0] 29)).heap.size ((((w.alloc (.cells #[.int .i64 room, .slice a0 n0 c0, .bool false, .int .i64 armed, .int .u64 steps] 29)).alloc (.cells #[.int .u64 si, .int .u64 st, .slice pa pn pc, .slice qa qn qc] 40)).alloc (.cells #[.int .u64 xi, .int .u64 xt, .slice ya yn yc, .slice za zn zc] 40)).alloc (.cells #[.int .i64 0, .slice none 0 0, .bool false, .int .i64 0, .int .u64 0] 29)) (((((w.alloc (.cells #[.int .i64 room, .slice a0 n0 c0, .bool false, .int .i64 armed, .int .u64 steps] 29)).alloc (.cells #[.int .u64 si, .int .u64 st, .slice pa pn pc, .slice qa qn qc] 40)).alloc (.cells #[.int .u64 xi, .int .u64 xt, .slice ya yn yc, .slice za zn zc] 40)).alloc (.cells #[.int .i64 0, .slice none 0 0, .bool false, .int .i64 0, .int .u64 0] 29)).alloc (.cells #[.int .u64 0, .int .u64 0, .slice none 0 0, .slice none 0 0] 40)))
    rw [hz2] at h
    exact h
  have BZ : RD (((((w.alloc (.cells #[.int .i64 room, .slice a0 n0 c0, .bool false, .int .i64 armed, .int .u64 steps] 29)).alloc (.cells #[.int .u64 si, .int .u64 st, .slice pa pn pc, .slice qa qn qc] 40)).alloc (.cells #[.int .u64 xi, .int .u64 xt, .slice ya yn yc, .slice za zn zc] 40)).alloc (.cells #[.int .i64 0, .slice none 0 0, .bool false, .int .i64 0, .int .u64 0] 29)).alloc (.cells #[.int .u64 0, .int .u64 0, .slice none 0 0, .slice none 0 0] 40)) (w.heap.size + 1 + 1 + 1) zeroD (.slice none 0 0) := by
    have h := ((RD.zero (((w.alloc (.cells #[.int .i64 room, .slice a0 n0 c0, .bool false, .int .i64 armed, .int .u64 steps] 29)).alloc (.cells #[.int .u64 si, .int .u64 st, .slice pa pn pc, .slice qa qn qc] 40)).alloc (.cells #[.int .u64 xi, .int .u64 xt, .slice ya yn yc, .slice za zn zc] 40)))).below (((Below.refl _ _).alloc (Nat.le_refl _) _) : Below ((((w.alloc (.cells #[.int .i64 room, .slice a0 n0 c0, .bool false, .int .i64 armed, .int .u64 steps] 29)).alloc (.cells #[.int .u64 si, .int .u64 st, .slice pa pn pc, .slice qa qn qc] 40)).alloc (.cells #[.int .u64 xi, .int .u64 xt, .slice ya yn yc, .slice za zn zc] 40)).alloc (.cells #[.int .i64 0, .slice none 0 0, .bool false, .int .i64 0, .int .u64 0] 29)).heap.size ((((w.alloc (.cells #[.int .i64 room, .slice a0 n0 c0, .bool false, .int .i64 armed, .int .u64 steps] 29)).alloc (.cells #[.int .u64 si, .int .u64 st, .slice pa pn pc, .slice qa qn qc] 40)).alloc (.cells #[.int .u64 xi, .int .u64 xt, .slice ya yn yc, .slice za zn zc] 40)).alloc (.cells #[.int .i64 0, .slice none 0 0, .bool false, .int .i64 0, .int .u64 0] 29)) (((((w.alloc (.cells #[.int .i64 room, .slice a0 n0 c0, .bool false, .int .i64 armed, .int .u64 steps] 29)).alloc (.cells #[.int .u64 si, .int .u64 st, .slice pa pn pc, .slice qa qn qc] 40)).alloc (.cells #[.int .u64 xi, .int .u64 xt, .slice ya yn yc, .slice za zn zc] 40)).alloc (.cells #[.int .i64 0, .slice none 0 0, .bool false, .int .i64 0, .int .u64 0] 29)).alloc (.cells #[.int .u64 0, .int .u64 0, .slice none 0 0, .slice none 0 0] 40)))
    rw [hz3] at h
    exact h
  have BY : SBlk (((((w.alloc (.cells #[.int .i64 room, .slice a0 n0 c0, .bool false, .int .i64 armed, .int .u64 steps] 29)).alloc (.cells #[.int .u64 si, .int .u64 st, .slice pa pn pc, .slice qa qn qc] 40)).alloc (.cells #[.int .u64 xi, .int .u64 xt, .slice ya yn yc, .slice za zn zc] 40)).alloc (.cells #[.int .i64 0, .slice none 0 0, .bool false, .int .i64 0, .int .u64 0] 29)).alloc (.cells #[.int .u64 0, .int .u64 0, .slice none 0 0, .slice none 0 0] 40)) (w.heap.size + 1 + 1 + 1 + 1) 0 0 (.slice none 0 0) (.slice none 0 0) := by
    have h := (SBlk.new ((((w.alloc (.cells #[.int .i64 room, .slice a0 n0 c0, .bool false, .int .i64 armed, .int .u64 steps] 29)).alloc (.cells #[.int .u64 si, .int .u64 st, .slice pa pn pc, .slice qa qn qc] 40)).alloc (.cells #[.int .u64 xi, .int .u64 xt, .slice ya yn yc, .slice za zn zc] 40)).alloc (.cells #[.int .i64 0, .slice none 0 0, .bool false, .int .i64 0, .int .u64 0] 29)))
    rw [hz4] at h
    exact h
  have BB : Below w.heap.size w (((((w.alloc (.cells #[.int .i64 room, .slice a0 n0 c0, .bool false, .int .i64 armed, .int .u64 steps] 29)).alloc (.cells #[.int .u64 si, .int .u64 st, .slice pa pn pc, .slice qa qn qc] 40)).alloc (.cells #[.int .u64 xi, .int .u64 xt, .slice ya yn yc, .slice za zn zc] 40)).alloc (.cells #[.int .i64 0, .slice none 0 0, .bool false, .int .i64 0, .int .u64 0] 29)).alloc (.cells #[.int .u64 0, .int .u64 0, .slice none 0 0, .slice none 0 0] 40)) := (((((Below.refl _ _).alloc (Nat.le_refl _) _).alloc (by simp) _).alloc (by simp; omega) _).alloc (by simp; omega) _).alloc (by simp; omega) _
  have SS := HR.out.below BB
  have FO0 : Hid (∀ g, (.slice a0 n0 c0 : Value).ownBlock = some g → (.slice a0 n0 c0 : Value).ownBlock = some g ∨ w.heap.size ≤ g) := Lib.hid (fun g h => .inl h)
  clear hz1 hz2 hz3 hz4
  go_enter Tryz.func71, Tryz.ntmps71
  go_wp2_with fail
  generalize World.alloc (World.alloc (World.alloc (World.alloc (World.alloc w _) _) _) _) _ = w1 at *
  have X1 := Lib.hid BX
  have P1 := Lib.hid BP
  have Q1 := Lib.hid BQ
  have Z1 := Lib.hid BZ
  have Y1 := Lib.hid BY
  have B1 := Lib.hid BB
  have S1 := Lib.hid SS
  clear BX BP BQ BZ BY BB SS
  obtain ⟨r0, r1, r2, r3, r4, f0, f1, f2, f3, f4⟩ := X1.out
  obtain ⟨p0, p1, p2, p3, _, _, _, _⟩ := P1.out
  obtain ⟨q0, q1, q2, q3, _, _, _, _⟩ := Q1.out
  obtain ⟨z0, z1, z2, z3, z4, g0, g1, g2, g3, g4⟩ := Z1.out
  obtain ⟨y0, y1, y2, y3, e0, e1, e2, e3⟩ := Y1.out
  have hlx := X1.out.lt
  have hlp := P1.out.lt
  have hlq := Q1.out.lt
  have hlz := Z1.out.lt
  have hly := Y1.out.lt
  go_wp2_with fail
  refine (rsound_any _ x w1 (HX.out.below B1.out)).mono ?_
  rintro e w2 ⟨rfl, hb2⟩
  have X2 := Lib.hid (X1.out.below hb2)
  have P2 := Lib.hid (P1.out.below hb2)
  have Q2 := Lib.hid (Q1.out.below hb2)
  have Z2 := Lib.hid (Z1.out.below hb2)
  have Y2 := Lib.hid (Y1.out.below hb2)
  have S2 := Lib.hid (S1.out.below hb2)
  have B2 : Hid (Below w.heap.size w w2) := Lib.hid (B1.out.trans (hb2.mono B1.out.size))
  clear hb2
  clear r0 r1 r2 r3 r4 f0 f1 f2 f3 f4 p0 p1 p2 p3 q0 q1 q2 q3 z0 z1 z2 z3 z4 g0 g1 g2 g3 g4 y0 y1 y2 y3 e0 e1 e2 e3 hlx hlp hlq hlz hly
  clear X1 P1 Q1 Z1 Y1 S1 B1
  rw [HSN.out]
  have ST := Stable.from w2
  obtain ⟨r0, r1, r2, r3, r4, f0, f1, f2, f3, f4⟩ := X2.out
  obtain ⟨p0, p1, p2, p3, _, _, _, _⟩ := P2.out
  obtain ⟨q0, q1, q2, q3, _, _, _, _⟩ := Q2.out
  obtain ⟨z0, z1, z2, z3, z4, g0, g1, g2, g3, g4⟩ := Z2.out
  obtain ⟨y0, y1, y2, y3, e0, e1, e2, e3⟩ := Y2.out
  have hlx := X2.out.lt
  have hlp := P2.out.lt
  have hlq := Q2.out.lt
  have hlz := Z2.out.lt
  have hly := Y2.out.lt
  go_wp2_with fail
  clear r0 r1 r2 r3 r4 f0 f1 f2 f3 f4 p0 p1 p2 p3 q0 q1 q2 q3 z0 z1 z2 z3 z4 g0 g1 g2 g3 g4 y0 y1 y2 y3 e0 e1 e2 e3 hlx hlp hlq hlz hly
  refine region_start [0, 0, 2, 7, 15, 31, 31, 63, 255] 4 (fun w' => Below w2.heap.size w2 w') (by kernel_rfl) ?_
  refine stage_heads [0, 1] (by kernel_rfl) (L := #[true, true, false, false, false, false, false, false, false]) (by kernel_rfl) (f' := 7) rfl (fun _ _ _ _ h => h) (fun w o h => ST.alloc h o) (.inr (by first | exact (Below.refl _ _).drew | exact Below.refl _ _)) ?_
  simp only [List.flatMap_cons, List.flatMap_nil, List.drop_succ_cons, List.drop_zero, List.take_succ_cons, List.take_zero, List.cons_append, List.nil_append, List.append_nil]
  iterate 2 (first | (refine heads_load _ (by rfl) (fun w' hs => by obtain ⟨r0, r1, r2, r3, r4, _⟩ := X2.out.below hs; obtain ⟨q0, q1, q2, q3, _⟩ := Q2.out.below hs; go_simp; try with_reducible rfl) rfl ?_; simp only [Act.put, List.setIfInBounds_toArray, List.set_cons_zero, List.set_cons_succ]) | (refine heads_pure _ (by rfl) (fun w' => by go_simp; try with_reducible rfl) ?_; simp only [Act.put, List.setIfInBounds_toArray, List.set_cons_zero, List.set_cons_succ]))
  refine heads_nil ?_
  refine stage_op 2 (by kernel_rfl) (L := #[true, true, true, false, false, false, false, false, false]) (by kernel_rfl) ?_
  simp only [List.drop_succ_cons, List.drop_zero, List.take_succ_cons, List.take_zero]
  go_wp2_with fail
  refine (HBY.out _ (by first | exact HX.out.below (B2.out.drew) | exact HX.out.below B2.out)).mono ?_
  rintro e u ⟨bv, rfl, hB, hb⟩
  have BU : Hid (Below w2.heap.size w2 u) := Lib.hid (by first | exact ((Below.refl _ _).drew).trans hb | exact hb)
  have HBB := Lib.hid hB
  obtain ⟨ba, bc, rfl, _⟩ := hB.shape
  clear hb hB
  go_wp2_with fail
  refine step_post (fun _ => BU.out) ?_
  refine stage_op 3 (by kernel_rfl) (L := #[true, true, true, true, false, false, false, false, false]) (by kernel_rfl) ?_
  simp only [List.drop_succ_cons, List.drop_zero, List.take_succ_cons, List.take_zero]
  go_wp2_with fail
  refine (rinto_new _ _ ⟨room, L, false, armed, steps⟩ nSnap nOther bs _ (RIs.new (D := ⟨room, L, false, armed, steps⟩) HN0.out (S2.out.below BU.out)) HG.out rfl HST.out HBB.out HBS.out (by rfl) (by decide) (by decide)).mono ?_
  rintro e wr ⟨v1, rfl, hr1, hb1, hf1⟩
  have BR : Hid (Below w2.heap.size w2 wr) := Lib.hid (BU.out.trans (hb1.mono BU.out.size))
  have Xr := Lib.hid (X2.out.below BR.out)
  have Pr := Lib.hid (P2.out.below BR.out)
  have Qr := Lib.hid (Q2.out.below BR.out)
  have Zr := Lib.hid (Z2.out.below BR.out)
  have Yr := Lib.hid (Y2.out.below BR.out)
  have Br : Hid (Below w.heap.size w wr) := Lib.hid (B2.out.trans (BR.out.mono B2.out.size))
  clear hb1
  obtain ⟨r, hr⟩ : ∃ r, intoD ⟨room, L, false, armed, steps⟩ nOther nSnap bs = r := ⟨_, rfl⟩
  have HR1 := Lib.hid hr
  rw [hr] at hr1 ⊢
  obtain ⟨D1, e1⟩ := r
  simp only at hr1 ⊢
  obtain ⟨a1, c1, rfl, hs1⟩ := hr1
  obtain ⟨n1, hn1⟩ : ∃ n, D1.files.length = n := ⟨_, rfl⟩
  have HN1 := Lib.hid hn1
  rw [hn1] at hs1 hf1 ⊢
  have Sr := Lib.hid hs1
  have FO1 : Hid (∀ g, (.slice a1 n1 c1 : Value).ownBlock = some g → (.slice a0 n0 c0 : Value).ownBlock = some g ∨ w.heap.size ≤ g) := Lib.hid (fun g hg => by
    rcases hf1 g hg with h | h
    · exact FO0.out g h
    · exact .inr (by have := B2.out.size; have := BU.out.size; omega))
  clear hr hs1 hn1 hf1
  go_wp2_with fail
  refine step_post nofun ?_
  refine stage_heads [4, 5, 6] (by kernel_rfl) (L := #[true, true, true, true, true, true, true, false, false]) (by kernel_rfl) (f' := 2) rfl (fun _ _ _ _ h => h) (fun w o h => ST.alloc h o) (.inl (by kernel_rfl)) ?_
  simp only [List.flatMap_cons, List.flatMap_nil, List.drop_succ_cons, List.drop_zero, List.take_succ_cons, List.take_zero, List.cons_append, List.nil_append, List.append_nil]
  iterate 3 (refine heads_pure _ (by rfl) (fun w' => by go_simp; try with_reducible rfl) ?_; simp only [Act.put, List.setIfInBounds_toArray, List.set_cons_zero, List.set_cons_succ])
  refine heads_nil ?_
  refine stage_op 7 (by kernel_rfl) (L := #[true, true, true, true, true, true, true, true, false]) (by kernel_rfl) ?_
  simp only [List.drop_succ_cons, List.drop_zero, List.take_succ_cons, List.take_zero]
  obtain ⟨r0, r1, r2, r3, r4, f0, f1, f2, f3, f4⟩ := Xr.out
  obtain ⟨p0, p1, p2, p3, _, _, _, _⟩ := Pr.out
  obtain ⟨q0, q1, q2, q3, _, _, _, _⟩ := Qr.out
  obtain ⟨z0, z1, z2, z3, z4, g0, g1, g2, g3, g4⟩ := Zr.out
  obtain ⟨y0, y1, y2, y3, e0, e1, e2, e3⟩ := Yr.out
  have hlx := Xr.out.lt
  have hlp := Pr.out.lt
  have hlq := Qr.out.lt
  have hlz := Zr.out.lt
  have hly := Yr.out.lt
  go_wp2_with fail
  refine step_post nofun ?_
  refine stage_heads [8] (by kernel_rfl) (L := #[true, true, true, true, true, true, true, true, true]) (by kernel_rfl) (f' := 0) rfl (fun _ _ _ _ h => h) (fun w o h => ST.alloc h o) (.inl (by kernel_rfl)) ?_
  simp only [List.flatMap_cons, List.flatMap_nil, List.drop_succ_cons, List.drop_zero, List.take_succ_cons, List.take_zero, List.append_nil]
  iterate 1 (refine heads_pure _ (by rfl) (fun w' => by go_simp; try with_reducible rfl) ?_; simp only [Act.put, List.setIfInBounds_toArray, List.set_cons_zero, List.set_cons_succ])
  refine heads_nil ?_
  refine stage_done (by kernel_rfl) ?_
  have X6a := Xr.out.set D1 (.slice a1 n1 c1)
  have KS := Kept.set5D wr w.heap.size D1 (.slice a1 n1 c1)
  have P6a := Pr.out.kept KS (by omega)
  have Q6a := Qr.out.kept KS (by omega)
  have Z6a := Zr.out.kept KS (by omega)
  have Y6a := Yr.out.kept KS (by omega)
  have S6a := Sr.out.setD Xr.out (fun s e => by cases e) D1 (.slice a1 n1 c1)
  have B6a := Br.out.trans (KS.below Br.out.size (fun k hk => by omega))
  unfold set5D at X6a P6a Q6a Z6a Y6a S6a B6a
  generalize (((((wr.setCell ⟨w.heap.size, 0, none⟩ (.int .i64 D1.room)).setCell ⟨w.heap.size, 1, none⟩ (.slice a1 n1 c1)).setCell ⟨w.heap.size, 2, none⟩ (.bool D1.down)).setCell ⟨w.heap.size, 3, none⟩ (.int .i64 D1.armed)).setCell ⟨w.heap.size, 4, none⟩ (.int .u64 D1.steps)) = w6 at *
  have X6 := Lib.hid X6a
  have P6 := Lib.hid P6a
  have Q6 := Lib.hid Q6a
  have Z6 := Lib.hid Z6a
  have Y6 := Lib.hid Y6a
  have S6 := Lib.hid S6a
  have B6 := Lib.hid B6a
  clear KS X6a P6a Q6a Z6a Y6a S6a B6a
  clear r0 r1 r2 r3 r4 f0 f1 f2 f3 f4 p0 p1 p2 p3 q0 q1 q2 q3 z0 z1 z2 z3 z4 g0 g1 g2 g3 g4 y0 y1 y2 y3 e0 e1 e2 e3 hlx hlp hlq hlz hly
  have HV1 : Hid (save4 ⟨room, L, false, armed, steps⟩ bs = (D1, e1)) := Lib.hid ((save4_into _ _).trans HR1.out)
  by_cases he : e1 = 0
  · subst he
    obtain rfl : .agg #[.int .u64 xi, .int .u64 xt, .slice ya yn yc, .slice za zn zc] = OV := by rw [← HOV.out, HV1.out]; exact (if_pos rfl).symm
    go_wp2_with fail
    obtain ⟨r0, r1, r2, r3, r4, f0, f1, f2, f3, f4⟩ := X6.out
    obtain ⟨p0, p1, p2, p3, _, _, _, _⟩ := P6.out
    obtain ⟨q0, q1, q2, q3, _, _, _, _⟩ := Q6.out
    obtain ⟨z0, z1, z2, z3, z4, g0, g1, g2, g3, g4⟩ := Z6.out
    obtain ⟨y0, y1, y2, y3, e0, e1, e2, e3⟩ := Y6.out
    have hlx := X6.out.lt
    have hlp := P6.out.lt
    have hlq := Q6.out.lt
    have hlz := Z6.out.lt
    have hly := Y6.out.lt
    have J1 : Hid (RD (set5D w6 (w.heap.size + 1 + 1 + 1) D1 (.slice a1 n1 c1)) w.heap.size D1 (.slice a1 n1 c1) ∧ SBlk (set5D w6 (w.heap.size + 1 + 1 + 1) D1 (.slice a1 n1 c1)) (w.heap.size + 1 + 1) xi xt (.slice ya yn yc) (.slice za zn zc)) := Lib.hid ⟨X6.out.kept (Kept.set5D w6 (w.heap.size + 1 + 1 + 1) D1 (.slice a1 n1 c1)) (by omega), Q6.out.kept (Kept.set5D w6 (w.heap.size + 1 + 1 + 1) D1 (.slice a1 n1 c1)) (by omega)⟩
    have J2 : Hid (RD (set5D w6 (w.heap.size + 1 + 1 + 1) D1 (.slice a1 n1 c1)).drew w.heap.size D1 (.slice a1 n1 c1) ∧ SBlk (set5D w6 (w.heap.size + 1 + 1 + 1) D1 (.slice a1 n1 c1)).drew (w.heap.size + 1 + 1) xi xt (.slice ya yn yc) (.slice za zn zc)) := Lib.hid ⟨J1.out.1.below ((Below.refl _ _).drew), J1.out.2.below ((Below.refl _ _).drew)⟩
    unfold set5D at J1 J2
    refine region_start [0, 0, 1, 7, 15] 4 (fun w' => RD w' w.heap.size D1 (.slice a1 n1 c1) ∧ SBlk w' (w.heap.size + 1 + 1) xi xt (.slice ya yn yc) (.slice za zn zc)) (by kernel_rfl) ?_
    refine stage_heads [0, 1] (by kernel_rfl) (L := #[true, true, false, false, false]) (by kernel_rfl) (f' := 3) rfl (fun _ _ _ _ h => h) (fun w o h => ⟨h.1.below ((Below.refl _ _).alloc (Nat.le_refl _) o), h.2.below ((Below.refl _ _).alloc (Nat.le_refl _) o)⟩) (.inr (by first | exact ⟨X6.out.below ((Below.refl _ _).drew), Q6.out.below ((Below.refl _ _).drew)⟩ | exact ⟨X6.out, Q6.out⟩)) ?_
    simp only [List.flatMap_cons, List.flatMap_nil, List.drop_succ_cons, List.drop_zero, List.take_succ_cons, List.take_zero, List.cons_append, List.nil_append, List.append_nil]
    iterate 2 (first | (refine heads_load _ (by rfl) (fun w' hs => by obtain ⟨⟨r0, r1, r2, r3, r4, _⟩, b0, b1, b2, b3, _⟩ := hs; go_simp; try with_reducible rfl) rfl ?_; simp only [Act.put, List.setIfInBounds_toArray, List.set_cons_zero, List.set_cons_succ]) | (refine heads_pure _ (by rfl) (fun w' => by go_simp; try with_reducible rfl) ?_; simp only [Act.put, List.setIfInBounds_toArray, List.set_cons_zero, List.set_cons_succ]))
    refine heads_nil ?_
    refine stage_op 2 (by kernel_rfl) (L := #[true, true, true, false, false]) (by kernel_rfl) ?_
    simp only [List.drop_succ_cons, List.drop_zero, List.take_succ_cons, List.take_zero]
    go_wp2_with fail
    refine step_post (fun _ => (by first | exact J2.out | exact J1.out)) ?_
    refine stage_op 3 (by kernel_rfl) (L := #[true, true, true, true, false]) (by kernel_rfl) ?_
    simp only [List.drop_succ_cons, List.drop_zero, List.take_succ_cons, List.take_zero]
    go_wp2_with fail
    refine step_post nofun ?_
    refine stage_heads [4] (by kernel_rfl) (L := #[true, true, true, true, true]) (by kernel_rfl) (f' := 0) rfl (fun _ _ _ _ h => h) (fun w o h => ⟨h.1.below ((Below.refl _ _).alloc (Nat.le_refl _) o), h.2.below ((Below.refl _ _).alloc (Nat.le_refl _) o)⟩) (.inl (by kernel_rfl)) ?_
    simp only [List.flatMap_cons, List.flatMap_nil, List.drop_succ_cons, List.drop_zero, List.take_succ_cons, List.take_zero, List.append_nil]
    iterate 1 (refine heads_pure _ (by rfl) (fun w' => by go_simp; try with_reducible rfl) ?_; simp only [Act.put, List.setIfInBounds_toArray, List.set_cons_zero, List.set_cons_succ])
    refine heads_nil ?_
    refine stage_done (by kernel_rfl) ?_
    generalize hwz : World.drew _ = wz
    have W1 : wz = ((((((((((w6.setCell ⟨(w.heap.size + 1 + 1 + 1), 0, none⟩ (.int .i64 D1.room)).setCell ⟨(w.heap.size + 1 + 1 + 1), 1, none⟩ (.slice a1 n1 c1)).setCell ⟨(w.heap.size + 1 + 1 + 1), 2, none⟩ (.bool D1.down)).setCell ⟨(w.heap.size + 1 + 1 + 1), 3, none⟩ (.int .i64 D1.armed)).setCell ⟨(w.heap.size + 1 + 1 + 1), 4, none⟩ (.int .u64 D1.steps))).setCell ⟨(w.heap.size + 1 + 1 + 1 + 1), 0, none⟩ (.int .u64 xi)).setCell ⟨(w.heap.size + 1 + 1 + 1 + 1), 1, none⟩ (.int .u64 xt)).setCell ⟨(w.heap.size + 1 + 1 + 1 + 1), 2, none⟩ (.slice ya yn yc)).setCell ⟨(w.heap.size + 1 + 1 + 1 + 1), 3, none⟩ (.slice za zn zc)).drew := hwz.symm
    have KS := Kept.set5D w6 (w.heap.size + 1 + 1 + 1) D1 (.slice a1 n1 c1)
    have RFF := (Z6.out.set D1 (.slice a1 n1 c1))
    have YS := Y6.out.kept KS (by omega)
    have SS := S6.out.setD Z6.out (fun s e => by cases e) D1 (.slice a1 n1 c1)
    have K4 := Kept.set4 (set5D w6 (w.heap.size + 1 + 1 + 1) D1 (.slice a1 n1 c1)) (w.heap.size + 1 + 1 + 1 + 1) xi xt (.slice ya yn yc) (.slice za zn zc)
    have RFG0 := (RFF.kept K4 (by omega)).below ((Below.refl _ _).drew)
    have RFY0 := (YS.set4 xi xt (.slice ya yn yc) (.slice za zn zc)).below ((Below.refl _ _).drew)
    have SF0 := (SS.setSn (p := none) (q := none) YS xi xt (.slice ya yn yc) (.slice za zn zc)).below ((Below.refl _ _).drew)
    have BF0 := B6.out.trans (KS.below B6.out.size (fun k hk => by omega))
    have BF1 := (BF0.trans (K4.below BF0.size (fun k hk => by omega))).drew
    unfold set5D at RFG0 RFY0 SF0 BF1
    rw [← W1] at RFG0 RFY0 SF0 BF1
    have RFG := Lib.hid RFG0
    have RFY := Lib.hid RFY0
    have SF := Lib.hid SF0
    have BF := Lib.hid BF1
    clear KS RFF YS SS K4 RFG0 RFY0 SF0 BF0 BF1 W1 hwz
    clear r0 r1 r2 r3 r4 f0 f1 f2 f3 f4 p0 p1 p2 p3 q0 q1 q2 q3 z0 z1 z2 z3 z4 g0 g1 g2 g3 g4 y0 y1 y2 y3 e0 e1 e2 e3 hlx hlp hlq hlz hly
    obtain ⟨q0, q1, q2, q3, q4, _⟩ := RFG.out
    obtain ⟨u0, u1, u2, u3, _⟩ := RFY.out
    go_wp2_with fail
    refine bodyPost_ret (v := .tuple #[.agg #[.int .i64 D1.room, .slice a1 n1 c1, .bool D1.down, .int .i64 D1.armed, .int .u64 D1.steps], .agg #[.int .u64 xi, .int .u64 xt, .slice ya yn yc, .slice za zn zc], .int .i64 0]) (by simp [results, Tryz.results71, go_sem, q0, q1, q2, q3, q4, u0, u1, u2, u3]) rfl ?_
    rw [HV1.out]
    exact ⟨_, rfl, RIs.new (D := D1) HN1.out SF.out, BF.out, FO1.out⟩
  · have hbq : ((e1 : Int) != 0) = true := bne_iff_ne.2 (by omega)
    obtain rfl : .agg #[.int .u64 si, .int .u64 st, .slice pa pn pc, .slice qa qn qc] = OV := by rw [← HOV.out, HV1.out]; exact (if_neg he).symm
    clear he
    go_wp2_with fail
    obtain ⟨r0, r1, r2, r3, r4, f0, f1, f2, f3, f4⟩ := X6.out
    obtain ⟨p0, p1, p2, p3, _, _, _, _⟩ := P6.out
    obtain ⟨q0, q1, q2, q3, _, _, _, _⟩ := Q6.out
    obtain ⟨z0, z1, z2, z3, z4, g0, g1, g2, g3, g4⟩ := Z6.out
    obtain ⟨y0, y1, y2, y3, e0, e1, e2, e3⟩ := Y6.out
    have hlx := X6.out.lt
    have hlp := P6.out.lt
    have hlq := Q6.out.lt
    have hlz := Z6.out.lt
    have hly := Y6.out.lt
    have J1 : Hid (RD (set5D w6 (w.heap.size + 1 + 1 + 1) D1 (.slice a1 n1 c1)) w.heap.size D1 (.slice a1 n1 c1) ∧ SBlk (set5D w6 (w.heap.size + 1 + 1 + 1) D1 (.slice a1 n1 c1)) (w.heap.size + 1) si st (.slice pa pn pc) (.slice qa qn qc)) := Lib.hid ⟨X6.out.kept (Kept.set5D w6 (w.heap.size + 1 + 1 + 1) D1 (.slice a1 n1 c1)) (by omega), P6.out.kept (Kept.set5D w6 (w.heap.size + 1 + 1 + 1) D1 (.slice a1 n1 c1)) (by omega)⟩
    have J2 : Hid (RD (set5D w6 (w.heap.size + 1 + 1 + 1) D1 (.slice a1 n1 c1)).drew w.heap.size D1 (.slice a1 n1 c1) ∧ SBlk (set5D w6 (w.heap.size + 1 + 1 + 1) D1 (.slice a1 n1 c1)).drew (w.heap.size + 1) si st (.slice pa pn pc) (.slice qa qn qc)) := Lib.hid ⟨J1.out.1.below ((Below.refl _ _).drew), J1.out.2.below ((Below.refl _ _).drew)⟩
    unfold set5D at J1 J2
    refine region_start [0, 0, 0, 1, 11, 31] 8 (fun w' => RD w' w.heap.size D1 (.slice a1 n1 c1) ∧ SBlk w' (w.heap.size + 1) si st (.slice pa pn pc) (.slice qa qn qc)) (by kernel_rfl) ?_
    refine stage_heads [0, 1, 2] (by kernel_rfl) (L := #[true, true, true, false, false, false]) (by kernel_rfl) (f' := 3) rfl (fun _ _ _ _ h => h) (fun w o h => ⟨h.1.below ((Below.refl _ _).alloc (Nat.le_refl _) o), h.2.below ((Below.refl _ _).alloc (Nat.le_refl _) o)⟩) (.inr (by first | exact ⟨X6.out.below ((Below.refl _ _).drew), P6.out.below ((Below.refl _ _).drew)⟩ | exact ⟨X6.out, P6.out⟩)) ?_
    simp only [List.flatMap_cons, List.flatMap_nil, List.drop_succ_cons, List.drop_zero, List.take_succ_cons, List.take_zero, List.cons_append, List.nil_append, List.append_nil]
    iterate 3 (first | (refine heads_load _ (by rfl) (fun w' hs => by obtain ⟨⟨r0, r1, r2, r3, r4, _⟩, b0, b1, b2, b3, _⟩ := hs; go_simp; try with_reducible rfl) rfl ?_; simp only [Act.put, List.setIfInBounds_toArray, List.set_cons_zero, List.set_cons_succ]) | (refine heads_pure _ (by rfl) (fun w' => by go_simp; try with_reducible rfl) ?_; simp only [Act.put, List.setIfInBounds_toArray, List.set_cons_zero, List.set_cons_succ]))
    refine heads_nil ?_
    refine stage_op 3 (by kernel_rfl) (L := #[true, true, true, true, false, false]) (by kernel_rfl) ?_
    simp only [List.drop_succ_cons, List.drop_zero, List.take_succ_cons, List.take_zero]
    go_wp2_with fail
    refine step_post (fun _ => (by first | exact J2.out | exact J1.out)) ?_
    refine stage_op 4 (by kernel_rfl) (L := #[true, true, true, true, true, false]) (by kernel_rfl) ?_
    simp only [List.drop_succ_cons, List.drop_zero, List.take_succ_cons, List.take_zero]
    go_wp2_with fail
    refine step_post nofun ?_
    refine stage_heads [5] (by kernel_rfl) (L := #[true, true, true, true, true, true]) (by kernel_rfl) (f' := 0) rfl (fun _ _ _ _ h => h) (fun w o h => ⟨h.1.below ((Below.refl _ _).alloc (Nat.le_refl _) o), h.2.below ((Below.refl _ _).alloc (Nat.le_refl _) o)⟩) (.inl (by kernel_rfl)) ?_
    simp only [List.flatMap_cons, List.flatMap_nil, List.drop_succ_cons, List.drop_zero, List.take_succ_cons, List.take_zero, List.append_nil]
    iterate 1 (refine heads_pure _ (by rfl) (fun w' => by go_simp; try with_reducible rfl) ?_; simp only [Act.put, List.setIfInBounds_toArray, List.set_cons_zero, List.set_cons_succ])
    refine heads_nil ?_
    refine stage_done (by kernel_rfl) ?_
    generalize hwz : World.drew _ = wz
    have W1 : wz = ((((((((((w6.setCell ⟨(w.heap.size + 1 + 1 + 1), 0, none⟩ (.int .i64 D1.room)).setCell ⟨(w.heap.size + 1 + 1 + 1), 1, none⟩ (.slice a1 n1 c1)).setCell ⟨(w.heap.size + 1 + 1 + 1), 2, none⟩ (.bool D1.down)).setCell ⟨(w.heap.size + 1 + 1 + 1), 3, none⟩ (.int .i64 D1.armed)).setCell ⟨(w.heap.size + 1 + 1 + 1), 4, none⟩ (.int .u64 D1.steps))).setCell ⟨(w.heap.size + 1 + 1 + 1 + 1), 0, none⟩ (.int .u64 si)).setCell ⟨(w.heap.size + 1 + 1 + 1 + 1), 1, none⟩ (.int .u64 st)).setCell ⟨(w.heap.size + 1 + 1 + 1 + 1), 2, none⟩ (.slice pa pn pc)).setCell ⟨(w.heap.size + 1 + 1 + 1 + 1), 3, none⟩ (.slice qa qn qc)).drew := hwz.symm
    have KS := Kept.set5D w6 (w.heap.size + 1 + 1 + 1) D1 (.slice a1 n1 c1)
    have RFF := (Z6.out.set D1 (.slice a1 n1 c1))
    have YS := Y6.out.kept KS (by omega)
    have SS := S6.out.setD Z6.out (fun s e => by cases e) D1 (.slice a1 n1 c1)
    have K4 := Kept.set4 (set5D w6 (w.heap.size + 1 + 1 + 1) D1 (.slice a1 n1 c1)) (w.heap.size + 1 + 1 + 1 + 1) si st (.slice pa pn pc) (.slice qa qn qc)
    have RFG0 := (RFF.kept K4 (by omega)).below ((Below.refl _ _).drew)
    have RFY0 := (YS.set4 si st (.slice pa pn pc) (.slice qa qn qc)).below ((Below.refl _ _).drew)
    have SF0 := (SS.setSn (p := none) (q := none) YS si st (.slice pa pn pc) (.slice qa qn qc)).below ((Below.refl _ _).drew)
    have BF0 := B6.out.trans (KS.below B6.out.size (fun k hk => by omega))
    have BF1 := (BF0.trans (K4.below BF0.size (fun k hk => by omega))).drew
    unfold set5D at RFG0 RFY0 SF0 BF1
    rw [← W1] at RFG0 RFY0 SF0 BF1
    have RFG := Lib.hid RFG0
    have RFY := Lib.hid RFY0
    have SF := Lib.hid SF0
    have BF := Lib.hid BF1
    clear KS RFF YS SS K4 RFG0 RFY0 SF0 BF0 BF1 W1 hwz
    clear r0 r1 r2 r3 r4 f0 f1 f2 f3 f4 p0 p1 p2 p3 q0 q1 q2 q3 z0 z1 z2 z3 z4 g0 g1 g2 g3 g4 y0 y1 y2 y3 e0 e1 e2 e3 hlx hlp hlq hlz hly
    obtain ⟨q0, q1, q2, q3, q4, _⟩ := RFG.out
    obtain ⟨u0, u1, u2, u3, _⟩ := RFY.out
    go_wp2_with fail
    refine bodyPost_ret (v := .tuple #[.agg #[.int .i64 D1.room, .slice a1 n1 c1, .bool D1.down, .int .i64 D1.armed, .int .u64 D1.steps], .agg #[.int .u64 si, .int .u64 st, .slice pa pn pc, .slice qa qn qc], .int .i64 (e1 : Nat)]) (by simp [results, Tryz.results71, go_sem, q0, q1, q2, q3, q4, u0, u1, u2, u3]) rfl ?_
    rw [HV1.out]
    exact ⟨_, rfl, RIs.new (D := D1) HN1.out SF.out, BF.out, FO1.out⟩
theorem rsave_any (vd : Value) (D : DiskS) (s x : SnapS) (pa qa ya za : Option Addr) (pn pc qn qc yn yc zn zc : Nat) (w : World) (h : RIs w vd D) (hg : DGood D) (hst : D.steps + 4 ≤ 1000000000) (hx : SnapIs w (.agg #[.int .u64 x.i, .int .u64 x.t, .slice ya yn yc, .slice za zn zc]) x) (OV : Value) (hOV : (if (saveD D s x).2 = 0 then (.agg #[.int .u64 x.i, .int .u64 x.t, .slice ya yn yc, .slice za zn zc]) else (.agg #[.int .u64 s.i, .int .u64 s.t, .slice pa pn pc, .slice qa qn qc])) = OV) :
    Calls Tryz.prog 71 #[vd, .agg #[.int .u64 s.i, .int .u64 s.t, .slice pa pn pc, .slice qa qn qc], .agg #[.int .u64 x.i, .int .u64 x.t, .slice ya yn yc, .slice za zn zc]] w (RSave (saveD D s x) OV vd w) := by
  obtain ⟨a, c, rfl, hr⟩ := h
  obtain ⟨room, L, down, armed, steps⟩ := D
  simp only at hr ⊢
  unfold saveD at hOV ⊢
  by_cases hok : x.ok
  · have hsn : x.okB = true := decide_eq_true hok
    rw [if_neg (not_not_intro hok)] at hOV ⊢
    by_cases hle : x.i ≤ s.i
    · rw [if_pos hle] at hOV ⊢
      rw [if_neg (by simp)] at hOV
      subst hOV
      exact rsave_old a _ c room L armed steps down s.i s.t x.i x.t pa qa ya za pn pc qn qc yn yc zn zc x w rfl hr hx hsn hle
    · rw [if_neg hle] at hOV ⊢
      cases down
      · exact rsave_new a _ c room L armed steps s.i s.t x.i x.t pa qa ya za pn pc qn qc yn yc zn zc x w rfl hr hx hsn hle hok hg hst OV hOV
      · rw [save4_down rfl] at hOV ⊢
        rw [if_neg (by simp)] at hOV
        subst hOV
        exact rsave_down a _ c room L armed steps s.i s.t x.i x.t pa qa ya za pn pc qn qc yn yc zn zc x w rfl hr hx hsn hle
  · have hsn : x.okB = false := decide_eq_false hok
    rw [if_pos hok] at hOV ⊢
    rw [if_neg (by simp)] at hOV
    subst hOV
    exact rsave_bad a _ c room L armed steps down s.i s.t x.i x.t pa qa ya za pn pc qn qc yn yc zn zc x w rfl hr hx hsn
end Go.Proofs.YtofhccpagnkalaaGreat

/- What a disk's steps count tells, and how a region's standing fact is changed on the way; no conditions. -/
namespace Go.Proofs.Own
open Go Go.RowKit

section
variable {P : Program} {ops : Array Oper} {Q : Exit → Act → World → Prop} {M : List Nat} {J : Nat}
end
end Go.Proofs.Own
namespace Go.Proofs.YtofhccpagnkalaaGreat
open Go.RowKit Go.Maps Go.Proofs.Own

theorem mget_any (b : Nat) (c : Int) (w : World) (h : MeterIs w b c) : Calls Tryz.prog 69 #[.pointer (some ⟨b, 0, none⟩), .int .i64 0] w fun e w' => e = .returned (.int .u64 c) ∧ w = w' := by
  have H := Lib.hid h
  clear h
  go_enter Tryz.func69, Tryz.ntmps69
  go_wp2_with fail
  refine (mat b c _ H.out).mono ?_
  rintro e w1 ⟨rfl, rfl⟩
  go_wp2_with fail
  refine (mload b c _ H.out).mono ?_
  rintro e w1 ⟨rfl, rfl⟩
  go_wp2_with fail
  go_ret
  exact ⟨rfl, rfl⟩
theorem dsteps_any (db mb tb : Nat) (D : DiskS) (w : World) (h : DiskIs w db mb tb D) : Calls Tryz.prog 25 #[.pointer (some ⟨db, 0, none⟩)] w fun e w' => e = .returned (.int .u64 D.steps) ∧ w = w' := by
  have H := Lib.hid h
  have c4 := h.c4
  clear h
  go_enter Tryz.func25, Tryz.ntmps25
  go_wp2_with fail
  refine (dnone db mb tb D _ H.out).mono ?_
  rintro e w1 ⟨rfl, rfl⟩
  go_wp2_with fail
  refine (mget_any tb D.steps _ H.out.mt).mono ?_
  rintro e w1 ⟨rfl, rfl⟩
  go_wp2_with fail
  go_ret
  exact ⟨rfl, rfl⟩
set_option maxHeartbeats 1000000 in
theorem rnew_at (room : Int) (w : World) : Calls Tryz.prog 9 #[.int .i64 room] w fun e w' => e = .returned (.agg #[.int .i64 room, .slice none 0 0, .bool false, .int .i64 (-1), .int .u64 0]) ∧ Below w.heap.size w w' := by
  go_enter Tryz.func9, Tryz.ntmps9
  go_wp2_with fail
  refine bodyPost_ret (v := .agg #[.int .i64 room, .slice none 0 0, .bool false, .int .i64 (-1), .int .u64 0]) (by simp [results, Tryz.results9, go_sem]) rfl ?_
  exact ⟨rfl, (Below.refl _ _).alloc (Nat.le_refl _) _⟩
end Go.Proofs.YtofhccpagnkalaaGreat
