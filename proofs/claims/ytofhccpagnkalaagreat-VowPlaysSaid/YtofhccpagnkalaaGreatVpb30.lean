/- Several texts in one: Rkp. What each proves stands ahead of it; together they serve vplays_law_holds. No conditions but those stated. -/
import Derived.Test.YtofhccpagnkalaaGreatVpb28
import Derived.Test.YtofhccpagnkalaaGreatVpb29
/- The document's Keep; contract; no conditions but the ranges. -/
namespace Go.Proofs.YtofhccpagnkalaaGreat
open Go.RowKit Go.Maps Go.Proofs.Own

theorem vwriteD_into {D : DiskS} {b : List Nat} (hd : D.down = false) (h : ¬ (getF D nVow).all.length < 256) : vwriteD D b = intoD D nVowN nVow b := by
  unfold vwriteD
  rw [if_neg (by rw [hd]; decide), if_neg h]
  rfl
theorem vwriteD_wr {D : DiskS} {b : List Nat} (hd : D.down = false) (h : (getF D nVow).all.length < 256) : vwriteD D b = wrTo D nVow b := by
  unfold vwriteD
  rw [if_neg (by rw [hd]; decide), if_pos h]
/-- What the document's Keep tells. -/
def RKeep (R : DiskS × Nat) (t v : Int) (v0 : Value) (w : World) : Ending → World → Prop := fun e w' => ∃ vd, e = .returned (.tuple #[vd, .agg #[.int .u64 t, .int .i64 v], .int .i64 R.2]) ∧ RIs w' vd R.1 ∧ Below w.heap.size w w' ∧ ∀ g, fsOwn vd = some g → fsOwn v0 = some g ∨ w.heap.size ≤ g

set_option maxHeartbeats 4000000 in
set_option maxRecDepth 20000 in
theorem rkeep_bad (a0 : Option Addr) (n0 c0 : Nat) (down : Bool) (room : Int) (L : List FileS) (armed steps t v t' v' : Int) (w : World) (hn : L.length = n0) (hr : SRow w 3 (.slice a0 n0 c0) (L.map rfV)) (hsn : vSnd t' v' = false) : Calls Tryz.prog 66 #[.agg #[.int .i64 room, .slice a0 n0 c0, .bool down, .int .i64 armed, .int .u64 steps], .agg #[.int .u64 t, .int .i64 v], .agg #[.int .u64 t', .int .i64 v']] w (RKeep (⟨room, L, down, armed, steps⟩, 2) t v (.agg #[.int .i64 room, .slice a0 n0 c0, .bool down, .int .i64 armed, .int .u64 steps]) w) := by
  have HN0 := Lib.hid hn
  have HR := Lib.hid hr
  clear hn hr
  have HSN : Hid (vSnd t' v' = false) := Lib.hid hsn
  clear hsn
  have hz1 : (w.alloc (.cells #[.int .i64 room, .slice a0 n0 c0, .bool down, .int .i64 armed, .int .u64 steps] 29)).heap.size = w.heap.size + 1 := by simp
  have hz2 : ((w.alloc (.cells #[.int .i64 room, .slice a0 n0 c0, .bool down, .int .i64 armed, .int .u64 steps] 29)).alloc (.cells #[.int .u64 t, .int .i64 v] 52)).heap.size = w.heap.size + 1 + 1 := by simp
  have hz3 : (((w.alloc (.cells #[.int .i64 room, .slice a0 n0 c0, .bool down, .int .i64 armed, .int .u64 steps] 29)).alloc (.cells #[.int .u64 t, .int .i64 v] 52)).alloc (.cells #[.int .u64 t', .int .i64 v'] 52)).heap.size = w.heap.size + 1 + 1 + 1 := by simp
  have hz4 : ((((w.alloc (.cells #[.int .i64 room, .slice a0 n0 c0, .bool down, .int .i64 armed, .int .u64 steps] 29)).alloc (.cells #[.int .u64 t, .int .i64 v] 52)).alloc (.cells #[.int .u64 t', .int .i64 v'] 52)).alloc (.cells #[.int .i64 0, .slice none 0 0, .bool false, .int .i64 0, .int .u64 0] 29)).heap.size = w.heap.size + 1 + 1 + 1 + 1 := by simp
  have BX : RD (((((w.alloc (.cells #[.int .i64 room, .slice a0 n0 c0, .bool down, .int .i64 armed, .int .u64 steps] 29)).alloc (.cells #[.int .u64 t, .int .i64 v] 52)).alloc (.cells #[.int .u64 t', .int .i64 v'] 52)).alloc (.cells #[.int .i64 0, .slice none 0 0, .bool false, .int .i64 0, .int .u64 0] 29)).alloc (.cells #[.int .u64 0, .int .i64 0] 52)) w.heap.size ⟨room, L, down, armed, steps⟩ (.slice a0 n0 c0) := ((((RD.box w ⟨room, L, down, armed, steps⟩ (.slice a0 n0 c0)).below ((Below.refl _ _).alloc (Nat.le_refl _) _)).below ((Below.refl _ _).alloc (Nat.le_refl _) _)).below ((Below.refl _ _).alloc (Nat.le_refl _) _)).below ((Below.refl _ _).alloc (Nat.le_refl _) _)
  have BP : SC (((((w.alloc (.cells #[.int .i64 room, .slice a0 n0 c0, .bool down, .int .i64 armed, .int .u64 steps] 29)).alloc (.cells #[.int .u64 t, .int .i64 v] 52)).alloc (.cells #[.int .u64 t', .int .i64 v'] 52)).alloc (.cells #[.int .i64 0, .slice none 0 0, .bool false, .int .i64 0, .int .u64 0] 29)).alloc (.cells #[.int .u64 0, .int .i64 0] 52)) (w.heap.size + 1) t v := by
    have h := ((((SC.box26 (w.alloc (.cells #[.int .i64 room, .slice a0 n0 c0, .bool down, .int .i64 armed, .int .u64 steps] 29)) t v)).below (((Below.refl _ _).alloc (Nat.le_refl _) _) : Below ((w.alloc (.cells #[.int .i64 room, .slice a0 n0 c0, .bool down, .int .i64 armed, .int .u64 steps] 29)).alloc (.cells #[.int .u64 t, .int .i64 v] 52)).heap.size ((w.alloc (.cells #[.int .i64 room, .slice a0 n0 c0, .bool down, .int .i64 armed, .int .u64 steps] 29)).alloc (.cells #[.int .u64 t, .int .i64 v] 52)) (((w.alloc (.cells #[.int .i64 room, .slice a0 n0 c0, .bool down, .int .i64 armed, .int .u64 steps] 29)).alloc (.cells #[.int .u64 t, .int .i64 v] 52)).alloc (.cells #[.int .u64 t', .int .i64 v'] 52)))).below (((Below.refl _ _).alloc (Nat.le_refl _) _) : Below (((w.alloc (.cells #[.int .i64 room, .slice a0 n0 c0, .bool down, .int .i64 armed, .int .u64 steps] 29)).alloc (.cells #[.int .u64 t, .int .i64 v] 52)).alloc (.cells #[.int .u64 t', .int .i64 v'] 52)).heap.size (((w.alloc (.cells #[.int .i64 room, .slice a0 n0 c0, .bool down, .int .i64 armed, .int .u64 steps] 29)).alloc (.cells #[.int .u64 t, .int .i64 v] 52)).alloc (.cells #[.int .u64 t', .int .i64 v'] 52)) ((((w.alloc (.cells #[.int .i64 room, .slice a0 n0 c0, .bool down, .int .i64 armed, .int .u64 steps] 29)).alloc (.cells #[.int .u64 t, .int .i64 v] 52)).alloc (.cells #[.int .u64 t', .int .i64 v'] 52)).alloc (.cells #[.int .i64 0, .slice none 0 0, .bool false, .int .i64 0, .int .u64 0] 29)))).below (((Below.refl _ _).alloc (Nat.le_refl _) _) : Below ((((w.alloc (.cells #[.int .i64 room, .slice a0 n0 c0, .bool down, .int .i64 armed, .int .u64 steps] 29)).alloc (.cells #[.int .u64 t, .int .i64 v] 52)).alloc (.cells #[.int .u64 t', .int .i64 v'] 52)).alloc (.cells #[.int .i64 0, .slice none 0 0, .bool false, .int .i64 0, .int .u64 0] 29)).heap.size ((((w.alloc (.cells #[.int .i64 room, .slice a0 n0 c0, .bool down, .int .i64 armed, .int .u64 steps] 29)).alloc (.cells #[.int .u64 t, .int .i64 v] 52)).alloc (.cells #[.int .u64 t', .int .i64 v'] 52)).alloc (.cells #[.int .i64 0, .slice none 0 0, .bool false, .int .i64 0, .int .u64 0] 29)) (((((w.alloc (.cells #[.int .i64 room, .slice a0 n0 c0, .bool down, .int .i64 armed, .int .u64 steps] 29)).alloc (.cells #[.int .u64 t, .int .i64 v] 52)).alloc (.cells #[.int .u64 t', .int .i64 v'] 52)).alloc (.cells #[.int .i64 0, .slice none 0 0, .bool false, .int .i64 0, .int .u64 0] 29)).alloc (.cells #[.int .u64 0, .int .i64 0] 52)))
    rw [hz1] at h
    exact h
  have BQ : SC (((((w.alloc (.cells #[.int .i64 room, .slice a0 n0 c0, .bool down, .int .i64 armed, .int .u64 steps] 29)).alloc (.cells #[.int .u64 t, .int .i64 v] 52)).alloc (.cells #[.int .u64 t', .int .i64 v'] 52)).alloc (.cells #[.int .i64 0, .slice none 0 0, .bool false, .int .i64 0, .int .u64 0] 29)).alloc (.cells #[.int .u64 0, .int .i64 0] 52)) (w.heap.size + 1 + 1) t' v' := by
    have h := (((SC.box26 ((w.alloc (.cells #[.int .i64 room, .slice a0 n0 c0, .bool down, .int .i64 armed, .int .u64 steps] 29)).alloc (.cells #[.int .u64 t, .int .i64 v] 52)) t' v')).below (((Below.refl _ _).alloc (Nat.le_refl _) _) : Below (((w.alloc (.cells #[.int .i64 room, .slice a0 n0 c0, .bool down, .int .i64 armed, .int .u64 steps] 29)).alloc (.cells #[.int .u64 t, .int .i64 v] 52)).alloc (.cells #[.int .u64 t', .int .i64 v'] 52)).heap.size (((w.alloc (.cells #[.int .i64 room, .slice a0 n0 c0, .bool down, .int .i64 armed, .int .u64 steps] 29)).alloc (.cells #[.int .u64 t, .int .i64 v] 52)).alloc (.cells #[.int .u64 t', .int .i64 v'] 52)) ((((w.alloc (.cells #[.int .i64 room, .slice a0 n0 c0, .bool down, .int .i64 armed, .int .u64 steps] 29)).alloc (.cells #[.int .u64 t, .int .i64 v] 52)).alloc (.cells #[.int .u64 t', .int .i64 v'] 52)).alloc (.cells #[.int .i64 0, .slice none 0 0, .bool false, .int .i64 0, .int .u64 0] 29)))).below (((Below.refl _ _).alloc (Nat.le_refl _) _) : Below ((((w.alloc (.cells #[.int .i64 room, .slice a0 n0 c0, .bool down, .int .i64 armed, .int .u64 steps] 29)).alloc (.cells #[.int .u64 t, .int .i64 v] 52)).alloc (.cells #[.int .u64 t', .int .i64 v'] 52)).alloc (.cells #[.int .i64 0, .slice none 0 0, .bool false, .int .i64 0, .int .u64 0] 29)).heap.size ((((w.alloc (.cells #[.int .i64 room, .slice a0 n0 c0, .bool down, .int .i64 armed, .int .u64 steps] 29)).alloc (.cells #[.int .u64 t, .int .i64 v] 52)).alloc (.cells #[.int .u64 t', .int .i64 v'] 52)).alloc (.cells #[.int .i64 0, .slice none 0 0, .bool false, .int .i64 0, .int .u64 0] 29)) (((((w.alloc (.cells #[.int .i64 room, .slice a0 n0 c0, .bool down, .int .i64 armed, .int .u64 steps] 29)).alloc (.cells #[.int .u64 t, .int .i64 v] 52)).alloc (.cells #[.int .u64 t', .int .i64 v'] 52)).alloc (.cells #[.int .i64 0, .slice none 0 0, .bool false, .int .i64 0, .int .u64 0] 29)).alloc (.cells #[.int .u64 0, .int .i64 0] 52)))
    rw [hz2] at h
    exact h
  have BZ : RD (((((w.alloc (.cells #[.int .i64 room, .slice a0 n0 c0, .bool down, .int .i64 armed, .int .u64 steps] 29)).alloc (.cells #[.int .u64 t, .int .i64 v] 52)).alloc (.cells #[.int .u64 t', .int .i64 v'] 52)).alloc (.cells #[.int .i64 0, .slice none 0 0, .bool false, .int .i64 0, .int .u64 0] 29)).alloc (.cells #[.int .u64 0, .int .i64 0] 52)) (w.heap.size + 1 + 1 + 1) zeroD (.slice none 0 0) := by
    have h := ((RD.zero (((w.alloc (.cells #[.int .i64 room, .slice a0 n0 c0, .bool down, .int .i64 armed, .int .u64 steps] 29)).alloc (.cells #[.int .u64 t, .int .i64 v] 52)).alloc (.cells #[.int .u64 t', .int .i64 v'] 52)))).below (((Below.refl _ _).alloc (Nat.le_refl _) _) : Below ((((w.alloc (.cells #[.int .i64 room, .slice a0 n0 c0, .bool down, .int .i64 armed, .int .u64 steps] 29)).alloc (.cells #[.int .u64 t, .int .i64 v] 52)).alloc (.cells #[.int .u64 t', .int .i64 v'] 52)).alloc (.cells #[.int .i64 0, .slice none 0 0, .bool false, .int .i64 0, .int .u64 0] 29)).heap.size ((((w.alloc (.cells #[.int .i64 room, .slice a0 n0 c0, .bool down, .int .i64 armed, .int .u64 steps] 29)).alloc (.cells #[.int .u64 t, .int .i64 v] 52)).alloc (.cells #[.int .u64 t', .int .i64 v'] 52)).alloc (.cells #[.int .i64 0, .slice none 0 0, .bool false, .int .i64 0, .int .u64 0] 29)) (((((w.alloc (.cells #[.int .i64 room, .slice a0 n0 c0, .bool down, .int .i64 armed, .int .u64 steps] 29)).alloc (.cells #[.int .u64 t, .int .i64 v] 52)).alloc (.cells #[.int .u64 t', .int .i64 v'] 52)).alloc (.cells #[.int .i64 0, .slice none 0 0, .bool false, .int .i64 0, .int .u64 0] 29)).alloc (.cells #[.int .u64 0, .int .i64 0] 52)))
    rw [hz3] at h
    exact h
  have BY : SC (((((w.alloc (.cells #[.int .i64 room, .slice a0 n0 c0, .bool down, .int .i64 armed, .int .u64 steps] 29)).alloc (.cells #[.int .u64 t, .int .i64 v] 52)).alloc (.cells #[.int .u64 t', .int .i64 v'] 52)).alloc (.cells #[.int .i64 0, .slice none 0 0, .bool false, .int .i64 0, .int .u64 0] 29)).alloc (.cells #[.int .u64 0, .int .i64 0] 52)) (w.heap.size + 1 + 1 + 1 + 1) 0 0 := by
    have h := (SC.zero26 ((((w.alloc (.cells #[.int .i64 room, .slice a0 n0 c0, .bool down, .int .i64 armed, .int .u64 steps] 29)).alloc (.cells #[.int .u64 t, .int .i64 v] 52)).alloc (.cells #[.int .u64 t', .int .i64 v'] 52)).alloc (.cells #[.int .i64 0, .slice none 0 0, .bool false, .int .i64 0, .int .u64 0] 29)))
    rw [hz4] at h
    exact h
  have BB : Below w.heap.size w (((((w.alloc (.cells #[.int .i64 room, .slice a0 n0 c0, .bool down, .int .i64 armed, .int .u64 steps] 29)).alloc (.cells #[.int .u64 t, .int .i64 v] 52)).alloc (.cells #[.int .u64 t', .int .i64 v'] 52)).alloc (.cells #[.int .i64 0, .slice none 0 0, .bool false, .int .i64 0, .int .u64 0] 29)).alloc (.cells #[.int .u64 0, .int .i64 0] 52)) := (((((Below.refl _ _).alloc (Nat.le_refl _) _).alloc (by simp) _).alloc (by simp; omega) _).alloc (by simp; omega) _).alloc (by simp; omega) _
  have SS := HR.out.below BB
  have FO0 : Hid (∀ g, (.slice a0 n0 c0 : Value).ownBlock = some g → (.slice a0 n0 c0 : Value).ownBlock = some g ∨ w.heap.size ≤ g) := Lib.hid (fun g h => .inl h)
  clear hz1 hz2 hz3 hz4
  go_enter Tryz.func66, Tryz.ntmps66
  go_wp2_with fail
  generalize World.alloc (World.alloc (World.alloc (World.alloc (World.alloc w _) _) _) _) _ = w1 at *
  have X1 := Lib.hid BX
  have P1 := Lib.hid BP
  have Q1 := Lib.hid BQ
  have Z1 := Lib.hid BZ
  have Y1 := Lib.hid BY
  have B1 := Lib.hid BB
  have S1 := Lib.hid SS
  clear BX BP BQ BZ BY BB SS
  obtain ⟨r0, r1, r2, r3, r4, f0, f1, f2, f3, f4⟩ := X1.out
  obtain ⟨p0, p1, _, _⟩ := P1.out
  obtain ⟨q0, q1, _, _⟩ := Q1.out
  obtain ⟨z0, z1, z2, z3, z4, g0, g1, g2, g3, g4⟩ := Z1.out
  obtain ⟨y0, y1, e0, e1⟩ := Y1.out
  have hlx := X1.out.lt
  have hlp := P1.out.lt
  have hlq := Q1.out.lt
  have hlz := Z1.out.lt
  have hly := Y1.out.lt
  go_wp2_with fail
  refine (vrsound_any t' v' w1).mono ?_
  rintro e w2 ⟨rfl, hb2⟩
  have X2 := Lib.hid (X1.out.below hb2)
  have P2 := Lib.hid (P1.out.below hb2)
  have Q2 := Lib.hid (Q1.out.below hb2)
  have Z2 := Lib.hid (Z1.out.below hb2)
  have Y2 := Lib.hid (Y1.out.below hb2)
  have S2 := Lib.hid (S1.out.below hb2)
  have B2 : Hid (Below w.heap.size w w2) := Lib.hid (B1.out.trans (hb2.mono B1.out.size))
  clear hb2
  clear r0 r1 r2 r3 r4 f0 f1 f2 f3 f4 p0 p1 q0 q1 z0 z1 z2 z3 z4 g0 g1 g2 g3 g4 y0 y1 e0 e1 hlx hlp hlq hlz hly
  clear X1 P1 Q1 Z1 Y1 S1 B1
  rw [HSN.out]
  go_wp2_with fail
  obtain ⟨r0, r1, r2, r3, r4, f0, f1, f2, f3, f4⟩ := X2.out
  obtain ⟨p0, p1, _, _⟩ := P2.out
  obtain ⟨q0, q1, _, _⟩ := Q2.out
  obtain ⟨z0, z1, z2, z3, z4, g0, g1, g2, g3, g4⟩ := Z2.out
  obtain ⟨y0, y1, e0, e1⟩ := Y2.out
  have hlx := X2.out.lt
  have hlp := P2.out.lt
  have hlq := Q2.out.lt
  have hlz := Z2.out.lt
  have hly := Y2.out.lt
  have J1 : Hid (RD (set5D w2 (w.heap.size + 1 + 1 + 1) ⟨room, L, down, armed, steps⟩ (.slice a0 n0 c0)) w.heap.size ⟨room, L, down, armed, steps⟩ (.slice a0 n0 c0) ∧ SC (set5D w2 (w.heap.size + 1 + 1 + 1) ⟨room, L, down, armed, steps⟩ (.slice a0 n0 c0)) (w.heap.size + 1) t v) := Lib.hid ⟨X2.out.kept (Kept.set5D w2 (w.heap.size + 1 + 1 + 1) ⟨room, L, down, armed, steps⟩ (.slice a0 n0 c0)) (by omega), P2.out.kept (Kept.set5D w2 (w.heap.size + 1 + 1 + 1) ⟨room, L, down, armed, steps⟩ (.slice a0 n0 c0)) (by omega)⟩
  have J2 : Hid (RD (set5D w2 (w.heap.size + 1 + 1 + 1) ⟨room, L, down, armed, steps⟩ (.slice a0 n0 c0)).drew w.heap.size ⟨room, L, down, armed, steps⟩ (.slice a0 n0 c0) ∧ SC (set5D w2 (w.heap.size + 1 + 1 + 1) ⟨room, L, down, armed, steps⟩ (.slice a0 n0 c0)).drew (w.heap.size + 1) t v) := Lib.hid ⟨J1.out.1.below ((Below.refl _ _).drew), J1.out.2.below ((Below.refl _ _).drew)⟩
  unfold set5D at J1 J2
  simp only at J1 J2
  refine region_start [0, 0, 1, 7, 15] 4 (fun w' => RD w' w.heap.size ⟨room, L, down, armed, steps⟩ (.slice a0 n0 c0) ∧ SC w' (w.heap.size + 1) t v) (by kernel_rfl) ?_
  refine stage_heads [0, 1] (by kernel_rfl) (L := #[true, true, false, false, false]) (by kernel_rfl) (f' := 3) rfl (fun _ _ _ _ h => h) (fun w o h => ⟨h.1.below ((Below.refl _ _).alloc (Nat.le_refl _) o), h.2.below ((Below.refl _ _).alloc (Nat.le_refl _) o)⟩) (.inr (by first | exact ⟨X2.out.below ((Below.refl _ _).drew), P2.out.below ((Below.refl _ _).drew)⟩ | exact ⟨X2.out, P2.out⟩)) ?_
  simp only [List.flatMap_cons, List.flatMap_nil, List.drop_succ_cons, List.drop_zero, List.take_succ_cons, List.take_zero, List.cons_append, List.nil_append, List.append_nil]
  iterate 2 (first | (refine heads_load _ (by rfl) (fun w' hs => by obtain ⟨⟨r0, r1, r2, r3, r4, _⟩, b0, b1, _, _⟩ := hs; go_simp; try with_reducible rfl) rfl ?_; simp only [Act.put, List.setIfInBounds_toArray, List.set_cons_zero, List.set_cons_succ]) | (refine heads_pure _ (by rfl) (fun w' => by go_simp; try with_reducible rfl) ?_; simp only [Act.put, List.setIfInBounds_toArray, List.set_cons_zero, List.set_cons_succ]))
  refine heads_nil ?_
  refine stage_op 2 (by kernel_rfl) (L := #[true, true, true, false, false]) (by kernel_rfl) ?_
  simp only [List.drop_succ_cons, List.drop_zero, List.take_succ_cons, List.take_zero]
  go_wp2_with fail
  refine step_post (fun _ => (by first | exact J2.out | exact J1.out)) ?_
  refine stage_op 3 (by kernel_rfl) (L := #[true, true, true, true, false]) (by kernel_rfl) ?_
  simp only [List.drop_succ_cons, List.drop_zero, List.take_succ_cons, List.take_zero]
  go_wp2_with fail
  refine step_post nofun ?_
  refine stage_heads [4] (by kernel_rfl) (L := #[true, true, true, true, true]) (by kernel_rfl) (f' := 0) rfl (fun _ _ _ _ h => h) (fun w o h => ⟨h.1.below ((Below.refl _ _).alloc (Nat.le_refl _) o), h.2.below ((Below.refl _ _).alloc (Nat.le_refl _) o)⟩) (.inl (by kernel_rfl)) ?_
  simp only [List.flatMap_cons, List.flatMap_nil, List.drop_succ_cons, List.drop_zero, List.take_succ_cons, List.take_zero, List.append_nil]
  iterate 1 (refine heads_pure _ (by rfl) (fun w' => by go_simp; try with_reducible rfl) ?_; simp only [Act.put, List.setIfInBounds_toArray, List.set_cons_zero, List.set_cons_succ])
  refine heads_nil ?_
  refine stage_done (by kernel_rfl) ?_
  generalize hwz : World.drew _ = wz
  have W1 : wz = ((((((((w2.setCell ⟨(w.heap.size + 1 + 1 + 1), 0, none⟩ (.int .i64 room)).setCell ⟨(w.heap.size + 1 + 1 + 1), 1, none⟩ (.slice a0 n0 c0)).setCell ⟨(w.heap.size + 1 + 1 + 1), 2, none⟩ (.bool down)).setCell ⟨(w.heap.size + 1 + 1 + 1), 3, none⟩ (.int .i64 armed)).setCell ⟨(w.heap.size + 1 + 1 + 1), 4, none⟩ (.int .u64 steps))).setCell ⟨(w.heap.size + 1 + 1 + 1 + 1), 0, none⟩ (.int .u64 t)).setCell ⟨(w.heap.size + 1 + 1 + 1 + 1), 1, none⟩ (.int .i64 v)).drew := hwz.symm
  have KS := Kept.set5D w2 (w.heap.size + 1 + 1 + 1) ⟨room, L, down, armed, steps⟩ (.slice a0 n0 c0)
  have RFF := (Z2.out.set ⟨room, L, down, armed, steps⟩ (.slice a0 n0 c0))
  have YS := Y2.out.kept KS (by omega)
  have SS := S2.out.setD Z2.out (fun s e => by cases e) ⟨room, L, down, armed, steps⟩ (.slice a0 n0 c0)
  have RFG0 := (RFF.kept (Kept.set2 _ (w.heap.size + 1 + 1 + 1 + 1) (.int .u64 t) (.int .i64 v)) (by omega)).below ((Below.refl _ _).drew)
  have RFY0 := (YS.set t v).below ((Below.refl _ _).drew)
  have SF0 := (SS.setSC YS (.int .u64 t) (.int .i64 v)).below ((Below.refl _ _).drew)
  have BF0 := B2.out.trans (KS.below B2.out.size (fun k hk => by omega))
  have BF1 := (BF0.trans ((Kept.set2 _ (w.heap.size + 1 + 1 + 1 + 1) (.int .u64 t) (.int .i64 v)).below BF0.size (fun k hk => by omega))).drew
  unfold set5D at RFG0 RFY0 SF0 BF1
  simp only at RFG0 RFY0 SF0 BF1
  rw [← W1] at RFG0 RFY0 SF0 BF1
  have RFG := Lib.hid RFG0
  have RFY := Lib.hid RFY0
  have SF := Lib.hid SF0
  have BF := Lib.hid BF1
  clear KS RFF YS SS RFG0 RFY0 SF0 BF0 BF1 W1 hwz
  clear r0 r1 r2 r3 r4 f0 f1 f2 f3 f4 p0 p1 q0 q1 z0 z1 z2 z3 z4 g0 g1 g2 g3 g4 y0 y1 e0 e1 hlx hlp hlq hlz hly
  obtain ⟨q0, q1, q2, q3, q4, _⟩ := RFG.out
  obtain ⟨u0, u1, _, _⟩ := RFY.out
  simp only at q0 q1 q2 q3 q4
  go_wp2_with fail
  refine bodyPost_ret (v := .tuple #[.agg #[.int .i64 room, .slice a0 n0 c0, .bool down, .int .i64 armed, .int .u64 steps], .agg #[.int .u64 t, .int .i64 v], .int .i64 2]) (by simp [results, Tryz.results66, go_sem, q0, q1, q2, q3, q4, u0, u1]) rfl ?_

  exact ⟨_, rfl, RIs.new (D := ⟨room, L, down, armed, steps⟩) HN0.out SF.out, BF.out, FO0.out⟩
set_option maxHeartbeats 4000000 in
set_option maxRecDepth 20000 in
theorem rkeep_old (a0 : Option Addr) (n0 c0 : Nat) (down : Bool) (room : Int) (L : List FileS) (armed steps t v t' v' : Int) (w : World) (hn : L.length = n0) (hr : SRow w 3 (.slice a0 n0 c0) (L.map rfV)) (hsn : vSnd t' v' = true) (hmy : vMy t v t' v' = false) : Calls Tryz.prog 66 #[.agg #[.int .i64 room, .slice a0 n0 c0, .bool down, .int .i64 armed, .int .u64 steps], .agg #[.int .u64 t, .int .i64 v], .agg #[.int .u64 t', .int .i64 v']] w (RKeep (⟨room, L, down, armed, steps⟩, 34) t v (.agg #[.int .i64 room, .slice a0 n0 c0, .bool down, .int .i64 armed, .int .u64 steps]) w) := by
  have HN0 := Lib.hid hn
  have HR := Lib.hid hr
  clear hn hr
  have HSN : Hid (vSnd t' v' = true) := Lib.hid hsn
  clear hsn
  have HMY : Hid (vMy t v t' v' = false) := Lib.hid hmy
  clear hmy
  have hz1 : (w.alloc (.cells #[.int .i64 room, .slice a0 n0 c0, .bool down, .int .i64 armed, .int .u64 steps] 29)).heap.size = w.heap.size + 1 := by simp
  have hz2 : ((w.alloc (.cells #[.int .i64 room, .slice a0 n0 c0, .bool down, .int .i64 armed, .int .u64 steps] 29)).alloc (.cells #[.int .u64 t, .int .i64 v] 52)).heap.size = w.heap.size + 1 + 1 := by simp
  have hz3 : (((w.alloc (.cells #[.int .i64 room, .slice a0 n0 c0, .bool down, .int .i64 armed, .int .u64 steps] 29)).alloc (.cells #[.int .u64 t, .int .i64 v] 52)).alloc (.cells #[.int .u64 t', .int .i64 v'] 52)).heap.size = w.heap.size + 1 + 1 + 1 := by simp
  have hz4 : ((((w.alloc (.cells #[.int .i64 room, .slice a0 n0 c0, .bool down, .int .i64 armed, .int .u64 steps] 29)).alloc (.cells #[.int .u64 t, .int .i64 v] 52)).alloc (.cells #[.int .u64 t', .int .i64 v'] 52)).alloc (.cells #[.int .i64 0, .slice none 0 0, .bool false, .int .i64 0, .int .u64 0] 29)).heap.size = w.heap.size + 1 + 1 + 1 + 1 := by simp
  have BX : RD (((((w.alloc (.cells #[.int .i64 room, .slice a0 n0 c0, .bool down, .int .i64 armed, .int .u64 steps] 29)).alloc (.cells #[.int .u64 t, .int .i64 v] 52)).alloc (.cells #[.int .u64 t', .int .i64 v'] 52)).alloc (.cells #[.int .i64 0, .slice none 0 0, .bool false, .int .i64 0, .int .u64 0] 29)).alloc (.cells #[.int .u64 0, .int .i64 0] 52)) w.heap.size ⟨room, L, down, armed, steps⟩ (.slice a0 n0 c0) := ((((RD.box w ⟨room, L, down, armed, steps⟩ (.slice a0 n0 c0)).below ((Below.refl _ _).alloc (Nat.le_refl _) _)).below ((Below.refl _ _).alloc (Nat.le_refl _) _)).below ((Below.refl _ _).alloc (Nat.le_refl _) _)).below ((Below.refl _ _).alloc (Nat.le_refl _) _)
  have BP : SC (((((w.alloc (.cells #[.int .i64 room, .slice a0 n0 c0, .bool down, .int .i64 armed, .int .u64 steps] 29)).alloc (.cells #[.int .u64 t, .int .i64 v] 52)).alloc (.cells #[.int .u64 t', .int .i64 v'] 52)).alloc (.cells #[.int .i64 0, .slice none 0 0, .bool false, .int .i64 0, .int .u64 0] 29)).alloc (.cells #[.int .u64 0, .int .i64 0] 52)) (w.heap.size + 1) t v := by
    have h := ((((SC.box26 (w.alloc (.cells #[.int .i64 room, .slice a0 n0 c0, .bool down, .int .i64 armed, .int .u64 steps] 29)) t v)).below (((Below.refl _ _).alloc (Nat.le_refl _) _) : Below ((w.alloc (.cells #[.int .i64 room, .slice a0 n0 c0, .bool down, .int .i64 armed, .int .u64 steps] 29)).alloc (.cells #[.int .u64 t, .int .i64 v] 52)).heap.size ((w.alloc (.cells #[.int .i64 room, .slice a0 n0 c0, .bool down, .int .i64 armed, .int .u64 steps] 29)).alloc (.cells #[.int .u64 t, .int .i64 v] 52)) (((w.alloc (.cells #[.int .i64 room, .slice a0 n0 c0, .bool down, .int .i64 armed, .int .u64 steps] 29)).alloc (.cells #[.int .u64 t, .int .i64 v] 52)).alloc (.cells #[.int .u64 t', .int .i64 v'] 52)))).below (((Below.refl _ _).alloc (Nat.le_refl _) _) : Below (((w.alloc (.cells #[.int .i64 room, .slice a0 n0 c0, .bool down, .int .i64 armed, .int .u64 steps] 29)).alloc (.cells #[.int .u64 t, .int .i64 v] 52)).alloc (.cells #[.int .u64 t', .int .i64 v'] 52)).heap.size (((w.alloc (.cells #[.int .i64 room, .slice a0 n0 c0, .bool down, .int .i64 armed, .int .u64 steps] 29)).alloc (.cells #[.int .u64 t, .int .i64 v] 52)).alloc (.cells #[.int .u64 t', .int .i64 v'] 52)) ((((w.alloc (.cells #[.int .i64 room, .slice a0 n0 c0, .bool down, .int .i64 armed, .int .u64 steps] 29)).alloc (.cells #[.int .u64 t, .int .i64 v] 52)).alloc (.cells #[.int .u64 t', .int .i64 v'] 52)).alloc (.cells #[.int .i64 0, .slice none 0 0, .bool false, .int .i64 0, .int .u64 0] 29)))).below (((Below.refl _ _).alloc (Nat.le_refl _) _) : Below ((((w.alloc (.cells #[.int .i64 room, .slice a0 n0 c0, .bool down, .int .i64 armed, .int .u64 steps] 29)).alloc (.cells #[.int .u64 t, .int .i64 v] 52)).alloc (.cells #[.int .u64 t', .int .i64 v'] 52)).alloc (.cells #[.int .i64 0, .slice none 0 0, .bool false, .int .i64 0, .int .u64 0] 29)).heap.size ((((w.alloc (.cells #[.int .i64 room, .slice a0 n0 c0, .bool down, .int .i64 armed, .int .u64 steps] 29)).alloc (.cells #[.int .u64 t, .int .i64 v] 52)).alloc (.cells #[.int .u64 t', .int .i64 v'] 52)).alloc (.cells #[.int .i64 0, .slice none 0 0, .bool false, .int .i64 0, .int .u64 0] 29)) (((((w.alloc (.cells #[.int .i64 room, .slice a0 n0 c0, .bool down, .int .i64 armed, .int .u64 steps] 29)).alloc (.cells #[.int .u64 t, .int .i64 v] 52)).alloc (.cells #[.int .u64 t', .int .i64 v'] 52)).alloc (.cells #[.int .i64 0, .slice none 0 0, .bool false, .int .i64 0, .int .u64 0] 29)).alloc (.cells #[.int .u64 0, .int .i64 0] 52)))
    rw [hz1] at h
    exact h
  have BQ : SC (((((w.alloc (.cells #[.int .i64 room, .slice a0 n0 c0, .bool down, .int .i64 armed, .int .u64 steps] 29)).alloc (.cells #[.int .u64 t, .int .i64 v] 52)).alloc (.cells #[.int .u64 t', .int .i64 v'] 52)).alloc (.cells #[.int .i64 0, .slice none 0 0, .bool false, .int .i64 0, .int .u64 0] 29)).alloc (.cells #[.int .u64 0, .int .i64 0] 52)) (w.heap.size + 1 + 1) t' v' := by
    have h := (((SC.box26 ((w.alloc (.cells #[.int .i64 room, .slice a0 n0 c0, .bool down, .int .i64 armed, .int .u64 steps] 29)).alloc (.cells #[.int .u64 t, .int .i64 v] 52)) t' v')).below (((Below.refl _ _).alloc (Nat.le_refl _) _) : Below (((w.alloc (.cells #[.int .i64 room, .slice a0 n0 c0, .bool down, .int .i64 armed, .int .u64 steps] 29)).alloc (.cells #[.int .u64 t, .int .i64 v] 52)).alloc (.cells #[.int .u64 t', .int .i64 v'] 52)).heap.size (((w.alloc (.cells #[.int .i64 room, .slice a0 n0 c0, .bool down, .int .i64 armed, .int .u64 steps] 29)).alloc (.cells #[.int .u64 t, .int .i64 v] 52)).alloc (.cells #[.int .u64 t', .int .i64 v'] 52)) ((((w.alloc (.cells #[.int .i64 room, .slice a0 n0 c0, .bool down, .int .i64 armed, .int .u64 steps] 29)).alloc (.cells #[.int .u64 t, .int .i64 v] 52)).alloc (.cells #[.int .u64 t', .int .i64 v'] 52)).alloc (.cells #[.int .i64 0, .slice none 0 0, .bool false, .int .i64 0, .int .u64 0] 29)))).below (((Below.refl _ _).alloc (Nat.le_refl _) _) : Below ((((w.alloc (.cells #[.int .i64 room, .slice a0 n0 c0, .bool down, .int .i64 armed, .int .u64 steps] 29)).alloc (.cells #[.int .u64 t, .int .i64 v] 52)).alloc (.cells #[.int .u64 t', .int .i64 v'] 52)).alloc (.cells #[.int .i64 0, .slice none 0 0, .bool false, .int .i64 0, .int .u64 0] 29)).heap.size ((((w.alloc (.cells #[.int .i64 room, .slice a0 n0 c0, .bool down, .int .i64 armed, .int .u64 steps] 29)).alloc (.cells #[.int .u64 t, .int .i64 v] 52)).alloc (.cells #[.int .u64 t', .int .i64 v'] 52)).alloc (.cells #[.int .i64 0, .slice none 0 0, .bool false, .int .i64 0, .int .u64 0] 29)) (((((w.alloc (.cells #[.int .i64 room, .slice a0 n0 c0, .bool down, .int .i64 armed, .int .u64 steps] 29)).alloc (.cells #[.int .u64 t, .int .i64 v] 52)).alloc (.cells #[.int .u64 t', .int .i64 v'] 52)).alloc (.cells #[.int .i64 0, .slice none 0 0, .bool false, .int .i64 0, .int .u64 0] 29)).alloc (.cells #[.int .u64 0, .int .i64 0] 52)))
    rw [hz2] at h
    exact h
  have BZ : RD (((((w.alloc (.cells #[.int .i64 room, .slice a0 n0 c0, .bool down, .int .i64 armed, .int .u64 steps] 29)).alloc (.cells #[.int .u64 t, .int .i64 v] 52)).alloc (.cells #[.int .u64 t', .int .i64 v'] 52)).alloc (.cells #[.int .i64 0, .slice none 0 0, .bool false, .int .i64 0, .int .u64 0] 29)).alloc (.cells #[.int .u64 0, .int .i64 0] 52)) (w.heap.size + 1 + 1 + 1) zeroD (.slice none 0 0) := by
    have h := ((RD.zero (((w.alloc (.cells #[.int .i64 room, .slice a0 n0 c0, .bool down, .int .i64 armed, .int .u64 steps] 29)).alloc (.cells #[.int .u64 t, .int .i64 v] 52)).alloc (.cells #[.int .u64 t', .int .i64 v'] 52)))).below (((Below.refl _ _).alloc (Nat.le_refl _) _) : Below ((((w.alloc (.cells #[.int .i64 room, .slice a0 n0 c0, .bool down, .int .i64 armed, .int .u64 steps] 29)).alloc (.cells #[.int .u64 t, .int .i64 v] 52)).alloc (.cells #[.int .u64 t', .int .i64 v'] 52)).alloc (.cells #[.int .i64 0, .slice none 0 0, .bool false, .int .i64 0, .int .u64 0] 29)).heap.size ((((w.alloc (.cells #[.int .i64 room, .slice a0 n0 c0, .bool down, .int .i64 armed, .int .u64 steps] 29)).alloc (.cells #[.int .u64 t, .int .i64 v] 52)).alloc (.cells #[.int .u64 t', .int .i64 v'] 52)).alloc (.cells #[.int .i64 0, .slice none 0 0, .bool false, .int .i64 0, .int .u64 0] 29)) (((((w.alloc (.cells #[.int .i64 room, .slice a0 n0 c0, .bool down, .int .i64 armed, .int .u64 steps] 29)).alloc (.cells #[.int .u64 t, .int .i64 v] 52)).alloc (.cells #[.int .u64 t', .int .i64 v'] 52)).alloc (.cells #[.int .i64 0, .slice none 0 0, .bool false, .int .i64 0, .int .u64 0] 29)).alloc (.cells #[.int .u64 0, .int .i64 0] 52)))
    rw [hz3] at h
    exact h
  have BY : SC (((((w.alloc (.cells #[.int .i64 room, .slice a0 n0 c0, .bool down, .int .i64 armed, .int .u64 steps] 29)).alloc (.cells #[.int .u64 t, .int .i64 v] 52)).alloc (.cells #[.int .u64 t', .int .i64 v'] 52)).alloc (.cells #[.int .i64 0, .slice none 0 0, .bool false, .int .i64 0, .int .u64 0] 29)).alloc (.cells #[.int .u64 0, .int .i64 0] 52)) (w.heap.size + 1 + 1 + 1 + 1) 0 0 := by
    have h := (SC.zero26 ((((w.alloc (.cells #[.int .i64 room, .slice a0 n0 c0, .bool down, .int .i64 armed, .int .u64 steps] 29)).alloc (.cells #[.int .u64 t, .int .i64 v] 52)).alloc (.cells #[.int .u64 t', .int .i64 v'] 52)).alloc (.cells #[.int .i64 0, .slice none 0 0, .bool false, .int .i64 0, .int .u64 0] 29)))
    rw [hz4] at h
    exact h
  have BB : Below w.heap.size w (((((w.alloc (.cells #[.int .i64 room, .slice a0 n0 c0, .bool down, .int .i64 armed, .int .u64 steps] 29)).alloc (.cells #[.int .u64 t, .int .i64 v] 52)).alloc (.cells #[.int .u64 t', .int .i64 v'] 52)).alloc (.cells #[.int .i64 0, .slice none 0 0, .bool false, .int .i64 0, .int .u64 0] 29)).alloc (.cells #[.int .u64 0, .int .i64 0] 52)) := (((((Below.refl _ _).alloc (Nat.le_refl _) _).alloc (by simp) _).alloc (by simp; omega) _).alloc (by simp; omega) _).alloc (by simp; omega) _
  have SS := HR.out.below BB
  have FO0 : Hid (∀ g, (.slice a0 n0 c0 : Value).ownBlock = some g → (.slice a0 n0 c0 : Value).ownBlock = some g ∨ w.heap.size ≤ g) := Lib.hid (fun g h => .inl h)
  clear hz1 hz2 hz3 hz4
  go_enter Tryz.func66, Tryz.ntmps66
  go_wp2_with fail
  generalize World.alloc (World.alloc (World.alloc (World.alloc (World.alloc w _) _) _) _) _ = w1 at *
  have X1 := Lib.hid BX
  have P1 := Lib.hid BP
  have Q1 := Lib.hid BQ
  have Z1 := Lib.hid BZ
  have Y1 := Lib.hid BY
  have B1 := Lib.hid BB
  have S1 := Lib.hid SS
  clear BX BP BQ BZ BY BB SS
  obtain ⟨r0, r1, r2, r3, r4, f0, f1, f2, f3, f4⟩ := X1.out
  obtain ⟨p0, p1, _, _⟩ := P1.out
  obtain ⟨q0, q1, _, _⟩ := Q1.out
  obtain ⟨z0, z1, z2, z3, z4, g0, g1, g2, g3, g4⟩ := Z1.out
  obtain ⟨y0, y1, e0, e1⟩ := Y1.out
  have hlx := X1.out.lt
  have hlp := P1.out.lt
  have hlq := Q1.out.lt
  have hlz := Z1.out.lt
  have hly := Y1.out.lt
  go_wp2_with fail
  refine (vrsound_any t' v' w1).mono ?_
  rintro e w2 ⟨rfl, hb2⟩
  have X2 := Lib.hid (X1.out.below hb2)
  have P2 := Lib.hid (P1.out.below hb2)
  have Q2 := Lib.hid (Q1.out.below hb2)
  have Z2 := Lib.hid (Z1.out.below hb2)
  have Y2 := Lib.hid (Y1.out.below hb2)
  have S2 := Lib.hid (S1.out.below hb2)
  have B2 : Hid (Below w.heap.size w w2) := Lib.hid (B1.out.trans (hb2.mono B1.out.size))
  clear hb2
  clear r0 r1 r2 r3 r4 f0 f1 f2 f3 f4 p0 p1 q0 q1 z0 z1 z2 z3 z4 g0 g1 g2 g3 g4 y0 y1 e0 e1 hlx hlp hlq hlz hly
  clear X1 P1 Q1 Z1 Y1 S1 B1
  rw [HSN.out]
  obtain ⟨r0, r1, r2, r3, r4, f0, f1, f2, f3, f4⟩ := X2.out
  obtain ⟨p0, p1, _, _⟩ := P2.out
  obtain ⟨q0, q1, _, _⟩ := Q2.out
  obtain ⟨z0, z1, z2, z3, z4, g0, g1, g2, g3, g4⟩ := Z2.out
  obtain ⟨y0, y1, e0, e1⟩ := Y2.out
  have hlx := X2.out.lt
  have hlp := P2.out.lt
  have hlq := Q2.out.lt
  have hlz := Z2.out.lt
  have hly := Y2.out.lt
  go_wp2_with fail
  refine (vrmay_any t v t' v' w2).mono ?_
  rintro e w3 ⟨rfl, hb3⟩
  have X3 := Lib.hid (X2.out.below hb3)
  have P3 := Lib.hid (P2.out.below hb3)
  have Q3 := Lib.hid (Q2.out.below hb3)
  have Z3 := Lib.hid (Z2.out.below hb3)
  have Y3 := Lib.hid (Y2.out.below hb3)
  have S3 := Lib.hid (S2.out.below hb3)
  have B3 : Hid (Below w.heap.size w w3) := Lib.hid (B2.out.trans (hb3.mono B2.out.size))
  clear hb3
  clear r0 r1 r2 r3 r4 f0 f1 f2 f3 f4 p0 p1 q0 q1 z0 z1 z2 z3 z4 g0 g1 g2 g3 g4 y0 y1 e0 e1 hlx hlp hlq hlz hly
  clear X2 P2 Q2 Z2 Y2 S2 B2
  rw [HMY.out]
  go_wp2_with fail
  obtain ⟨r0, r1, r2, r3, r4, f0, f1, f2, f3, f4⟩ := X3.out
  obtain ⟨p0, p1, _, _⟩ := P3.out
  obtain ⟨q0, q1, _, _⟩ := Q3.out
  obtain ⟨z0, z1, z2, z3, z4, g0, g1, g2, g3, g4⟩ := Z3.out
  obtain ⟨y0, y1, e0, e1⟩ := Y3.out
  have hlx := X3.out.lt
  have hlp := P3.out.lt
  have hlq := Q3.out.lt
  have hlz := Z3.out.lt
  have hly := Y3.out.lt
  have J1 : Hid (RD (set5D w3 (w.heap.size + 1 + 1 + 1) ⟨room, L, down, armed, steps⟩ (.slice a0 n0 c0)) w.heap.size ⟨room, L, down, armed, steps⟩ (.slice a0 n0 c0) ∧ SC (set5D w3 (w.heap.size + 1 + 1 + 1) ⟨room, L, down, armed, steps⟩ (.slice a0 n0 c0)) (w.heap.size + 1) t v) := Lib.hid ⟨X3.out.kept (Kept.set5D w3 (w.heap.size + 1 + 1 + 1) ⟨room, L, down, armed, steps⟩ (.slice a0 n0 c0)) (by omega), P3.out.kept (Kept.set5D w3 (w.heap.size + 1 + 1 + 1) ⟨room, L, down, armed, steps⟩ (.slice a0 n0 c0)) (by omega)⟩
  have J2 : Hid (RD (set5D w3 (w.heap.size + 1 + 1 + 1) ⟨room, L, down, armed, steps⟩ (.slice a0 n0 c0)).drew w.heap.size ⟨room, L, down, armed, steps⟩ (.slice a0 n0 c0) ∧ SC (set5D w3 (w.heap.size + 1 + 1 + 1) ⟨room, L, down, armed, steps⟩ (.slice a0 n0 c0)).drew (w.heap.size + 1) t v) := Lib.hid ⟨J1.out.1.below ((Below.refl _ _).drew), J1.out.2.below ((Below.refl _ _).drew)⟩
  unfold set5D at J1 J2
  simp only at J1 J2
  refine region_start [0, 0, 1, 7, 15] 4 (fun w' => RD w' w.heap.size ⟨room, L, down, armed, steps⟩ (.slice a0 n0 c0) ∧ SC w' (w.heap.size + 1) t v) (by kernel_rfl) ?_
  refine stage_heads [0, 1] (by kernel_rfl) (L := #[true, true, false, false, false]) (by kernel_rfl) (f' := 3) rfl (fun _ _ _ _ h => h) (fun w o h => ⟨h.1.below ((Below.refl _ _).alloc (Nat.le_refl _) o), h.2.below ((Below.refl _ _).alloc (Nat.le_refl _) o)⟩) (.inr (by first | exact ⟨X3.out.below ((Below.refl _ _).drew), P3.out.below ((Below.refl _ _).drew)⟩ | exact ⟨X3.out, P3.out⟩)) ?_
  simp only [List.flatMap_cons, List.flatMap_nil, List.drop_succ_cons, List.drop_zero, List.take_succ_cons, List.take_zero, List.cons_append, List.nil_append, List.append_nil]
  iterate 2 (first | (refine heads_load _ (by rfl) (fun w' hs => by obtain ⟨⟨r0, r1, r2, r3, r4, _⟩, b0, b1, _, _⟩ := hs; go_simp; try with_reducible rfl) rfl ?_; simp only [Act.put, List.setIfInBounds_toArray, List.set_cons_zero, List.set_cons_succ]) | (refine heads_pure _ (by rfl) (fun w' => by go_simp; try with_reducible rfl) ?_; simp only [Act.put, List.setIfInBounds_toArray, List.set_cons_zero, List.set_cons_succ]))
  refine heads_nil ?_
  refine stage_op 2 (by kernel_rfl) (L := #[true, true, true, false, false]) (by kernel_rfl) ?_
  simp only [List.drop_succ_cons, List.drop_zero, List.take_succ_cons, List.take_zero]
  go_wp2_with fail
  refine step_post (fun _ => (by first | exact J2.out | exact J1.out)) ?_
  refine stage_op 3 (by kernel_rfl) (L := #[true, true, true, true, false]) (by kernel_rfl) ?_
  simp only [List.drop_succ_cons, List.drop_zero, List.take_succ_cons, List.take_zero]
  go_wp2_with fail
  refine step_post nofun ?_
  refine stage_heads [4] (by kernel_rfl) (L := #[true, true, true, true, true]) (by kernel_rfl) (f' := 0) rfl (fun _ _ _ _ h => h) (fun w o h => ⟨h.1.below ((Below.refl _ _).alloc (Nat.le_refl _) o), h.2.below ((Below.refl _ _).alloc (Nat.le_refl _) o)⟩) (.inl (by kernel_rfl)) ?_
  simp only [List.flatMap_cons, List.flatMap_nil, List.drop_succ_cons, List.drop_zero, List.take_succ_cons, List.take_zero, List.append_nil]
  iterate 1 (refine heads_pure _ (by rfl) (fun w' => by go_simp; try with_reducible rfl) ?_; simp only [Act.put, List.setIfInBounds_toArray, List.set_cons_zero, List.set_cons_succ])
  refine heads_nil ?_
  refine stage_done (by kernel_rfl) ?_
  generalize hwz : World.drew _ = wz
  have W1 : wz = ((((((((w3.setCell ⟨(w.heap.size + 1 + 1 + 1), 0, none⟩ (.int .i64 room)).setCell ⟨(w.heap.size + 1 + 1 + 1), 1, none⟩ (.slice a0 n0 c0)).setCell ⟨(w.heap.size + 1 + 1 + 1), 2, none⟩ (.bool down)).setCell ⟨(w.heap.size + 1 + 1 + 1), 3, none⟩ (.int .i64 armed)).setCell ⟨(w.heap.size + 1 + 1 + 1), 4, none⟩ (.int .u64 steps))).setCell ⟨(w.heap.size + 1 + 1 + 1 + 1), 0, none⟩ (.int .u64 t)).setCell ⟨(w.heap.size + 1 + 1 + 1 + 1), 1, none⟩ (.int .i64 v)).drew := hwz.symm
  have KS := Kept.set5D w3 (w.heap.size + 1 + 1 + 1) ⟨room, L, down, armed, steps⟩ (.slice a0 n0 c0)
  have RFF := (Z3.out.set ⟨room, L, down, armed, steps⟩ (.slice a0 n0 c0))
  have YS := Y3.out.kept KS (by omega)
  have SS := S3.out.setD Z3.out (fun s e => by cases e) ⟨room, L, down, armed, steps⟩ (.slice a0 n0 c0)
  have RFG0 := (RFF.kept (Kept.set2 _ (w.heap.size + 1 + 1 + 1 + 1) (.int .u64 t) (.int .i64 v)) (by omega)).below ((Below.refl _ _).drew)
  have RFY0 := (YS.set t v).below ((Below.refl _ _).drew)
  have SF0 := (SS.setSC YS (.int .u64 t) (.int .i64 v)).below ((Below.refl _ _).drew)
  have BF0 := B3.out.trans (KS.below B3.out.size (fun k hk => by omega))
  have BF1 := (BF0.trans ((Kept.set2 _ (w.heap.size + 1 + 1 + 1 + 1) (.int .u64 t) (.int .i64 v)).below BF0.size (fun k hk => by omega))).drew
  unfold set5D at RFG0 RFY0 SF0 BF1
  simp only at RFG0 RFY0 SF0 BF1
  rw [← W1] at RFG0 RFY0 SF0 BF1
  have RFG := Lib.hid RFG0
  have RFY := Lib.hid RFY0
  have SF := Lib.hid SF0
  have BF := Lib.hid BF1
  clear KS RFF YS SS RFG0 RFY0 SF0 BF0 BF1 W1 hwz
  clear r0 r1 r2 r3 r4 f0 f1 f2 f3 f4 p0 p1 q0 q1 z0 z1 z2 z3 z4 g0 g1 g2 g3 g4 y0 y1 e0 e1 hlx hlp hlq hlz hly
  obtain ⟨q0, q1, q2, q3, q4, _⟩ := RFG.out
  obtain ⟨u0, u1, _, _⟩ := RFY.out
  simp only at q0 q1 q2 q3 q4
  go_wp2_with fail
  refine bodyPost_ret (v := .tuple #[.agg #[.int .i64 room, .slice a0 n0 c0, .bool down, .int .i64 armed, .int .u64 steps], .agg #[.int .u64 t, .int .i64 v], .int .i64 34]) (by simp [results, Tryz.results66, go_sem, q0, q1, q2, q3, q4, u0, u1]) rfl ?_

  exact ⟨_, rfl, RIs.new (D := ⟨room, L, down, armed, steps⟩) HN0.out SF.out, BF.out, FO0.out⟩
set_option maxHeartbeats 4000000 in
set_option maxRecDepth 20000 in
theorem rkeep_same (a0 : Option Addr) (n0 c0 : Nat) (down : Bool) (room : Int) (L : List FileS) (armed steps t v : Int) (w : World) (hn : L.length = n0) (hr : SRow w 3 (.slice a0 n0 c0) (L.map rfV)) (hsn : vSnd t v = true) (hmy : vMy t v t v = true) : Calls Tryz.prog 66 #[.agg #[.int .i64 room, .slice a0 n0 c0, .bool down, .int .i64 armed, .int .u64 steps], .agg #[.int .u64 t, .int .i64 v], .agg #[.int .u64 t, .int .i64 v]] w (RKeep (⟨room, L, down, armed, steps⟩, 0) t v (.agg #[.int .i64 room, .slice a0 n0 c0, .bool down, .int .i64 armed, .int .u64 steps]) w) := by
  have HN0 := Lib.hid hn
  have HR := Lib.hid hr
  clear hn hr
  have HSN : Hid (vSnd t v = true) := Lib.hid hsn
  clear hsn
  have HMY : Hid (vMy t v t v = true) := Lib.hid hmy
  clear hmy
  have hz1 : (w.alloc (.cells #[.int .i64 room, .slice a0 n0 c0, .bool down, .int .i64 armed, .int .u64 steps] 29)).heap.size = w.heap.size + 1 := by simp
  have hz2 : ((w.alloc (.cells #[.int .i64 room, .slice a0 n0 c0, .bool down, .int .i64 armed, .int .u64 steps] 29)).alloc (.cells #[.int .u64 t, .int .i64 v] 52)).heap.size = w.heap.size + 1 + 1 := by simp
  have hz3 : (((w.alloc (.cells #[.int .i64 room, .slice a0 n0 c0, .bool down, .int .i64 armed, .int .u64 steps] 29)).alloc (.cells #[.int .u64 t, .int .i64 v] 52)).alloc (.cells #[.int .u64 t, .int .i64 v] 52)).heap.size = w.heap.size + 1 + 1 + 1 := by simp
  have hz4 : ((((w.alloc (.cells #[.int .i64 room, .slice a0 n0 c0, .bool down, .int .i64 armed, .int .u64 steps] 29)).alloc (.cells #[.int .u64 t, .int .i64 v] 52)).alloc (.cells #[.int .u64 t, .int .i64 v] 52)).alloc (.cells #[.int .i64 0, .slice none 0 0, .bool false, .int .i64 0, .int .u64 0] 29)).heap.size = w.heap.size + 1 + 1 + 1 + 1 := by simp
  have BX : RD (((((w.alloc (.cells #[.int .i64 room, .slice a0 n0 c0, .bool down, .int .i64 armed, .int .u64 steps] 29)).alloc (.cells #[.int .u64 t, .int .i64 v] 52)).alloc (.cells #[.int .u64 t, .int .i64 v] 52)).alloc (.cells #[.int .i64 0, .slice none 0 0, .bool false, .int .i64 0, .int .u64 0] 29)).alloc (.cells #[.int .u64 0, .int .i64 0] 52)) w.heap.size ⟨room, L, down, armed, steps⟩ (.slice a0 n0 c0) := ((((RD.box w ⟨room, L, down, armed, steps⟩ (.slice a0 n0 c0)).below ((Below.refl _ _).alloc (Nat.le_refl _) _)).below ((Below.refl _ _).alloc (Nat.le_refl _) _)).below ((Below.refl _ _).alloc (Nat.le_refl _) _)).below ((Below.refl _ _).alloc (Nat.le_refl _) _)
  have BP : SC (((((w.alloc (.cells #[.int .i64 room, .slice a0 n0 c0, .bool down, .int .i64 armed, .int .u64 steps] 29)).alloc (.cells #[.int .u64 t, .int .i64 v] 52)).alloc (.cells #[.int .u64 t, .int .i64 v] 52)).alloc (.cells #[.int .i64 0, .slice none 0 0, .bool false, .int .i64 0, .int .u64 0] 29)).alloc (.cells #[.int .u64 0, .int .i64 0] 52)) (w.heap.size + 1) t v := by
    have h := ((((SC.box26 (w.alloc (.cells #[.int .i64 room, .slice a0 n0 c0, .bool down, .int .i64 armed, .int .u64 steps] 29)) t v)).below (((Below.refl _ _).alloc (Nat.le_refl _) _) : Below ((w.alloc (.cells #[.int .i64 room, .slice a0 n0 c0, .bool down, .int .i64 armed, .int .u64 steps] 29)).alloc (.cells #[.int .u64 t, .int .i64 v] 52)).heap.size ((w.alloc (.cells #[.int .i64 room, .slice a0 n0 c0, .bool down, .int .i64 armed, .int .u64 steps] 29)).alloc (.cells #[.int .u64 t, .int .i64 v] 52)) (((w.alloc (.cells #[.int .i64 room, .slice a0 n0 c0, .bool down, .int .i64 armed, .int .u64 steps] 29)).alloc (.cells #[.int .u64 t, .int .i64 v] 52)).alloc (.cells #[.int .u64 t, .int .i64 v] 52)))).below (((Below.refl _ _).alloc (Nat.le_refl _) _) : Below (((w.alloc (.cells #[.int .i64 room, .slice a0 n0 c0, .bool down, .int .i64 armed, .int .u64 steps] 29)).alloc (.cells #[.int .u64 t, .int .i64 v] 52)).alloc (.cells #[.int .u64 t, .int .i64 v] 52)).heap.size (((w.alloc (.cells #[.int .i64 room, .slice a0 n0 c0, .bool down, .int .i64 armed, .int .u64 steps] 29)).alloc (.cells #[.int .u64 t, .int .i64 v] 52)).alloc (.cells #[.int .u64 t, .int .i64 v] 52)) ((((w.alloc (.cells #[.int .i64 room, .slice a0 n0 c0, .bool down, .int .i64 armed, .int .u64 steps] 29)).alloc (.cells #[.int .u64 t, .int .i64 v] 52)).alloc (.cells #[.int .u64 t, .int .i64 v] 52)).alloc (.cells #[.int .i64 0, .slice none 0 0, .bool false, .int .i64 0, .int .u64 0] 29)))).below (((Below.refl _ _).alloc (Nat.le_refl _) _) : Below ((((w.alloc (.cells #[.int .i64 room, .slice a0 n0 c0, .bool down, .int .i64 armed, .int .u64 steps] 29)).alloc (.cells #[.int .u64 t, .int .i64 v] 52)).alloc (.cells #[.int .u64 t, .int .i64 v] 52)).alloc (.cells #[.int .i64 0, .slice none 0 0, .bool false, .int .i64 0, .int .u64 0] 29)).heap.size ((((w.alloc (.cells #[.int .i64 room, .slice a0 n0 c0, .bool down, .int .i64 armed, .int .u64 steps] 29)).alloc (.cells #[.int .u64 t, .int .i64 v] 52)).alloc (.cells #[.int .u64 t, .int .i64 v] 52)).alloc (.cells #[.int .i64 0, .slice none 0 0, .bool false, .int .i64 0, .int .u64 0] 29)) (((((w.alloc (.cells #[.int .i64 room, .slice a0 n0 c0, .bool down, .int .i64 armed, .int .u64 steps] 29)).alloc (.cells #[.int .u64 t, .int .i64 v] 52)).alloc (.cells #[.int .u64 t, .int .i64 v] 52)).alloc (.cells #[.int .i64 0, .slice none 0 0, .bool false, .int .i64 0, .int .u64 0] 29)).alloc (.cells #[.int .u64 0, .int .i64 0] 52)))
    rw [hz1] at h
    exact h
  have BQ : SC (((((w.alloc (.cells #[.int .i64 room, .slice a0 n0 c0, .bool down, .int .i64 armed, .int .u64 steps] 29)).alloc (.cells #[.int .u64 t, .int .i64 v] 52)).alloc (.cells #[.int .u64 t, .int .i64 v] 52)).alloc (.cells #[.int .i64 0, .slice none 0 0, .bool false, .int .i64 0, .int .u64 0] 29)).alloc (.cells #[.int .u64 0, .int .i64 0] 52)) (w.heap.size + 1 + 1) t v := by
    have h := (((SC.box26 ((w.alloc (.cells #[.int .i64 room, .slice a0 n0 c0, .bool down, .int .i64 armed, .int .u64 steps] 29)).alloc (.cells #[.int .u64 t, .int .i64 v] 52)) t v)).below (((Below.refl _ _).alloc (Nat.le_refl _) _) : Below (((w.alloc (.cells #[.int .i64 room, .slice a0 n0 c0, .bool down, .int .i64 armed, .int .u64 steps] 29)).alloc (.cells #[.int .u64 t, .int .i64 v] 52)).alloc (.cells #[.int .u64 t, .int .i64 v] 52)).heap.size (((w.alloc (.cells #[.int .i64 room, .slice a0 n0 c0, .bool down, .int .i64 armed, .int .u64 steps] 29)).alloc (.cells #[.int .u64 t, .int .i64 v] 52)).alloc (.cells #[.int .u64 t, .int .i64 v] 52)) ((((w.alloc (.cells #[.int .i64 room, .slice a0 n0 c0, .bool down, .int .i64 armed, .int .u64 steps] 29)).alloc (.cells #[.int .u64 t, .int .i64 v] 52)).alloc (.cells #[.int .u64 t, .int .i64 v] 52)).alloc (.cells #[.int .i64 0, .slice none 0 0, .bool false, .int .i64 0, .int .u64 0] 29)))).below (((Below.refl _ _).alloc (Nat.le_refl _) _) : Below ((((w.alloc (.cells #[.int .i64 room, .slice a0 n0 c0, .bool down, .int .i64 armed, .int .u64 steps] 29)).alloc (.cells #[.int .u64 t, .int .i64 v] 52)).alloc (.cells #[.int .u64 t, .int .i64 v] 52)).alloc (.cells #[.int .i64 0, .slice none 0 0, .bool false, .int .i64 0, .int .u64 0] 29)).heap.size ((((w.alloc (.cells #[.int .i64 room, .slice a0 n0 c0, .bool down, .int .i64 armed, .int .u64 steps] 29)).alloc (.cells #[.int .u64 t, .int .i64 v] 52)).alloc (.cells #[.int .u64 t, .int .i64 v] 52)).alloc (.cells #[.int .i64 0, .slice none 0 0, .bool false, .int .i64 0, .int .u64 0] 29)) (((((w.alloc (.cells #[.int .i64 room, .slice a0 n0 c0, .bool down, .int .i64 armed, .int .u64 steps] 29)).alloc (.cells #[.int .u64 t, .int .i64 v] 52)).alloc (.cells #[.int .u64 t, .int .i64 v] 52)).alloc (.cells #[.int .i64 0, .slice none 0 0, .bool false, .int .i64 0, .int .u64 0] 29)).alloc (.cells #[.int .u64 0, .int .i64 0] 52)))
    rw [hz2] at h
    exact h
  have BZ : RD (((((w.alloc (.cells #[.int .i64 room, .slice a0 n0 c0, .bool down, .int .i64 armed, .int .u64 steps] 29)).alloc (.cells #[.int .u64 t, .int .i64 v] 52)).alloc (.cells #[.int .u64 t, .int .i64 v] 52)).alloc (.cells #[.int .i64 0, .slice none 0 0, .bool false, .int .i64 0, .int .u64 0] 29)).alloc (.cells #[.int .u64 0, .int .i64 0] 52)) (w.heap.size + 1 + 1 + 1) zeroD (.slice none 0 0) := by
    have h := ((RD.zero (((w.alloc (.cells #[.int .i64 room, .slice a0 n0 c0, .bool down, .int .i64 armed, .int .u64 steps] 29)).alloc (.cells #[.int .u64 t, .int .i64 v] 52)).alloc (.cells #[.int .u64 t, .int .i64 v] 52)))).below (((Below.refl _ _).alloc (Nat.le_refl _) _) : Below ((((w.alloc (.cells #[.int .i64 room, .slice a0 n0 c0, .bool down, .int .i64 armed, .int .u64 steps] 29)).alloc (.cells #[.int .u64 t, .int .i64 v] 52)).alloc (.cells #[.int .u64 t, .int .i64 v] 52)).alloc (.cells #[.int .i64 0, .slice none 0 0, .bool false, .int .i64 0, .int .u64 0] 29)).heap.size ((((w.alloc (.cells #[.int .i64 room, .slice a0 n0 c0, .bool down, .int .i64 armed, .int .u64 steps] 29)).alloc (.cells #[.int .u64 t, .int .i64 v] 52)).alloc (.cells #[.int .u64 t, .int .i64 v] 52)).alloc (.cells #[.int .i64 0, .slice none 0 0, .bool false, .int .i64 0, .int .u64 0] 29)) (((((w.alloc (.cells #[.int .i64 room, .slice a0 n0 c0, .bool down, .int .i64 armed, .int .u64 steps] 29)).alloc (.cells #[.int .u64 t, .int .i64 v] 52)).alloc (.cells #[.int .u64 t, .int .i64 v] 52)).alloc (.cells #[.int .i64 0, .slice none 0 0, .bool false, .int .i64 0, .int .u64 0] 29)).alloc (.cells #[.int .u64 0, .int .i64 0] 52)))
    rw [hz3] at h
    exact h
  have BY : SC (((((w.alloc (.cells #[.int .i64 room, .slice a0 n0 c0, .bool down, .int .i64 armed, .int .u64 steps] 29)).alloc (.cells #[.int .u64 t, .int .i64 v] 52)).alloc (.cells #[.int .u64 t, .int .i64 v] 52)).alloc (.cells #[.int .i64 0, .slice none 0 0, .bool false, .int .i64 0, .int .u64 0] 29)).alloc (.cells #[.int .u64 0, .int .i64 0] 52)) (w.heap.size + 1 + 1 + 1 + 1) 0 0 := by
    have h := (SC.zero26 ((((w.alloc (.cells #[.int .i64 room, .slice a0 n0 c0, .bool down, .int .i64 armed, .int .u64 steps] 29)).alloc (.cells #[.int .u64 t, .int .i64 v] 52)).alloc (.cells #[.int .u64 t, .int .i64 v] 52)).alloc (.cells #[.int .i64 0, .slice none 0 0, .bool false, .int .i64 0, .int .u64 0] 29)))
    rw [hz4] at h
    exact h
  have BB : Below w.heap.size w (((((w.alloc (.cells #[.int .i64 room, .slice a0 n0 c0, .bool down, .int .i64 armed, .int .u64 steps] 29)).alloc (.cells #[.int .u64 t, .int .i64 v] 52)).alloc (.cells #[.int .u64 t, .int .i64 v] 52)).alloc (.cells #[.int .i64 0, .slice none 0 0, .bool false, .int .i64 0, .int .u64 0] 29)).alloc (.cells #[.int .u64 0, .int .i64 0] 52)) := (((((Below.refl _ _).alloc (Nat.le_refl _) _).alloc (by simp) _).alloc (by simp; omega) _).alloc (by simp; omega) _).alloc (by simp; omega) _
  have SS := HR.out.below BB
  have FO0 : Hid (∀ g, (.slice a0 n0 c0 : Value).ownBlock = some g → (.slice a0 n0 c0 : Value).ownBlock = some g ∨ w.heap.size ≤ g) := Lib.hid (fun g h => .inl h)
  clear hz1 hz2 hz3 hz4
  go_enter Tryz.func66, Tryz.ntmps66
  go_wp2_with fail
  generalize World.alloc (World.alloc (World.alloc (World.alloc (World.alloc w _) _) _) _) _ = w1 at *
  have X1 := Lib.hid BX
  have P1 := Lib.hid BP
  have Q1 := Lib.hid BQ
  have Z1 := Lib.hid BZ
  have Y1 := Lib.hid BY
  have B1 := Lib.hid BB
  have S1 := Lib.hid SS
  clear BX BP BQ BZ BY BB SS
  obtain ⟨r0, r1, r2, r3, r4, f0, f1, f2, f3, f4⟩ := X1.out
  obtain ⟨p0, p1, _, _⟩ := P1.out
  obtain ⟨q0, q1, _, _⟩ := Q1.out
  obtain ⟨z0, z1, z2, z3, z4, g0, g1, g2, g3, g4⟩ := Z1.out
  obtain ⟨y0, y1, e0, e1⟩ := Y1.out
  have hlx := X1.out.lt
  have hlp := P1.out.lt
  have hlq := Q1.out.lt
  have hlz := Z1.out.lt
  have hly := Y1.out.lt
  go_wp2_with fail
  refine (vrsound_any t v w1).mono ?_
  rintro e w2 ⟨rfl, hb2⟩
  have X2 := Lib.hid (X1.out.below hb2)
  have P2 := Lib.hid (P1.out.below hb2)
  have Q2 := Lib.hid (Q1.out.below hb2)
  have Z2 := Lib.hid (Z1.out.below hb2)
  have Y2 := Lib.hid (Y1.out.below hb2)
  have S2 := Lib.hid (S1.out.below hb2)
  have B2 : Hid (Below w.heap.size w w2) := Lib.hid (B1.out.trans (hb2.mono B1.out.size))
  clear hb2
  clear r0 r1 r2 r3 r4 f0 f1 f2 f3 f4 p0 p1 q0 q1 z0 z1 z2 z3 z4 g0 g1 g2 g3 g4 y0 y1 e0 e1 hlx hlp hlq hlz hly
  clear X1 P1 Q1 Z1 Y1 S1 B1
  rw [HSN.out]
  obtain ⟨r0, r1, r2, r3, r4, f0, f1, f2, f3, f4⟩ := X2.out
  obtain ⟨p0, p1, _, _⟩ := P2.out
  obtain ⟨q0, q1, _, _⟩ := Q2.out
  obtain ⟨z0, z1, z2, z3, z4, g0, g1, g2, g3, g4⟩ := Z2.out
  obtain ⟨y0, y1, e0, e1⟩ := Y2.out
  have hlx := X2.out.lt
  have hlp := P2.out.lt
  have hlq := Q2.out.lt
  have hlz := Z2.out.lt
  have hly := Y2.out.lt
  go_wp2_with fail
  refine (vrmay_any t v t v w2).mono ?_
  rintro e w3 ⟨rfl, hb3⟩
  have X3 := Lib.hid (X2.out.below hb3)
  have P3 := Lib.hid (P2.out.below hb3)
  have Q3 := Lib.hid (Q2.out.below hb3)
  have Z3 := Lib.hid (Z2.out.below hb3)
  have Y3 := Lib.hid (Y2.out.below hb3)
  have S3 := Lib.hid (S2.out.below hb3)
  have B3 : Hid (Below w.heap.size w w3) := Lib.hid (B2.out.trans (hb3.mono B2.out.size))
  clear hb3
  clear r0 r1 r2 r3 r4 f0 f1 f2 f3 f4 p0 p1 q0 q1 z0 z1 z2 z3 z4 g0 g1 g2 g3 g4 y0 y1 e0 e1 hlx hlp hlq hlz hly
  clear X2 P2 Q2 Z2 Y2 S2 B2
  rw [HMY.out]
  obtain ⟨r0, r1, r2, r3, r4, f0, f1, f2, f3, f4⟩ := X3.out
  obtain ⟨p0, p1, _, _⟩ := P3.out
  obtain ⟨q0, q1, _, _⟩ := Q3.out
  obtain ⟨z0, z1, z2, z3, z4, g0, g1, g2, g3, g4⟩ := Z3.out
  obtain ⟨y0, y1, e0, e1⟩ := Y3.out
  have hlx := X3.out.lt
  have hlp := P3.out.lt
  have hlq := Q3.out.lt
  have hlz := Z3.out.lt
  have hly := Y3.out.lt
  go_wp2_with fail
  clear r0 r1 r2 r3 r4 f0 f1 f2 f3 f4 p0 p1 q0 q1 z0 z1 z2 z3 z4 g0 g1 g2 g3 g4 y0 y1 e0 e1 hlx hlp hlq hlz hly
  obtain ⟨r0, r1, r2, r3, r4, f0, f1, f2, f3, f4⟩ := X3.out
  obtain ⟨p0, p1, _, _⟩ := P3.out
  obtain ⟨q0, q1, _, _⟩ := Q3.out
  obtain ⟨z0, z1, z2, z3, z4, g0, g1, g2, g3, g4⟩ := Z3.out
  obtain ⟨y0, y1, e0, e1⟩ := Y3.out
  have hlx := X3.out.lt
  have hlp := P3.out.lt
  have hlq := Q3.out.lt
  have hlz := Z3.out.lt
  have hly := Y3.out.lt
  have J1 : Hid (RD (set5D w3 (w.heap.size + 1 + 1 + 1) ⟨room, L, down, armed, steps⟩ (.slice a0 n0 c0)) w.heap.size ⟨room, L, down, armed, steps⟩ (.slice a0 n0 c0) ∧ SC (set5D w3 (w.heap.size + 1 + 1 + 1) ⟨room, L, down, armed, steps⟩ (.slice a0 n0 c0)) (w.heap.size + 1) t v) := Lib.hid ⟨X3.out.kept (Kept.set5D w3 (w.heap.size + 1 + 1 + 1) ⟨room, L, down, armed, steps⟩ (.slice a0 n0 c0)) (by omega), P3.out.kept (Kept.set5D w3 (w.heap.size + 1 + 1 + 1) ⟨room, L, down, armed, steps⟩ (.slice a0 n0 c0)) (by omega)⟩
  have J2 : Hid (RD (set5D w3 (w.heap.size + 1 + 1 + 1) ⟨room, L, down, armed, steps⟩ (.slice a0 n0 c0)).drew w.heap.size ⟨room, L, down, armed, steps⟩ (.slice a0 n0 c0) ∧ SC (set5D w3 (w.heap.size + 1 + 1 + 1) ⟨room, L, down, armed, steps⟩ (.slice a0 n0 c0)).drew (w.heap.size + 1) t v) := Lib.hid ⟨J1.out.1.below ((Below.refl _ _).drew), J1.out.2.below ((Below.refl _ _).drew)⟩
  unfold set5D at J1 J2
  simp only at J1 J2
  refine region_start [0, 0, 1, 7, 15] 4 (fun w' => RD w' w.heap.size ⟨room, L, down, armed, steps⟩ (.slice a0 n0 c0) ∧ SC w' (w.heap.size + 1) t v) (by kernel_rfl) ?_
  refine stage_heads [0, 1] (by kernel_rfl) (L := #[true, true, false, false, false]) (by kernel_rfl) (f' := 3) rfl (fun _ _ _ _ h => h) (fun w o h => ⟨h.1.below ((Below.refl _ _).alloc (Nat.le_refl _) o), h.2.below ((Below.refl _ _).alloc (Nat.le_refl _) o)⟩) (.inr (by first | exact ⟨X3.out.below ((Below.refl _ _).drew), P3.out.below ((Below.refl _ _).drew)⟩ | exact ⟨X3.out, P3.out⟩)) ?_
  simp only [List.flatMap_cons, List.flatMap_nil, List.drop_succ_cons, List.drop_zero, List.take_succ_cons, List.take_zero, List.cons_append, List.nil_append, List.append_nil]
  iterate 2 (first | (refine heads_load _ (by rfl) (fun w' hs => by obtain ⟨⟨r0, r1, r2, r3, r4, _⟩, b0, b1, _, _⟩ := hs; go_simp; try with_reducible rfl) rfl ?_; simp only [Act.put, List.setIfInBounds_toArray, List.set_cons_zero, List.set_cons_succ]) | (refine heads_pure _ (by rfl) (fun w' => by go_simp; try with_reducible rfl) ?_; simp only [Act.put, List.setIfInBounds_toArray, List.set_cons_zero, List.set_cons_succ]))
  refine heads_nil ?_
  refine stage_op 2 (by kernel_rfl) (L := #[true, true, true, false, false]) (by kernel_rfl) ?_
  simp only [List.drop_succ_cons, List.drop_zero, List.take_succ_cons, List.take_zero]
  go_wp2_with fail
  refine step_post (fun _ => (by first | exact J2.out | exact J1.out)) ?_
  refine stage_op 3 (by kernel_rfl) (L := #[true, true, true, true, false]) (by kernel_rfl) ?_
  simp only [List.drop_succ_cons, List.drop_zero, List.take_succ_cons, List.take_zero]
  go_wp2_with fail
  refine step_post nofun ?_
  refine stage_heads [4] (by kernel_rfl) (L := #[true, true, true, true, true]) (by kernel_rfl) (f' := 0) rfl (fun _ _ _ _ h => h) (fun w o h => ⟨h.1.below ((Below.refl _ _).alloc (Nat.le_refl _) o), h.2.below ((Below.refl _ _).alloc (Nat.le_refl _) o)⟩) (.inl (by kernel_rfl)) ?_
  simp only [List.flatMap_cons, List.flatMap_nil, List.drop_succ_cons, List.drop_zero, List.take_succ_cons, List.take_zero, List.append_nil]
  iterate 1 (refine heads_pure _ (by rfl) (fun w' => by go_simp; try with_reducible rfl) ?_; simp only [Act.put, List.setIfInBounds_toArray, List.set_cons_zero, List.set_cons_succ])
  refine heads_nil ?_
  refine stage_done (by kernel_rfl) ?_
  generalize hwz : World.drew _ = wz
  have W1 : wz = ((((((((w3.setCell ⟨(w.heap.size + 1 + 1 + 1), 0, none⟩ (.int .i64 room)).setCell ⟨(w.heap.size + 1 + 1 + 1), 1, none⟩ (.slice a0 n0 c0)).setCell ⟨(w.heap.size + 1 + 1 + 1), 2, none⟩ (.bool down)).setCell ⟨(w.heap.size + 1 + 1 + 1), 3, none⟩ (.int .i64 armed)).setCell ⟨(w.heap.size + 1 + 1 + 1), 4, none⟩ (.int .u64 steps))).setCell ⟨(w.heap.size + 1 + 1 + 1 + 1), 0, none⟩ (.int .u64 t)).setCell ⟨(w.heap.size + 1 + 1 + 1 + 1), 1, none⟩ (.int .i64 v)).drew := hwz.symm
  have KS := Kept.set5D w3 (w.heap.size + 1 + 1 + 1) ⟨room, L, down, armed, steps⟩ (.slice a0 n0 c0)
  have RFF := (Z3.out.set ⟨room, L, down, armed, steps⟩ (.slice a0 n0 c0))
  have YS := Y3.out.kept KS (by omega)
  have SS := S3.out.setD Z3.out (fun s e => by cases e) ⟨room, L, down, armed, steps⟩ (.slice a0 n0 c0)
  have RFG0 := (RFF.kept (Kept.set2 _ (w.heap.size + 1 + 1 + 1 + 1) (.int .u64 t) (.int .i64 v)) (by omega)).below ((Below.refl _ _).drew)
  have RFY0 := (YS.set t v).below ((Below.refl _ _).drew)
  have SF0 := (SS.setSC YS (.int .u64 t) (.int .i64 v)).below ((Below.refl _ _).drew)
  have BF0 := B3.out.trans (KS.below B3.out.size (fun k hk => by omega))
  have BF1 := (BF0.trans ((Kept.set2 _ (w.heap.size + 1 + 1 + 1 + 1) (.int .u64 t) (.int .i64 v)).below BF0.size (fun k hk => by omega))).drew
  unfold set5D at RFG0 RFY0 SF0 BF1
  simp only at RFG0 RFY0 SF0 BF1
  rw [← W1] at RFG0 RFY0 SF0 BF1
  have RFG := Lib.hid RFG0
  have RFY := Lib.hid RFY0
  have SF := Lib.hid SF0
  have BF := Lib.hid BF1
  clear KS RFF YS SS RFG0 RFY0 SF0 BF0 BF1 W1 hwz
  clear r0 r1 r2 r3 r4 f0 f1 f2 f3 f4 p0 p1 q0 q1 z0 z1 z2 z3 z4 g0 g1 g2 g3 g4 y0 y1 e0 e1 hlx hlp hlq hlz hly
  obtain ⟨q0, q1, q2, q3, q4, _⟩ := RFG.out
  obtain ⟨u0, u1, _, _⟩ := RFY.out
  simp only at q0 q1 q2 q3 q4
  go_wp2_with fail
  refine bodyPost_ret (v := .tuple #[.agg #[.int .i64 room, .slice a0 n0 c0, .bool down, .int .i64 armed, .int .u64 steps], .agg #[.int .u64 t, .int .i64 v], .int .i64 0]) (by simp [results, Tryz.results66, go_sem, q0, q1, q2, q3, q4, u0, u1]) rfl ?_

  exact ⟨_, rfl, RIs.new (D := ⟨room, L, down, armed, steps⟩) HN0.out SF.out, BF.out, FO0.out⟩
set_option maxHeartbeats 4000000 in
set_option maxRecDepth 20000 in
theorem rkeep_down (a0 : Option Addr) (n0 c0 : Nat) (room : Int) (L : List FileS) (armed steps t v t' v' : Int) (w : World) (hn : L.length = n0) (hr : SRow w 3 (.slice a0 n0 c0) (L.map rfV)) (hsn : vSnd t' v' = true) (hmy : vMy t v t' v' = true) (hne : ¬ (t = t' ∧ v = v')) (hfew : L.length ≤ 1000) : Calls Tryz.prog 66 #[.agg #[.int .i64 room, .slice a0 n0 c0, .bool true, .int .i64 armed, .int .u64 steps], .agg #[.int .u64 t, .int .i64 v], .agg #[.int .u64 t', .int .i64 v']] w (RKeep (⟨room, L, true, armed, steps⟩, 50) t v (.agg #[.int .i64 room, .slice a0 n0 c0, .bool true, .int .i64 armed, .int .u64 steps]) w) := by
  have HN0 := Lib.hid hn
  have HR := Lib.hid hr
  clear hn hr
  have HSN : Hid (vSnd t' v' = true) := Lib.hid hsn
  clear hsn
  have HMY : Hid (vMy t v t' v' = true) := Lib.hid hmy
  clear hmy
  have HNE : Hid (¬ (t = t' ∧ v = v')) := Lib.hid hne
  clear hne
  have HF0 : Hid (L.length ≤ 1000) := Lib.hid hfew
  clear hfew
  have hz1 : (w.alloc (.cells #[.int .i64 room, .slice a0 n0 c0, .bool true, .int .i64 armed, .int .u64 steps] 29)).heap.size = w.heap.size + 1 := by simp
  have hz2 : ((w.alloc (.cells #[.int .i64 room, .slice a0 n0 c0, .bool true, .int .i64 armed, .int .u64 steps] 29)).alloc (.cells #[.int .u64 t, .int .i64 v] 52)).heap.size = w.heap.size + 1 + 1 := by simp
  have hz3 : (((w.alloc (.cells #[.int .i64 room, .slice a0 n0 c0, .bool true, .int .i64 armed, .int .u64 steps] 29)).alloc (.cells #[.int .u64 t, .int .i64 v] 52)).alloc (.cells #[.int .u64 t', .int .i64 v'] 52)).heap.size = w.heap.size + 1 + 1 + 1 := by simp
  have hz4 : ((((w.alloc (.cells #[.int .i64 room, .slice a0 n0 c0, .bool true, .int .i64 armed, .int .u64 steps] 29)).alloc (.cells #[.int .u64 t, .int .i64 v] 52)).alloc (.cells #[.int .u64 t', .int .i64 v'] 52)).alloc (.cells #[.int .i64 0, .slice none 0 0, .bool false, .int .i64 0, .int .u64 0] 29)).heap.size = w.heap.size + 1 + 1 + 1 + 1 := by simp
  have BX : RD (((((w.alloc (.cells #[.int .i64 room, .slice a0 n0 c0, .bool true, .int .i64 armed, .int .u64 steps] 29)).alloc (.cells #[.int .u64 t, .int .i64 v] 52)).alloc (.cells #[.int .u64 t', .int .i64 v'] 52)).alloc (.cells #[.int .i64 0, .slice none 0 0, .bool false, .int .i64 0, .int .u64 0] 29)).alloc (.cells #[.int .u64 0, .int .i64 0] 52)) w.heap.size ⟨room, L, true, armed, steps⟩ (.slice a0 n0 c0) := ((((RD.box w ⟨room, L, true, armed, steps⟩ (.slice a0 n0 c0)).below ((Below.refl _ _).alloc (Nat.le_refl _) _)).below ((Below.refl _ _).alloc (Nat.le_refl _) _)).below ((Below.refl _ _).alloc (Nat.le_refl _) _)).below ((Below.refl _ _).alloc (Nat.le_refl _) _)
  have BP : SC (((((w.alloc (.cells #[.int .i64 room, .slice a0 n0 c0, .bool true, .int .i64 armed, .int .u64 steps] 29)).alloc (.cells #[.int .u64 t, .int .i64 v] 52)).alloc (.cells #[.int .u64 t', .int .i64 v'] 52)).alloc (.cells #[.int .i64 0, .slice none 0 0, .bool false, .int .i64 0, .int .u64 0] 29)).alloc (.cells #[.int .u64 0, .int .i64 0] 52)) (w.heap.size + 1) t v := by
    have h := ((((SC.box26 (w.alloc (.cells #[.int .i64 room, .slice a0 n0 c0, .bool true, .int .i64 armed, .int .u64 steps] 29)) t v)).below (((Below.refl _ _).alloc (Nat.le_refl _) _) : Below ((w.alloc (.cells #[.int .i64 room, .slice a0 n0 c0, .bool true, .int .i64 armed, .int .u64 steps] 29)).alloc (.cells #[.int .u64 t, .int .i64 v] 52)).heap.size ((w.alloc (.cells #[.int .i64 room, .slice a0 n0 c0, .bool true, .int .i64 armed, .int .u64 steps] 29)).alloc (.cells #[.int .u64 t, .int .i64 v] 52)) (((w.alloc (.cells #[.int .i64 room, .slice a0 n0 c0, .bool true, .int .i64 armed, .int .u64 steps] 29)).alloc (.cells #[.int .u64 t, .int .i64 v] 52)).alloc (.cells #[.int .u64 t', .int .i64 v'] 52)))).below (((Below.refl _ _).alloc (Nat.le_refl _) _) : Below (((w.alloc (.cells #[.int .i64 room, .slice a0 n0 c0, .bool true, .int .i64 armed, .int .u64 steps] 29)).alloc (.cells #[.int .u64 t, .int .i64 v] 52)).alloc (.cells #[.int .u64 t', .int .i64 v'] 52)).heap.size (((w.alloc (.cells #[.int .i64 room, .slice a0 n0 c0, .bool true, .int .i64 armed, .int .u64 steps] 29)).alloc (.cells #[.int .u64 t, .int .i64 v] 52)).alloc (.cells #[.int .u64 t', .int .i64 v'] 52)) ((((w.alloc (.cells #[.int .i64 room, .slice a0 n0 c0, .bool true, .int .i64 armed, .int .u64 steps] 29)).alloc (.cells #[.int .u64 t, .int .i64 v] 52)).alloc (.cells #[.int .u64 t', .int .i64 v'] 52)).alloc (.cells #[.int .i64 0, .slice none 0 0, .bool false, .int .i64 0, .int .u64 0] 29)))).below (((Below.refl _ _).alloc (Nat.le_refl _) _) : Below ((((w.alloc (.cells #[.int .i64 room, .slice a0 n0 c0, .bool true, .int .i64 armed, .int .u64 steps] 29)).alloc (.cells #[.int .u64 t, .int .i64 v] 52)).alloc (.cells #[.int .u64 t', .int .i64 v'] 52)).alloc (.cells #[.int .i64 0, .slice none 0 0, .bool false, .int .i64 0, .int .u64 0] 29)).heap.size ((((w.alloc (.cells #[.int .i64 room, .slice a0 n0 c0, .bool true, .int .i64 armed, .int .u64 steps] 29)).alloc (.cells #[.int .u64 t, .int .i64 v] 52)).alloc (.cells #[.int .u64 t', .int .i64 v'] 52)).alloc (.cells #[.int .i64 0, .slice none 0 0, .bool false, .int .i64 0, .int .u64 0] 29)) (((((w.alloc (.cells #[.int .i64 room, .slice a0 n0 c0, .bool true, .int .i64 armed, .int .u64 steps] 29)).alloc (.cells #[.int .u64 t, .int .i64 v] 52)).alloc (.cells #[.int .u64 t', .int .i64 v'] 52)).alloc (.cells #[.int .i64 0, .slice none 0 0, .bool false, .int .i64 0, .int .u64 0] 29)).alloc (.cells #[.int .u64 0, .int .i64 0] 52)))
    rw [hz1] at h
    exact h
  have BQ : SC (((((w.alloc (.cells #[.int .i64 room, .slice a0 n0 c0, .bool true, .int .i64 armed, .int .u64 steps] 29)).alloc (.cells #[.int .u64 t, .int .i64 v] 52)).alloc (.cells #[.int .u64 t', .int .i64 v'] 52)).alloc (.cells #[.int .i64 0, .slice none 0 0, .bool false, .int .i64 0, .int .u64 0] 29)).alloc (.cells #[.int .u64 0, .int .i64 0] 52)) (w.heap.size + 1 + 1) t' v' := by
    have h := (((SC.box26 ((w.alloc (.cells #[.int .i64 room, .slice a0 n0 c0, .bool true, .int .i64 armed, .int .u64 steps] 29)).alloc (.cells #[.int .u64 t, .int .i64 v] 52)) t' v')).below (((Below.refl _ _).alloc (Nat.le_refl _) _) : Below (((w.alloc (.cells #[.int .i64 room, .slice a0 n0 c0, .bool true, .int .i64 armed, .int .u64 steps] 29)).alloc (.cells #[.int .u64 t, .int .i64 v] 52)).alloc (.cells #[.int .u64 t', .int .i64 v'] 52)).heap.size (((w.alloc (.cells #[.int .i64 room, .slice a0 n0 c0, .bool true, .int .i64 armed, .int .u64 steps] 29)).alloc (.cells #[.int .u64 t, .int .i64 v] 52)).alloc (.cells #[.int .u64 t', .int .i64 v'] 52)) ((((w.alloc (.cells #[.int .i64 room, .slice a0 n0 c0, .bool true, .int .i64 armed, .int .u64 steps] 29)).alloc (.cells #[.int .u64 t, .int .i64 v] 52)).alloc (.cells #[.int .u64 t', .int .i64 v'] 52)).alloc (.cells #[.int .i64 0, .slice none 0 0, .bool false, .int .i64 0, .int .u64 0] 29)))).below (((Below.refl _ _).alloc (Nat.le_refl _) _) : Below ((((w.alloc (.cells #[.int .i64 room, .slice a0 n0 c0, .bool true, .int .i64 armed, .int .u64 steps] 29)).alloc (.cells #[.int .u64 t, .int .i64 v] 52)).alloc (.cells #[.int .u64 t', .int .i64 v'] 52)).alloc (.cells #[.int .i64 0, .slice none 0 0, .bool false, .int .i64 0, .int .u64 0] 29)).heap.size ((((w.alloc (.cells #[.int .i64 room, .slice a0 n0 c0, .bool true, .int .i64 armed, .int .u64 steps] 29)).alloc (.cells #[.int .u64 t, .int .i64 v] 52)).alloc (.cells #[.int .u64 t', .int .i64 v'] 52)).alloc (.cells #[.int .i64 0, .slice none 0 0, .bool false, .int .i64 0, .int .u64 0] 29)) (((((w.alloc (.cells #[.int .i64 room, .slice a0 n0 c0, .bool true, .int .i64 armed, .int .u64 steps] 29)).alloc (.cells #[.int .u64 t, .int .i64 v] 52)).alloc (.cells #[.int .u64 t', .int .i64 v'] 52)).alloc (.cells #[.int .i64 0, .slice none 0 0, .bool false, .int .i64 0, .int .u64 0] 29)).alloc (.cells #[.int .u64 0, .int .i64 0] 52)))
    rw [hz2] at h
    exact h
  have BZ : RD (((((w.alloc (.cells #[.int .i64 room, .slice a0 n0 c0, .bool true, .int .i64 armed, .int .u64 steps] 29)).alloc (.cells #[.int .u64 t, .int .i64 v] 52)).alloc (.cells #[.int .u64 t', .int .i64 v'] 52)).alloc (.cells #[.int .i64 0, .slice none 0 0, .bool false, .int .i64 0, .int .u64 0] 29)).alloc (.cells #[.int .u64 0, .int .i64 0] 52)) (w.heap.size + 1 + 1 + 1) zeroD (.slice none 0 0) := by
    have h := ((RD.zero (((w.alloc (.cells #[.int .i64 room, .slice a0 n0 c0, .bool true, .int .i64 armed, .int .u64 steps] 29)).alloc (.cells #[.int .u64 t, .int .i64 v] 52)).alloc (.cells #[.int .u64 t', .int .i64 v'] 52)))).below (((Below.refl _ _).alloc (Nat.le_refl _) _) : Below ((((w.alloc (.cells #[.int .i64 room, .slice a0 n0 c0, .bool true, .int .i64 armed, .int .u64 steps] 29)).alloc (.cells #[.int .u64 t, .int .i64 v] 52)).alloc (.cells #[.int .u64 t', .int .i64 v'] 52)).alloc (.cells #[.int .i64 0, .slice none 0 0, .bool false, .int .i64 0, .int .u64 0] 29)).heap.size ((((w.alloc (.cells #[.int .i64 room, .slice a0 n0 c0, .bool true, .int .i64 armed, .int .u64 steps] 29)).alloc (.cells #[.int .u64 t, .int .i64 v] 52)).alloc (.cells #[.int .u64 t', .int .i64 v'] 52)).alloc (.cells #[.int .i64 0, .slice none 0 0, .bool false, .int .i64 0, .int .u64 0] 29)) (((((w.alloc (.cells #[.int .i64 room, .slice a0 n0 c0, .bool true, .int .i64 armed, .int .u64 steps] 29)).alloc (.cells #[.int .u64 t, .int .i64 v] 52)).alloc (.cells #[.int .u64 t', .int .i64 v'] 52)).alloc (.cells #[.int .i64 0, .slice none 0 0, .bool false, .int .i64 0, .int .u64 0] 29)).alloc (.cells #[.int .u64 0, .int .i64 0] 52)))
    rw [hz3] at h
    exact h
  have BY : SC (((((w.alloc (.cells #[.int .i64 room, .slice a0 n0 c0, .bool true, .int .i64 armed, .int .u64 steps] 29)).alloc (.cells #[.int .u64 t, .int .i64 v] 52)).alloc (.cells #[.int .u64 t', .int .i64 v'] 52)).alloc (.cells #[.int .i64 0, .slice none 0 0, .bool false, .int .i64 0, .int .u64 0] 29)).alloc (.cells #[.int .u64 0, .int .i64 0] 52)) (w.heap.size + 1 + 1 + 1 + 1) 0 0 := by
    have h := (SC.zero26 ((((w.alloc (.cells #[.int .i64 room, .slice a0 n0 c0, .bool true, .int .i64 armed, .int .u64 steps] 29)).alloc (.cells #[.int .u64 t, .int .i64 v] 52)).alloc (.cells #[.int .u64 t', .int .i64 v'] 52)).alloc (.cells #[.int .i64 0, .slice none 0 0, .bool false, .int .i64 0, .int .u64 0] 29)))
    rw [hz4] at h
    exact h
  have BB : Below w.heap.size w (((((w.alloc (.cells #[.int .i64 room, .slice a0 n0 c0, .bool true, .int .i64 armed, .int .u64 steps] 29)).alloc (.cells #[.int .u64 t, .int .i64 v] 52)).alloc (.cells #[.int .u64 t', .int .i64 v'] 52)).alloc (.cells #[.int .i64 0, .slice none 0 0, .bool false, .int .i64 0, .int .u64 0] 29)).alloc (.cells #[.int .u64 0, .int .i64 0] 52)) := (((((Below.refl _ _).alloc (Nat.le_refl _) _).alloc (by simp) _).alloc (by simp; omega) _).alloc (by simp; omega) _).alloc (by simp; omega) _
  have SS := HR.out.below BB
  have FO0 : Hid (∀ g, (.slice a0 n0 c0 : Value).ownBlock = some g → (.slice a0 n0 c0 : Value).ownBlock = some g ∨ w.heap.size ≤ g) := Lib.hid (fun g h => .inl h)
  clear hz1 hz2 hz3 hz4
  go_enter Tryz.func66, Tryz.ntmps66
  go_wp2_with fail
  generalize World.alloc (World.alloc (World.alloc (World.alloc (World.alloc w _) _) _) _) _ = w1 at *
  have X1 := Lib.hid BX
  have P1 := Lib.hid BP
  have Q1 := Lib.hid BQ
  have Z1 := Lib.hid BZ
  have Y1 := Lib.hid BY
  have B1 := Lib.hid BB
  have S1 := Lib.hid SS
  clear BX BP BQ BZ BY BB SS
  obtain ⟨r0, r1, r2, r3, r4, f0, f1, f2, f3, f4⟩ := X1.out
  obtain ⟨p0, p1, _, _⟩ := P1.out
  obtain ⟨q0, q1, _, _⟩ := Q1.out
  obtain ⟨z0, z1, z2, z3, z4, g0, g1, g2, g3, g4⟩ := Z1.out
  obtain ⟨y0, y1, e0, e1⟩ := Y1.out
  have hlx := X1.out.lt
  have hlp := P1.out.lt
  have hlq := Q1.out.lt
  have hlz := Z1.out.lt
  have hly := Y1.out.lt
  go_wp2_with fail
  refine (vrsound_any t' v' w1).mono ?_
  rintro e w2 ⟨rfl, hb2⟩
  have X2 := Lib.hid (X1.out.below hb2)
  have P2 := Lib.hid (P1.out.below hb2)
  have Q2 := Lib.hid (Q1.out.below hb2)
  have Z2 := Lib.hid (Z1.out.below hb2)
  have Y2 := Lib.hid (Y1.out.below hb2)
  have S2 := Lib.hid (S1.out.below hb2)
  have B2 : Hid (Below w.heap.size w w2) := Lib.hid (B1.out.trans (hb2.mono B1.out.size))
  clear hb2
  clear r0 r1 r2 r3 r4 f0 f1 f2 f3 f4 p0 p1 q0 q1 z0 z1 z2 z3 z4 g0 g1 g2 g3 g4 y0 y1 e0 e1 hlx hlp hlq hlz hly
  clear X1 P1 Q1 Z1 Y1 S1 B1
  rw [HSN.out]
  obtain ⟨r0, r1, r2, r3, r4, f0, f1, f2, f3, f4⟩ := X2.out
  obtain ⟨p0, p1, _, _⟩ := P2.out
  obtain ⟨q0, q1, _, _⟩ := Q2.out
  obtain ⟨z0, z1, z2, z3, z4, g0, g1, g2, g3, g4⟩ := Z2.out
  obtain ⟨y0, y1, e0, e1⟩ := Y2.out
  have hlx := X2.out.lt
  have hlp := P2.out.lt
  have hlq := Q2.out.lt
  have hlz := Z2.out.lt
  have hly := Y2.out.lt
  go_wp2_with fail
  refine (vrmay_any t v t' v' w2).mono ?_
  rintro e w3 ⟨rfl, hb3⟩
  have X3 := Lib.hid (X2.out.below hb3)
  have P3 := Lib.hid (P2.out.below hb3)
  have Q3 := Lib.hid (Q2.out.below hb3)
  have Z3 := Lib.hid (Z2.out.below hb3)
  have Y3 := Lib.hid (Y2.out.below hb3)
  have S3 := Lib.hid (S2.out.below hb3)
  have B3 : Hid (Below w.heap.size w w3) := Lib.hid (B2.out.trans (hb3.mono B2.out.size))
  clear hb3
  clear r0 r1 r2 r3 r4 f0 f1 f2 f3 f4 p0 p1 q0 q1 z0 z1 z2 z3 z4 g0 g1 g2 g3 g4 y0 y1 e0 e1 hlx hlp hlq hlz hly
  clear X2 P2 Q2 Z2 Y2 S2 B2
  rw [HMY.out]
  obtain ⟨r0, r1, r2, r3, r4, f0, f1, f2, f3, f4⟩ := X3.out
  obtain ⟨p0, p1, _, _⟩ := P3.out
  obtain ⟨q0, q1, _, _⟩ := Q3.out
  obtain ⟨z0, z1, z2, z3, z4, g0, g1, g2, g3, g4⟩ := Z3.out
  obtain ⟨y0, y1, e0, e1⟩ := Y3.out
  have hlx := X3.out.lt
  have hlp := P3.out.lt
  have hlq := Q3.out.lt
  have hlz := Z3.out.lt
  have hly := Y3.out.lt
  have hne2 : ((t == t') = true ∧ (v == v') = false) ∨ (t == t') = false := by
    by_cases het : t = t'
    · exact .inl ⟨beq_iff_eq.2 het, beq_eq_false_iff_ne.2 (fun h => HNE.out ⟨het, h⟩)⟩
    · exact .inr (beq_eq_false_iff_ne.2 het)
  rcases hne2 with ⟨hett, hevv⟩ | hett
  all_goals
    go_wp2_with fail
    refine (rfind_any _ ⟨room, L, true, armed, steps⟩ nVow w3 (RIs.new (D := ⟨room, L, true, armed, steps⟩) HN0.out S3.out) HF0.out).mono ?_
    rintro e w4 ⟨rfl, hb4⟩
    have X4 := Lib.hid (X3.out.below hb4)
    have P4 := Lib.hid (P3.out.below hb4)
    have Q4 := Lib.hid (Q3.out.below hb4)
    have Z4 := Lib.hid (Z3.out.below hb4)
    have Y4 := Lib.hid (Y3.out.below hb4)
    have S4 := Lib.hid (S3.out.below hb4)
    have B4 : Hid (Below w.heap.size w w4) := Lib.hid (B3.out.trans (hb4.mono B3.out.size))
    clear hb4
    clear r0 r1 r2 r3 r4 f0 f1 f2 f3 f4 p0 p1 q0 q1 z0 z1 z2 z3 z4 g0 g1 g2 g3 g4 y0 y1 e0 e1 hlx hlp hlq hlz hly
    obtain ⟨r0, r1, r2, r3, r4, f0, f1, f2, f3, f4⟩ := X4.out
    obtain ⟨p0, p1, _, _⟩ := P4.out
    obtain ⟨q0, q1, _, _⟩ := Q4.out
    obtain ⟨z0, z1, z2, z3, z4, g0, g1, g2, g3, g4⟩ := Z4.out
    obtain ⟨y0, y1, e0, e1⟩ := Y4.out
    have hlx := X4.out.lt
    have hlp := P4.out.lt
    have hlq := Q4.out.lt
    have hlz := Z4.out.lt
    have hly := Y4.out.lt
    go_wp2_with fail
    clear r0 r1 r2 r3 r4 f0 f1 f2 f3 f4 p0 p1 q0 q1 z0 z1 z2 z3 z4 g0 g1 g2 g3 g4 y0 y1 e0 e1 hlx hlp hlq hlz hly
    obtain ⟨r0, r1, r2, r3, r4, f0, f1, f2, f3, f4⟩ := X4.out
    obtain ⟨p0, p1, _, _⟩ := P4.out
    obtain ⟨q0, q1, _, _⟩ := Q4.out
    obtain ⟨z0, z1, z2, z3, z4, g0, g1, g2, g3, g4⟩ := Z4.out
    obtain ⟨y0, y1, e0, e1⟩ := Y4.out
    have hlx := X4.out.lt
    have hlp := P4.out.lt
    have hlq := Q4.out.lt
    have hlz := Z4.out.lt
    have hly := Y4.out.lt
    have J1 : Hid (RD (set5D w4 (w.heap.size + 1 + 1 + 1) ⟨room, L, true, armed, steps⟩ (.slice a0 n0 c0)) w.heap.size ⟨room, L, true, armed, steps⟩ (.slice a0 n0 c0) ∧ SC (set5D w4 (w.heap.size + 1 + 1 + 1) ⟨room, L, true, armed, steps⟩ (.slice a0 n0 c0)) (w.heap.size + 1) t v) := Lib.hid ⟨X4.out.kept (Kept.set5D w4 (w.heap.size + 1 + 1 + 1) ⟨room, L, true, armed, steps⟩ (.slice a0 n0 c0)) (by omega), P4.out.kept (Kept.set5D w4 (w.heap.size + 1 + 1 + 1) ⟨room, L, true, armed, steps⟩ (.slice a0 n0 c0)) (by omega)⟩
    have J2 : Hid (RD (set5D w4 (w.heap.size + 1 + 1 + 1) ⟨room, L, true, armed, steps⟩ (.slice a0 n0 c0)).drew w.heap.size ⟨room, L, true, armed, steps⟩ (.slice a0 n0 c0) ∧ SC (set5D w4 (w.heap.size + 1 + 1 + 1) ⟨room, L, true, armed, steps⟩ (.slice a0 n0 c0)).drew (w.heap.size + 1) t v) := Lib.hid ⟨J1.out.1.below ((Below.refl _ _).drew), J1.out.2.below ((Below.refl _ _).drew)⟩
    unfold set5D at J1 J2
    simp only at J1 J2
    refine region_start [0, 0, 1, 7, 15] 4 (fun w' => RD w' w.heap.size ⟨room, L, true, armed, steps⟩ (.slice a0 n0 c0) ∧ SC w' (w.heap.size + 1) t v) (by kernel_rfl) ?_
    refine stage_heads [0, 1] (by kernel_rfl) (L := #[true, true, false, false, false]) (by kernel_rfl) (f' := 3) rfl (fun _ _ _ _ h => h) (fun w o h => ⟨h.1.below ((Below.refl _ _).alloc (Nat.le_refl _) o), h.2.below ((Below.refl _ _).alloc (Nat.le_refl _) o)⟩) (.inr (by first | exact ⟨X4.out.below ((Below.refl _ _).drew), P4.out.below ((Below.refl _ _).drew)⟩ | exact ⟨X4.out, P4.out⟩)) ?_
    simp only [List.flatMap_cons, List.flatMap_nil, List.drop_succ_cons, List.drop_zero, List.take_succ_cons, List.take_zero, List.cons_append, List.nil_append, List.append_nil]
    iterate 2 (first | (refine heads_load _ (by rfl) (fun w' hs => by obtain ⟨⟨r0, r1, r2, r3, r4, _⟩, b0, b1, _, _⟩ := hs; go_simp; try with_reducible rfl) rfl ?_; simp only [Act.put, List.setIfInBounds_toArray, List.set_cons_zero, List.set_cons_succ]) | (refine heads_pure _ (by rfl) (fun w' => by go_simp; try with_reducible rfl) ?_; simp only [Act.put, List.setIfInBounds_toArray, List.set_cons_zero, List.set_cons_succ]))
    refine heads_nil ?_
    refine stage_op 2 (by kernel_rfl) (L := #[true, true, true, false, false]) (by kernel_rfl) ?_
    simp only [List.drop_succ_cons, List.drop_zero, List.take_succ_cons, List.take_zero]
    go_wp2_with fail
    refine step_post (fun _ => (by first | exact J2.out | exact J1.out)) ?_
    refine stage_op 3 (by kernel_rfl) (L := #[true, true, true, true, false]) (by kernel_rfl) ?_
    simp only [List.drop_succ_cons, List.drop_zero, List.take_succ_cons, List.take_zero]
    go_wp2_with fail
    refine step_post nofun ?_
    refine stage_heads [4] (by kernel_rfl) (L := #[true, true, true, true, true]) (by kernel_rfl) (f' := 0) rfl (fun _ _ _ _ h => h) (fun w o h => ⟨h.1.below ((Below.refl _ _).alloc (Nat.le_refl _) o), h.2.below ((Below.refl _ _).alloc (Nat.le_refl _) o)⟩) (.inl (by kernel_rfl)) ?_
    simp only [List.flatMap_cons, List.flatMap_nil, List.drop_succ_cons, List.drop_zero, List.take_succ_cons, List.take_zero, List.append_nil]
    iterate 1 (refine heads_pure _ (by rfl) (fun w' => by go_simp; try with_reducible rfl) ?_; simp only [Act.put, List.setIfInBounds_toArray, List.set_cons_zero, List.set_cons_succ])
    refine heads_nil ?_
    refine stage_done (by kernel_rfl) ?_
    generalize hwz : World.drew _ = wz
    have W1 : wz = ((((((((w4.setCell ⟨(w.heap.size + 1 + 1 + 1), 0, none⟩ (.int .i64 room)).setCell ⟨(w.heap.size + 1 + 1 + 1), 1, none⟩ (.slice a0 n0 c0)).setCell ⟨(w.heap.size + 1 + 1 + 1), 2, none⟩ (.bool true)).setCell ⟨(w.heap.size + 1 + 1 + 1), 3, none⟩ (.int .i64 armed)).setCell ⟨(w.heap.size + 1 + 1 + 1), 4, none⟩ (.int .u64 steps))).setCell ⟨(w.heap.size + 1 + 1 + 1 + 1), 0, none⟩ (.int .u64 t)).setCell ⟨(w.heap.size + 1 + 1 + 1 + 1), 1, none⟩ (.int .i64 v)).drew := hwz.symm
    have KS := Kept.set5D w4 (w.heap.size + 1 + 1 + 1) ⟨room, L, true, armed, steps⟩ (.slice a0 n0 c0)
    have RFF := (Z4.out.set ⟨room, L, true, armed, steps⟩ (.slice a0 n0 c0))
    have YS := Y4.out.kept KS (by omega)
    have SS := S4.out.setD Z4.out (fun s e => by cases e) ⟨room, L, true, armed, steps⟩ (.slice a0 n0 c0)
    have RFG0 := (RFF.kept (Kept.set2 _ (w.heap.size + 1 + 1 + 1 + 1) (.int .u64 t) (.int .i64 v)) (by omega)).below ((Below.refl _ _).drew)
    have RFY0 := (YS.set t v).below ((Below.refl _ _).drew)
    have SF0 := (SS.setSC YS (.int .u64 t) (.int .i64 v)).below ((Below.refl _ _).drew)
    have BF0 := B4.out.trans (KS.below B4.out.size (fun k hk => by omega))
    have BF1 := (BF0.trans ((Kept.set2 _ (w.heap.size + 1 + 1 + 1 + 1) (.int .u64 t) (.int .i64 v)).below BF0.size (fun k hk => by omega))).drew
    unfold set5D at RFG0 RFY0 SF0 BF1
    simp only at RFG0 RFY0 SF0 BF1
    rw [← W1] at RFG0 RFY0 SF0 BF1
    have RFG := Lib.hid RFG0
    have RFY := Lib.hid RFY0
    have SF := Lib.hid SF0
    have BF := Lib.hid BF1
    clear KS RFF YS SS RFG0 RFY0 SF0 BF0 BF1 W1 hwz
    clear r0 r1 r2 r3 r4 f0 f1 f2 f3 f4 p0 p1 q0 q1 z0 z1 z2 z3 z4 g0 g1 g2 g3 g4 y0 y1 e0 e1 hlx hlp hlq hlz hly
    obtain ⟨q0, q1, q2, q3, q4, _⟩ := RFG.out
    obtain ⟨u0, u1, _, _⟩ := RFY.out
    simp only at q0 q1 q2 q3 q4
    go_wp2_with fail
    refine bodyPost_ret (v := .tuple #[.agg #[.int .i64 room, .slice a0 n0 c0, .bool true, .int .i64 armed, .int .u64 steps], .agg #[.int .u64 t, .int .i64 v], .int .i64 50]) (by simp [results, Tryz.results66, go_sem, q0, q1, q2, q3, q4, u0, u1]) rfl ?_

    exact ⟨_, rfl, RIs.new (D := ⟨room, L, true, armed, steps⟩) HN0.out SF.out, BF.out, FO0.out⟩
set_option maxHeartbeats 4000000 in
set_option maxRecDepth 20000 in
theorem rkeep_new (a0 : Option Addr) (n0 c0 : Nat) (room : Int) (L : List FileS) (armed steps t v t' v' : Int) (w : World) (hn : L.length = n0) (hr : SRow w 3 (.slice a0 n0 c0) (L.map rfV)) (hsn : vSnd t' v' = true) (hmy : vMy t v t' v' = true) (hne : ¬ (t = t' ∧ v = v')) (hfew : L.length ≤ 1000) (ht0 : 0 ≤ t') (hg : DGood ⟨room, L, false, armed, steps⟩) (hst : (⟨room, L, false, armed, steps⟩ : DiskS).steps + 4 ≤ 1000000000) (TT VV : Int) (hTT : (if (vwriteD ⟨room, L, false, armed, steps⟩ (frP 3 (numsW [t'.toNat, (v' + 1).toNat]))).2 = 0 then t' else t) = TT) (hVV : (if (vwriteD ⟨room, L, false, armed, steps⟩ (frP 3 (numsW [t'.toNat, (v' + 1).toNat]))).2 = 0 then v' else v) = VV) : Calls Tryz.prog 66 #[.agg #[.int .i64 room, .slice a0 n0 c0, .bool false, .int .i64 armed, .int .u64 steps], .agg #[.int .u64 t, .int .i64 v], .agg #[.int .u64 t', .int .i64 v']] w (RKeep (vwriteD ⟨room, L, false, armed, steps⟩ (frP 3 (numsW [t'.toNat, (v' + 1).toNat]))) TT VV (.agg #[.int .i64 room, .slice a0 n0 c0, .bool false, .int .i64 armed, .int .u64 steps]) w) := by
  have HN0 := Lib.hid hn
  have HR := Lib.hid hr
  clear hn hr
  have HSN : Hid (vSnd t' v' = true) := Lib.hid hsn
  clear hsn
  have HMY : Hid (vMy t v t' v' = true) := Lib.hid hmy
  clear hmy
  have HNE : Hid (¬ (t = t' ∧ v = v')) := Lib.hid hne
  clear hne
  have HF0 : Hid (L.length ≤ 1000) := Lib.hid hfew
  clear hfew
  have HBY : Hid (∀ W : World, Calls Tryz.prog 107 #[.agg #[.int .u64 t', .int .i64 v']] W fun e W' => ∃ bv, e = .returned bv ∧ Bytes W' bv (frP 3 (numsW [t'.toNat, (v' + 1).toNat])) ∧ Below W.heap.size W W') := Lib.hid (fun W => by
    have h := HSN.out
    unfold vSnd at h
    simp only [Bool.and_eq_true, decide_eq_true_eq] at h
    have h1 := rvbytes_any t'.toNat (v' + 1).toNat W (by omega) (by omega)
    rw [show ((t'.toNat : Nat) : Int) = t' by omega, show (((v' + 1).toNat : Nat) : Int) - 1 = v' by omega] at h1
    exact h1)
  have HBS : Hid ((frP 3 (numsW [t'.toNat, (v' + 1).toNat])).length ≤ 2097152) := Lib.hid (by
    have h := HSN.out
    unfold vSnd at h
    simp only [Bool.and_eq_true, decide_eq_true_eq] at h
    have h2 := numsW_len [t'.toNat, (v' + 1).toNat] (two_lt (by omega) (by omega))
    rw [length_frP]
    simp at h2
    omega)
  have HG := Lib.hid hg
  have HST := Lib.hid hst
  clear hg hst ht0
  obtain ⟨bs, hbs⟩ : ∃ bs, frP 3 (numsW [t'.toNat, (v' + 1).toNat]) = bs := ⟨_, rfl⟩
  rw [hbs] at HBY HBS hTT hVV ⊢
  have HTT := Lib.hid hTT
  have HVV := Lib.hid hVV
  clear hbs hTT hVV
  have hz1 : (w.alloc (.cells #[.int .i64 room, .slice a0 n0 c0, .bool false, .int .i64 armed, .int .u64 steps] 29)).heap.size = w.heap.size + 1 := by simp
  have hz2 : ((w.alloc (.cells #[.int .i64 room, .slice a0 n0 c0, .bool false, .int .i64 armed, .int .u64 steps] 29)).alloc (.cells #[.int .u64 t, .int .i64 v] 52)).heap.size = w.heap.size + 1 + 1 := by simp
  have hz3 : (((w.alloc (.cells #[.int .i64 room, .slice a0 n0 c0, .bool false, .int .i64 armed, .int .u64 steps] 29)).alloc (.cells #[.int .u64 t, .int .i64 v] 52)).alloc (.cells #[.int .u64 t', .int .i64 v'] 52)).heap.size = w.heap.size + 1 + 1 + 1 := by simp
  have hz4 : ((((w.alloc (.cells #[.int .i64 room, .slice a0 n0 c0, .bool false, .int .i64 armed, .int .u64 steps] 29)).alloc (.cells #[.int .u64 t, .int .i64 v] 52)).alloc (.cells #[.int .u64 t', .int .i64 v'] 52)).alloc (.cells #[.int .i64 0, .slice none 0 0, .bool false, .int .i64 0, .int .u64 0] 29)).heap.size = w.heap.size + 1 + 1 + 1 + 1 := by simp
  have BX : RD (((((w.alloc (.cells #[.int .i64 room, .slice a0 n0 c0, .bool false, .int .i64 armed, .int .u64 steps] 29)).alloc (.cells #[.int .u64 t, .int .i64 v] 52)).alloc (.cells #[.int .u64 t', .int .i64 v'] 52)).alloc (.cells #[.int .i64 0, .slice none 0 0, .bool false, .int .i64 0, .int .u64 0] 29)).alloc (.cells #[.int .u64 0, .int .i64 0] 52)) w.heap.size ⟨room, L, false, armed, steps⟩ (.slice a0 n0 c0) := ((((RD.box w ⟨room, L, false, armed, steps⟩ (.slice a0 n0 c0)).below ((Below.refl _ _).alloc (Nat.le_refl _) _)).below ((Below.refl _ _).alloc (Nat.le_refl _) _)).below ((Below.refl _ _).alloc (Nat.le_refl _) _)).below ((Below.refl _ _).alloc (Nat.le_refl _) _)
  have BP : SC (((((w.alloc (.cells #[.int .i64 room, .slice a0 n0 c0, .bool false, .int .i64 armed, .int .u64 steps] 29)).alloc (.cells #[.int .u64 t, .int .i64 v] 52)).alloc (.cells #[.int .u64 t', .int .i64 v'] 52)).alloc (.cells #[.int .i64 0, .slice none 0 0, .bool false, .int .i64 0, .int .u64 0] 29)).alloc (.cells #[.int .u64 0, .int .i64 0] 52)) (w.heap.size + 1) t v := by
    have h := ((((SC.box26 (w.alloc (.cells #[.int .i64 room, .slice a0 n0 c0, .bool false, .int .i64 armed, .int .u64 steps] 29)) t v)).below (((Below.refl _ _).alloc (Nat.le_refl _) _) : Below ((w.alloc (.cells #[.int .i64 room, .slice a0 n0 c0, .bool false, .int .i64 armed, .int .u64 steps] 29)).alloc (.cells #[.int .u64 t, .int .i64 v] 52)).heap.size ((w.alloc (.cells #[.int .i64 room, .slice a0 n0 c0, .bool false, .int .i64 armed, .int .u64 steps] 29)).alloc (.cells #[.int .u64 t, .int .i64 v] 52)) (((w.alloc (.cells #[.int .i64 room, .slice a0 n0 c0, .bool false, .int .i64 armed, .int .u64 steps] 29)).alloc (.cells #[.int .u64 t, .int .i64 v] 52)).alloc (.cells #[.int .u64 t', .int .i64 v'] 52)))).below (((Below.refl _ _).alloc (Nat.le_refl _) _) : Below (((w.alloc (.cells #[.int .i64 room, .slice a0 n0 c0, .bool false, .int .i64 armed, .int .u64 steps] 29)).alloc (.cells #[.int .u64 t, .int .i64 v] 52)).alloc (.cells #[.int .u64 t', .int .i64 v'] 52)).heap.size (((w.alloc (.cells #[.int .i64 room, .slice a0 n0 c0, .bool false, .int .i64 armed, .int .u64 steps] 29)).alloc (.cells #[.int .u64 t, .int .i64 v] 52)).alloc (.cells #[.int .u64 t', .int .i64 v'] 52)) ((((w.alloc (.cells #[.int .i64 room, .slice a0 n0 c0, .bool false, .int .i64 armed, .int .u64 steps] 29)).alloc (.cells #[.int .u64 t, .int .i64 v] 52)).alloc (.cells #[.int .u64 t', .int .i64 v'] 52)).alloc (.cells #[.int .i64 0, .slice none 0 0, .bool false, .int .i64 0, .int .u64 0] 29)))).below (((Below.refl _ _).alloc (Nat.le_refl _) _) : Below ((((w.alloc (.cells #[.int .i64 room, .slice a0 n0 c0, .bool false, .int .i64 armed, .int .u64 steps] 29)).alloc (.cells #[.int .u64 t, .int .i64 v] 52)).alloc (.cells #[.int .u64 t', .int .i64 v'] 52)).alloc (.cells #[.int .i64 0, .slice none 0 0, .bool false, .int .i64 0, .int .u64 0] 29)).heap.size ((((w.alloc (.cells #[.int .i64 room, .slice a0 n0 c0, .bool false, .int .i64 armed, .int .u64 steps] 29)).alloc (.cells #[.int .u64 t, .int .i64 v] 52)).alloc (.cells #[.int .u64 t', .int .i64 v'] 52)).alloc (.cells #[.int .i64 0, .slice none 0 0, .bool false, .int .i64 0, .int .u64 0] 29)) (((((w.alloc (.cells #[.int .i64 room, .slice a0 n0 c0, .bool false, .int .i64 armed, .int .u64 steps] 29)).alloc (.cells #[.int .u64 t, .int .i64 v] 52)).alloc (.cells #[.int .u64 t', .int .i64 v'] 52)).alloc (.cells #[.int .i64 0, .slice none 0 0, .bool false, .int .i64 0, .int .u64 0] 29)).alloc (.cells #[.int .u64 0, .int .i64 0] 52)))
    rw [hz1] at h
    exact h
  have BQ : SC (((((w.alloc (.cells #[.int .i64 room, .slice a0 n0 c0, .bool false, .int .i64 armed, .int .u64 steps] 29)).alloc (.cells #[.int .u64 t, .int .i64 v] 52)).alloc (.cells #[.int .u64 t', .int .i64 v'] 52)).alloc (.cells #[.int .i64 0, .slice none 0 0, .bool false, .int .i64 0, .int .u64 0] 29)).alloc (.cells #[.int .u64 0, .int .i64 0] 52)) (w.heap.size + 1 + 1) t' v' := by
    have h := (((SC.box26 ((w.alloc (.cells #[.int .i64 room, .slice a0 n0 c0, .bool false, .int .i64 armed, .int .u64 steps] 29)).alloc (.cells #[.int .u64 t, .int .i64 v] 52)) t' v')).below (((Below.refl _ _).alloc (Nat.le_refl _) _) : Below (((w.alloc (.cells #[.int .i64 room, .slice a0 n0 c0, .bool false, .int .i64 armed, .int .u64 steps] 29)).alloc (.cells #[.int .u64 t, .int .i64 v] 52)).alloc (.cells #[.int .u64 t', .int .i64 v'] 52)).heap.size (((w.alloc (.cells #[.int .i64 room, .slice a0 n0 c0, .bool false, .int .i64 armed, .int .u64 steps] 29)).alloc (.cells #[.int .u64 t, .int .i64 v] 52)).alloc (.cells #[.int .u64 t', .int .i64 v'] 52)) ((((w.alloc (.cells #[.int .i64 room, .slice a0 n0 c0, .bool false, .int .i64 armed, .int .u64 steps] 29)).alloc (.cells #[.int .u64 t, .int .i64 v] 52)).alloc (.cells #[.int .u64 t', .int .i64 v'] 52)).alloc (.cells #[.int .i64 0, .slice none 0 0, .bool false, .int .i64 0, .int .u64 0] 29)))).below (((Below.refl _ _).alloc (Nat.le_refl _) _) : Below ((((w.alloc (.cells #[.int .i64 room, .slice a0 n0 c0, .bool false, .int .i64 armed, .int .u64 steps] 29)).alloc (.cells #[.int .u64 t, .int .i64 v] 52)).alloc (.cells #[.int .u64 t', .int .i64 v'] 52)).alloc (.cells #[.int .i64 0, .slice none 0 0, .bool false, .int .i64 0, .int .u64 0] 29)).heap.size ((((w.alloc (.cells #[.int .i64 room, .slice a0 n0 c0, .bool false, .int .i64 armed, .int .u64 steps] 29)).alloc (.cells #[.int .u64 t, .int .i64 v] 52)).alloc (.cells #[.int .u64 t', .int .i64 v'] 52)).alloc (.cells #[.int .i64 0, .slice none 0 0, .bool false, .int .i64 0, .int .u64 0] 29)) (((((w.alloc (.cells #[.int .i64 room, .slice a0 n0 c0, .bool false, .int .i64 armed, .int .u64 steps] 29)).alloc (.cells #[.int .u64 t, .int .i64 v] 52)).alloc (.cells #[.int .u64 t', .int .i64 v'] 52)).alloc (.cells #[.int .i64 0, .slice none 0 0, .bool false, .int .i64 0, .int .u64 0] 29)).alloc (.cells #[.int .u64 0, .int .i64 0] 52)))
    rw [hz2] at h
    exact h
  have BZ : RD (((((w.alloc (.cells #[.int .i64 room, .slice a0 n0 c0, .bool false, .int .i64 armed, .int .u64 steps] 29)).alloc (.cells #[.int .u64 t, .int .i64 v] 52)).alloc (.cells #[.int .u64 t', .int .i64 v'] 52)).alloc (.cells #[.int .i64 0, .slice none 0 0, .bool false, .int .i64 0, .int .u64 0] 29)).alloc (.cells #[.int .u64 0, .int .i64 0] 52)) (w.heap.size + 1 + 1 + 1) zeroD (.slice none 0 0) := by
    have h := ((RD.zero (((w.alloc (.cells #[.int .i64 room, .slice a0 n0 c0, .bool false, .int .i64 armed, .int .u64 steps] 29)).alloc (.cells #[.int .u64 t, .int .i64 v] 52)).alloc (.cells #[.int .u64 t', .int .i64 v'] 52)))).below (((Below.refl _ _).alloc (Nat.le_refl _) _) : Below ((((w.alloc (.cells #[.int .i64 room, .slice a0 n0 c0, .bool false, .int .i64 armed, .int .u64 steps] 29)).alloc (.cells #[.int .u64 t, .int .i64 v] 52)).alloc (.cells #[.int .u64 t', .int .i64 v'] 52)).alloc (.cells #[.int .i64 0, .slice none 0 0, .bool false, .int .i64 0, .int .u64 0] 29)).heap.size ((((w.alloc (.cells #[.int .i64 room, .slice a0 n0 c0, .bool false, .int .i64 armed, .int .u64 steps] 29)).alloc (.cells #[.int .u64 t, .int .i64 v] 52)).alloc (.cells #[.int .u64 t', .int .i64 v'] 52)).alloc (.cells #[.int .i64 0, .slice none 0 0, .bool false, .int .i64 0, .int .u64 0] 29)) (((((w.alloc (.cells #[.int .i64 room, .slice a0 n0 c0, .bool false, .int .i64 armed, .int .u64 steps] 29)).alloc (.cells #[.int .u64 t, .int .i64 v] 52)).alloc (.cells #[.int .u64 t', .int .i64 v'] 52)).alloc (.cells #[.int .i64 0, .slice none 0 0, .bool false, .int .i64 0, .int .u64 0] 29)).alloc (.cells #[.int .u64 0, .int .i64 0] 52)))
    rw [hz3] at h
    exact h
  have BY : SC (((((w.alloc (.cells #[.int .i64 room, .slice a0 n0 c0, .bool false, .int .i64 armed, .int .u64 steps] 29)).alloc (.cells #[.int .u64 t, .int .i64 v] 52)).alloc (.cells #[.int .u64 t', .int .i64 v'] 52)).alloc (.cells #[.int .i64 0, .slice none 0 0, .bool false, .int .i64 0, .int .u64 0] 29)).alloc (.cells #[.int .u64 0, .int .i64 0] 52)) (w.heap.size + 1 + 1 + 1 + 1) 0 0 := by
    have h := (SC.zero26 ((((w.alloc (.cells #[.int .i64 room, .slice a0 n0 c0, .bool false, .int .i64 armed, .int .u64 steps] 29)).alloc (.cells #[.int .u64 t, .int .i64 v] 52)).alloc (.cells #[.int .u64 t', .int .i64 v'] 52)).alloc (.cells #[.int .i64 0, .slice none 0 0, .bool false, .int .i64 0, .int .u64 0] 29)))
    rw [hz4] at h
    exact h
  have BB : Below w.heap.size w (((((w.alloc (.cells #[.int .i64 room, .slice a0 n0 c0, .bool false, .int .i64 armed, .int .u64 steps] 29)).alloc (.cells #[.int .u64 t, .int .i64 v] 52)).alloc (.cells #[.int .u64 t', .int .i64 v'] 52)).alloc (.cells #[.int .i64 0, .slice none 0 0, .bool false, .int .i64 0, .int .u64 0] 29)).alloc (.cells #[.int .u64 0, .int .i64 0] 52)) := (((((Below.refl _ _).alloc (Nat.le_refl _) _).alloc (by simp) _).alloc (by simp; omega) _).alloc (by simp; omega) _).alloc (by simp; omega) _
  have SS := HR.out.below BB
  have FO0 : Hid (∀ g, (.slice a0 n0 c0 : Value).ownBlock = some g → (.slice a0 n0 c0 : Value).ownBlock = some g ∨ w.heap.size ≤ g) := Lib.hid (fun g h => .inl h)
  clear hz1 hz2 hz3 hz4
  go_enter Tryz.func66, Tryz.ntmps66
  go_wp2_with fail
  generalize World.alloc (World.alloc (World.alloc (World.alloc (World.alloc w _) _) _) _) _ = w1 at *
  have X1 := Lib.hid BX
  have P1 := Lib.hid BP
  have Q1 := Lib.hid BQ
  have Z1 := Lib.hid BZ
  have Y1 := Lib.hid BY
  have B1 := Lib.hid BB
  have S1 := Lib.hid SS
  clear BX BP BQ BZ BY BB SS
  obtain ⟨r0, r1, r2, r3, r4, f0, f1, f2, f3, f4⟩ := X1.out
  obtain ⟨p0, p1, _, _⟩ := P1.out
  obtain ⟨q0, q1, _, _⟩ := Q1.out
  obtain ⟨z0, z1, z2, z3, z4, g0, g1, g2, g3, g4⟩ := Z1.out
  obtain ⟨y0, y1, e0, e1⟩ := Y1.out
  have hlx := X1.out.lt
  have hlp := P1.out.lt
  have hlq := Q1.out.lt
  have hlz := Z1.out.lt
  have hly := Y1.out.lt
  go_wp2_with fail
  refine (vrsound_any t' v' w1).mono ?_
  rintro e w2 ⟨rfl, hb2⟩
  have X2 := Lib.hid (X1.out.below hb2)
  have P2 := Lib.hid (P1.out.below hb2)
  have Q2 := Lib.hid (Q1.out.below hb2)
  have Z2 := Lib.hid (Z1.out.below hb2)
  have Y2 := Lib.hid (Y1.out.below hb2)
  have S2 := Lib.hid (S1.out.below hb2)
  have B2 : Hid (Below w.heap.size w w2) := Lib.hid (B1.out.trans (hb2.mono B1.out.size))
  clear hb2
  clear r0 r1 r2 r3 r4 f0 f1 f2 f3 f4 p0 p1 q0 q1 z0 z1 z2 z3 z4 g0 g1 g2 g3 g4 y0 y1 e0 e1 hlx hlp hlq hlz hly
  clear X1 P1 Q1 Z1 Y1 S1 B1
  rw [HSN.out]
  obtain ⟨r0, r1, r2, r3, r4, f0, f1, f2, f3, f4⟩ := X2.out
  obtain ⟨p0, p1, _, _⟩ := P2.out
  obtain ⟨q0, q1, _, _⟩ := Q2.out
  obtain ⟨z0, z1, z2, z3, z4, g0, g1, g2, g3, g4⟩ := Z2.out
  obtain ⟨y0, y1, e0, e1⟩ := Y2.out
  have hlx := X2.out.lt
  have hlp := P2.out.lt
  have hlq := Q2.out.lt
  have hlz := Z2.out.lt
  have hly := Y2.out.lt
  go_wp2_with fail
  refine (vrmay_any t v t' v' w2).mono ?_
  rintro e w3 ⟨rfl, hb3⟩
  have X3 := Lib.hid (X2.out.below hb3)
  have P3 := Lib.hid (P2.out.below hb3)
  have Q3 := Lib.hid (Q2.out.below hb3)
  have Z3 := Lib.hid (Z2.out.below hb3)
  have Y3 := Lib.hid (Y2.out.below hb3)
  have S3 := Lib.hid (S2.out.below hb3)
  have B3 : Hid (Below w.heap.size w w3) := Lib.hid (B2.out.trans (hb3.mono B2.out.size))
  clear hb3
  clear r0 r1 r2 r3 r4 f0 f1 f2 f3 f4 p0 p1 q0 q1 z0 z1 z2 z3 z4 g0 g1 g2 g3 g4 y0 y1 e0 e1 hlx hlp hlq hlz hly
  clear X2 P2 Q2 Z2 Y2 S2 B2
  rw [HMY.out]
  obtain ⟨r0, r1, r2, r3, r4, f0, f1, f2, f3, f4⟩ := X3.out
  obtain ⟨p0, p1, _, _⟩ := P3.out
  obtain ⟨q0, q1, _, _⟩ := Q3.out
  obtain ⟨z0, z1, z2, z3, z4, g0, g1, g2, g3, g4⟩ := Z3.out
  obtain ⟨y0, y1, e0, e1⟩ := Y3.out
  have hlx := X3.out.lt
  have hlp := P3.out.lt
  have hlq := Q3.out.lt
  have hlz := Z3.out.lt
  have hly := Y3.out.lt
  have hne2 : ((t == t') = true ∧ (v == v') = false) ∨ (t == t') = false := by
    by_cases het : t = t'
    · exact .inl ⟨beq_iff_eq.2 het, beq_eq_false_iff_ne.2 (fun h => HNE.out ⟨het, h⟩)⟩
    · exact .inr (beq_eq_false_iff_ne.2 het)
  rcases hne2 with ⟨hett, hevv⟩ | hett
  all_goals
    go_wp2_with fail
    refine (rfind_any _ ⟨room, L, false, armed, steps⟩ nVow w3 (RIs.new (D := ⟨room, L, false, armed, steps⟩) HN0.out S3.out) HF0.out).mono ?_
    rintro e w4 ⟨rfl, hb4⟩
    have X4 := Lib.hid (X3.out.below hb4)
    have P4 := Lib.hid (P3.out.below hb4)
    have Q4 := Lib.hid (Q3.out.below hb4)
    have Z4 := Lib.hid (Z3.out.below hb4)
    have Y4 := Lib.hid (Y3.out.below hb4)
    have S4 := Lib.hid (S3.out.below hb4)
    have B4 : Hid (Below w.heap.size w w4) := Lib.hid (B3.out.trans (hb4.mono B3.out.size))
    clear hb4
    clear r0 r1 r2 r3 r4 f0 f1 f2 f3 f4 p0 p1 q0 q1 z0 z1 z2 z3 z4 g0 g1 g2 g3 g4 y0 y1 e0 e1 hlx hlp hlq hlz hly
    by_cases hlen : (getF ⟨room, L, false, armed, steps⟩ nVow).all.length < 256
    · have hway : findI nVow L = -1 ∨ ∃ (i b o : Nat) (f : FileS), findI nVow L = i ∧ a0 = some ⟨b, o, none⟩ ∧ b < w4.heap.size ∧ w4.cell? ⟨b, o + i * 3 + 1, none⟩ = some (.string (strN f.all)) ∧ (i : Int) < (n0 : Int) ∧ (getF ⟨room, L, false, armed, steps⟩ nVow).all = f.all := by
        cases hf : findFile nVow L with
        | none => exact .inl (findI_none.2 hf)
        | some f =>
          obtain ⟨i, hI, hLi⟩ := findI_some hf
          obtain ⟨b, o, e, hbl, k0, k1, k2⟩ := S4.out.file hLi
          exact .inr ⟨i, b, o, f, hI, e, hbl, k1, by have h1 := (List.getElem?_eq_some_iff.1 hLi).1; have h2 := HN0.out; omega, by rw [getF_some (D := ⟨room, L, false, armed, steps⟩) hf]⟩
      have HVE : Hid (vwriteD ⟨room, L, false, armed, steps⟩ bs = wrTo ⟨room, L, false, armed, steps⟩ nVow bs) := Lib.hid (vwriteD_wr rfl hlen)
      rcases hway with hI | hway
      · rw [hI]
        clear hI hlen
        obtain ⟨r0, r1, r2, r3, r4, f0, f1, f2, f3, f4⟩ := X4.out
        obtain ⟨p0, p1, _, _⟩ := P4.out
        obtain ⟨q0, q1, _, _⟩ := Q4.out
        obtain ⟨z0, z1, z2, z3, z4, g0, g1, g2, g3, g4⟩ := Z4.out
        obtain ⟨y0, y1, e0, e1⟩ := Y4.out
        have hlx := X4.out.lt
        have hlp := P4.out.lt
        have hlq := Q4.out.lt
        have hlz := Z4.out.lt
        have hly := Y4.out.lt
        go_wp2_with fail
        clear r0 r1 r2 r3 r4 f0 f1 f2 f3 f4 p0 p1 q0 q1 z0 z1 z2 z3 z4 g0 g1 g2 g3 g4 y0 y1 e0 e1 hlx hlp hlq hlz hly
        have ST := Stable.from w4
        refine region_start [0, 0, 2, 6, 15, 31, 63, 63, 127, 511] 12 (fun w' => Below w4.heap.size w4 w') (by kernel_rfl) ?_
        refine stage_heads [0, 1] (by kernel_rfl) (L := #[true, true, false, false, false, false, false, false, false, false]) (by kernel_rfl) (f' := 8) rfl (fun _ _ _ _ h => h) (fun w o h => ST.alloc h o) (.inr (by first | exact Below.refl _ _ | exact (Below.refl _ _).drew)) ?_
        simp only [List.flatMap_cons, List.flatMap_nil, List.drop_succ_cons, List.drop_zero, List.take_succ_cons, List.take_zero, List.cons_append, List.nil_append, List.append_nil]
        iterate 2 (first | (refine heads_load _ (by rfl) (fun w' hs => by obtain ⟨r0, r1, r2, r3, r4, _⟩ := X4.out.below hs; obtain ⟨q0, q1, _, _⟩ := Q4.out.below hs; go_simp; try with_reducible rfl) rfl ?_; simp only [Act.put, List.setIfInBounds_toArray, List.set_cons_zero, List.set_cons_succ]) | (refine heads_pure _ (by rfl) (fun w' => by go_simp; try with_reducible rfl) ?_; simp only [Act.put, List.setIfInBounds_toArray, List.set_cons_zero, List.set_cons_succ]))
        refine heads_nil ?_
        refine stage_op 2 (by kernel_rfl) (L := #[true, true, true, false, false, false, false, false, false, false]) (by kernel_rfl) ?_
        simp only [List.drop_succ_cons, List.drop_zero, List.take_succ_cons, List.take_zero]
        go_wp2_with fail; refine (HBY.out _).mono ?_; rintro e u ⟨bv, rfl, hB, hb⟩; have BU : Hid (Below w4.heap.size w4 u) := Lib.hid (by first | exact hb | exact ((Below.refl _ _).drew).trans hb); have HBB := Lib.hid hB; obtain ⟨ba, bc, rfl, _⟩ := hB.shape; clear hb hB; go_wp2_with fail
        refine step_post (fun _ => BU.out) ?_
        refine stage_op 3 (by kernel_rfl) (L := #[true, true, true, true, false, false, false, false, false, false]) (by kernel_rfl) ?_
        simp only [List.drop_succ_cons, List.drop_zero, List.take_succ_cons, List.take_zero]
        have y0 := HBB.out.str Tryz.underlying22 Tryz.underlying5 Tryz.underlying9
        go_wp2_with fail
        clear y0
        refine step_post (fun _ => BU.out) ?_
        refine stage_op 4 (by kernel_rfl) (L := #[true, true, true, true, true, false, false, false, false, false]) (by kernel_rfl) ?_
        simp only [List.drop_succ_cons, List.drop_zero, List.take_succ_cons, List.take_zero]
        go_wp2_with fail
        refine (rappend_new _ ⟨room, L, false, armed, steps⟩ nVow bs _ (RIs.new (D := ⟨room, L, false, armed, steps⟩) HN0.out (S4.out.below BU.out)) HG.out (by decide) HBS.out).mono ?_
        rintro e wr ⟨v1, rfl, hr1, hb1, hf1⟩
        have BR : Hid (Below w4.heap.size w4 wr) := Lib.hid (BU.out.trans (hb1.mono BU.out.size))
        have Xr := Lib.hid (X4.out.below BR.out)
        have Pr := Lib.hid (P4.out.below BR.out)
        have Qr := Lib.hid (Q4.out.below BR.out)
        have Zr := Lib.hid (Z4.out.below BR.out)
        have Yr := Lib.hid (Y4.out.below BR.out)
        have Br : Hid (Below w.heap.size w wr) := Lib.hid (B4.out.trans (BR.out.mono B4.out.size))
        clear hb1
        have GG := HG.out.append nVow bs (by have := HST.out; (try simp only at this ⊢); omega)
        obtain ⟨r, hr⟩ : ∃ r, appendD ⟨room, L, false, armed, steps⟩ nVow bs = r := ⟨_, rfl⟩
        have HR1 := Lib.hid hr
        rw [hr] at hr1 GG ⊢
        obtain ⟨D1, e1⟩ := r
        simp only at GG hr1 ⊢
        have G1 := Lib.hid GG.1
        have ST1 := Lib.hid GG.2
        obtain ⟨a1, c1, rfl, hs1⟩ := hr1
        obtain ⟨n1, hn1⟩ : ∃ n, D1.files.length = n := ⟨_, rfl⟩
        have HN1 := Lib.hid hn1
        rw [hn1] at hs1 hf1 ⊢
        have Sr := Lib.hid hs1
        have FO1 : Hid (∀ g, (.slice a1 n1 c1 : Value).ownBlock = some g → (.slice a0 n0 c0 : Value).ownBlock = some g ∨ w.heap.size ≤ g) := Lib.hid (fun g hg => by
          rcases hf1 g hg with h | h
          · exact FO0.out g h
          · exact .inr (by have := B4.out.size; have := BU.out.size; omega))
        clear hr hs1 hn1 hf1 GG
        go_wp2_with fail
        refine step_post nofun ?_
        refine stage_heads [5, 6, 7] (by kernel_rfl) (L := #[true, true, true, true, true, true, true, true, false, false]) (by kernel_rfl) (f' := 2) rfl (fun _ _ _ _ h => h) (fun w o h => ST.alloc h o) (.inl (by kernel_rfl)) ?_
        simp only [List.flatMap_cons, List.flatMap_nil, List.drop_succ_cons, List.drop_zero, List.take_succ_cons, List.take_zero, List.cons_append, List.nil_append, List.append_nil]
        iterate 3 (refine heads_pure _ (by rfl) (fun w' => by go_simp; try with_reducible rfl) ?_; simp only [Act.put, List.setIfInBounds_toArray, List.set_cons_zero, List.set_cons_succ])
        refine heads_nil ?_
        refine stage_op 8 (by kernel_rfl) (L := #[true, true, true, true, true, true, true, true, true, false]) (by kernel_rfl) ?_
        simp only [List.drop_succ_cons, List.drop_zero, List.take_succ_cons, List.take_zero]
        obtain ⟨r0, r1, r2, r3, r4, f0, f1, f2, f3, f4⟩ := Xr.out
        obtain ⟨p0, p1, _, _⟩ := Pr.out
        obtain ⟨q0, q1, _, _⟩ := Qr.out
        obtain ⟨z0, z1, z2, z3, z4, g0, g1, g2, g3, g4⟩ := Zr.out
        obtain ⟨y0, y1, e0, e1⟩ := Yr.out
        have hlx := Xr.out.lt
        have hlp := Pr.out.lt
        have hlq := Qr.out.lt
        have hlz := Zr.out.lt
        have hly := Yr.out.lt
        go_wp2_with fail
        refine step_post nofun ?_
        refine stage_heads [9] (by kernel_rfl) (L := #[true, true, true, true, true, true, true, true, true, true]) (by kernel_rfl) (f' := 0) rfl (fun _ _ _ _ h => h) (fun w o h => ST.alloc h o) (.inl (by kernel_rfl)) ?_
        simp only [List.flatMap_cons, List.flatMap_nil, List.drop_succ_cons, List.drop_zero, List.take_succ_cons, List.take_zero, List.append_nil]
        iterate 1 (refine heads_pure _ (by rfl) (fun w' => by go_simp; try with_reducible rfl) ?_; simp only [Act.put, List.setIfInBounds_toArray, List.set_cons_zero, List.set_cons_succ])
        refine heads_nil ?_
        refine stage_done (by kernel_rfl) ?_
        have X6a := Xr.out.set D1 (.slice a1 n1 c1)
        have KS := Kept.set5D wr w.heap.size D1 (.slice a1 n1 c1)
        have P6a := Pr.out.kept KS (by omega)
        have Q6a := Qr.out.kept KS (by omega)
        have Z6a := Zr.out.kept KS (by omega)
        have Y6a := Yr.out.kept KS (by omega)
        have S6a := Sr.out.setD Xr.out (fun s e => by cases e) D1 (.slice a1 n1 c1)
        have B6a := Br.out.trans (KS.below Br.out.size (fun k hk => by omega))
        unfold set5D at X6a P6a Q6a Z6a Y6a S6a B6a
        generalize (((((wr.setCell ⟨w.heap.size, 0, none⟩ (.int .i64 D1.room)).setCell ⟨w.heap.size, 1, none⟩ (.slice a1 n1 c1)).setCell ⟨w.heap.size, 2, none⟩ (.bool D1.down)).setCell ⟨w.heap.size, 3, none⟩ (.int .i64 D1.armed)).setCell ⟨w.heap.size, 4, none⟩ (.int .u64 D1.steps)) = w6 at *
        have X6 := Lib.hid X6a
        have P6 := Lib.hid P6a
        have Q6 := Lib.hid Q6a
        have Z6 := Lib.hid Z6a
        have Y6 := Lib.hid Y6a
        have S6 := Lib.hid S6a
        have B6 := Lib.hid B6a
        clear KS X6a P6a Q6a Z6a Y6a S6a B6a
        clear r0 r1 r2 r3 r4 f0 f1 f2 f3 f4 p0 p1 q0 q1 z0 z1 z2 z3 z4 g0 g1 g2 g3 g4 y0 y1 e0 e1 hlx hlp hlq hlz hly
        by_cases he : e1 = 0
        · subst he
          obtain ⟨r0, r1, r2, r3, r4, f0, f1, f2, f3, f4⟩ := X6.out
          obtain ⟨p0, p1, _, _⟩ := P6.out
          obtain ⟨q0, q1, _, _⟩ := Q6.out
          obtain ⟨z0, z1, z2, z3, z4, g0, g1, g2, g3, g4⟩ := Z6.out
          obtain ⟨y0, y1, e0, e1⟩ := Y6.out
          have hlx := X6.out.lt
          have hlp := P6.out.lt
          have hlq := Q6.out.lt
          have hlz := Z6.out.lt
          have hly := Y6.out.lt
          have HV0 : Hid (vwriteD ⟨room, L, false, armed, steps⟩ bs = syncD D1 nVow) := Lib.hid (by rw [HVE.out]; unfold wrTo; rw [HR1.out]; exact if_neg (by simp))
          go_wp2_with fail
          clear r0 r1 r2 r3 r4 f0 f1 f2 f3 f4 p0 p1 q0 q1 z0 z1 z2 z3 z4 g0 g1 g2 g3 g4 y0 y1 e0 e1 hlx hlp hlq hlz hly
          refine (rsync_new _ D1 nVow w6 (RIs.new HN1.out S6.out) G1.out).mono ?_
          rintro e ws ⟨v2, rfl, hr2, hb2, hf2⟩
          have Xs := Lib.hid (X6.out.below hb2)
          have Ps := Lib.hid (P6.out.below hb2)
          have Qs := Lib.hid (Q6.out.below hb2)
          have Zs := Lib.hid (Z6.out.below hb2)
          have Ys := Lib.hid (Y6.out.below hb2)
          have Bs : Hid (Below w.heap.size w ws) := Lib.hid (B6.out.trans (hb2.mono B6.out.size))
          clear hb2
          have GG := G1.out.sync nVow (by have h1 := ST1.out; have h2 := HST.out; (try simp only at h1 h2 ⊢); omega)
          obtain ⟨r, hr⟩ : ∃ r, syncD D1 nVow = r := ⟨_, rfl⟩
          have HR2 := Lib.hid hr
          rw [hr] at hr2 GG ⊢
          obtain ⟨D2, e2⟩ := r
          simp only at GG hr2 ⊢
          have G2 := Lib.hid GG.1
          have ST2 := Lib.hid GG.2
          obtain ⟨a2, c2, rfl, hs2⟩ := hr2
          obtain ⟨n2, hn2⟩ : ∃ n, D2.files.length = n := ⟨_, rfl⟩
          have HN2 := Lib.hid hn2
          rw [hn2] at hs2 hf2 ⊢
          have Ss := Lib.hid hs2
          have FO2 : Hid (∀ g, (.slice a2 n2 c2 : Value).ownBlock = some g → (.slice a0 n0 c0 : Value).ownBlock = some g ∨ w.heap.size ≤ g) := Lib.hid (fun g hg => by
            rcases hf2 g hg with h | h
            · exact FO1.out g h
            · exact .inr (by have := B6.out.size; omega))
          clear hr hs2 hn2 hf2 GG
          obtain ⟨r0, r1, r2, r3, r4, f0, f1, f2, f3, f4⟩ := Xs.out
          obtain ⟨p0, p1, _, _⟩ := Ps.out
          obtain ⟨q0, q1, _, _⟩ := Qs.out
          obtain ⟨z0, z1, z2, z3, z4, g0, g1, g2, g3, g4⟩ := Zs.out
          obtain ⟨y0, y1, e0, e1⟩ := Ys.out
          have hlx := Xs.out.lt
          have hlp := Ps.out.lt
          have hlq := Qs.out.lt
          have hlz := Zs.out.lt
          have hly := Ys.out.lt
          have X7a := Xs.out.set D2 (.slice a2 n2 c2)
          have KS := Kept.set5D ws w.heap.size D2 (.slice a2 n2 c2)
          have P7a := Ps.out.kept KS (by omega)
          have Q7a := Qs.out.kept KS (by omega)
          have Z7a := Zs.out.kept KS (by omega)
          have Y7a := Ys.out.kept KS (by omega)
          have S7a := Ss.out.setD Xs.out (fun s e => by cases e) D2 (.slice a2 n2 c2)
          have B7a := Bs.out.trans (KS.below Bs.out.size (fun k hk => by omega))
          unfold set5D at X7a P7a Q7a Z7a Y7a S7a B7a
          have X7 := Lib.hid X7a
          have P7 := Lib.hid P7a
          have Q7 := Lib.hid Q7a
          have Z7 := Lib.hid Z7a
          have Y7 := Lib.hid Y7a
          have S7 := Lib.hid S7a
          have B7 := Lib.hid B7a
          clear KS X7a P7a Q7a Z7a Y7a S7a B7a
          have HV1 : Hid (vwriteD ⟨room, L, false, armed, steps⟩ bs = (D2, e2)) := Lib.hid (HV0.out.trans HR2.out)
          by_cases he : e2 = 0
          · subst he
            obtain rfl : t' = TT := by rw [← HTT.out, HV1.out]; exact (if_pos rfl).symm
            obtain rfl : v' = VV := by rw [← HVV.out, HV1.out]; exact (if_pos rfl).symm
            go_wp2_with fail
            generalize (((((ws.setCell ⟨w.heap.size, 0, none⟩ (.int .i64 D2.room)).setCell ⟨w.heap.size, 1, none⟩ (.slice a2 n2 c2)).setCell ⟨w.heap.size, 2, none⟩ (.bool D2.down)).setCell ⟨w.heap.size, 3, none⟩ (.int .i64 D2.armed)).setCell ⟨w.heap.size, 4, none⟩ (.int .u64 D2.steps)) = w7 at *
            clear r0 r1 r2 r3 r4 f0 f1 f2 f3 f4 p0 p1 q0 q1 z0 z1 z2 z3 z4 g0 g1 g2 g3 g4 y0 y1 e0 e1 hlx hlp hlq hlz hly
            obtain ⟨r0, r1, r2, r3, r4, f0, f1, f2, f3, f4⟩ := X7.out
            obtain ⟨p0, p1, _, _⟩ := P7.out
            obtain ⟨q0, q1, _, _⟩ := Q7.out
            obtain ⟨z0, z1, z2, z3, z4, g0, g1, g2, g3, g4⟩ := Z7.out
            obtain ⟨y0, y1, e0, e1⟩ := Y7.out
            have hlx := X7.out.lt
            have hlp := P7.out.lt
            have hlq := Q7.out.lt
            have hlz := Z7.out.lt
            have hly := Y7.out.lt
            have J1 : Hid (RD (set5D w7 (w.heap.size + 1 + 1 + 1) D2 (.slice a2 n2 c2)) w.heap.size D2 (.slice a2 n2 c2) ∧ SC (set5D w7 (w.heap.size + 1 + 1 + 1) D2 (.slice a2 n2 c2)) (w.heap.size + 1 + 1) t' v') := Lib.hid ⟨X7.out.kept (Kept.set5D w7 (w.heap.size + 1 + 1 + 1) D2 (.slice a2 n2 c2)) (by omega), Q7.out.kept (Kept.set5D w7 (w.heap.size + 1 + 1 + 1) D2 (.slice a2 n2 c2)) (by omega)⟩
            have J2 : Hid (RD (set5D w7 (w.heap.size + 1 + 1 + 1) D2 (.slice a2 n2 c2)).drew w.heap.size D2 (.slice a2 n2 c2) ∧ SC (set5D w7 (w.heap.size + 1 + 1 + 1) D2 (.slice a2 n2 c2)).drew (w.heap.size + 1 + 1) t' v') := Lib.hid ⟨J1.out.1.below ((Below.refl _ _).drew), J1.out.2.below ((Below.refl _ _).drew)⟩
            unfold set5D at J1 J2
            refine region_start [0, 0, 1, 7, 15] 4 (fun w' => RD w' w.heap.size D2 (.slice a2 n2 c2) ∧ SC w' (w.heap.size + 1 + 1) t' v') (by kernel_rfl) ?_
            refine stage_heads [0, 1] (by kernel_rfl) (L := #[true, true, false, false, false]) (by kernel_rfl) (f' := 3) rfl (fun _ _ _ _ h => h) (fun w o h => ⟨h.1.below ((Below.refl _ _).alloc (Nat.le_refl _) o), h.2.below ((Below.refl _ _).alloc (Nat.le_refl _) o)⟩) (.inr (by first | exact ⟨X7.out.below ((Below.refl _ _).drew), Q7.out.below ((Below.refl _ _).drew)⟩ | exact ⟨X7.out, Q7.out⟩)) ?_
            simp only [List.flatMap_cons, List.flatMap_nil, List.drop_succ_cons, List.drop_zero, List.take_succ_cons, List.take_zero, List.cons_append, List.nil_append, List.append_nil]
            iterate 2 (first | (refine heads_load _ (by rfl) (fun w' hs => by obtain ⟨⟨r0, r1, r2, r3, r4, _⟩, b0, b1, _, _⟩ := hs; go_simp; try with_reducible rfl) rfl ?_; simp only [Act.put, List.setIfInBounds_toArray, List.set_cons_zero, List.set_cons_succ]) | (refine heads_pure _ (by rfl) (fun w' => by go_simp; try with_reducible rfl) ?_; simp only [Act.put, List.setIfInBounds_toArray, List.set_cons_zero, List.set_cons_succ]))
            refine heads_nil ?_
            refine stage_op 2 (by kernel_rfl) (L := #[true, true, true, false, false]) (by kernel_rfl) ?_
            simp only [List.drop_succ_cons, List.drop_zero, List.take_succ_cons, List.take_zero]
            go_wp2_with fail
            refine step_post (fun _ => (by first | exact J2.out | exact J1.out)) ?_
            refine stage_op 3 (by kernel_rfl) (L := #[true, true, true, true, false]) (by kernel_rfl) ?_
            simp only [List.drop_succ_cons, List.drop_zero, List.take_succ_cons, List.take_zero]
            go_wp2_with fail
            refine step_post nofun ?_
            refine stage_heads [4] (by kernel_rfl) (L := #[true, true, true, true, true]) (by kernel_rfl) (f' := 0) rfl (fun _ _ _ _ h => h) (fun w o h => ⟨h.1.below ((Below.refl _ _).alloc (Nat.le_refl _) o), h.2.below ((Below.refl _ _).alloc (Nat.le_refl _) o)⟩) (.inl (by kernel_rfl)) ?_
            simp only [List.flatMap_cons, List.flatMap_nil, List.drop_succ_cons, List.drop_zero, List.take_succ_cons, List.take_zero, List.append_nil]
            iterate 1 (refine heads_pure _ (by rfl) (fun w' => by go_simp; try with_reducible rfl) ?_; simp only [Act.put, List.setIfInBounds_toArray, List.set_cons_zero, List.set_cons_succ])
            refine heads_nil ?_
            refine stage_done (by kernel_rfl) ?_
            generalize hwz : World.drew _ = wz
            have W1 : wz = ((((((((w7.setCell ⟨(w.heap.size + 1 + 1 + 1), 0, none⟩ (.int .i64 D2.room)).setCell ⟨(w.heap.size + 1 + 1 + 1), 1, none⟩ (.slice a2 n2 c2)).setCell ⟨(w.heap.size + 1 + 1 + 1), 2, none⟩ (.bool D2.down)).setCell ⟨(w.heap.size + 1 + 1 + 1), 3, none⟩ (.int .i64 D2.armed)).setCell ⟨(w.heap.size + 1 + 1 + 1), 4, none⟩ (.int .u64 D2.steps))).setCell ⟨(w.heap.size + 1 + 1 + 1 + 1), 0, none⟩ (.int .u64 t')).setCell ⟨(w.heap.size + 1 + 1 + 1 + 1), 1, none⟩ (.int .i64 v')).drew := hwz.symm
            have KS := Kept.set5D w7 (w.heap.size + 1 + 1 + 1) D2 (.slice a2 n2 c2)
            have RFF := (Z7.out.set D2 (.slice a2 n2 c2))
            have YS := Y7.out.kept KS (by omega)
            have SS := S7.out.setD Z7.out (fun s e => by cases e) D2 (.slice a2 n2 c2)
            have RFG0 := (RFF.kept (Kept.set2 _ (w.heap.size + 1 + 1 + 1 + 1) (.int .u64 t') (.int .i64 v')) (by omega)).below ((Below.refl _ _).drew)
            have RFY0 := (YS.set t' v').below ((Below.refl _ _).drew)
            have SF0 := (SS.setSC YS (.int .u64 t') (.int .i64 v')).below ((Below.refl _ _).drew)
            have BF0 := B7.out.trans (KS.below B7.out.size (fun k hk => by omega))
            have BF1 := (BF0.trans ((Kept.set2 _ (w.heap.size + 1 + 1 + 1 + 1) (.int .u64 t') (.int .i64 v')).below BF0.size (fun k hk => by omega))).drew
            unfold set5D at RFG0 RFY0 SF0 BF1
            rw [← W1] at RFG0 RFY0 SF0 BF1
            have RFG := Lib.hid RFG0
            have RFY := Lib.hid RFY0
            have SF := Lib.hid SF0
            have BF := Lib.hid BF1
            clear KS RFF YS SS RFG0 RFY0 SF0 BF0 BF1 W1 hwz
            clear r0 r1 r2 r3 r4 f0 f1 f2 f3 f4 p0 p1 q0 q1 z0 z1 z2 z3 z4 g0 g1 g2 g3 g4 y0 y1 e0 e1 hlx hlp hlq hlz hly
            obtain ⟨q0, q1, q2, q3, q4, _⟩ := RFG.out
            obtain ⟨u0, u1, _, _⟩ := RFY.out
            go_wp2_with fail
            refine bodyPost_ret (v := .tuple #[.agg #[.int .i64 D2.room, .slice a2 n2 c2, .bool D2.down, .int .i64 D2.armed, .int .u64 D2.steps], .agg #[.int .u64 t', .int .i64 v'], .int .i64 0]) (by simp [results, Tryz.results66, go_sem, q0, q1, q2, q3, q4, u0, u1]) rfl ?_
            rw [HV1.out]
            exact ⟨_, rfl, RIs.new (D := D2) HN2.out SF.out, BF.out, FO2.out⟩
          · have hbq : ((e2 : Int) != 0) = true := bne_iff_ne.2 (by omega)
            have hb0 : ((e2 : Int) == 0) = false := beq_eq_false_iff_ne.2 (by omega)
            obtain rfl : t = TT := by rw [← HTT.out, HV1.out]; exact (if_neg he).symm
            obtain rfl : v = VV := by rw [← HVV.out, HV1.out]; exact (if_neg he).symm
            clear he
            go_wp2_with fail
            generalize (((((ws.setCell ⟨w.heap.size, 0, none⟩ (.int .i64 D2.room)).setCell ⟨w.heap.size, 1, none⟩ (.slice a2 n2 c2)).setCell ⟨w.heap.size, 2, none⟩ (.bool D2.down)).setCell ⟨w.heap.size, 3, none⟩ (.int .i64 D2.armed)).setCell ⟨w.heap.size, 4, none⟩ (.int .u64 D2.steps)) = w7 at *
            clear r0 r1 r2 r3 r4 f0 f1 f2 f3 f4 p0 p1 q0 q1 z0 z1 z2 z3 z4 g0 g1 g2 g3 g4 y0 y1 e0 e1 hlx hlp hlq hlz hly
            obtain ⟨r0, r1, r2, r3, r4, f0, f1, f2, f3, f4⟩ := X7.out
            obtain ⟨p0, p1, _, _⟩ := P7.out
            obtain ⟨q0, q1, _, _⟩ := Q7.out
            obtain ⟨z0, z1, z2, z3, z4, g0, g1, g2, g3, g4⟩ := Z7.out
            obtain ⟨y0, y1, e0, e1⟩ := Y7.out
            have hlx := X7.out.lt
            have hlp := P7.out.lt
            have hlq := Q7.out.lt
            have hlz := Z7.out.lt
            have hly := Y7.out.lt
            have J1 : Hid (RD (set5D w7 (w.heap.size + 1 + 1 + 1) D2 (.slice a2 n2 c2)) w.heap.size D2 (.slice a2 n2 c2) ∧ SC (set5D w7 (w.heap.size + 1 + 1 + 1) D2 (.slice a2 n2 c2)) (w.heap.size + 1) t v) := Lib.hid ⟨X7.out.kept (Kept.set5D w7 (w.heap.size + 1 + 1 + 1) D2 (.slice a2 n2 c2)) (by omega), P7.out.kept (Kept.set5D w7 (w.heap.size + 1 + 1 + 1) D2 (.slice a2 n2 c2)) (by omega)⟩
            have J2 : Hid (RD (set5D w7 (w.heap.size + 1 + 1 + 1) D2 (.slice a2 n2 c2)).drew w.heap.size D2 (.slice a2 n2 c2) ∧ SC (set5D w7 (w.heap.size + 1 + 1 + 1) D2 (.slice a2 n2 c2)).drew (w.heap.size + 1) t v) := Lib.hid ⟨J1.out.1.below ((Below.refl _ _).drew), J1.out.2.below ((Below.refl _ _).drew)⟩
            unfold set5D at J1 J2
            refine region_start [0, 0, 0, 1, 11, 31] 8 (fun w' => RD w' w.heap.size D2 (.slice a2 n2 c2) ∧ SC w' (w.heap.size + 1) t v) (by kernel_rfl) ?_
            refine stage_heads [0, 1, 2] (by kernel_rfl) (L := #[true, true, true, false, false, false]) (by kernel_rfl) (f' := 3) rfl (fun _ _ _ _ h => h) (fun w o h => ⟨h.1.below ((Below.refl _ _).alloc (Nat.le_refl _) o), h.2.below ((Below.refl _ _).alloc (Nat.le_refl _) o)⟩) (.inr (by first | exact ⟨X7.out.below ((Below.refl _ _).drew), P7.out.below ((Below.refl _ _).drew)⟩ | exact ⟨X7.out, P7.out⟩)) ?_
            simp only [List.flatMap_cons, List.flatMap_nil, List.drop_succ_cons, List.drop_zero, List.take_succ_cons, List.take_zero, List.cons_append, List.nil_append, List.append_nil]
            iterate 3 (first | (refine heads_load _ (by rfl) (fun w' hs => by obtain ⟨⟨r0, r1, r2, r3, r4, _⟩, b0, b1, _, _⟩ := hs; go_simp; try with_reducible rfl) rfl ?_; simp only [Act.put, List.setIfInBounds_toArray, List.set_cons_zero, List.set_cons_succ]) | (refine heads_pure _ (by rfl) (fun w' => by go_simp; try with_reducible rfl) ?_; simp only [Act.put, List.setIfInBounds_toArray, List.set_cons_zero, List.set_cons_succ]))
            refine heads_nil ?_
            refine stage_op 3 (by kernel_rfl) (L := #[true, true, true, true, false, false]) (by kernel_rfl) ?_
            simp only [List.drop_succ_cons, List.drop_zero, List.take_succ_cons, List.take_zero]
            go_wp2_with fail
            refine step_post (fun _ => (by first | exact J2.out | exact J1.out)) ?_
            refine stage_op 4 (by kernel_rfl) (L := #[true, true, true, true, true, false]) (by kernel_rfl) ?_
            simp only [List.drop_succ_cons, List.drop_zero, List.take_succ_cons, List.take_zero]
            go_wp2_with fail
            refine step_post nofun ?_
            refine stage_heads [5] (by kernel_rfl) (L := #[true, true, true, true, true, true]) (by kernel_rfl) (f' := 0) rfl (fun _ _ _ _ h => h) (fun w o h => ⟨h.1.below ((Below.refl _ _).alloc (Nat.le_refl _) o), h.2.below ((Below.refl _ _).alloc (Nat.le_refl _) o)⟩) (.inl (by kernel_rfl)) ?_
            simp only [List.flatMap_cons, List.flatMap_nil, List.drop_succ_cons, List.drop_zero, List.take_succ_cons, List.take_zero, List.append_nil]
            iterate 1 (refine heads_pure _ (by rfl) (fun w' => by go_simp; try with_reducible rfl) ?_; simp only [Act.put, List.setIfInBounds_toArray, List.set_cons_zero, List.set_cons_succ])
            refine heads_nil ?_
            refine stage_done (by kernel_rfl) ?_
            generalize hwz : World.drew _ = wz
            have W1 : wz = ((((((((w7.setCell ⟨(w.heap.size + 1 + 1 + 1), 0, none⟩ (.int .i64 D2.room)).setCell ⟨(w.heap.size + 1 + 1 + 1), 1, none⟩ (.slice a2 n2 c2)).setCell ⟨(w.heap.size + 1 + 1 + 1), 2, none⟩ (.bool D2.down)).setCell ⟨(w.heap.size + 1 + 1 + 1), 3, none⟩ (.int .i64 D2.armed)).setCell ⟨(w.heap.size + 1 + 1 + 1), 4, none⟩ (.int .u64 D2.steps))).setCell ⟨(w.heap.size + 1 + 1 + 1 + 1), 0, none⟩ (.int .u64 t)).setCell ⟨(w.heap.size + 1 + 1 + 1 + 1), 1, none⟩ (.int .i64 v)).drew := hwz.symm
            have KS := Kept.set5D w7 (w.heap.size + 1 + 1 + 1) D2 (.slice a2 n2 c2)
            have RFF := (Z7.out.set D2 (.slice a2 n2 c2))
            have YS := Y7.out.kept KS (by omega)
            have SS := S7.out.setD Z7.out (fun s e => by cases e) D2 (.slice a2 n2 c2)
            have RFG0 := (RFF.kept (Kept.set2 _ (w.heap.size + 1 + 1 + 1 + 1) (.int .u64 t) (.int .i64 v)) (by omega)).below ((Below.refl _ _).drew)
            have RFY0 := (YS.set t v).below ((Below.refl _ _).drew)
            have SF0 := (SS.setSC YS (.int .u64 t) (.int .i64 v)).below ((Below.refl _ _).drew)
            have BF0 := B7.out.trans (KS.below B7.out.size (fun k hk => by omega))
            have BF1 := (BF0.trans ((Kept.set2 _ (w.heap.size + 1 + 1 + 1 + 1) (.int .u64 t) (.int .i64 v)).below BF0.size (fun k hk => by omega))).drew
            unfold set5D at RFG0 RFY0 SF0 BF1
            rw [← W1] at RFG0 RFY0 SF0 BF1
            have RFG := Lib.hid RFG0
            have RFY := Lib.hid RFY0
            have SF := Lib.hid SF0
            have BF := Lib.hid BF1
            clear KS RFF YS SS RFG0 RFY0 SF0 BF0 BF1 W1 hwz
            clear r0 r1 r2 r3 r4 f0 f1 f2 f3 f4 p0 p1 q0 q1 z0 z1 z2 z3 z4 g0 g1 g2 g3 g4 y0 y1 e0 e1 hlx hlp hlq hlz hly
            obtain ⟨q0, q1, q2, q3, q4, _⟩ := RFG.out
            obtain ⟨u0, u1, _, _⟩ := RFY.out
            go_wp2_with fail
            refine bodyPost_ret (v := .tuple #[.agg #[.int .i64 D2.room, .slice a2 n2 c2, .bool D2.down, .int .i64 D2.armed, .int .u64 D2.steps], .agg #[.int .u64 t, .int .i64 v], .int .i64 (e2 : Nat)]) (by simp [results, Tryz.results66, go_sem, q0, q1, q2, q3, q4, u0, u1]) rfl ?_
            rw [HV1.out]
            exact ⟨_, rfl, RIs.new (D := D2) HN2.out SF.out, BF.out, FO2.out⟩
        · have hbq : ((e1 : Int) != 0) = true := bne_iff_ne.2 (by omega)
          have hb0 : ((e1 : Int) == 0) = false := beq_eq_false_iff_ne.2 (by omega)
          have HV1 : Hid (vwriteD ⟨room, L, false, armed, steps⟩ bs = (D1, e1)) := Lib.hid (by rw [HVE.out]; unfold wrTo; rw [HR1.out]; exact if_pos he)
          obtain rfl : t = TT := by rw [← HTT.out, HV1.out]; exact (if_neg he).symm
          obtain rfl : v = VV := by rw [← HVV.out, HV1.out]; exact (if_neg he).symm
          clear he
          go_wp2_with fail
          obtain ⟨r0, r1, r2, r3, r4, f0, f1, f2, f3, f4⟩ := X6.out
          obtain ⟨p0, p1, _, _⟩ := P6.out
          obtain ⟨q0, q1, _, _⟩ := Q6.out
          obtain ⟨z0, z1, z2, z3, z4, g0, g1, g2, g3, g4⟩ := Z6.out
          obtain ⟨y0, y1, e0, e1⟩ := Y6.out
          have hlx := X6.out.lt
          have hlp := P6.out.lt
          have hlq := Q6.out.lt
          have hlz := Z6.out.lt
          have hly := Y6.out.lt
          have J1 : Hid (RD (set5D w6 (w.heap.size + 1 + 1 + 1) D1 (.slice a1 n1 c1)) w.heap.size D1 (.slice a1 n1 c1) ∧ SC (set5D w6 (w.heap.size + 1 + 1 + 1) D1 (.slice a1 n1 c1)) (w.heap.size + 1) t v) := Lib.hid ⟨X6.out.kept (Kept.set5D w6 (w.heap.size + 1 + 1 + 1) D1 (.slice a1 n1 c1)) (by omega), P6.out.kept (Kept.set5D w6 (w.heap.size + 1 + 1 + 1) D1 (.slice a1 n1 c1)) (by omega)⟩
          have J2 : Hid (RD (set5D w6 (w.heap.size + 1 + 1 + 1) D1 (.slice a1 n1 c1)).drew w.heap.size D1 (.slice a1 n1 c1) ∧ SC (set5D w6 (w.heap.size + 1 + 1 + 1) D1 (.slice a1 n1 c1)).drew (w.heap.size + 1) t v) := Lib.hid ⟨J1.out.1.below ((Below.refl _ _).drew), J1.out.2.below ((Below.refl _ _).drew)⟩
          unfold set5D at J1 J2
          refine region_start [0, 0, 0, 1, 11, 31] 8 (fun w' => RD w' w.heap.size D1 (.slice a1 n1 c1) ∧ SC w' (w.heap.size + 1) t v) (by kernel_rfl) ?_
          refine stage_heads [0, 1, 2] (by kernel_rfl) (L := #[true, true, true, false, false, false]) (by kernel_rfl) (f' := 3) rfl (fun _ _ _ _ h => h) (fun w o h => ⟨h.1.below ((Below.refl _ _).alloc (Nat.le_refl _) o), h.2.below ((Below.refl _ _).alloc (Nat.le_refl _) o)⟩) (.inr (by first | exact ⟨X6.out.below ((Below.refl _ _).drew), P6.out.below ((Below.refl _ _).drew)⟩ | exact ⟨X6.out, P6.out⟩)) ?_
          simp only [List.flatMap_cons, List.flatMap_nil, List.drop_succ_cons, List.drop_zero, List.take_succ_cons, List.take_zero, List.cons_append, List.nil_append, List.append_nil]
          iterate 3 (first | (refine heads_load _ (by rfl) (fun w' hs => by obtain ⟨⟨r0, r1, r2, r3, r4, _⟩, b0, b1, _, _⟩ := hs; go_simp; try with_reducible rfl) rfl ?_; simp only [Act.put, List.setIfInBounds_toArray, List.set_cons_zero, List.set_cons_succ]) | (refine heads_pure _ (by rfl) (fun w' => by go_simp; try with_reducible rfl) ?_; simp only [Act.put, List.setIfInBounds_toArray, List.set_cons_zero, List.set_cons_succ]))
          refine heads_nil ?_
          refine stage_op 3 (by kernel_rfl) (L := #[true, true, true, true, false, false]) (by kernel_rfl) ?_
          simp only [List.drop_succ_cons, List.drop_zero, List.take_succ_cons, List.take_zero]
          go_wp2_with fail
          refine step_post (fun _ => (by first | exact J2.out | exact J1.out)) ?_
          refine stage_op 4 (by kernel_rfl) (L := #[true, true, true, true, true, false]) (by kernel_rfl) ?_
          simp only [List.drop_succ_cons, List.drop_zero, List.take_succ_cons, List.take_zero]
          go_wp2_with fail
          refine step_post nofun ?_
          refine stage_heads [5] (by kernel_rfl) (L := #[true, true, true, true, true, true]) (by kernel_rfl) (f' := 0) rfl (fun _ _ _ _ h => h) (fun w o h => ⟨h.1.below ((Below.refl _ _).alloc (Nat.le_refl _) o), h.2.below ((Below.refl _ _).alloc (Nat.le_refl _) o)⟩) (.inl (by kernel_rfl)) ?_
          simp only [List.flatMap_cons, List.flatMap_nil, List.drop_succ_cons, List.drop_zero, List.take_succ_cons, List.take_zero, List.append_nil]
          iterate 1 (refine heads_pure _ (by rfl) (fun w' => by go_simp; try with_reducible rfl) ?_; simp only [Act.put, List.setIfInBounds_toArray, List.set_cons_zero, List.set_cons_succ])
          refine heads_nil ?_
          refine stage_done (by kernel_rfl) ?_
          generalize hwz : World.drew _ = wz
          have W1 : wz = ((((((((w6.setCell ⟨(w.heap.size + 1 + 1 + 1), 0, none⟩ (.int .i64 D1.room)).setCell ⟨(w.heap.size + 1 + 1 + 1), 1, none⟩ (.slice a1 n1 c1)).setCell ⟨(w.heap.size + 1 + 1 + 1), 2, none⟩ (.bool D1.down)).setCell ⟨(w.heap.size + 1 + 1 + 1), 3, none⟩ (.int .i64 D1.armed)).setCell ⟨(w.heap.size + 1 + 1 + 1), 4, none⟩ (.int .u64 D1.steps))).setCell ⟨(w.heap.size + 1 + 1 + 1 + 1), 0, none⟩ (.int .u64 t)).setCell ⟨(w.heap.size + 1 + 1 + 1 + 1), 1, none⟩ (.int .i64 v)).drew := hwz.symm
          have KS := Kept.set5D w6 (w.heap.size + 1 + 1 + 1) D1 (.slice a1 n1 c1)
          have RFF := (Z6.out.set D1 (.slice a1 n1 c1))
          have YS := Y6.out.kept KS (by omega)
          have SS := S6.out.setD Z6.out (fun s e => by cases e) D1 (.slice a1 n1 c1)
          have RFG0 := (RFF.kept (Kept.set2 _ (w.heap.size + 1 + 1 + 1 + 1) (.int .u64 t) (.int .i64 v)) (by omega)).below ((Below.refl _ _).drew)
          have RFY0 := (YS.set t v).below ((Below.refl _ _).drew)
          have SF0 := (SS.setSC YS (.int .u64 t) (.int .i64 v)).below ((Below.refl _ _).drew)
          have BF0 := B6.out.trans (KS.below B6.out.size (fun k hk => by omega))
          have BF1 := (BF0.trans ((Kept.set2 _ (w.heap.size + 1 + 1 + 1 + 1) (.int .u64 t) (.int .i64 v)).below BF0.size (fun k hk => by omega))).drew
          unfold set5D at RFG0 RFY0 SF0 BF1
          rw [← W1] at RFG0 RFY0 SF0 BF1
          have RFG := Lib.hid RFG0
          have RFY := Lib.hid RFY0
          have SF := Lib.hid SF0
          have BF := Lib.hid BF1
          clear KS RFF YS SS RFG0 RFY0 SF0 BF0 BF1 W1 hwz
          clear r0 r1 r2 r3 r4 f0 f1 f2 f3 f4 p0 p1 q0 q1 z0 z1 z2 z3 z4 g0 g1 g2 g3 g4 y0 y1 e0 e1 hlx hlp hlq hlz hly
          obtain ⟨q0, q1, q2, q3, q4, _⟩ := RFG.out
          obtain ⟨u0, u1, _, _⟩ := RFY.out
          go_wp2_with fail
          refine bodyPost_ret (v := .tuple #[.agg #[.int .i64 D1.room, .slice a1 n1 c1, .bool D1.down, .int .i64 D1.armed, .int .u64 D1.steps], .agg #[.int .u64 t, .int .i64 v], .int .i64 (e1 : Nat)]) (by simp [results, Tryz.results66, go_sem, q0, q1, q2, q3, q4, u0, u1]) rfl ?_
          rw [HV1.out]
          exact ⟨_, rfl, RIs.new (D := D1) HN1.out SF.out, BF.out, FO1.out⟩
      · obtain ⟨i, b, o, f, hI, rfl, hbl, k1, him, hgf⟩ := hway
        have hi0 : (0 : Int) ≤ (i : Int) := by omega
        have hss := size_strN f.all
        have hli : ¬ (256 : Int) ≤ (f.all.length : Int) := by rw [hgf] at hlen; omega
        rw [hI]
        clear hI hgf hlen
        obtain ⟨r0, r1, r2, r3, r4, f0, f1, f2, f3, f4⟩ := X4.out
        obtain ⟨p0, p1, _, _⟩ := P4.out
        obtain ⟨q0, q1, _, _⟩ := Q4.out
        obtain ⟨z0, z1, z2, z3, z4, g0, g1, g2, g3, g4⟩ := Z4.out
        obtain ⟨y0, y1, e0, e1⟩ := Y4.out
        have hlx := X4.out.lt
        have hlp := P4.out.lt
        have hlq := Q4.out.lt
        have hlz := Z4.out.lt
        have hly := Y4.out.lt
        go_wp2_with fail
        clear r0 r1 r2 r3 r4 f0 f1 f2 f3 f4 p0 p1 q0 q1 z0 z1 z2 z3 z4 g0 g1 g2 g3 g4 y0 y1 e0 e1 hlx hlp hlq hlz hly
        clear k1 hbl hss
        have ST := Stable.from w4
        refine region_start [0, 0, 2, 6, 15, 31, 63, 63, 127, 511] 12 (fun w' => Below w4.heap.size w4 w') (by kernel_rfl) ?_
        refine stage_heads [0, 1] (by kernel_rfl) (L := #[true, true, false, false, false, false, false, false, false, false]) (by kernel_rfl) (f' := 8) rfl (fun _ _ _ _ h => h) (fun w o h => ST.alloc h o) (.inr (by first | exact Below.refl _ _ | exact (Below.refl _ _).drew)) ?_
        simp only [List.flatMap_cons, List.flatMap_nil, List.drop_succ_cons, List.drop_zero, List.take_succ_cons, List.take_zero, List.cons_append, List.nil_append, List.append_nil]
        iterate 2 (first | (refine heads_load _ (by rfl) (fun w' hs => by obtain ⟨r0, r1, r2, r3, r4, _⟩ := X4.out.below hs; obtain ⟨q0, q1, _, _⟩ := Q4.out.below hs; go_simp; try with_reducible rfl) rfl ?_; simp only [Act.put, List.setIfInBounds_toArray, List.set_cons_zero, List.set_cons_succ]) | (refine heads_pure _ (by rfl) (fun w' => by go_simp; try with_reducible rfl) ?_; simp only [Act.put, List.setIfInBounds_toArray, List.set_cons_zero, List.set_cons_succ]))
        refine heads_nil ?_
        refine stage_op 2 (by kernel_rfl) (L := #[true, true, true, false, false, false, false, false, false, false]) (by kernel_rfl) ?_
        simp only [List.drop_succ_cons, List.drop_zero, List.take_succ_cons, List.take_zero]
        go_wp2_with fail; refine (HBY.out _).mono ?_; rintro e u ⟨bv, rfl, hB, hb⟩; have BU : Hid (Below w4.heap.size w4 u) := Lib.hid (by first | exact hb | exact ((Below.refl _ _).drew).trans hb); have HBB := Lib.hid hB; obtain ⟨ba, bc, rfl, _⟩ := hB.shape; clear hb hB; go_wp2_with fail
        refine step_post (fun _ => BU.out) ?_
        refine stage_op 3 (by kernel_rfl) (L := #[true, true, true, true, false, false, false, false, false, false]) (by kernel_rfl) ?_
        simp only [List.drop_succ_cons, List.drop_zero, List.take_succ_cons, List.take_zero]
        have y0 := HBB.out.str Tryz.underlying22 Tryz.underlying5 Tryz.underlying9
        go_wp2_with fail
        clear y0
        refine step_post (fun _ => BU.out) ?_
        refine stage_op 4 (by kernel_rfl) (L := #[true, true, true, true, true, false, false, false, false, false]) (by kernel_rfl) ?_
        simp only [List.drop_succ_cons, List.drop_zero, List.take_succ_cons, List.take_zero]
        go_wp2_with fail
        refine (rappend_new _ ⟨room, L, false, armed, steps⟩ nVow bs _ (RIs.new (D := ⟨room, L, false, armed, steps⟩) HN0.out (S4.out.below BU.out)) HG.out (by decide) HBS.out).mono ?_
        rintro e wr ⟨v1, rfl, hr1, hb1, hf1⟩
        have BR : Hid (Below w4.heap.size w4 wr) := Lib.hid (BU.out.trans (hb1.mono BU.out.size))
        have Xr := Lib.hid (X4.out.below BR.out)
        have Pr := Lib.hid (P4.out.below BR.out)
        have Qr := Lib.hid (Q4.out.below BR.out)
        have Zr := Lib.hid (Z4.out.below BR.out)
        have Yr := Lib.hid (Y4.out.below BR.out)
        have Br : Hid (Below w.heap.size w wr) := Lib.hid (B4.out.trans (BR.out.mono B4.out.size))
        clear hb1
        have GG := HG.out.append nVow bs (by have := HST.out; (try simp only at this ⊢); omega)
        obtain ⟨r, hr⟩ : ∃ r, appendD ⟨room, L, false, armed, steps⟩ nVow bs = r := ⟨_, rfl⟩
        have HR1 := Lib.hid hr
        rw [hr] at hr1 GG ⊢
        obtain ⟨D1, e1⟩ := r
        simp only at GG hr1 ⊢
        have G1 := Lib.hid GG.1
        have ST1 := Lib.hid GG.2
        obtain ⟨a1, c1, rfl, hs1⟩ := hr1
        obtain ⟨n1, hn1⟩ : ∃ n, D1.files.length = n := ⟨_, rfl⟩
        have HN1 := Lib.hid hn1
        rw [hn1] at hs1 hf1 ⊢
        have Sr := Lib.hid hs1
        have FO1 : Hid (∀ g, (.slice a1 n1 c1 : Value).ownBlock = some g → (.slice (some ⟨b, o, none⟩) n0 c0 : Value).ownBlock = some g ∨ w.heap.size ≤ g) := Lib.hid (fun g hg => by
          rcases hf1 g hg with h | h
          · exact FO0.out g h
          · exact .inr (by have := B4.out.size; have := BU.out.size; omega))
        clear hr hs1 hn1 hf1 GG
        go_wp2_with fail
        refine step_post nofun ?_
        refine stage_heads [5, 6, 7] (by kernel_rfl) (L := #[true, true, true, true, true, true, true, true, false, false]) (by kernel_rfl) (f' := 2) rfl (fun _ _ _ _ h => h) (fun w o h => ST.alloc h o) (.inl (by kernel_rfl)) ?_
        simp only [List.flatMap_cons, List.flatMap_nil, List.drop_succ_cons, List.drop_zero, List.take_succ_cons, List.take_zero, List.cons_append, List.nil_append, List.append_nil]
        iterate 3 (refine heads_pure _ (by rfl) (fun w' => by go_simp; try with_reducible rfl) ?_; simp only [Act.put, List.setIfInBounds_toArray, List.set_cons_zero, List.set_cons_succ])
        refine heads_nil ?_
        refine stage_op 8 (by kernel_rfl) (L := #[true, true, true, true, true, true, true, true, true, false]) (by kernel_rfl) ?_
        simp only [List.drop_succ_cons, List.drop_zero, List.take_succ_cons, List.take_zero]
        obtain ⟨r0, r1, r2, r3, r4, f0, f1, f2, f3, f4⟩ := Xr.out
        obtain ⟨p0, p1, _, _⟩ := Pr.out
        obtain ⟨q0, q1, _, _⟩ := Qr.out
        obtain ⟨z0, z1, z2, z3, z4, g0, g1, g2, g3, g4⟩ := Zr.out
        obtain ⟨y0, y1, e0, e1⟩ := Yr.out
        have hlx := Xr.out.lt
        have hlp := Pr.out.lt
        have hlq := Qr.out.lt
        have hlz := Zr.out.lt
        have hly := Yr.out.lt
        go_wp2_with fail
        refine step_post nofun ?_
        refine stage_heads [9] (by kernel_rfl) (L := #[true, true, true, true, true, true, true, true, true, true]) (by kernel_rfl) (f' := 0) rfl (fun _ _ _ _ h => h) (fun w o h => ST.alloc h o) (.inl (by kernel_rfl)) ?_
        simp only [List.flatMap_cons, List.flatMap_nil, List.drop_succ_cons, List.drop_zero, List.take_succ_cons, List.take_zero, List.append_nil]
        iterate 1 (refine heads_pure _ (by rfl) (fun w' => by go_simp; try with_reducible rfl) ?_; simp only [Act.put, List.setIfInBounds_toArray, List.set_cons_zero, List.set_cons_succ])
        refine heads_nil ?_
        refine stage_done (by kernel_rfl) ?_
        have X6a := Xr.out.set D1 (.slice a1 n1 c1)
        have KS := Kept.set5D wr w.heap.size D1 (.slice a1 n1 c1)
        have P6a := Pr.out.kept KS (by omega)
        have Q6a := Qr.out.kept KS (by omega)
        have Z6a := Zr.out.kept KS (by omega)
        have Y6a := Yr.out.kept KS (by omega)
        have S6a := Sr.out.setD Xr.out (fun s e => by cases e) D1 (.slice a1 n1 c1)
        have B6a := Br.out.trans (KS.below Br.out.size (fun k hk => by omega))
        unfold set5D at X6a P6a Q6a Z6a Y6a S6a B6a
        generalize (((((wr.setCell ⟨w.heap.size, 0, none⟩ (.int .i64 D1.room)).setCell ⟨w.heap.size, 1, none⟩ (.slice a1 n1 c1)).setCell ⟨w.heap.size, 2, none⟩ (.bool D1.down)).setCell ⟨w.heap.size, 3, none⟩ (.int .i64 D1.armed)).setCell ⟨w.heap.size, 4, none⟩ (.int .u64 D1.steps)) = w6 at *
        have X6 := Lib.hid X6a
        have P6 := Lib.hid P6a
        have Q6 := Lib.hid Q6a
        have Z6 := Lib.hid Z6a
        have Y6 := Lib.hid Y6a
        have S6 := Lib.hid S6a
        have B6 := Lib.hid B6a
        clear KS X6a P6a Q6a Z6a Y6a S6a B6a
        clear r0 r1 r2 r3 r4 f0 f1 f2 f3 f4 p0 p1 q0 q1 z0 z1 z2 z3 z4 g0 g1 g2 g3 g4 y0 y1 e0 e1 hlx hlp hlq hlz hly
        by_cases he : e1 = 0
        · subst he
          obtain ⟨r0, r1, r2, r3, r4, f0, f1, f2, f3, f4⟩ := X6.out
          obtain ⟨p0, p1, _, _⟩ := P6.out
          obtain ⟨q0, q1, _, _⟩ := Q6.out
          obtain ⟨z0, z1, z2, z3, z4, g0, g1, g2, g3, g4⟩ := Z6.out
          obtain ⟨y0, y1, e0, e1⟩ := Y6.out
          have hlx := X6.out.lt
          have hlp := P6.out.lt
          have hlq := Q6.out.lt
          have hlz := Z6.out.lt
          have hly := Y6.out.lt
          have HV0 : Hid (vwriteD ⟨room, L, false, armed, steps⟩ bs = syncD D1 nVow) := Lib.hid (by rw [HVE.out]; unfold wrTo; rw [HR1.out]; exact if_neg (by simp))
          go_wp2_with fail
          clear r0 r1 r2 r3 r4 f0 f1 f2 f3 f4 p0 p1 q0 q1 z0 z1 z2 z3 z4 g0 g1 g2 g3 g4 y0 y1 e0 e1 hlx hlp hlq hlz hly
          refine (rsync_new _ D1 nVow w6 (RIs.new HN1.out S6.out) G1.out).mono ?_
          rintro e ws ⟨v2, rfl, hr2, hb2, hf2⟩
          have Xs := Lib.hid (X6.out.below hb2)
          have Ps := Lib.hid (P6.out.below hb2)
          have Qs := Lib.hid (Q6.out.below hb2)
          have Zs := Lib.hid (Z6.out.below hb2)
          have Ys := Lib.hid (Y6.out.below hb2)
          have Bs : Hid (Below w.heap.size w ws) := Lib.hid (B6.out.trans (hb2.mono B6.out.size))
          clear hb2
          have GG := G1.out.sync nVow (by have h1 := ST1.out; have h2 := HST.out; (try simp only at h1 h2 ⊢); omega)
          obtain ⟨r, hr⟩ : ∃ r, syncD D1 nVow = r := ⟨_, rfl⟩
          have HR2 := Lib.hid hr
          rw [hr] at hr2 GG ⊢
          obtain ⟨D2, e2⟩ := r
          simp only at GG hr2 ⊢
          have G2 := Lib.hid GG.1
          have ST2 := Lib.hid GG.2
          obtain ⟨a2, c2, rfl, hs2⟩ := hr2
          obtain ⟨n2, hn2⟩ : ∃ n, D2.files.length = n := ⟨_, rfl⟩
          have HN2 := Lib.hid hn2
          rw [hn2] at hs2 hf2 ⊢
          have Ss := Lib.hid hs2
          have FO2 : Hid (∀ g, (.slice a2 n2 c2 : Value).ownBlock = some g → (.slice (some ⟨b, o, none⟩) n0 c0 : Value).ownBlock = some g ∨ w.heap.size ≤ g) := Lib.hid (fun g hg => by
            rcases hf2 g hg with h | h
            · exact FO1.out g h
            · exact .inr (by have := B6.out.size; omega))
          clear hr hs2 hn2 hf2 GG
          obtain ⟨r0, r1, r2, r3, r4, f0, f1, f2, f3, f4⟩ := Xs.out
          obtain ⟨p0, p1, _, _⟩ := Ps.out
          obtain ⟨q0, q1, _, _⟩ := Qs.out
          obtain ⟨z0, z1, z2, z3, z4, g0, g1, g2, g3, g4⟩ := Zs.out
          obtain ⟨y0, y1, e0, e1⟩ := Ys.out
          have hlx := Xs.out.lt
          have hlp := Ps.out.lt
          have hlq := Qs.out.lt
          have hlz := Zs.out.lt
          have hly := Ys.out.lt
          have X7a := Xs.out.set D2 (.slice a2 n2 c2)
          have KS := Kept.set5D ws w.heap.size D2 (.slice a2 n2 c2)
          have P7a := Ps.out.kept KS (by omega)
          have Q7a := Qs.out.kept KS (by omega)
          have Z7a := Zs.out.kept KS (by omega)
          have Y7a := Ys.out.kept KS (by omega)
          have S7a := Ss.out.setD Xs.out (fun s e => by cases e) D2 (.slice a2 n2 c2)
          have B7a := Bs.out.trans (KS.below Bs.out.size (fun k hk => by omega))
          unfold set5D at X7a P7a Q7a Z7a Y7a S7a B7a
          have X7 := Lib.hid X7a
          have P7 := Lib.hid P7a
          have Q7 := Lib.hid Q7a
          have Z7 := Lib.hid Z7a
          have Y7 := Lib.hid Y7a
          have S7 := Lib.hid S7a
          have B7 := Lib.hid B7a
          clear KS X7a P7a Q7a Z7a Y7a S7a B7a
          have HV1 : Hid (vwriteD ⟨room, L, false, armed, steps⟩ bs = (D2, e2)) := Lib.hid (HV0.out.trans HR2.out)
          by_cases he : e2 = 0
          · subst he
            obtain rfl : t' = TT := by rw [← HTT.out, HV1.out]; exact (if_pos rfl).symm
            obtain rfl : v' = VV := by rw [← HVV.out, HV1.out]; exact (if_pos rfl).symm
            go_wp2_with fail
            generalize (((((ws.setCell ⟨w.heap.size, 0, none⟩ (.int .i64 D2.room)).setCell ⟨w.heap.size, 1, none⟩ (.slice a2 n2 c2)).setCell ⟨w.heap.size, 2, none⟩ (.bool D2.down)).setCell ⟨w.heap.size, 3, none⟩ (.int .i64 D2.armed)).setCell ⟨w.heap.size, 4, none⟩ (.int .u64 D2.steps)) = w7 at *
            clear r0 r1 r2 r3 r4 f0 f1 f2 f3 f4 p0 p1 q0 q1 z0 z1 z2 z3 z4 g0 g1 g2 g3 g4 y0 y1 e0 e1 hlx hlp hlq hlz hly
            obtain ⟨r0, r1, r2, r3, r4, f0, f1, f2, f3, f4⟩ := X7.out
            obtain ⟨p0, p1, _, _⟩ := P7.out
            obtain ⟨q0, q1, _, _⟩ := Q7.out
            obtain ⟨z0, z1, z2, z3, z4, g0, g1, g2, g3, g4⟩ := Z7.out
            obtain ⟨y0, y1, e0, e1⟩ := Y7.out
            have hlx := X7.out.lt
            have hlp := P7.out.lt
            have hlq := Q7.out.lt
            have hlz := Z7.out.lt
            have hly := Y7.out.lt
            have J1 : Hid (RD (set5D w7 (w.heap.size + 1 + 1 + 1) D2 (.slice a2 n2 c2)) w.heap.size D2 (.slice a2 n2 c2) ∧ SC (set5D w7 (w.heap.size + 1 + 1 + 1) D2 (.slice a2 n2 c2)) (w.heap.size + 1 + 1) t' v') := Lib.hid ⟨X7.out.kept (Kept.set5D w7 (w.heap.size + 1 + 1 + 1) D2 (.slice a2 n2 c2)) (by omega), Q7.out.kept (Kept.set5D w7 (w.heap.size + 1 + 1 + 1) D2 (.slice a2 n2 c2)) (by omega)⟩
            have J2 : Hid (RD (set5D w7 (w.heap.size + 1 + 1 + 1) D2 (.slice a2 n2 c2)).drew w.heap.size D2 (.slice a2 n2 c2) ∧ SC (set5D w7 (w.heap.size + 1 + 1 + 1) D2 (.slice a2 n2 c2)).drew (w.heap.size + 1 + 1) t' v') := Lib.hid ⟨J1.out.1.below ((Below.refl _ _).drew), J1.out.2.below ((Below.refl _ _).drew)⟩
            unfold set5D at J1 J2
            refine region_start [0, 0, 1, 7, 15] 4 (fun w' => RD w' w.heap.size D2 (.slice a2 n2 c2) ∧ SC w' (w.heap.size + 1 + 1) t' v') (by kernel_rfl) ?_
            refine stage_heads [0, 1] (by kernel_rfl) (L := #[true, true, false, false, false]) (by kernel_rfl) (f' := 3) rfl (fun _ _ _ _ h => h) (fun w o h => ⟨h.1.below ((Below.refl _ _).alloc (Nat.le_refl _) o), h.2.below ((Below.refl _ _).alloc (Nat.le_refl _) o)⟩) (.inr (by first | exact ⟨X7.out.below ((Below.refl _ _).drew), Q7.out.below ((Below.refl _ _).drew)⟩ | exact ⟨X7.out, Q7.out⟩)) ?_
            simp only [List.flatMap_cons, List.flatMap_nil, List.drop_succ_cons, List.drop_zero, List.take_succ_cons, List.take_zero, List.cons_append, List.nil_append, List.append_nil]
            iterate 2 (first | (refine heads_load _ (by rfl) (fun w' hs => by obtain ⟨⟨r0, r1, r2, r3, r4, _⟩, b0, b1, _, _⟩ := hs; go_simp; try with_reducible rfl) rfl ?_; simp only [Act.put, List.setIfInBounds_toArray, List.set_cons_zero, List.set_cons_succ]) | (refine heads_pure _ (by rfl) (fun w' => by go_simp; try with_reducible rfl) ?_; simp only [Act.put, List.setIfInBounds_toArray, List.set_cons_zero, List.set_cons_succ]))
            refine heads_nil ?_
            refine stage_op 2 (by kernel_rfl) (L := #[true, true, true, false, false]) (by kernel_rfl) ?_
            simp only [List.drop_succ_cons, List.drop_zero, List.take_succ_cons, List.take_zero]
            go_wp2_with fail
            refine step_post (fun _ => (by first | exact J2.out | exact J1.out)) ?_
            refine stage_op 3 (by kernel_rfl) (L := #[true, true, true, true, false]) (by kernel_rfl) ?_
            simp only [List.drop_succ_cons, List.drop_zero, List.take_succ_cons, List.take_zero]
            go_wp2_with fail
            refine step_post nofun ?_
            refine stage_heads [4] (by kernel_rfl) (L := #[true, true, true, true, true]) (by kernel_rfl) (f' := 0) rfl (fun _ _ _ _ h => h) (fun w o h => ⟨h.1.below ((Below.refl _ _).alloc (Nat.le_refl _) o), h.2.below ((Below.refl _ _).alloc (Nat.le_refl _) o)⟩) (.inl (by kernel_rfl)) ?_
            simp only [List.flatMap_cons, List.flatMap_nil, List.drop_succ_cons, List.drop_zero, List.take_succ_cons, List.take_zero, List.append_nil]
            iterate 1 (refine heads_pure _ (by rfl) (fun w' => by go_simp; try with_reducible rfl) ?_; simp only [Act.put, List.setIfInBounds_toArray, List.set_cons_zero, List.set_cons_succ])
            refine heads_nil ?_
            refine stage_done (by kernel_rfl) ?_
            generalize hwz : World.drew _ = wz
            have W1 : wz = ((((((((w7.setCell ⟨(w.heap.size + 1 + 1 + 1), 0, none⟩ (.int .i64 D2.room)).setCell ⟨(w.heap.size + 1 + 1 + 1), 1, none⟩ (.slice a2 n2 c2)).setCell ⟨(w.heap.size + 1 + 1 + 1), 2, none⟩ (.bool D2.down)).setCell ⟨(w.heap.size + 1 + 1 + 1), 3, none⟩ (.int .i64 D2.armed)).setCell ⟨(w.heap.size + 1 + 1 + 1), 4, none⟩ (.int .u64 D2.steps))).setCell ⟨(w.heap.size + 1 + 1 + 1 + 1), 0, none⟩ (.int .u64 t')).setCell ⟨(w.heap.size + 1 + 1 + 1 + 1), 1, none⟩ (.int .i64 v')).drew := hwz.symm
            have KS := Kept.set5D w7 (w.heap.size + 1 + 1 + 1) D2 (.slice a2 n2 c2)
            have RFF := (Z7.out.set D2 (.slice a2 n2 c2))
            have YS := Y7.out.kept KS (by omega)
            have SS := S7.out.setD Z7.out (fun s e => by cases e) D2 (.slice a2 n2 c2)
            have RFG0 := (RFF.kept (Kept.set2 _ (w.heap.size + 1 + 1 + 1 + 1) (.int .u64 t') (.int .i64 v')) (by omega)).below ((Below.refl _ _).drew)
            have RFY0 := (YS.set t' v').below ((Below.refl _ _).drew)
            have SF0 := (SS.setSC YS (.int .u64 t') (.int .i64 v')).below ((Below.refl _ _).drew)
            have BF0 := B7.out.trans (KS.below B7.out.size (fun k hk => by omega))
            have BF1 := (BF0.trans ((Kept.set2 _ (w.heap.size + 1 + 1 + 1 + 1) (.int .u64 t') (.int .i64 v')).below BF0.size (fun k hk => by omega))).drew
            unfold set5D at RFG0 RFY0 SF0 BF1
            rw [← W1] at RFG0 RFY0 SF0 BF1
            have RFG := Lib.hid RFG0
            have RFY := Lib.hid RFY0
            have SF := Lib.hid SF0
            have BF := Lib.hid BF1
            clear KS RFF YS SS RFG0 RFY0 SF0 BF0 BF1 W1 hwz
            clear r0 r1 r2 r3 r4 f0 f1 f2 f3 f4 p0 p1 q0 q1 z0 z1 z2 z3 z4 g0 g1 g2 g3 g4 y0 y1 e0 e1 hlx hlp hlq hlz hly
            obtain ⟨q0, q1, q2, q3, q4, _⟩ := RFG.out
            obtain ⟨u0, u1, _, _⟩ := RFY.out
            go_wp2_with fail
            refine bodyPost_ret (v := .tuple #[.agg #[.int .i64 D2.room, .slice a2 n2 c2, .bool D2.down, .int .i64 D2.armed, .int .u64 D2.steps], .agg #[.int .u64 t', .int .i64 v'], .int .i64 0]) (by simp [results, Tryz.results66, go_sem, q0, q1, q2, q3, q4, u0, u1]) rfl ?_
            rw [HV1.out]
            exact ⟨_, rfl, RIs.new (D := D2) HN2.out SF.out, BF.out, FO2.out⟩
          · have hbq : ((e2 : Int) != 0) = true := bne_iff_ne.2 (by omega)
            have hb0 : ((e2 : Int) == 0) = false := beq_eq_false_iff_ne.2 (by omega)
            obtain rfl : t = TT := by rw [← HTT.out, HV1.out]; exact (if_neg he).symm
            obtain rfl : v = VV := by rw [← HVV.out, HV1.out]; exact (if_neg he).symm
            clear he
            go_wp2_with fail
            generalize (((((ws.setCell ⟨w.heap.size, 0, none⟩ (.int .i64 D2.room)).setCell ⟨w.heap.size, 1, none⟩ (.slice a2 n2 c2)).setCell ⟨w.heap.size, 2, none⟩ (.bool D2.down)).setCell ⟨w.heap.size, 3, none⟩ (.int .i64 D2.armed)).setCell ⟨w.heap.size, 4, none⟩ (.int .u64 D2.steps)) = w7 at *
            clear r0 r1 r2 r3 r4 f0 f1 f2 f3 f4 p0 p1 q0 q1 z0 z1 z2 z3 z4 g0 g1 g2 g3 g4 y0 y1 e0 e1 hlx hlp hlq hlz hly
            obtain ⟨r0, r1, r2, r3, r4, f0, f1, f2, f3, f4⟩ := X7.out
            obtain ⟨p0, p1, _, _⟩ := P7.out
            obtain ⟨q0, q1, _, _⟩ := Q7.out
            obtain ⟨z0, z1, z2, z3, z4, g0, g1, g2, g3, g4⟩ := Z7.out
            obtain ⟨y0, y1, e0, e1⟩ := Y7.out
            have hlx := X7.out.lt
            have hlp := P7.out.lt
            have hlq := Q7.out.lt
            have hlz := Z7.out.lt
            have hly := Y7.out.lt
            have J1 : Hid (RD (set5D w7 (w.heap.size + 1 + 1 + 1) D2 (.slice a2 n2 c2)) w.heap.size D2 (.slice a2 n2 c2) ∧ SC (set5D w7 (w.heap.size + 1 + 1 + 1) D2 (.slice a2 n2 c2)) (w.heap.size + 1) t v) := Lib.hid ⟨X7.out.kept (Kept.set5D w7 (w.heap.size + 1 + 1 + 1) D2 (.slice a2 n2 c2)) (by omega), P7.out.kept (Kept.set5D w7 (w.heap.size + 1 + 1 + 1) D2 (.slice a2 n2 c2)) (by omega)⟩
            have J2 : Hid (RD (set5D w7 (w.heap.size + 1 + 1 + 1) D2 (.slice a2 n2 c2)).drew w.heap.size D2 (.slice a2 n2 c2) ∧ SC (set5D w7 (w.heap.size + 1 + 1 + 1) D2 (.slice a2 n2 c2)).drew (w.heap.size + 1) t v) := Lib.hid ⟨J1.out.1.below ((Below.refl _ _).drew), J1.out.2.below ((Below.refl _ _).drew)⟩
            unfold set5D at J1 J2
            refine region_start [0, 0, 0, 1, 11, 31] 8 (fun w' => RD w' w.heap.size D2 (.slice a2 n2 c2) ∧ SC w' (w.heap.size + 1) t v) (by kernel_rfl) ?_
            refine stage_heads [0, 1, 2] (by kernel_rfl) (L := #[true, true, true, false, false, false]) (by kernel_rfl) (f' := 3) rfl (fun _ _ _ _ h => h) (fun w o h => ⟨h.1.below ((Below.refl _ _).alloc (Nat.le_refl _) o), h.2.below ((Below.refl _ _).alloc (Nat.le_refl _) o)⟩) (.inr (by first | exact ⟨X7.out.below ((Below.refl _ _).drew), P7.out.below ((Below.refl _ _).drew)⟩ | exact ⟨X7.out, P7.out⟩)) ?_
            simp only [List.flatMap_cons, List.flatMap_nil, List.drop_succ_cons, List.drop_zero, List.take_succ_cons, List.take_zero, List.cons_append, List.nil_append, List.append_nil]
            iterate 3 (first | (refine heads_load _ (by rfl) (fun w' hs => by obtain ⟨⟨r0, r1, r2, r3, r4, _⟩, b0, b1, _, _⟩ := hs; go_simp; try with_reducible rfl) rfl ?_; simp only [Act.put, List.setIfInBounds_toArray, List.set_cons_zero, List.set_cons_succ]) | (refine heads_pure _ (by rfl) (fun w' => by go_simp; try with_reducible rfl) ?_; simp only [Act.put, List.setIfInBounds_toArray, List.set_cons_zero, List.set_cons_succ]))
            refine heads_nil ?_
            refine stage_op 3 (by kernel_rfl) (L := #[true, true, true, true, false, false]) (by kernel_rfl) ?_
            simp only [List.drop_succ_cons, List.drop_zero, List.take_succ_cons, List.take_zero]
            go_wp2_with fail
            refine step_post (fun _ => (by first | exact J2.out | exact J1.out)) ?_
            refine stage_op 4 (by kernel_rfl) (L := #[true, true, true, true, true, false]) (by kernel_rfl) ?_
            simp only [List.drop_succ_cons, List.drop_zero, List.take_succ_cons, List.take_zero]
            go_wp2_with fail
            refine step_post nofun ?_
            refine stage_heads [5] (by kernel_rfl) (L := #[true, true, true, true, true, true]) (by kernel_rfl) (f' := 0) rfl (fun _ _ _ _ h => h) (fun w o h => ⟨h.1.below ((Below.refl _ _).alloc (Nat.le_refl _) o), h.2.below ((Below.refl _ _).alloc (Nat.le_refl _) o)⟩) (.inl (by kernel_rfl)) ?_
            simp only [List.flatMap_cons, List.flatMap_nil, List.drop_succ_cons, List.drop_zero, List.take_succ_cons, List.take_zero, List.append_nil]
            iterate 1 (refine heads_pure _ (by rfl) (fun w' => by go_simp; try with_reducible rfl) ?_; simp only [Act.put, List.setIfInBounds_toArray, List.set_cons_zero, List.set_cons_succ])
            refine heads_nil ?_
            refine stage_done (by kernel_rfl) ?_
            generalize hwz : World.drew _ = wz
            have W1 : wz = ((((((((w7.setCell ⟨(w.heap.size + 1 + 1 + 1), 0, none⟩ (.int .i64 D2.room)).setCell ⟨(w.heap.size + 1 + 1 + 1), 1, none⟩ (.slice a2 n2 c2)).setCell ⟨(w.heap.size + 1 + 1 + 1), 2, none⟩ (.bool D2.down)).setCell ⟨(w.heap.size + 1 + 1 + 1), 3, none⟩ (.int .i64 D2.armed)).setCell ⟨(w.heap.size + 1 + 1 + 1), 4, none⟩ (.int .u64 D2.steps))).setCell ⟨(w.heap.size + 1 + 1 + 1 + 1), 0, none⟩ (.int .u64 t)).setCell ⟨(w.heap.size + 1 + 1 + 1 + 1), 1, none⟩ (.int .i64 v)).drew := hwz.symm
            have KS := Kept.set5D w7 (w.heap.size + 1 + 1 + 1) D2 (.slice a2 n2 c2)
            have RFF := (Z7.out.set D2 (.slice a2 n2 c2))
            have YS := Y7.out.kept KS (by omega)
            have SS := S7.out.setD Z7.out (fun s e => by cases e) D2 (.slice a2 n2 c2)
            have RFG0 := (RFF.kept (Kept.set2 _ (w.heap.size + 1 + 1 + 1 + 1) (.int .u64 t) (.int .i64 v)) (by omega)).below ((Below.refl _ _).drew)
            have RFY0 := (YS.set t v).below ((Below.refl _ _).drew)
            have SF0 := (SS.setSC YS (.int .u64 t) (.int .i64 v)).below ((Below.refl _ _).drew)
            have BF0 := B7.out.trans (KS.below B7.out.size (fun k hk => by omega))
            have BF1 := (BF0.trans ((Kept.set2 _ (w.heap.size + 1 + 1 + 1 + 1) (.int .u64 t) (.int .i64 v)).below BF0.size (fun k hk => by omega))).drew
            unfold set5D at RFG0 RFY0 SF0 BF1
            rw [← W1] at RFG0 RFY0 SF0 BF1
            have RFG := Lib.hid RFG0
            have RFY := Lib.hid RFY0
            have SF := Lib.hid SF0
            have BF := Lib.hid BF1
            clear KS RFF YS SS RFG0 RFY0 SF0 BF0 BF1 W1 hwz
            clear r0 r1 r2 r3 r4 f0 f1 f2 f3 f4 p0 p1 q0 q1 z0 z1 z2 z3 z4 g0 g1 g2 g3 g4 y0 y1 e0 e1 hlx hlp hlq hlz hly
            obtain ⟨q0, q1, q2, q3, q4, _⟩ := RFG.out
            obtain ⟨u0, u1, _, _⟩ := RFY.out
            go_wp2_with fail
            refine bodyPost_ret (v := .tuple #[.agg #[.int .i64 D2.room, .slice a2 n2 c2, .bool D2.down, .int .i64 D2.armed, .int .u64 D2.steps], .agg #[.int .u64 t, .int .i64 v], .int .i64 (e2 : Nat)]) (by simp [results, Tryz.results66, go_sem, q0, q1, q2, q3, q4, u0, u1]) rfl ?_
            rw [HV1.out]
            exact ⟨_, rfl, RIs.new (D := D2) HN2.out SF.out, BF.out, FO2.out⟩
        · have hbq : ((e1 : Int) != 0) = true := bne_iff_ne.2 (by omega)
          have hb0 : ((e1 : Int) == 0) = false := beq_eq_false_iff_ne.2 (by omega)
          have HV1 : Hid (vwriteD ⟨room, L, false, armed, steps⟩ bs = (D1, e1)) := Lib.hid (by rw [HVE.out]; unfold wrTo; rw [HR1.out]; exact if_pos he)
          obtain rfl : t = TT := by rw [← HTT.out, HV1.out]; exact (if_neg he).symm
          obtain rfl : v = VV := by rw [← HVV.out, HV1.out]; exact (if_neg he).symm
          clear he
          go_wp2_with fail
          obtain ⟨r0, r1, r2, r3, r4, f0, f1, f2, f3, f4⟩ := X6.out
          obtain ⟨p0, p1, _, _⟩ := P6.out
          obtain ⟨q0, q1, _, _⟩ := Q6.out
          obtain ⟨z0, z1, z2, z3, z4, g0, g1, g2, g3, g4⟩ := Z6.out
          obtain ⟨y0, y1, e0, e1⟩ := Y6.out
          have hlx := X6.out.lt
          have hlp := P6.out.lt
          have hlq := Q6.out.lt
          have hlz := Z6.out.lt
          have hly := Y6.out.lt
          have J1 : Hid (RD (set5D w6 (w.heap.size + 1 + 1 + 1) D1 (.slice a1 n1 c1)) w.heap.size D1 (.slice a1 n1 c1) ∧ SC (set5D w6 (w.heap.size + 1 + 1 + 1) D1 (.slice a1 n1 c1)) (w.heap.size + 1) t v) := Lib.hid ⟨X6.out.kept (Kept.set5D w6 (w.heap.size + 1 + 1 + 1) D1 (.slice a1 n1 c1)) (by omega), P6.out.kept (Kept.set5D w6 (w.heap.size + 1 + 1 + 1) D1 (.slice a1 n1 c1)) (by omega)⟩
          have J2 : Hid (RD (set5D w6 (w.heap.size + 1 + 1 + 1) D1 (.slice a1 n1 c1)).drew w.heap.size D1 (.slice a1 n1 c1) ∧ SC (set5D w6 (w.heap.size + 1 + 1 + 1) D1 (.slice a1 n1 c1)).drew (w.heap.size + 1) t v) := Lib.hid ⟨J1.out.1.below ((Below.refl _ _).drew), J1.out.2.below ((Below.refl _ _).drew)⟩
          unfold set5D at J1 J2
          refine region_start [0, 0, 0, 1, 11, 31] 8 (fun w' => RD w' w.heap.size D1 (.slice a1 n1 c1) ∧ SC w' (w.heap.size + 1) t v) (by kernel_rfl) ?_
          refine stage_heads [0, 1, 2] (by kernel_rfl) (L := #[true, true, true, false, false, false]) (by kernel_rfl) (f' := 3) rfl (fun _ _ _ _ h => h) (fun w o h => ⟨h.1.below ((Below.refl _ _).alloc (Nat.le_refl _) o), h.2.below ((Below.refl _ _).alloc (Nat.le_refl _) o)⟩) (.inr (by first | exact ⟨X6.out.below ((Below.refl _ _).drew), P6.out.below ((Below.refl _ _).drew)⟩ | exact ⟨X6.out, P6.out⟩)) ?_
          simp only [List.flatMap_cons, List.flatMap_nil, List.drop_succ_cons, List.drop_zero, List.take_succ_cons, List.take_zero, List.cons_append, List.nil_append, List.append_nil]
          iterate 3 (first | (refine heads_load _ (by rfl) (fun w' hs => by obtain ⟨⟨r0, r1, r2, r3, r4, _⟩, b0, b1, _, _⟩ := hs; go_simp; try with_reducible rfl) rfl ?_; simp only [Act.put, List.setIfInBounds_toArray, List.set_cons_zero, List.set_cons_succ]) | (refine heads_pure _ (by rfl) (fun w' => by go_simp; try with_reducible rfl) ?_; simp only [Act.put, List.setIfInBounds_toArray, List.set_cons_zero, List.set_cons_succ]))
          refine heads_nil ?_
          refine stage_op 3 (by kernel_rfl) (L := #[true, true, true, true, false, false]) (by kernel_rfl) ?_
          simp only [List.drop_succ_cons, List.drop_zero, List.take_succ_cons, List.take_zero]
          go_wp2_with fail
          refine step_post (fun _ => (by first | exact J2.out | exact J1.out)) ?_
          refine stage_op 4 (by kernel_rfl) (L := #[true, true, true, true, true, false]) (by kernel_rfl) ?_
          simp only [List.drop_succ_cons, List.drop_zero, List.take_succ_cons, List.take_zero]
          go_wp2_with fail
          refine step_post nofun ?_
          refine stage_heads [5] (by kernel_rfl) (L := #[true, true, true, true, true, true]) (by kernel_rfl) (f' := 0) rfl (fun _ _ _ _ h => h) (fun w o h => ⟨h.1.below ((Below.refl _ _).alloc (Nat.le_refl _) o), h.2.below ((Below.refl _ _).alloc (Nat.le_refl _) o)⟩) (.inl (by kernel_rfl)) ?_
          simp only [List.flatMap_cons, List.flatMap_nil, List.drop_succ_cons, List.drop_zero, List.take_succ_cons, List.take_zero, List.append_nil]
          iterate 1 (refine heads_pure _ (by rfl) (fun w' => by go_simp; try with_reducible rfl) ?_; simp only [Act.put, List.setIfInBounds_toArray, List.set_cons_zero, List.set_cons_succ])
          refine heads_nil ?_
          refine stage_done (by kernel_rfl) ?_
          generalize hwz : World.drew _ = wz
          have W1 : wz = ((((((((w6.setCell ⟨(w.heap.size + 1 + 1 + 1), 0, none⟩ (.int .i64 D1.room)).setCell ⟨(w.heap.size + 1 + 1 + 1), 1, none⟩ (.slice a1 n1 c1)).setCell ⟨(w.heap.size + 1 + 1 + 1), 2, none⟩ (.bool D1.down)).setCell ⟨(w.heap.size + 1 + 1 + 1), 3, none⟩ (.int .i64 D1.armed)).setCell ⟨(w.heap.size + 1 + 1 + 1), 4, none⟩ (.int .u64 D1.steps))).setCell ⟨(w.heap.size + 1 + 1 + 1 + 1), 0, none⟩ (.int .u64 t)).setCell ⟨(w.heap.size + 1 + 1 + 1 + 1), 1, none⟩ (.int .i64 v)).drew := hwz.symm
          have KS := Kept.set5D w6 (w.heap.size + 1 + 1 + 1) D1 (.slice a1 n1 c1)
          have RFF := (Z6.out.set D1 (.slice a1 n1 c1))
          have YS := Y6.out.kept KS (by omega)
          have SS := S6.out.setD Z6.out (fun s e => by cases e) D1 (.slice a1 n1 c1)
          have RFG0 := (RFF.kept (Kept.set2 _ (w.heap.size + 1 + 1 + 1 + 1) (.int .u64 t) (.int .i64 v)) (by omega)).below ((Below.refl _ _).drew)
          have RFY0 := (YS.set t v).below ((Below.refl _ _).drew)
          have SF0 := (SS.setSC YS (.int .u64 t) (.int .i64 v)).below ((Below.refl _ _).drew)
          have BF0 := B6.out.trans (KS.below B6.out.size (fun k hk => by omega))
          have BF1 := (BF0.trans ((Kept.set2 _ (w.heap.size + 1 + 1 + 1 + 1) (.int .u64 t) (.int .i64 v)).below BF0.size (fun k hk => by omega))).drew
          unfold set5D at RFG0 RFY0 SF0 BF1
          rw [← W1] at RFG0 RFY0 SF0 BF1
          have RFG := Lib.hid RFG0
          have RFY := Lib.hid RFY0
          have SF := Lib.hid SF0
          have BF := Lib.hid BF1
          clear KS RFF YS SS RFG0 RFY0 SF0 BF0 BF1 W1 hwz
          clear r0 r1 r2 r3 r4 f0 f1 f2 f3 f4 p0 p1 q0 q1 z0 z1 z2 z3 z4 g0 g1 g2 g3 g4 y0 y1 e0 e1 hlx hlp hlq hlz hly
          obtain ⟨q0, q1, q2, q3, q4, _⟩ := RFG.out
          obtain ⟨u0, u1, _, _⟩ := RFY.out
          go_wp2_with fail
          refine bodyPost_ret (v := .tuple #[.agg #[.int .i64 D1.room, .slice a1 n1 c1, .bool D1.down, .int .i64 D1.armed, .int .u64 D1.steps], .agg #[.int .u64 t, .int .i64 v], .int .i64 (e1 : Nat)]) (by simp [results, Tryz.results66, go_sem, q0, q1, q2, q3, q4, u0, u1]) rfl ?_
          rw [HV1.out]
          exact ⟨_, rfl, RIs.new (D := D1) HN1.out SF.out, BF.out, FO1.out⟩
    · have hway : findI nVow L = -1 ∨ ∃ (i b o : Nat) (f : FileS), findI nVow L = i ∧ a0 = some ⟨b, o, none⟩ ∧ b < w4.heap.size ∧ w4.cell? ⟨b, o + i * 3 + 1, none⟩ = some (.string (strN f.all)) ∧ (i : Int) < (n0 : Int) ∧ (getF ⟨room, L, false, armed, steps⟩ nVow).all = f.all := by
        cases hf : findFile nVow L with
        | none => exact .inl (findI_none.2 hf)
        | some f =>
          obtain ⟨i, hI, hLi⟩ := findI_some hf
          obtain ⟨b, o, e, hbl, k0, k1, k2⟩ := S4.out.file hLi
          exact .inr ⟨i, b, o, f, hI, e, hbl, k1, by have h1 := (List.getElem?_eq_some_iff.1 hLi).1; have h2 := HN0.out; omega, by rw [getF_some (D := ⟨room, L, false, armed, steps⟩) hf]⟩
      have HVE : Hid (vwriteD ⟨room, L, false, armed, steps⟩ bs = intoD ⟨room, L, false, armed, steps⟩ nVowN nVow bs) := Lib.hid (vwriteD_into rfl hlen)
      replace hway := hway.resolve_left (fun h => hlen (by unfold getF; rw [show findFile nVow (⟨room, L, false, armed, steps⟩ : DiskS).files = none from findI_none.1 h]; decide))
      obtain ⟨i, b, o, f, hI, rfl, hbl, k1, him, hgf⟩ := hway
      have hi0 : (0 : Int) ≤ (i : Int) := by omega
      have hss := size_strN f.all
      have hli : (256 : Int) ≤ (f.all.length : Int) := by rw [hgf] at hlen; omega
      rw [hI]
      clear hI hgf hlen
      obtain ⟨r0, r1, r2, r3, r4, f0, f1, f2, f3, f4⟩ := X4.out
      obtain ⟨p0, p1, _, _⟩ := P4.out
      obtain ⟨q0, q1, _, _⟩ := Q4.out
      obtain ⟨z0, z1, z2, z3, z4, g0, g1, g2, g3, g4⟩ := Z4.out
      obtain ⟨y0, y1, e0, e1⟩ := Y4.out
      have hlx := X4.out.lt
      have hlp := P4.out.lt
      have hlq := Q4.out.lt
      have hlz := Z4.out.lt
      have hly := Y4.out.lt
      go_wp2_with fail
      clear r0 r1 r2 r3 r4 f0 f1 f2 f3 f4 p0 p1 q0 q1 z0 z1 z2 z3 z4 g0 g1 g2 g3 g4 y0 y1 e0 e1 hlx hlp hlq hlz hly
      clear k1 hbl hss
      have ST := Stable.from w4
      refine region_start [0, 0, 2, 7, 15, 31, 31, 63, 255] 4 (fun w' => Below w4.heap.size w4 w') (by kernel_rfl) ?_
      refine stage_heads [0, 1] (by kernel_rfl) (L := #[true, true, false, false, false, false, false, false, false]) (by kernel_rfl) (f' := 7) rfl (fun _ _ _ _ h => h) (fun w o h => ST.alloc h o) (.inr (by first | exact Below.refl _ _ | exact (Below.refl _ _).drew)) ?_
      simp only [List.flatMap_cons, List.flatMap_nil, List.drop_succ_cons, List.drop_zero, List.take_succ_cons, List.take_zero, List.cons_append, List.nil_append, List.append_nil]
      iterate 2 (first | (refine heads_load _ (by rfl) (fun w' hs => by obtain ⟨r0, r1, r2, r3, r4, _⟩ := X4.out.below hs; obtain ⟨q0, q1, _, _⟩ := Q4.out.below hs; go_simp; try with_reducible rfl) rfl ?_; simp only [Act.put, List.setIfInBounds_toArray, List.set_cons_zero, List.set_cons_succ]) | (refine heads_pure _ (by rfl) (fun w' => by go_simp; try with_reducible rfl) ?_; simp only [Act.put, List.setIfInBounds_toArray, List.set_cons_zero, List.set_cons_succ]))
      refine heads_nil ?_
      refine stage_op 2 (by kernel_rfl) (L := #[true, true, true, false, false, false, false, false, false]) (by kernel_rfl) ?_
      simp only [List.drop_succ_cons, List.drop_zero, List.take_succ_cons, List.take_zero]
      go_wp2_with fail; refine (HBY.out _).mono ?_; rintro e u ⟨bv, rfl, hB, hb⟩; have BU : Hid (Below w4.heap.size w4 u) := Lib.hid (by first | exact hb | exact ((Below.refl _ _).drew).trans hb); have HBB := Lib.hid hB; obtain ⟨ba, bc, rfl, _⟩ := hB.shape; clear hb hB; go_wp2_with fail
      refine step_post (fun _ => BU.out) ?_
      refine stage_op 3 (by kernel_rfl) (L := #[true, true, true, true, false, false, false, false, false]) (by kernel_rfl) ?_
      simp only [List.drop_succ_cons, List.drop_zero, List.take_succ_cons, List.take_zero]
      go_wp2_with fail
      refine (rinto_new _ _ ⟨room, L, false, armed, steps⟩ nVow nVowN bs _ (RIs.new (D := ⟨room, L, false, armed, steps⟩) HN0.out (S4.out.below BU.out)) HG.out rfl HST.out HBB.out HBS.out (by rfl) (by decide) (by decide)).mono ?_
      rintro e wr ⟨v1, rfl, hr1, hb1, hf1⟩
      have BR : Hid (Below w4.heap.size w4 wr) := Lib.hid (BU.out.trans (hb1.mono BU.out.size))
      have Xr := Lib.hid (X4.out.below BR.out)
      have Pr := Lib.hid (P4.out.below BR.out)
      have Qr := Lib.hid (Q4.out.below BR.out)
      have Zr := Lib.hid (Z4.out.below BR.out)
      have Yr := Lib.hid (Y4.out.below BR.out)
      have Br : Hid (Below w.heap.size w wr) := Lib.hid (B4.out.trans (BR.out.mono B4.out.size))
      clear hb1
      obtain ⟨r, hr⟩ : ∃ r, intoD ⟨room, L, false, armed, steps⟩ nVowN nVow bs = r := ⟨_, rfl⟩
      have HR1 := Lib.hid hr
      rw [hr] at hr1 ⊢
      obtain ⟨D1, e1⟩ := r
      simp only at hr1 ⊢
      obtain ⟨a1, c1, rfl, hs1⟩ := hr1
      obtain ⟨n1, hn1⟩ : ∃ n, D1.files.length = n := ⟨_, rfl⟩
      have HN1 := Lib.hid hn1
      rw [hn1] at hs1 hf1 ⊢
      have Sr := Lib.hid hs1
      have FO1 : Hid (∀ g, (.slice a1 n1 c1 : Value).ownBlock = some g → (.slice (some ⟨b, o, none⟩) n0 c0 : Value).ownBlock = some g ∨ w.heap.size ≤ g) := Lib.hid (fun g hg => by
        rcases hf1 g hg with h | h
        · exact FO0.out g h
        · exact .inr (by have := B4.out.size; have := BU.out.size; omega))
      clear hr hs1 hn1 hf1
      go_wp2_with fail
      refine step_post nofun ?_
      refine stage_heads [4, 5, 6] (by kernel_rfl) (L := #[true, true, true, true, true, true, true, false, false]) (by kernel_rfl) (f' := 2) rfl (fun _ _ _ _ h => h) (fun w o h => ST.alloc h o) (.inl (by kernel_rfl)) ?_
      simp only [List.flatMap_cons, List.flatMap_nil, List.drop_succ_cons, List.drop_zero, List.take_succ_cons, List.take_zero, List.cons_append, List.nil_append, List.append_nil]
      iterate 3 (refine heads_pure _ (by rfl) (fun w' => by go_simp; try with_reducible rfl) ?_; simp only [Act.put, List.setIfInBounds_toArray, List.set_cons_zero, List.set_cons_succ])
      refine heads_nil ?_
      refine stage_op 7 (by kernel_rfl) (L := #[true, true, true, true, true, true, true, true, false]) (by kernel_rfl) ?_
      simp only [List.drop_succ_cons, List.drop_zero, List.take_succ_cons, List.take_zero]
      obtain ⟨r0, r1, r2, r3, r4, f0, f1, f2, f3, f4⟩ := Xr.out
      obtain ⟨p0, p1, _, _⟩ := Pr.out
      obtain ⟨q0, q1, _, _⟩ := Qr.out
      obtain ⟨z0, z1, z2, z3, z4, g0, g1, g2, g3, g4⟩ := Zr.out
      obtain ⟨y0, y1, e0, e1⟩ := Yr.out
      have hlx := Xr.out.lt
      have hlp := Pr.out.lt
      have hlq := Qr.out.lt
      have hlz := Zr.out.lt
      have hly := Yr.out.lt
      go_wp2_with fail
      refine step_post nofun ?_
      refine stage_heads [8] (by kernel_rfl) (L := #[true, true, true, true, true, true, true, true, true]) (by kernel_rfl) (f' := 0) rfl (fun _ _ _ _ h => h) (fun w o h => ST.alloc h o) (.inl (by kernel_rfl)) ?_
      simp only [List.flatMap_cons, List.flatMap_nil, List.drop_succ_cons, List.drop_zero, List.take_succ_cons, List.take_zero, List.append_nil]
      iterate 1 (refine heads_pure _ (by rfl) (fun w' => by go_simp; try with_reducible rfl) ?_; simp only [Act.put, List.setIfInBounds_toArray, List.set_cons_zero, List.set_cons_succ])
      refine heads_nil ?_
      refine stage_done (by kernel_rfl) ?_
      have X6a := Xr.out.set D1 (.slice a1 n1 c1)
      have KS := Kept.set5D wr w.heap.size D1 (.slice a1 n1 c1)
      have P6a := Pr.out.kept KS (by omega)
      have Q6a := Qr.out.kept KS (by omega)
      have Z6a := Zr.out.kept KS (by omega)
      have Y6a := Yr.out.kept KS (by omega)
      have S6a := Sr.out.setD Xr.out (fun s e => by cases e) D1 (.slice a1 n1 c1)
      have B6a := Br.out.trans (KS.below Br.out.size (fun k hk => by omega))
      unfold set5D at X6a P6a Q6a Z6a Y6a S6a B6a
      generalize (((((wr.setCell ⟨w.heap.size, 0, none⟩ (.int .i64 D1.room)).setCell ⟨w.heap.size, 1, none⟩ (.slice a1 n1 c1)).setCell ⟨w.heap.size, 2, none⟩ (.bool D1.down)).setCell ⟨w.heap.size, 3, none⟩ (.int .i64 D1.armed)).setCell ⟨w.heap.size, 4, none⟩ (.int .u64 D1.steps)) = w6 at *
      have X6 := Lib.hid X6a
      have P6 := Lib.hid P6a
      have Q6 := Lib.hid Q6a
      have Z6 := Lib.hid Z6a
      have Y6 := Lib.hid Y6a
      have S6 := Lib.hid S6a
      have B6 := Lib.hid B6a
      clear KS X6a P6a Q6a Z6a Y6a S6a B6a
      clear r0 r1 r2 r3 r4 f0 f1 f2 f3 f4 p0 p1 q0 q1 z0 z1 z2 z3 z4 g0 g1 g2 g3 g4 y0 y1 e0 e1 hlx hlp hlq hlz hly
      have HV1 : Hid (vwriteD ⟨room, L, false, armed, steps⟩ bs = (D1, e1)) := Lib.hid (HVE.out.trans HR1.out)
      by_cases he : e1 = 0
      · subst he
        obtain rfl : t' = TT := by rw [← HTT.out, HV1.out]; exact (if_pos rfl).symm
        obtain rfl : v' = VV := by rw [← HVV.out, HV1.out]; exact (if_pos rfl).symm
        go_wp2_with fail
        obtain ⟨r0, r1, r2, r3, r4, f0, f1, f2, f3, f4⟩ := X6.out
        obtain ⟨p0, p1, _, _⟩ := P6.out
        obtain ⟨q0, q1, _, _⟩ := Q6.out
        obtain ⟨z0, z1, z2, z3, z4, g0, g1, g2, g3, g4⟩ := Z6.out
        obtain ⟨y0, y1, e0, e1⟩ := Y6.out
        have hlx := X6.out.lt
        have hlp := P6.out.lt
        have hlq := Q6.out.lt
        have hlz := Z6.out.lt
        have hly := Y6.out.lt
        have J1 : Hid (RD (set5D w6 (w.heap.size + 1 + 1 + 1) D1 (.slice a1 n1 c1)) w.heap.size D1 (.slice a1 n1 c1) ∧ SC (set5D w6 (w.heap.size + 1 + 1 + 1) D1 (.slice a1 n1 c1)) (w.heap.size + 1 + 1) t' v') := Lib.hid ⟨X6.out.kept (Kept.set5D w6 (w.heap.size + 1 + 1 + 1) D1 (.slice a1 n1 c1)) (by omega), Q6.out.kept (Kept.set5D w6 (w.heap.size + 1 + 1 + 1) D1 (.slice a1 n1 c1)) (by omega)⟩
        have J2 : Hid (RD (set5D w6 (w.heap.size + 1 + 1 + 1) D1 (.slice a1 n1 c1)).drew w.heap.size D1 (.slice a1 n1 c1) ∧ SC (set5D w6 (w.heap.size + 1 + 1 + 1) D1 (.slice a1 n1 c1)).drew (w.heap.size + 1 + 1) t' v') := Lib.hid ⟨J1.out.1.below ((Below.refl _ _).drew), J1.out.2.below ((Below.refl _ _).drew)⟩
        unfold set5D at J1 J2
        refine region_start [0, 0, 1, 7, 15] 4 (fun w' => RD w' w.heap.size D1 (.slice a1 n1 c1) ∧ SC w' (w.heap.size + 1 + 1) t' v') (by kernel_rfl) ?_
        refine stage_heads [0, 1] (by kernel_rfl) (L := #[true, true, false, false, false]) (by kernel_rfl) (f' := 3) rfl (fun _ _ _ _ h => h) (fun w o h => ⟨h.1.below ((Below.refl _ _).alloc (Nat.le_refl _) o), h.2.below ((Below.refl _ _).alloc (Nat.le_refl _) o)⟩) (.inr (by first | exact ⟨X6.out.below ((Below.refl _ _).drew), Q6.out.below ((Below.refl _ _).drew)⟩ | exact ⟨X6.out, Q6.out⟩)) ?_
        simp only [List.flatMap_cons, List.flatMap_nil, List.drop_succ_cons, List.drop_zero, List.take_succ_cons, List.take_zero, List.cons_append, List.nil_append, List.append_nil]
        iterate 2 (first | (refine heads_load _ (by rfl) (fun w' hs => by obtain ⟨⟨r0, r1, r2, r3, r4, _⟩, b0, b1, _, _⟩ := hs; go_simp; try with_reducible rfl) rfl ?_; simp only [Act.put, List.setIfInBounds_toArray, List.set_cons_zero, List.set_cons_succ]) | (refine heads_pure _ (by rfl) (fun w' => by go_simp; try with_reducible rfl) ?_; simp only [Act.put, List.setIfInBounds_toArray, List.set_cons_zero, List.set_cons_succ]))
        refine heads_nil ?_
        refine stage_op 2 (by kernel_rfl) (L := #[true, true, true, false, false]) (by kernel_rfl) ?_
        simp only [List.drop_succ_cons, List.drop_zero, List.take_succ_cons, List.take_zero]
        go_wp2_with fail
        refine step_post (fun _ => (by first | exact J2.out | exact J1.out)) ?_
        refine stage_op 3 (by kernel_rfl) (L := #[true, true, true, true, false]) (by kernel_rfl) ?_
        simp only [List.drop_succ_cons, List.drop_zero, List.take_succ_cons, List.take_zero]
        go_wp2_with fail
        refine step_post nofun ?_
        refine stage_heads [4] (by kernel_rfl) (L := #[true, true, true, true, true]) (by kernel_rfl) (f' := 0) rfl (fun _ _ _ _ h => h) (fun w o h => ⟨h.1.below ((Below.refl _ _).alloc (Nat.le_refl _) o), h.2.below ((Below.refl _ _).alloc (Nat.le_refl _) o)⟩) (.inl (by kernel_rfl)) ?_
        simp only [List.flatMap_cons, List.flatMap_nil, List.drop_succ_cons, List.drop_zero, List.take_succ_cons, List.take_zero, List.append_nil]
        iterate 1 (refine heads_pure _ (by rfl) (fun w' => by go_simp; try with_reducible rfl) ?_; simp only [Act.put, List.setIfInBounds_toArray, List.set_cons_zero, List.set_cons_succ])
        refine heads_nil ?_
        refine stage_done (by kernel_rfl) ?_
        generalize hwz : World.drew _ = wz
        have W1 : wz = ((((((((w6.setCell ⟨(w.heap.size + 1 + 1 + 1), 0, none⟩ (.int .i64 D1.room)).setCell ⟨(w.heap.size + 1 + 1 + 1), 1, none⟩ (.slice a1 n1 c1)).setCell ⟨(w.heap.size + 1 + 1 + 1), 2, none⟩ (.bool D1.down)).setCell ⟨(w.heap.size + 1 + 1 + 1), 3, none⟩ (.int .i64 D1.armed)).setCell ⟨(w.heap.size + 1 + 1 + 1), 4, none⟩ (.int .u64 D1.steps))).setCell ⟨(w.heap.size + 1 + 1 + 1 + 1), 0, none⟩ (.int .u64 t')).setCell ⟨(w.heap.size + 1 + 1 + 1 + 1), 1, none⟩ (.int .i64 v')).drew := hwz.symm
        have KS := Kept.set5D w6 (w.heap.size + 1 + 1 + 1) D1 (.slice a1 n1 c1)
        have RFF := (Z6.out.set D1 (.slice a1 n1 c1))
        have YS := Y6.out.kept KS (by omega)
        have SS := S6.out.setD Z6.out (fun s e => by cases e) D1 (.slice a1 n1 c1)
        have RFG0 := (RFF.kept (Kept.set2 _ (w.heap.size + 1 + 1 + 1 + 1) (.int .u64 t') (.int .i64 v')) (by omega)).below ((Below.refl _ _).drew)
        have RFY0 := (YS.set t' v').below ((Below.refl _ _).drew)
        have SF0 := (SS.setSC YS (.int .u64 t') (.int .i64 v')).below ((Below.refl _ _).drew)
        have BF0 := B6.out.trans (KS.below B6.out.size (fun k hk => by omega))
        have BF1 := (BF0.trans ((Kept.set2 _ (w.heap.size + 1 + 1 + 1 + 1) (.int .u64 t') (.int .i64 v')).below BF0.size (fun k hk => by omega))).drew
        unfold set5D at RFG0 RFY0 SF0 BF1
        rw [← W1] at RFG0 RFY0 SF0 BF1
        have RFG := Lib.hid RFG0
        have RFY := Lib.hid RFY0
        have SF := Lib.hid SF0
        have BF := Lib.hid BF1
        clear KS RFF YS SS RFG0 RFY0 SF0 BF0 BF1 W1 hwz
        clear r0 r1 r2 r3 r4 f0 f1 f2 f3 f4 p0 p1 q0 q1 z0 z1 z2 z3 z4 g0 g1 g2 g3 g4 y0 y1 e0 e1 hlx hlp hlq hlz hly
        obtain ⟨q0, q1, q2, q3, q4, _⟩ := RFG.out
        obtain ⟨u0, u1, _, _⟩ := RFY.out
        go_wp2_with fail
        refine bodyPost_ret (v := .tuple #[.agg #[.int .i64 D1.room, .slice a1 n1 c1, .bool D1.down, .int .i64 D1.armed, .int .u64 D1.steps], .agg #[.int .u64 t', .int .i64 v'], .int .i64 0]) (by simp [results, Tryz.results66, go_sem, q0, q1, q2, q3, q4, u0, u1]) rfl ?_
        rw [HV1.out]
        exact ⟨_, rfl, RIs.new (D := D1) HN1.out SF.out, BF.out, FO1.out⟩
      · have hbq : ((e1 : Int) != 0) = true := bne_iff_ne.2 (by omega)
        have hb0 : ((e1 : Int) == 0) = false := beq_eq_false_iff_ne.2 (by omega)
        obtain rfl : t = TT := by rw [← HTT.out, HV1.out]; exact (if_neg he).symm
        obtain rfl : v = VV := by rw [← HVV.out, HV1.out]; exact (if_neg he).symm
        clear he
        go_wp2_with fail
        obtain ⟨r0, r1, r2, r3, r4, f0, f1, f2, f3, f4⟩ := X6.out
        obtain ⟨p0, p1, _, _⟩ := P6.out
        obtain ⟨q0, q1, _, _⟩ := Q6.out
        obtain ⟨z0, z1, z2, z3, z4, g0, g1, g2, g3, g4⟩ := Z6.out
        obtain ⟨y0, y1, e0, e1⟩ := Y6.out
        have hlx := X6.out.lt
        have hlp := P6.out.lt
        have hlq := Q6.out.lt
        have hlz := Z6.out.lt
        have hly := Y6.out.lt
        have J1 : Hid (RD (set5D w6 (w.heap.size + 1 + 1 + 1) D1 (.slice a1 n1 c1)) w.heap.size D1 (.slice a1 n1 c1) ∧ SC (set5D w6 (w.heap.size + 1 + 1 + 1) D1 (.slice a1 n1 c1)) (w.heap.size + 1) t v) := Lib.hid ⟨X6.out.kept (Kept.set5D w6 (w.heap.size + 1 + 1 + 1) D1 (.slice a1 n1 c1)) (by omega), P6.out.kept (Kept.set5D w6 (w.heap.size + 1 + 1 + 1) D1 (.slice a1 n1 c1)) (by omega)⟩
        have J2 : Hid (RD (set5D w6 (w.heap.size + 1 + 1 + 1) D1 (.slice a1 n1 c1)).drew w.heap.size D1 (.slice a1 n1 c1) ∧ SC (set5D w6 (w.heap.size + 1 + 1 + 1) D1 (.slice a1 n1 c1)).drew (w.heap.size + 1) t v) := Lib.hid ⟨J1.out.1.below ((Below.refl _ _).drew), J1.out.2.below ((Below.refl _ _).drew)⟩
        unfold set5D at J1 J2
        refine region_start [0, 0, 0, 1, 11, 31] 8 (fun w' => RD w' w.heap.size D1 (.slice a1 n1 c1) ∧ SC w' (w.heap.size + 1) t v) (by kernel_rfl) ?_
        refine stage_heads [0, 1, 2] (by kernel_rfl) (L := #[true, true, true, false, false, false]) (by kernel_rfl) (f' := 3) rfl (fun _ _ _ _ h => h) (fun w o h => ⟨h.1.below ((Below.refl _ _).alloc (Nat.le_refl _) o), h.2.below ((Below.refl _ _).alloc (Nat.le_refl _) o)⟩) (.inr (by first | exact ⟨X6.out.below ((Below.refl _ _).drew), P6.out.below ((Below.refl _ _).drew)⟩ | exact ⟨X6.out, P6.out⟩)) ?_
        simp only [List.flatMap_cons, List.flatMap_nil, List.drop_succ_cons, List.drop_zero, List.take_succ_cons, List.take_zero, List.cons_append, List.nil_append, List.append_nil]
        iterate 3 (first | (refine heads_load _ (by rfl) (fun w' hs => by obtain ⟨⟨r0, r1, r2, r3, r4, _⟩, b0, b1, _, _⟩ := hs; go_simp; try with_reducible rfl) rfl ?_; simp only [Act.put, List.setIfInBounds_toArray, List.set_cons_zero, List.set_cons_succ]) | (refine heads_pure _ (by rfl) (fun w' => by go_simp; try with_reducible rfl) ?_; simp only [Act.put, List.setIfInBounds_toArray, List.set_cons_zero, List.set_cons_succ]))
        refine heads_nil ?_
        refine stage_op 3 (by kernel_rfl) (L := #[true, true, true, true, false, false]) (by kernel_rfl) ?_
        simp only [List.drop_succ_cons, List.drop_zero, List.take_succ_cons, List.take_zero]
        go_wp2_with fail
        refine step_post (fun _ => (by first | exact J2.out | exact J1.out)) ?_
        refine stage_op 4 (by kernel_rfl) (L := #[true, true, true, true, true, false]) (by kernel_rfl) ?_
        simp only [List.drop_succ_cons, List.drop_zero, List.take_succ_cons, List.take_zero]
        go_wp2_with fail
        refine step_post nofun ?_
        refine stage_heads [5] (by kernel_rfl) (L := #[true, true, true, true, true, true]) (by kernel_rfl) (f' := 0) rfl (fun _ _ _ _ h => h) (fun w o h => ⟨h.1.below ((Below.refl _ _).alloc (Nat.le_refl _) o), h.2.below ((Below.refl _ _).alloc (Nat.le_refl _) o)⟩) (.inl (by kernel_rfl)) ?_
        simp only [List.flatMap_cons, List.flatMap_nil, List.drop_succ_cons, List.drop_zero, List.take_succ_cons, List.take_zero, List.append_nil]
        iterate 1 (refine heads_pure _ (by rfl) (fun w' => by go_simp; try with_reducible rfl) ?_; simp only [Act.put, List.setIfInBounds_toArray, List.set_cons_zero, List.set_cons_succ])
        refine heads_nil ?_
        refine stage_done (by kernel_rfl) ?_
        generalize hwz : World.drew _ = wz
        have W1 : wz = ((((((((w6.setCell ⟨(w.heap.size + 1 + 1 + 1), 0, none⟩ (.int .i64 D1.room)).setCell ⟨(w.heap.size + 1 + 1 + 1), 1, none⟩ (.slice a1 n1 c1)).setCell ⟨(w.heap.size + 1 + 1 + 1), 2, none⟩ (.bool D1.down)).setCell ⟨(w.heap.size + 1 + 1 + 1), 3, none⟩ (.int .i64 D1.armed)).setCell ⟨(w.heap.size + 1 + 1 + 1), 4, none⟩ (.int .u64 D1.steps))).setCell ⟨(w.heap.size + 1 + 1 + 1 + 1), 0, none⟩ (.int .u64 t)).setCell ⟨(w.heap.size + 1 + 1 + 1 + 1), 1, none⟩ (.int .i64 v)).drew := hwz.symm
        have KS := Kept.set5D w6 (w.heap.size + 1 + 1 + 1) D1 (.slice a1 n1 c1)
        have RFF := (Z6.out.set D1 (.slice a1 n1 c1))
        have YS := Y6.out.kept KS (by omega)
        have SS := S6.out.setD Z6.out (fun s e => by cases e) D1 (.slice a1 n1 c1)
        have RFG0 := (RFF.kept (Kept.set2 _ (w.heap.size + 1 + 1 + 1 + 1) (.int .u64 t) (.int .i64 v)) (by omega)).below ((Below.refl _ _).drew)
        have RFY0 := (YS.set t v).below ((Below.refl _ _).drew)
        have SF0 := (SS.setSC YS (.int .u64 t) (.int .i64 v)).below ((Below.refl _ _).drew)
        have BF0 := B6.out.trans (KS.below B6.out.size (fun k hk => by omega))
        have BF1 := (BF0.trans ((Kept.set2 _ (w.heap.size + 1 + 1 + 1 + 1) (.int .u64 t) (.int .i64 v)).below BF0.size (fun k hk => by omega))).drew
        unfold set5D at RFG0 RFY0 SF0 BF1
        rw [← W1] at RFG0 RFY0 SF0 BF1
        have RFG := Lib.hid RFG0
        have RFY := Lib.hid RFY0
        have SF := Lib.hid SF0
        have BF := Lib.hid BF1
        clear KS RFF YS SS RFG0 RFY0 SF0 BF0 BF1 W1 hwz
        clear r0 r1 r2 r3 r4 f0 f1 f2 f3 f4 p0 p1 q0 q1 z0 z1 z2 z3 z4 g0 g1 g2 g3 g4 y0 y1 e0 e1 hlx hlp hlq hlz hly
        obtain ⟨q0, q1, q2, q3, q4, _⟩ := RFG.out
        obtain ⟨u0, u1, _, _⟩ := RFY.out
        go_wp2_with fail
        refine bodyPost_ret (v := .tuple #[.agg #[.int .i64 D1.room, .slice a1 n1 c1, .bool D1.down, .int .i64 D1.armed, .int .u64 D1.steps], .agg #[.int .u64 t, .int .i64 v], .int .i64 (e1 : Nat)]) (by simp [results, Tryz.results66, go_sem, q0, q1, q2, q3, q4, u0, u1]) rfl ?_
        rw [HV1.out]
        exact ⟨_, rfl, RIs.new (D := D1) HN1.out SF.out, BF.out, FO1.out⟩
theorem rkeep_any (vd : Value) (D : DiskS) (t v t' v' : Int) (w : World) (h : RIs w vd D) (hg : DGood D) (ht0 : 0 ≤ t') (hst : D.steps + 4 ≤ 1000000000) :
    Calls Tryz.prog 66 #[vd, .agg #[.int .u64 t, .int .i64 v], .agg #[.int .u64 t', .int .i64 v']] w (RKeep (keepD D t v t' v') (if (keepD D t v t' v').2 = 0 then t' else t) (if (keepD D t v t' v').2 = 0 then v' else v) vd w) := by
  obtain ⟨a, c, rfl, hr⟩ := h
  obtain ⟨room, L, down, armed, steps⟩ := D
  have hfew : L.length ≤ 1000 := by have := hg.few; simp only at this; omega
  simp only at hr ⊢
  unfold keepD
  cases hsn : vSnd t' v'
  · rw [if_pos rfl]
    exact rkeep_bad a _ c down room L armed steps t v t' v' w rfl hr hsn
  · rw [if_neg (by decide)]
    cases hmy : vMy t v t' v'
    · rw [if_pos rfl]
      exact rkeep_old a _ c down room L armed steps t v t' v' w rfl hr hsn hmy
    · rw [if_neg (by decide)]
      by_cases he : t' = t ∧ v' = v
      · rw [if_pos he]
        obtain ⟨rfl, rfl⟩ := he
        exact rkeep_same a _ c down room L armed steps t' v' w rfl hr hsn hmy
      · rw [if_neg he]
        cases down
        · exact rkeep_new a _ c room L armed steps t v t' v' w rfl hr hsn hmy (fun h => he ⟨h.1.symm, h.2.symm⟩) hfew ht0 hg hst _ _ rfl rfl
        · have hv : vwriteD ⟨room, L, true, armed, steps⟩ (frP 3 (numsW [t'.toNat, (v' + 1).toNat])) = (⟨room, L, true, armed, steps⟩, 50) := by unfold vwriteD; rw [if_pos rfl]
          rw [hv]
          exact rkeep_down a _ c room L armed steps t v t' v' w rfl hr hsn hmy (fun h => he ⟨h.1.symm, h.2.symm⟩) hfew
end Go.Proofs.YtofhccpagnkalaaGreat
