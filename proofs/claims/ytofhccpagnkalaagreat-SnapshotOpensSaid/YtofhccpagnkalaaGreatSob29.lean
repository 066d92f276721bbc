/- Several texts in one: Ru, Sgt, Fl, Sm, Voa, Dst. What each proves stands ahead of it; together they serve sopens_law_holds. No conditions but those stated. -/
import Derived.Test.YtofhccpagnkalaaGreatSob11
import Derived.Test.YtofhccpagnkalaaGreatSob28
import Derived.Test.YtofhccpagnkalaaGreatSob25
import Derived.Test.YtofhccpagnkalaaGreatSob27
import Derived.Test.YtofhccpagnkalaaGreatSob12
import Derived.Test.YtofhccpagnkalaaGreatSob2
/- The document's Open of the snapshot, where the power stays; contracts; no conditions but the ranges. -/
namespace Go.Proofs.YtofhccpagnkalaaGreat
open Go.RowKit Go.Maps Go.Proofs.Own

theorem readS_no {m : Nat} {l : List Nat} (h : readB m l = false) : readS m l = zeroS := if_neg (of_decide_eq_false h)
theorem SRow.setSn {w : World} {b : Nat} {i t : Int} {p q : Option Addr} {n1 c1 n2 c2 : Nat} {a : Option Addr} {n c : Nat} {L : List FileS} (h : SRow w 3 (.slice a n c) (L.map rfV)) (k : SBlk w b i t (.slice p n1 c1) (.slice q n2 c2)) (i' t' : Int) (mv' dv' : Value) : SRow ((((w.setCell ⟨b, 0, none⟩ (.int .u64 i')).setCell ⟨b, 1, none⟩ (.int .u64 t')).setCell ⟨b, 2, none⟩ mv').setCell ⟨b, 3, none⟩ dv') 3 (.slice a n c) (L.map rfV) := by
  refine h.far (N := 4) (b := b) (fun i hi => ?_) (fun g i hg => ?_) (Kept.set4 w b i' t' mv' dv').size
  · match i, hi with
    | 0, _ => exact ⟨_, k.c0, fun s e => by cases e⟩
    | 1, _ => exact ⟨_, k.c1, fun s e => by cases e⟩
    | 2, _ => exact ⟨_, k.c2, fun s e => by cases e⟩
    | 3, _ => exact ⟨_, k.c3, fun s e => by cases e⟩
  · have hne : ∀ j, j < 4 → (⟨b, j, none⟩ : Addr) ≠ ⟨g, i, none⟩ := by
      intro j hj e
      simp only [Addr.mk.injEq, and_true] at e
      have := hg e.1.symm
      omega
    rw [World.cell?_setCell_other _ _ _ _ (hne 3 (by omega)), World.cell?_setCell_other _ _ _ _ (hne 2 (by omega)), World.cell?_setCell_other _ _ _ _ (hne 1 (by omega)), World.cell?_setCell_other _ _ _ _ (hne 0 (by omega))]
theorem gone27_calm {D : DiskS} (h : Calm D) : (goneD D).2 = 0 ∧ Calm (goneD D).1 := by
  unfold goneD removeD
  cases e : findFile nOther D.files with
  | none =>
    simp only
    rw [fileE_31 h.1 e]
    exact ⟨rfl, h⟩
  | some f =>
    have hr : removeD D nOther = ({ stepD D with files := delFile nOther D.files }, 0) := by
      unfold removeD
      rw [e]
      simp only
      rw [if_neg (by rw [h.1]; decide), if_neg (by rw [h.2]; decide)]
    have h2 := h.step (delFile nOther D.files)
    unfold removeD at hr
    rw [e] at hr
    simp only at hr ⊢
    rw [hr]
    exact ⟨rfl, h2⟩
/-- The snapshot that Open tells. -/
def openS27 (D : DiskS) : SnapS := if sopenE D = 0 then sopenS D else zeroS
/-- What Open of the snapshot tells, where the power stays. -/
def ROpen27 (D : DiskS) (v0 : Value) (w : World) : Ending → World → Prop := fun e w' => ∃ v' i t mv dv, e = .returned (.tuple #[v', .agg #[.int .u64 i, .int .u64 t, mv, dv], .int .i64 (sopenE D)]) ∧ RIs w' v' (goneD D).1 ∧ SnapIs w' (.agg #[.int .u64 i, .int .u64 t, mv, dv]) (openS27 D) ∧ Below w.heap.size w w' ∧ (∀ g, fsOwn v' = some g → fsOwn v0 = some g ∨ w.heap.size ≤ g) ∧ NewRows w.heap.size (.agg #[.int .u64 i, .int .u64 t, mv, dv])

set_option maxHeartbeats 4000000 in
set_option maxRecDepth 20000 in
theorem ropen27_any (v : Value) (D : DiskS) (w : World) (h : RIs w v D) (hg : DGood D) (hc : Calm D) (hs : D.steps + 1 ≤ 1000000000) (hb : Byt8 D.files) : Calls Tryz.prog 13 #[v] w (ROpen27 D v w) := by
  obtain ⟨a, c, rfl, hr⟩ := h
  obtain ⟨room, L, down, armed, steps⟩ := D
  obtain ⟨hc1, hc2⟩ := hc
  simp only at hr hc1 hc2 hs hb ⊢
  subst hc1 hc2
  have HG := Lib.hid hg
  have HS := Lib.hid hs
  have HB8 := Lib.hid hb
  obtain ⟨n, hn⟩ : ∃ k, L.length = k := ⟨_, rfl⟩
  have HN := Lib.hid hn
  rw [hn] at hr ⊢
  have HR := Lib.hid hr
  have HF0 : Hid (L.length ≤ 1000) := Lib.hid (by have h := hg.few; simp only at h; omega)
  clear hr hn hg hs hb
  have hz1 : (w.alloc (.cells #[.int .i64 room, .slice a n c, .bool false, .int .i64 (-1), .int .u64 steps] 29)).heap.size = w.heap.size + 1 := by simp
  have hz2 : ((w.alloc (.cells #[.int .i64 room, .slice a n c, .bool false, .int .i64 (-1), .int .u64 steps] 29)).alloc (.cells #[.int .i64 0, .slice none 0 0, .bool false, .int .i64 0, .int .u64 0] 29)).heap.size = w.heap.size + 1 + 1 := by simp
  have hz3 : (((w.alloc (.cells #[.int .i64 room, .slice a n c, .bool false, .int .i64 (-1), .int .u64 steps] 29)).alloc (.cells #[.int .i64 0, .slice none 0 0, .bool false, .int .i64 0, .int .u64 0] 29)).alloc (.cells #[.int .u64 0, .int .u64 0, .slice none 0 0, .slice none 0 0] 40)).heap.size = w.heap.size + 1 + 1 + 1 := by simp
  have BX : RD ((((w.alloc (.cells #[.int .i64 room, .slice a n c, .bool false, .int .i64 (-1), .int .u64 steps] 29)).alloc (.cells #[.int .i64 0, .slice none 0 0, .bool false, .int .i64 0, .int .u64 0] 29)).alloc (.cells #[.int .u64 0, .int .u64 0, .slice none 0 0, .slice none 0 0] 40)).alloc (.cells #[.int .u64 0, .int .u64 0, .slice none 0 0, .slice none 0 0] 40)) w.heap.size ⟨room, L, false, -1, steps⟩ (.slice a n c) := (((RD.box w ⟨room, L, false, -1, steps⟩ (.slice a n c)).below ((Below.refl _ _).alloc (Nat.le_refl _) _)).below ((Below.refl _ _).alloc (Nat.le_refl _) _)).below ((Below.refl _ _).alloc (Nat.le_refl _) _)
  have BZ : RD ((((w.alloc (.cells #[.int .i64 room, .slice a n c, .bool false, .int .i64 (-1), .int .u64 steps] 29)).alloc (.cells #[.int .i64 0, .slice none 0 0, .bool false, .int .i64 0, .int .u64 0] 29)).alloc (.cells #[.int .u64 0, .int .u64 0, .slice none 0 0, .slice none 0 0] 40)).alloc (.cells #[.int .u64 0, .int .u64 0, .slice none 0 0, .slice none 0 0] 40)) (w.heap.size + 1) zeroD (.slice none 0 0) := by
    have h := ((RD.zero (w.alloc (.cells #[.int .i64 room, .slice a n c, .bool false, .int .i64 (-1), .int .u64 steps] 29))).below ((Below.refl _ _).alloc (Nat.le_refl _) _)).below ((Below.refl _ _).alloc (Nat.le_refl _) _) (w' := ((((w.alloc (.cells #[.int .i64 room, .slice a n c, .bool false, .int .i64 (-1), .int .u64 steps] 29)).alloc (.cells #[.int .i64 0, .slice none 0 0, .bool false, .int .i64 0, .int .u64 0] 29)).alloc (.cells #[.int .u64 0, .int .u64 0, .slice none 0 0, .slice none 0 0] 40)).alloc (.cells #[.int .u64 0, .int .u64 0, .slice none 0 0, .slice none 0 0] 40)))
    rw [hz1] at h
    exact h
  have BY : SBlk ((((w.alloc (.cells #[.int .i64 room, .slice a n c, .bool false, .int .i64 (-1), .int .u64 steps] 29)).alloc (.cells #[.int .i64 0, .slice none 0 0, .bool false, .int .i64 0, .int .u64 0] 29)).alloc (.cells #[.int .u64 0, .int .u64 0, .slice none 0 0, .slice none 0 0] 40)).alloc (.cells #[.int .u64 0, .int .u64 0, .slice none 0 0, .slice none 0 0] 40)) (w.heap.size + 1 + 1) 0 0 (.slice none 0 0) (.slice none 0 0) := by
    have h := (SBlk.new ((w.alloc (.cells #[.int .i64 room, .slice a n c, .bool false, .int .i64 (-1), .int .u64 steps] 29)).alloc (.cells #[.int .i64 0, .slice none 0 0, .bool false, .int .i64 0, .int .u64 0] 29))).below ((Below.refl _ _).alloc (Nat.le_refl _) _) (w' := ((((w.alloc (.cells #[.int .i64 room, .slice a n c, .bool false, .int .i64 (-1), .int .u64 steps] 29)).alloc (.cells #[.int .i64 0, .slice none 0 0, .bool false, .int .i64 0, .int .u64 0] 29)).alloc (.cells #[.int .u64 0, .int .u64 0, .slice none 0 0, .slice none 0 0] 40)).alloc (.cells #[.int .u64 0, .int .u64 0, .slice none 0 0, .slice none 0 0] 40)))
    rw [hz2] at h
    exact h
  have BN : SBlk ((((w.alloc (.cells #[.int .i64 room, .slice a n c, .bool false, .int .i64 (-1), .int .u64 steps] 29)).alloc (.cells #[.int .i64 0, .slice none 0 0, .bool false, .int .i64 0, .int .u64 0] 29)).alloc (.cells #[.int .u64 0, .int .u64 0, .slice none 0 0, .slice none 0 0] 40)).alloc (.cells #[.int .u64 0, .int .u64 0, .slice none 0 0, .slice none 0 0] 40)) (w.heap.size + 1 + 1 + 1) 0 0 (.slice none 0 0) (.slice none 0 0) := by
    have h := SBlk.new (((w.alloc (.cells #[.int .i64 room, .slice a n c, .bool false, .int .i64 (-1), .int .u64 steps] 29)).alloc (.cells #[.int .i64 0, .slice none 0 0, .bool false, .int .i64 0, .int .u64 0] 29)).alloc (.cells #[.int .u64 0, .int .u64 0, .slice none 0 0, .slice none 0 0] 40))
    rw [hz3] at h
    exact h
  have BB : Below w.heap.size w ((((w.alloc (.cells #[.int .i64 room, .slice a n c, .bool false, .int .i64 (-1), .int .u64 steps] 29)).alloc (.cells #[.int .i64 0, .slice none 0 0, .bool false, .int .i64 0, .int .u64 0] 29)).alloc (.cells #[.int .u64 0, .int .u64 0, .slice none 0 0, .slice none 0 0] 40)).alloc (.cells #[.int .u64 0, .int .u64 0, .slice none 0 0, .slice none 0 0] 40)) := (((Below.refl _ _).alloc (Nat.le_refl _) _).alloc (by simp) _).alloc (by simp; omega) _ |>.alloc (by simp; omega) _
  clear hz1 hz2 hz3
  go_enter Tryz.func13, Tryz.ntmps13
  go_wp2_with fail
  generalize World.alloc (World.alloc (World.alloc (World.alloc w _) _) _) _ = w1 at *
  have X1 := Lib.hid BX
  have Z1 := Lib.hid BZ
  have Y1 := Lib.hid BY
  have N1 := Lib.hid BN
  have B1 := Lib.hid BB
  clear BX BZ BY BN BB
  refine (rfind_any _ ⟨room, L, false, -1, steps⟩ nOther w1 (RIs.new (D := ⟨room, L, false, -1, steps⟩) HN.out (HR.out.below B1.out)) HF0.out).mono ?_
  rintro e w2 ⟨rfl, hb2⟩
  cases hf : findFile nOther L with
  | none =>
    have X2 := Lib.hid (X1.out.below hb2)
    have Z2 := Lib.hid (Z1.out.below hb2)
    have Y2 := Lib.hid (Y1.out.below hb2)
    have N2 := Lib.hid (N1.out.below hb2)
    have B2 : Hid (Below w.heap.size w w2) := Lib.hid (B1.out.trans (hb2.mono B1.out.size))
    have S2 : Hid (SRow w2 3 (.slice a n c) (L.map rfV)) := Lib.hid (HR.out.below B2.out)
    have hI : findI nOther L = -1 := findI_none.2 hf
    have HGO0 : goneD ⟨room, L, false, -1, steps⟩ = (⟨room, L, false, -1, steps⟩, 0) := by unfold goneD removeD; rw [show findFile nOther (⟨room, L, false, -1, steps⟩ : DiskS).files = none from hf]; simp only; rw [fileE_31 rfl hf]; rfl
    rw [hI]
    clear hf hI hb2 X1 Z1 Y1 N1 B1
    obtain ⟨D1, hD1⟩ : ∃ D1, D1 = (⟨room, L, false, -1, steps⟩ : DiskS) := ⟨_, rfl⟩
    have HGO : Hid ((goneD ⟨room, L, false, -1, steps⟩).1 = D1) := Lib.hid (by rw [HGO0, hD1])
    have HGO2 : Hid ((goneD ⟨room, L, false, -1, steps⟩).2 = 0) := Lib.hid (by rw [HGO0])
    have G1 : Hid (DGood D1) := Lib.hid (by rw [hD1]; exact HG.out)
    have B81 : Hid (Byt8 D1.files) := Lib.hid (by rw [hD1]; exact HB8.out)
    have HN2 : Hid (D1.files.length = n) := Lib.hid (by rw [hD1]; exact HN.out)
    have S2' : Hid (SRow w2 3 (.slice a n c) (D1.files.map rfV)) := Lib.hid (by rw [hD1]; exact S2.out)
    have X2' : Hid (RD w2 w.heap.size D1 (.slice a n c)) := Lib.hid (by rw [hD1]; exact X2.out)
    have FOW : Hid (∀ g, fsOwn (.agg #[.int .i64 D1.room, .slice a n c, .bool D1.down, .int .i64 D1.armed, .int .u64 D1.steps]) = some g → fsOwn (.agg #[.int .i64 room, .slice a n c, .bool false, .int .i64 (-1), .int .u64 steps]) = some g ∨ w.heap.size ≤ g) := Lib.hid (fun g hg => .inl hg)
    clear S2 X2 HGO0 hD1
    have S2 := S2'
    have X2 := X2'
    clear S2' X2'
    obtain ⟨r0, r1, r2, r3, r4, f0, f1, f2, f3, f4⟩ := X2.out
    obtain ⟨z0, z1, z2, z3, z4, g0, g1, g2, g3, g4⟩ := Z2.out
    obtain ⟨y0, y1, y2, y3, e0, e1, e2, e3⟩ := Y2.out
    obtain ⟨n0, n1, n2, n3, _, _, _, _⟩ := N2.out
    have hlx := X2.out.lt
    have hlz := Z2.out.lt
    have hly := Y2.out.lt
    have hln := N2.out.lt
    go_wp2_with fail
    clear r0 r1 r2 r3 r4 f0 f1 f2 f3 f4 z0 z1 z2 z3 z4 g0 g1 g2 g3 g4 y0 y1 y2 y3 e0 e1 e2 e3 n0 n1 n2 n3 hlx hlz hly hln
    have HF1 : Hid (D1.files.length ≤ 1000) := Lib.hid (by have h := G1.out.few; omega)
    refine (rfind_any _ D1 nSnap w2 (RIs.new HN2.out S2.out) HF1.out).mono ?_
    rintro e w2f ⟨rfl, hb2f⟩
    have X2f := Lib.hid (X2.out.below hb2f)
    have Z2f := Lib.hid (Z2.out.below hb2f)
    have Y2f := Lib.hid (Y2.out.below hb2f)
    have N2f := Lib.hid (N2.out.below hb2f)
    have B2f : Hid (Below w.heap.size w w2f) := Lib.hid (B2.out.trans (hb2f.mono B2.out.size))
    have S2f := Lib.hid (S2.out.below hb2f)
    clear hb2f
    clear X2 Z2 Y2 N2 B2 S2
    cases hf : findFile nSnap D1.files with
    | none =>
      have hI : findI nSnap D1.files = -1 := findI_none.2 hf
      have HVE : Hid (sopenE ⟨room, L, false, -1, steps⟩ = 0) := Lib.hid (by unfold sopenE; rw [HGO2.out, if_neg (by simp), HGO.out, if_pos hf])
      have HVS : Hid (openS27 ⟨room, L, false, -1, steps⟩ = zeroS) := Lib.hid (by unfold openS27; rw [HVE.out, if_pos rfl]; unfold sopenS; rw [HGO.out, if_pos hf])
      rw [hI]
      clear hf hI
      obtain ⟨r0, r1, r2, r3, r4, f0, f1, f2, f3, f4⟩ := X2f.out
      obtain ⟨z0, z1, z2, z3, z4, g0, g1, g2, g3, g4⟩ := Z2f.out
      obtain ⟨y0, y1, y2, y3, e0, e1, e2, e3⟩ := Y2f.out
      obtain ⟨n0, n1, n2, n3, _, _, _, _⟩ := N2f.out
      have hlx := X2f.out.lt
      have hlz := Z2f.out.lt
      have hly := Y2f.out.lt
      have hln := N2f.out.lt
      have HBN : Hid (w.heap.size + 1 < (w.heap.size + 1 + 1 + 1)) := Lib.hid (by omega)
      have J1 : Hid (RD (set5D w2f (w.heap.size + 1) D1 (.slice a n c)) w.heap.size D1 (.slice a n c) ∧ SBlk (set5D w2f (w.heap.size + 1) D1 (.slice a n c)) (w.heap.size + 1 + 1 + 1) 0 0 (.slice none 0 0) (.slice none 0 0)) := Lib.hid ⟨X2f.out.kept (Kept.set5D w2f (w.heap.size + 1) D1 (.slice a n c)) (by omega), N2f.out.kept (Kept.set5D w2f (w.heap.size + 1) D1 (.slice a n c)) (by have := HBN.out; omega)⟩
      have J2 : Hid (RD (set5D w2f (w.heap.size + 1) D1 (.slice a n c)).drew w.heap.size D1 (.slice a n c) ∧ SBlk (set5D w2f (w.heap.size + 1) D1 (.slice a n c)).drew (w.heap.size + 1 + 1 + 1) 0 0 (.slice none 0 0) (.slice none 0 0)) := Lib.hid ⟨J1.out.1.below ((Below.refl _ _).drew), J1.out.2.below ((Below.refl _ _).drew)⟩
      unfold set5D at J1 J2
      go_wp2_with fail
      refine region_start [0, 0, 1, 7, 15] 4 (fun w' => RD w' w.heap.size D1 (.slice a n c) ∧ SBlk w' (w.heap.size + 1 + 1 + 1) 0 0 (.slice none 0 0) (.slice none 0 0)) (by kernel_rfl) ?_
      refine stage_heads [0, 1] (by kernel_rfl) (L := #[true, true, false, false, false]) (by kernel_rfl) (f' := 3) rfl (fun _ _ _ _ h => h) (fun w o h => ⟨h.1.below ((Below.refl _ _).alloc (Nat.le_refl _) o), h.2.below ((Below.refl _ _).alloc (Nat.le_refl _) o)⟩) (.inr (by first | exact ⟨X2f.out.below ((Below.refl _ _).drew), N2f.out.below ((Below.refl _ _).drew)⟩ | exact ⟨X2f.out, N2f.out⟩)) ?_
      simp only [List.flatMap_cons, List.flatMap_nil, List.drop_succ_cons, List.drop_zero, List.take_succ_cons, List.take_zero, List.cons_append, List.nil_append, List.append_nil]
      iterate 2 (first | (refine heads_load _ (by rfl) (fun w' hs => by obtain ⟨⟨r0, r1, r2, r3, r4, _⟩, b0, b1, b2, b3, _⟩ := hs; go_simp; try with_reducible rfl) rfl ?_; simp only [Act.put, List.setIfInBounds_toArray, List.set_cons_zero, List.set_cons_succ]) | (refine heads_pure _ (by rfl) (fun w' => by go_simp; try with_reducible rfl) ?_; simp only [Act.put, List.setIfInBounds_toArray, List.set_cons_zero, List.set_cons_succ]))
      refine heads_nil ?_
      refine stage_op 2 (by kernel_rfl) (L := #[true, true, true, false, false]) (by kernel_rfl) ?_
      simp only [List.drop_succ_cons, List.drop_zero, List.take_succ_cons, List.take_zero]
      go_wp2_with fail
      refine step_post (fun _ => (by first | exact J2.out | exact J1.out)) ?_
      refine stage_op 3 (by kernel_rfl) (L := #[true, true, true, true, false]) (by kernel_rfl) ?_
      simp only [List.drop_succ_cons, List.drop_zero, List.take_succ_cons, List.take_zero]
      go_wp2_with fail
      refine step_post nofun ?_
      refine stage_heads [4] (by kernel_rfl) (L := #[true, true, true, true, true]) (by kernel_rfl) (f' := 0) rfl (fun _ _ _ _ h => h) (fun w o h => ⟨h.1.below ((Below.refl _ _).alloc (Nat.le_refl _) o), h.2.below ((Below.refl _ _).alloc (Nat.le_refl _) o)⟩) (.inl (by kernel_rfl)) ?_
      simp only [List.flatMap_cons, List.flatMap_nil, List.drop_succ_cons, List.drop_zero, List.take_succ_cons, List.take_zero, List.append_nil]
      iterate 1 (refine heads_pure _ (by rfl) (fun w' => by go_simp; try with_reducible rfl) ?_; simp only [Act.put, List.setIfInBounds_toArray, List.set_cons_zero, List.set_cons_succ])
      refine heads_nil ?_
      refine stage_done (by kernel_rfl) ?_
      generalize hwz : World.drew _ = wz
      have W1 : wz = ((((((((((w2f.setCell ⟨w.heap.size + 1, 0, none⟩ (.int .i64 D1.room)).setCell ⟨w.heap.size + 1, 1, none⟩ (.slice a n c)).setCell ⟨w.heap.size + 1, 2, none⟩ (.bool D1.down)).setCell ⟨w.heap.size + 1, 3, none⟩ (.int .i64 D1.armed)).setCell ⟨w.heap.size + 1, 4, none⟩ (.int .u64 D1.steps))).setCell ⟨w.heap.size + 1 + 1, 0, none⟩ (.int .u64 0)).setCell ⟨w.heap.size + 1 + 1, 1, none⟩ (.int .u64 0)).setCell ⟨w.heap.size + 1 + 1, 2, none⟩ (.slice none 0 0)).setCell ⟨w.heap.size + 1 + 1, 3, none⟩ (.slice none 0 0)).drew := hwz.symm
      have KS := Kept.set5D w2f (w.heap.size + 1) D1 (.slice a n c)
      have RFF := (Z2f.out.set D1 (.slice a n c))
      have YS := Y2f.out.kept KS (by omega)
      have SS := S2f.out.setD Z2f.out (fun s e => by cases e) D1 (.slice a n c)
      have K4 := Kept.set4 (set5D w2f (w.heap.size + 1) D1 (.slice a n c)) (w.heap.size + 1 + 1) 0 0 (.slice none 0 0) (.slice none 0 0)
      have RFG0 := (RFF.kept K4 (by omega)).below ((Below.refl _ _).drew)
      have RFY0 := (YS.set4 0 0 (.slice none 0 0) (.slice none 0 0)).below ((Below.refl _ _).drew)
      have SF0 := (SS.setSn (p := none) (q := none) YS 0 0 (.slice none 0 0) (.slice none 0 0)).below ((Below.refl _ _).drew)
      have BF0 := B2f.out.trans (KS.below B2f.out.size (fun k hk => by omega))
      have BF1 := (BF0.trans (K4.below BF0.size (fun k hk => by omega))).drew
      have KF0 : Kept w2f _ (fun k => k = w.heap.size + 1 ∨ k = w.heap.size + 1 + 1) := ((KS.mono (fun _ _ h => .inl h)).trans (K4.mono (fun _ _ h => .inr h))).trans (Kept.drew _ _)
      unfold set5D at RFG0 RFY0 SF0 BF1 KF0
      rw [← W1] at RFG0 RFY0 SF0 BF1 KF0
      have RFG := Lib.hid RFG0
      have RFY := Lib.hid RFY0
      have SF := Lib.hid SF0
      have BF := Lib.hid BF1
      have KF := Lib.hid KF0
      clear KS RFF YS SS K4 RFG0 RFY0 SF0 BF0 BF1 KF0 W1 hwz
      clear r0 r1 r2 r3 r4 f0 f1 f2 f3 f4 z0 z1 z2 z3 z4 g0 g1 g2 g3 g4 y0 y1 y2 y3 e0 e1 e2 e3 n0 n1 n2 n3 hlx hlz hly hln
      obtain ⟨q0, q1, q2, q3, q4, _⟩ := RFG.out
      obtain ⟨u0, u1, u2, u3, _⟩ := RFY.out
      go_wp2_with fail
      refine bodyPost_ret (v := .tuple #[.agg #[.int .i64 D1.room, .slice a n c, .bool D1.down, .int .i64 D1.armed, .int .u64 D1.steps], .agg #[.int .u64 0, .int .u64 0, (.slice none 0 0), (.slice none 0 0)], .int .i64 0]) (by simp [results, Tryz.results13, go_sem, q0, q1, q2, q3, q4, u0, u1, u2, u3]) rfl ?_
      unfold ROpen27
      rw [HGO.out, HVE.out, HVS.out]
      exact ⟨_, _, _, _, _, rfl, RIs.new HN2.out SF.out, zero_is _, BF.out, FOW.out, _, _, _, _, rfl, nofun, nofun⟩
    | some f =>
      obtain ⟨i, hI, hLi⟩ := findI_some hf
      rw [hI]
      have hi0 : ¬ (i : Int) < 0 := by omega
      have hsm := G1.out.small f (List.mem_of_getElem? hLi)
      have h8 := B81.out f (List.mem_of_getElem? hLi)
      have HGF := Lib.hid (getF_some hf)
      have HFF := Lib.hid hf
      obtain ⟨b, o, rfl, hbl, k0, k1, k2⟩ := S2f.out.file hLi
      have him : (i : Int) < (n : Int) := by have h1 := (List.getElem?_eq_some_iff.1 hLi).1; have h2 := HN2.out; omega
      have HTB : Hid (natsOf (strN f.all) = f.all) := Lib.hid (natsOf_strN h8)
      have HSZ : Hid ((strN f.all).size ≤ 2097152) := Lib.hid (by rw [size_strN]; omega)
      clear hf hI hLi h8
      obtain ⟨r0, r1, r2, r3, r4, f0, f1, f2, f3, f4⟩ := X2f.out
      obtain ⟨z0, z1, z2, z3, z4, g0, g1, g2, g3, g4⟩ := Z2f.out
      obtain ⟨y0, y1, y2, y3, e0, e1, e2, e3⟩ := Y2f.out
      obtain ⟨n0, n1, n2, n3, _, _, _, _⟩ := N2f.out
      have hlx := X2f.out.lt
      have hlz := Z2f.out.lt
      have hly := Y2f.out.lt
      have hln := N2f.out.lt
      go_wp2_with (refine wpList_to_bytes rfl 9 22 5 _ rfl Tryz.underlying9 Tryz.underlying22 Tryz.underlying5 _ rfl HSZ.out ?_; intro bv w5 hB5 hb5 hob5; rw [HTB.out] at hB5; obtain ⟨ab, cb, rfl, _⟩ := hB5.shape; have HB5 := Lib.hid hB5; have HB45 := Lib.hid hb5; clear hB5 hb5 hob5)
      have X5 := Lib.hid (X2f.out.below HB45.out)
      have Z5 := Lib.hid (Z2f.out.below HB45.out)
      have Y5 := Lib.hid (Y2f.out.below HB45.out)
      have N5 := Lib.hid (N2f.out.below HB45.out)
      have B5 : Hid (Below w.heap.size w w5) := Lib.hid (B2f.out.trans (HB45.out.mono B2f.out.size))
      have S5 := Lib.hid (S2f.out.below HB45.out)
      clear k0 k1 k2 hbl
      clear r0 r1 r2 r3 r4 f0 f1 f2 f3 f4 z0 z1 z2 z3 z4 g0 g1 g2 g3 g4 y0 y1 y2 y3 e0 e1 e2 e3 n0 n1 n2 n3 hlx hlz hly hln
      cases hrb : readB 6 f.all
      · have HRB := Lib.hid hrb
        refine (rread_any _ f.all w5 HB5.out).mono ?_
        rintro e w6 ⟨v6, rfl, hs6, hb6⟩
        have hz := hs6
        rw [readS_no HRB.out] at hz
        obtain ⟨mv, dv, rfl, hm, hd⟩ := hs6
        obtain ⟨am, cm, rfl, _⟩ := hm.shape
        obtain ⟨ad, cd, rfl, _⟩ := hd.shape
        rw [HRB.out]
        have HVE : Hid (sopenE ⟨room, L, false, -1, steps⟩ = 20) := Lib.hid (by unfold sopenE; rw [HGO2.out, if_neg (by simp), HGO.out, if_neg (by rw [HFF.out]; simp), HGF.out, ← readB67, HRB.out]; rfl)
        have HVS : Hid (openS27 ⟨room, L, false, -1, steps⟩ = zeroS) := Lib.hid (by unfold openS27; rw [HVE.out]; exact if_neg (by decide))
        have X6 := Lib.hid (X5.out.below hb6)
        have Z6 := Lib.hid (Z5.out.below hb6)
        have Y6 := Lib.hid (Y5.out.below hb6)
        have N6 := Lib.hid (N5.out.below hb6)
        have B6 : Hid (Below w.heap.size w w6) := Lib.hid (B5.out.trans (hb6.mono B5.out.size))
        have S6 := Lib.hid (S5.out.below hb6)
        clear hb6 hm hd hz hrb
        obtain ⟨r0, r1, r2, r3, r4, f0, f1, f2, f3, f4⟩ := X6.out
        obtain ⟨z0, z1, z2, z3, z4, g0, g1, g2, g3, g4⟩ := Z6.out
        obtain ⟨y0, y1, y2, y3, e0, e1, e2, e3⟩ := Y6.out
        obtain ⟨n0, n1, n2, n3, _, _, _, _⟩ := N6.out
        have hlx := X6.out.lt
        have hlz := Z6.out.lt
        have hly := Y6.out.lt
        have hln := N6.out.lt
        go_wp2_with fail
        have AL : Below w6.heap.size w6 (w6.alloc (.cells #[.int .u64 (readS 6 f.all).i, .int .u64 (readS 6 f.all).t, .slice am (readS 6 f.all).ms.length cm, .slice ad (readS 6 f.all).d.length cd] 40)) := (Below.refl _ _).alloc (Nat.le_refl _) _
        have X7 := Lib.hid (X6.out.below AL)
        have Z7 := Lib.hid (Z6.out.below AL)
        have Y7 := Lib.hid (Y6.out.below AL)
        have N7 := Lib.hid (N6.out.below AL)
        have B7 : Hid (Below w.heap.size w (w6.alloc (.cells #[.int .u64 (readS 6 f.all).i, .int .u64 (readS 6 f.all).t, .slice am (readS 6 f.all).ms.length cm, .slice ad (readS 6 f.all).d.length cd] 40))) := Lib.hid (B6.out.trans (AL.mono B6.out.size))
        have S7 := Lib.hid (S6.out.below AL)
        clear AL
        clear r0 r1 r2 r3 r4 f0 f1 f2 f3 f4 z0 z1 z2 z3 z4 g0 g1 g2 g3 g4 y0 y1 y2 y3 e0 e1 e2 e3 n0 n1 n2 n3 hlx hlz hly hln
        generalize World.alloc w6 _ = w7 at *
        obtain ⟨r0, r1, r2, r3, r4, f0, f1, f2, f3, f4⟩ := X7.out
        obtain ⟨z0, z1, z2, z3, z4, g0, g1, g2, g3, g4⟩ := Z7.out
        obtain ⟨y0, y1, y2, y3, e0, e1, e2, e3⟩ := Y7.out
        obtain ⟨n0, n1, n2, n3, _, _, _, _⟩ := N7.out
        have hlx := X7.out.lt
        have hlz := Z7.out.lt
        have hly := Y7.out.lt
        have hln := N7.out.lt
        have HBN : Hid (w.heap.size + 1 < (w.heap.size + 1 + 1 + 1)) := Lib.hid (by omega)
        have J1 : Hid (RD (set5D w7 (w.heap.size + 1) D1 (.slice (some ⟨b, o, none⟩) n c)) w.heap.size D1 (.slice (some ⟨b, o, none⟩) n c) ∧ SBlk (set5D w7 (w.heap.size + 1) D1 (.slice (some ⟨b, o, none⟩) n c)) (w.heap.size + 1 + 1 + 1) 0 0 (.slice none 0 0) (.slice none 0 0)) := Lib.hid ⟨X7.out.kept (Kept.set5D w7 (w.heap.size + 1) D1 (.slice (some ⟨b, o, none⟩) n c)) (by omega), N7.out.kept (Kept.set5D w7 (w.heap.size + 1) D1 (.slice (some ⟨b, o, none⟩) n c)) (by have := HBN.out; omega)⟩
        have J2 : Hid (RD (set5D w7 (w.heap.size + 1) D1 (.slice (some ⟨b, o, none⟩) n c)).drew w.heap.size D1 (.slice (some ⟨b, o, none⟩) n c) ∧ SBlk (set5D w7 (w.heap.size + 1) D1 (.slice (some ⟨b, o, none⟩) n c)).drew (w.heap.size + 1 + 1 + 1) 0 0 (.slice none 0 0) (.slice none 0 0)) := Lib.hid ⟨J1.out.1.below ((Below.refl _ _).drew), J1.out.2.below ((Below.refl _ _).drew)⟩
        unfold set5D at J1 J2
        refine region_start [0, 0, 1, 7, 15] 4 (fun w' => RD w' w.heap.size D1 (.slice (some ⟨b, o, none⟩) n c) ∧ SBlk w' (w.heap.size + 1 + 1 + 1) 0 0 (.slice none 0 0) (.slice none 0 0)) (by kernel_rfl) ?_
        refine stage_heads [0, 1] (by kernel_rfl) (L := #[true, true, false, false, false]) (by kernel_rfl) (f' := 3) rfl (fun _ _ _ _ h => h) (fun w o h => ⟨h.1.below ((Below.refl _ _).alloc (Nat.le_refl _) o), h.2.below ((Below.refl _ _).alloc (Nat.le_refl _) o)⟩) (.inr (by first | exact ⟨X7.out.below ((Below.refl _ _).drew), N7.out.below ((Below.refl _ _).drew)⟩ | exact ⟨X7.out, N7.out⟩)) ?_
        simp only [List.flatMap_cons, List.flatMap_nil, List.drop_succ_cons, List.drop_zero, List.take_succ_cons, List.take_zero, List.cons_append, List.nil_append, List.append_nil]
        iterate 2 (first | (refine heads_load _ (by rfl) (fun w' hs => by obtain ⟨⟨r0, r1, r2, r3, r4, _⟩, b0, b1, b2, b3, _⟩ := hs; go_simp; try with_reducible rfl) rfl ?_; simp only [Act.put, List.setIfInBounds_toArray, List.set_cons_zero, List.set_cons_succ]) | (refine heads_pure _ (by rfl) (fun w' => by go_simp; try with_reducible rfl) ?_; simp only [Act.put, List.setIfInBounds_toArray, List.set_cons_zero, List.set_cons_succ]))
        refine heads_nil ?_
        refine stage_op 2 (by kernel_rfl) (L := #[true, true, true, false, false]) (by kernel_rfl) ?_
        simp only [List.drop_succ_cons, List.drop_zero, List.take_succ_cons, List.take_zero]
        go_wp2_with fail
        refine step_post (fun _ => (by first | exact J2.out | exact J1.out)) ?_
        refine stage_op 3 (by kernel_rfl) (L := #[true, true, true, true, false]) (by kernel_rfl) ?_
        simp only [List.drop_succ_cons, List.drop_zero, List.take_succ_cons, List.take_zero]
        go_wp2_with fail
        refine step_post nofun ?_
        refine stage_heads [4] (by kernel_rfl) (L := #[true, true, true, true, true]) (by kernel_rfl) (f' := 0) rfl (fun _ _ _ _ h => h) (fun w o h => ⟨h.1.below ((Below.refl _ _).alloc (Nat.le_refl _) o), h.2.below ((Below.refl _ _).alloc (Nat.le_refl _) o)⟩) (.inl (by kernel_rfl)) ?_
        simp only [List.flatMap_cons, List.flatMap_nil, List.drop_succ_cons, List.drop_zero, List.take_succ_cons, List.take_zero, List.append_nil]
        iterate 1 (refine heads_pure _ (by rfl) (fun w' => by go_simp; try with_reducible rfl) ?_; simp only [Act.put, List.setIfInBounds_toArray, List.set_cons_zero, List.set_cons_succ])
        refine heads_nil ?_
        refine stage_done (by kernel_rfl) ?_
        generalize hwz : World.drew _ = wz
        have W1 : wz = ((((((((((w7.setCell ⟨w.heap.size + 1, 0, none⟩ (.int .i64 D1.room)).setCell ⟨w.heap.size + 1, 1, none⟩ (.slice (some ⟨b, o, none⟩) n c)).setCell ⟨w.heap.size + 1, 2, none⟩ (.bool D1.down)).setCell ⟨w.heap.size + 1, 3, none⟩ (.int .i64 D1.armed)).setCell ⟨w.heap.size + 1, 4, none⟩ (.int .u64 D1.steps))).setCell ⟨w.heap.size + 1 + 1, 0, none⟩ (.int .u64 0)).setCell ⟨w.heap.size + 1 + 1, 1, none⟩ (.int .u64 0)).setCell ⟨w.heap.size + 1 + 1, 2, none⟩ (.slice none 0 0)).setCell ⟨w.heap.size + 1 + 1, 3, none⟩ (.slice none 0 0)).drew := hwz.symm
        have KS := Kept.set5D w7 (w.heap.size + 1) D1 (.slice (some ⟨b, o, none⟩) n c)
        have RFF := (Z7.out.set D1 (.slice (some ⟨b, o, none⟩) n c))
        have YS := Y7.out.kept KS (by omega)
        have SS := S7.out.setD Z7.out (fun s e => by cases e) D1 (.slice (some ⟨b, o, none⟩) n c)
        have K4 := Kept.set4 (set5D w7 (w.heap.size + 1) D1 (.slice (some ⟨b, o, none⟩) n c)) (w.heap.size + 1 + 1) 0 0 (.slice none 0 0) (.slice none 0 0)
        have RFG0 := (RFF.kept K4 (by omega)).below ((Below.refl _ _).drew)
        have RFY0 := (YS.set4 0 0 (.slice none 0 0) (.slice none 0 0)).below ((Below.refl _ _).drew)
        have SF0 := (SS.setSn (p := none) (q := none) YS 0 0 (.slice none 0 0) (.slice none 0 0)).below ((Below.refl _ _).drew)
        have BF0 := B7.out.trans (KS.below B7.out.size (fun k hk => by omega))
        have BF1 := (BF0.trans (K4.below BF0.size (fun k hk => by omega))).drew
        have KF0 : Kept w7 _ (fun k => k = w.heap.size + 1 ∨ k = w.heap.size + 1 + 1) := ((KS.mono (fun _ _ h => .inl h)).trans (K4.mono (fun _ _ h => .inr h))).trans (Kept.drew _ _)
        unfold set5D at RFG0 RFY0 SF0 BF1 KF0
        rw [← W1] at RFG0 RFY0 SF0 BF1 KF0
        have RFG := Lib.hid RFG0
        have RFY := Lib.hid RFY0
        have SF := Lib.hid SF0
        have BF := Lib.hid BF1
        have KF := Lib.hid KF0
        clear KS RFF YS SS K4 RFG0 RFY0 SF0 BF0 BF1 KF0 W1 hwz
        clear r0 r1 r2 r3 r4 f0 f1 f2 f3 f4 z0 z1 z2 z3 z4 g0 g1 g2 g3 g4 y0 y1 y2 y3 e0 e1 e2 e3 n0 n1 n2 n3 hlx hlz hly hln
        obtain ⟨q0, q1, q2, q3, q4, _⟩ := RFG.out
        obtain ⟨u0, u1, u2, u3, _⟩ := RFY.out
        go_wp2_with fail
        refine bodyPost_ret (v := .tuple #[.agg #[.int .i64 D1.room, .slice (some ⟨b, o, none⟩) n c, .bool D1.down, .int .i64 D1.armed, .int .u64 D1.steps], .agg #[.int .u64 0, .int .u64 0, (.slice none 0 0), (.slice none 0 0)], .int .i64 20]) (by simp [results, Tryz.results13, go_sem, q0, q1, q2, q3, q4, u0, u1, u2, u3]) rfl ?_
        unfold ROpen27
        rw [HGO.out, HVE.out, HVS.out]
        exact ⟨_, _, _, _, _, rfl, RIs.new HN2.out SF.out, zero_is _, BF.out, FOW.out, _, _, _, _, rfl, nofun, nofun⟩
      · have HRB := Lib.hid hrb
        refine (rread_new _ f.all w5 HB5.out hrb).mono ?_
        rintro e w6 ⟨v6, rfl, hs6, hb6, hn6⟩
        have HSS : Hid (readS 6 f.all = sopenS ⟨room, L, false, -1, steps⟩) := Lib.hid (by unfold sopenS; rw [HGO.out, if_neg (by rw [HFF.out]; simp), HGF.out, readS67])
        rw [HSS.out] at hs6
        obtain ⟨mv, dv, rfl, hm, hd⟩ := hs6
        obtain ⟨_, _, _, _, he6, hn1, hn2⟩ := hn6
        simp only [Value.agg.injEq, Array.mk.injEq, List.cons.injEq, and_true] at he6
        obtain ⟨rfl, rfl, rfl, rfl⟩ := he6
        have HVE : Hid (sopenE ⟨room, L, false, -1, steps⟩ = 0) := Lib.hid (by unfold sopenE; rw [HGO2.out, if_neg (by simp), HGO.out, if_neg (by rw [HFF.out]; simp), HGF.out, ← readB67, HRB.out]; rfl)
        have HVS : Hid (openS27 ⟨room, L, false, -1, steps⟩ = sopenS ⟨room, L, false, -1, steps⟩) := Lib.hid (by unfold openS27; rw [HVE.out]; exact if_pos rfl)
        generalize sopenS ⟨room, L, false, -1, steps⟩ = ss at *
        obtain ⟨am, cm, rfl, _⟩ := hm.shape
        obtain ⟨ad, cd, rfl, _⟩ := hd.shape
        rw [HRB.out]
        have X6 := Lib.hid (X5.out.below hb6)
        have Z6 := Lib.hid (Z5.out.below hb6)
        have Y6 := Lib.hid (Y5.out.below hb6)
        have N6 := Lib.hid (N5.out.below hb6)
        have B6 : Hid (Below w.heap.size w w6) := Lib.hid (B5.out.trans (hb6.mono B5.out.size))
        have S6 := Lib.hid (S5.out.below hb6)
        have HM6 := Lib.hid hm
        have HD6 := Lib.hid hd
        have HNM := Lib.hid hn1
        have HND := Lib.hid hn2
        have L56 : Hid (w.heap.size + 1 + 1 + 1 < w5.heap.size) := Lib.hid N5.out.lt
        clear hb6 hm hd hn1 hn2 hrb
        obtain ⟨r0, r1, r2, r3, r4, f0, f1, f2, f3, f4⟩ := X6.out
        obtain ⟨z0, z1, z2, z3, z4, g0, g1, g2, g3, g4⟩ := Z6.out
        obtain ⟨y0, y1, y2, y3, e0, e1, e2, e3⟩ := Y6.out
        obtain ⟨n0, n1, n2, n3, _, _, _, _⟩ := N6.out
        have hlx := X6.out.lt
        have hlz := Z6.out.lt
        have hly := Y6.out.lt
        have hln := N6.out.lt
        go_wp2_with fail
        have AL : Below w6.heap.size w6 (w6.alloc (.cells #[.int .u64 ss.i, .int .u64 ss.t, .slice am ss.ms.length cm, .slice ad ss.d.length cd] 40)) := (Below.refl _ _).alloc (Nat.le_refl _) _
        have T7 : Hid (SBlk (w6.alloc (.cells #[.int .u64 ss.i, .int .u64 ss.t, .slice am ss.ms.length cm, .slice ad ss.d.length cd] 40)) w6.heap.size ss.i ss.t (.slice am ss.ms.length cm) (.slice ad ss.d.length cd)) := Lib.hid ⟨by go_cell, by go_cell, by go_cell, by go_cell, by simp, by simp, by simp, by simp⟩
        have X7 := Lib.hid (X6.out.below AL)
        have Z7 := Lib.hid (Z6.out.below AL)
        have Y7 := Lib.hid (Y6.out.below AL)
        have N7 := Lib.hid (N6.out.below AL)
        have B7 : Hid (Below w.heap.size w (w6.alloc (.cells #[.int .u64 ss.i, .int .u64 ss.t, .slice am ss.ms.length cm, .slice ad ss.d.length cd] 40))) := Lib.hid (B6.out.trans (AL.mono B6.out.size))
        have S7 := Lib.hid (S6.out.below AL)
        have HM7 := Lib.hid (HM6.out.below AL)
        have HD7 := Lib.hid (HD6.out.below AL)
        clear AL
        clear r0 r1 r2 r3 r4 f0 f1 f2 f3 f4 z0 z1 z2 z3 z4 g0 g1 g2 g3 g4 y0 y1 y2 y3 e0 e1 e2 e3 n0 n1 n2 n3 hlx hlz hly hln
        have hbs : w.heap.size + 1 + 1 + 1 < w6.heap.size := N6.out.lt
        generalize World.alloc w6 _ = w7 at *
        generalize w6.heap.size = bs at *
        obtain ⟨r0, r1, r2, r3, r4, f0, f1, f2, f3, f4⟩ := X7.out
        obtain ⟨z0, z1, z2, z3, z4, g0, g1, g2, g3, g4⟩ := Z7.out
        obtain ⟨y0, y1, y2, y3, e0, e1, e2, e3⟩ := Y7.out
        obtain ⟨n0, n1, n2, n3, _, _, _, _⟩ := N7.out
        have hlx := X7.out.lt
        have hlz := Z7.out.lt
        have hly := Y7.out.lt
        have hln := N7.out.lt
        have HBN : Hid (w.heap.size + 1 < bs) := Lib.hid (by omega)
        have J1 : Hid (RD (set5D w7 (w.heap.size + 1) D1 (.slice (some ⟨b, o, none⟩) n c)) w.heap.size D1 (.slice (some ⟨b, o, none⟩) n c) ∧ SBlk (set5D w7 (w.heap.size + 1) D1 (.slice (some ⟨b, o, none⟩) n c)) bs ss.i ss.t (.slice am ss.ms.length cm) (.slice ad ss.d.length cd)) := Lib.hid ⟨X7.out.kept (Kept.set5D w7 (w.heap.size + 1) D1 (.slice (some ⟨b, o, none⟩) n c)) (by omega), T7.out.kept (Kept.set5D w7 (w.heap.size + 1) D1 (.slice (some ⟨b, o, none⟩) n c)) (by have := HBN.out; omega)⟩
        have J2 : Hid (RD (set5D w7 (w.heap.size + 1) D1 (.slice (some ⟨b, o, none⟩) n c)).drew w.heap.size D1 (.slice (some ⟨b, o, none⟩) n c) ∧ SBlk (set5D w7 (w.heap.size + 1) D1 (.slice (some ⟨b, o, none⟩) n c)).drew bs ss.i ss.t (.slice am ss.ms.length cm) (.slice ad ss.d.length cd)) := Lib.hid ⟨J1.out.1.below ((Below.refl _ _).drew), J1.out.2.below ((Below.refl _ _).drew)⟩
        unfold set5D at J1 J2
        refine region_start [0, 0, 1, 7, 15] 4 (fun w' => RD w' w.heap.size D1 (.slice (some ⟨b, o, none⟩) n c) ∧ SBlk w' bs ss.i ss.t (.slice am ss.ms.length cm) (.slice ad ss.d.length cd)) (by kernel_rfl) ?_
        refine stage_heads [0, 1] (by kernel_rfl) (L := #[true, true, false, false, false]) (by kernel_rfl) (f' := 3) rfl (fun _ _ _ _ h => h) (fun w o h => ⟨h.1.below ((Below.refl _ _).alloc (Nat.le_refl _) o), h.2.below ((Below.refl _ _).alloc (Nat.le_refl _) o)⟩) (.inr (by first | exact ⟨X7.out.below ((Below.refl _ _).drew), T7.out.below ((Below.refl _ _).drew)⟩ | exact ⟨X7.out, T7.out⟩)) ?_
        simp only [List.flatMap_cons, List.flatMap_nil, List.drop_succ_cons, List.drop_zero, List.take_succ_cons, List.take_zero, List.cons_append, List.nil_append, List.append_nil]
        iterate 2 (first | (refine heads_load _ (by rfl) (fun w' hs => by obtain ⟨⟨r0, r1, r2, r3, r4, _⟩, b0, b1, b2, b3, _⟩ := hs; go_simp; try with_reducible rfl) rfl ?_; simp only [Act.put, List.setIfInBounds_toArray, List.set_cons_zero, List.set_cons_succ]) | (refine heads_pure _ (by rfl) (fun w' => by go_simp; try with_reducible rfl) ?_; simp only [Act.put, List.setIfInBounds_toArray, List.set_cons_zero, List.set_cons_succ]))
        refine heads_nil ?_
        refine stage_op 2 (by kernel_rfl) (L := #[true, true, true, false, false]) (by kernel_rfl) ?_
        simp only [List.drop_succ_cons, List.drop_zero, List.take_succ_cons, List.take_zero]
        go_wp2_with fail
        refine step_post (fun _ => (by first | exact J2.out | exact J1.out)) ?_
        refine stage_op 3 (by kernel_rfl) (L := #[true, true, true, true, false]) (by kernel_rfl) ?_
        simp only [List.drop_succ_cons, List.drop_zero, List.take_succ_cons, List.take_zero]
        go_wp2_with fail
        refine step_post nofun ?_
        refine stage_heads [4] (by kernel_rfl) (L := #[true, true, true, true, true]) (by kernel_rfl) (f' := 0) rfl (fun _ _ _ _ h => h) (fun w o h => ⟨h.1.below ((Below.refl _ _).alloc (Nat.le_refl _) o), h.2.below ((Below.refl _ _).alloc (Nat.le_refl _) o)⟩) (.inl (by kernel_rfl)) ?_
        simp only [List.flatMap_cons, List.flatMap_nil, List.drop_succ_cons, List.drop_zero, List.take_succ_cons, List.take_zero, List.append_nil]
        iterate 1 (refine heads_pure _ (by rfl) (fun w' => by go_simp; try with_reducible rfl) ?_; simp only [Act.put, List.setIfInBounds_toArray, List.set_cons_zero, List.set_cons_succ])
        refine heads_nil ?_
        refine stage_done (by kernel_rfl) ?_
        generalize hwz : World.drew _ = wz
        have W1 : wz = ((((((((((w7.setCell ⟨w.heap.size + 1, 0, none⟩ (.int .i64 D1.room)).setCell ⟨w.heap.size + 1, 1, none⟩ (.slice (some ⟨b, o, none⟩) n c)).setCell ⟨w.heap.size + 1, 2, none⟩ (.bool D1.down)).setCell ⟨w.heap.size + 1, 3, none⟩ (.int .i64 D1.armed)).setCell ⟨w.heap.size + 1, 4, none⟩ (.int .u64 D1.steps))).setCell ⟨w.heap.size + 1 + 1, 0, none⟩ (.int .u64 ss.i)).setCell ⟨w.heap.size + 1 + 1, 1, none⟩ (.int .u64 ss.t)).setCell ⟨w.heap.size + 1 + 1, 2, none⟩ (.slice am ss.ms.length cm)).setCell ⟨w.heap.size + 1 + 1, 3, none⟩ (.slice ad ss.d.length cd)).drew := hwz.symm
        have KS := Kept.set5D w7 (w.heap.size + 1) D1 (.slice (some ⟨b, o, none⟩) n c)
        have RFF := (Z7.out.set D1 (.slice (some ⟨b, o, none⟩) n c))
        have YS := Y7.out.kept KS (by omega)
        have SS := S7.out.setD Z7.out (fun s e => by cases e) D1 (.slice (some ⟨b, o, none⟩) n c)
        have K4 := Kept.set4 (set5D w7 (w.heap.size + 1) D1 (.slice (some ⟨b, o, none⟩) n c)) (w.heap.size + 1 + 1) ss.i ss.t (.slice am ss.ms.length cm) (.slice ad ss.d.length cd)
        have RFG0 := (RFF.kept K4 (by omega)).below ((Below.refl _ _).drew)
        have RFY0 := (YS.set4 ss.i ss.t (.slice am ss.ms.length cm) (.slice ad ss.d.length cd)).below ((Below.refl _ _).drew)
        have SF0 := (SS.setSn (p := none) (q := none) YS ss.i ss.t (.slice am ss.ms.length cm) (.slice ad ss.d.length cd)).below ((Below.refl _ _).drew)
        have BF0 := B7.out.trans (KS.below B7.out.size (fun k hk => by omega))
        have BF1 := (BF0.trans (K4.below BF0.size (fun k hk => by omega))).drew
        have KF0 : Kept w7 _ (fun k => k = w.heap.size + 1 ∨ k = w.heap.size + 1 + 1) := ((KS.mono (fun _ _ h => .inl h)).trans (K4.mono (fun _ _ h => .inr h))).trans (Kept.drew _ _)
        unfold set5D at RFG0 RFY0 SF0 BF1 KF0
        rw [← W1] at RFG0 RFY0 SF0 BF1 KF0
        have RFG := Lib.hid RFG0
        have RFY := Lib.hid RFY0
        have SF := Lib.hid SF0
        have BF := Lib.hid BF1
        have KF := Lib.hid KF0
        clear KS RFF YS SS K4 RFG0 RFY0 SF0 BF0 BF1 KF0 W1 hwz
        clear r0 r1 r2 r3 r4 f0 f1 f2 f3 f4 z0 z1 z2 z3 z4 g0 g1 g2 g3 g4 y0 y1 y2 y3 e0 e1 e2 e3 n0 n1 n2 n3 hlx hlz hly hln
        obtain ⟨q0, q1, q2, q3, q4, _⟩ := RFG.out
        obtain ⟨u0, u1, u2, u3, _⟩ := RFY.out
        go_wp2_with fail
        refine bodyPost_ret (v := .tuple #[.agg #[.int .i64 D1.room, .slice (some ⟨b, o, none⟩) n c, .bool D1.down, .int .i64 D1.armed, .int .u64 D1.steps], .agg #[.int .u64 ss.i, .int .u64 ss.t, (.slice am ss.ms.length cm), (.slice ad ss.d.length cd)], .int .i64 0]) (by simp [results, Tryz.results13, go_sem, q0, q1, q2, q3, q4, u0, u1, u2, u3]) rfl ?_
        unfold ROpen27
        rw [HGO.out, HVE.out, HVS.out]
        exact ⟨_, _, _, _, _, rfl, RIs.new HN2.out SF.out, ⟨_, _, rfl, HM7.out.kept KF.out (fun g hg h => by have h1 := HNM.out g hg; have h2 := L56.out; omega), HD7.out.kept KF.out (fun g hg h => by have h1 := HND.out g hg; have h2 := L56.out; omega)⟩, BF.out, FOW.out, _, _, _, _, rfl, fun g hg => by have h1 := HNM.out g hg; have h2 := L56.out; omega, fun g hg => by have h1 := HND.out g hg; have h2 := L56.out; omega⟩
  | some f0 =>
    have X2 := Lib.hid (X1.out.below hb2)
    have Z2 := Lib.hid (Z1.out.below hb2)
    have Y2 := Lib.hid (Y1.out.below hb2)
    have N2 := Lib.hid (N1.out.below hb2)
    have B2 : Hid (Below w.heap.size w w2) := Lib.hid (B1.out.trans (hb2.mono B1.out.size))
    obtain ⟨i0, hI, hLi⟩ := findI_some hf
    rw [hI]
    have hi0 : ¬ (i0 : Int) < 0 := by omega
    have HGO0 : goneD ⟨room, L, false, -1, steps⟩ = removeD ⟨room, L, false, -1, steps⟩ nOther := by
      unfold goneD
      rw [if_neg]
      unfold removeD
      rw [show findFile nOther (⟨room, L, false, -1, steps⟩ : DiskS).files = some f0 from hf]
      simp only
      rw [if_neg (by simp), if_neg (by decide)]
      simp
    clear hf hI hLi hb2 X1 Z1 Y1 N1 B1
    obtain ⟨r0, r1, r2, r3, r4, f0, f1, f2, f3, f4⟩ := X2.out
    obtain ⟨z0, z1, z2, z3, z4, g0, g1, g2, g3, g4⟩ := Z2.out
    obtain ⟨y0, y1, y2, y3, e0, e1, e2, e3⟩ := Y2.out
    obtain ⟨n0, n1, n2, n3, _, _, _, _⟩ := N2.out
    have hlx := X2.out.lt
    have hlz := Z2.out.lt
    have hly := Y2.out.lt
    have hln := N2.out.lt
    go_wp2_with fail
    clear r0 r1 r2 r3 r4 f0 f1 f2 f3 f4 z0 z1 z2 z3 z4 g0 g1 g2 g3 g4 y0 y1 y2 y3 e0 e1 e2 e3 n0 n1 n2 n3 hlx hlz hly hln
    refine (rremove_new _ ⟨room, L, false, -1, steps⟩ nOther w2 (RIs.new (D := ⟨room, L, false, -1, steps⟩) HN.out (HR.out.below B2.out)) HG.out).mono ?_
    rintro e w3 ⟨v3, rfl, hr3, hb3, hf3⟩
    have GC := gone27_calm (D := ⟨room, L, false, -1, steps⟩) ⟨rfl, rfl⟩
    have GG := goneD_good HG.out (by have := HS.out; simp only at this ⊢; omega)
    have GB : Byt8 (removeD ⟨room, L, false, -1, steps⟩ nOther).1.files := Byt8.remove (D := ⟨room, L, false, -1, steps⟩) HB8.out nOther
    rw [HGO0] at GC GG
    have HGX := Lib.hid HGO0
    obtain ⟨r, hr⟩ : ∃ r, removeD ⟨room, L, false, -1, steps⟩ nOther = r := ⟨_, rfl⟩
    have HGY := Lib.hid hr
    rw [hr] at hr3 GC GG GB ⊢
    obtain ⟨D1, e1⟩ := r
    obtain rfl : e1 = 0 := GC.1
    have G1 := Lib.hid GG.1
    have B81 := Lib.hid GB
    have HGO : Hid ((goneD ⟨room, L, false, -1, steps⟩).1 = D1) := Lib.hid (by rw [HGX.out, HGY.out])
    have HGO2 : Hid ((goneD ⟨room, L, false, -1, steps⟩).2 = 0) := Lib.hid (by rw [HGX.out, HGY.out])
    have X3 := Lib.hid (X2.out.below hb3)
    have Z3 := Lib.hid (Z2.out.below hb3)
    have Y3 := Lib.hid (Y2.out.below hb3)
    have N3 := Lib.hid (N2.out.below hb3)
    have B3 : Hid (Below w.heap.size w w3) := Lib.hid (B2.out.trans (hb3.mono B2.out.size))
    obtain ⟨a3, c3, rfl, hs3⟩ := hr3
    obtain ⟨m3, hm3⟩ : ∃ k, D1.files.length = k := ⟨_, rfl⟩
    have HN3 := Lib.hid hm3
    have S3 := Lib.hid hs3
    have FOW : Hid (∀ g, fsOwn (.agg #[.int .i64 D1.room, .slice a3 m3 c3, .bool D1.down, .int .i64 D1.armed, .int .u64 D1.steps]) = some g → fsOwn (.agg #[.int .i64 room, .slice a n c, .bool false, .int .i64 (-1), .int .u64 steps]) = some g ∨ w.heap.size ≤ g) := Lib.hid (fun g hg => by
      simp only at hf3
      rw [hm3] at hf3
      exact (hf3 g hg).imp id (fun h => Nat.le_trans B2.out.size h))
    simp only at S3 ⊢
    rw [hm3] at S3 ⊢
    clear hr hs3 hm3 hb3 hf3 GC GG GB HGO0
    obtain ⟨r0, r1, r2, r3, r4, f0, f1, f2, f3, f4⟩ := X3.out
    obtain ⟨z0, z1, z2, z3, z4, g0, g1, g2, g3, g4⟩ := Z3.out
    obtain ⟨y0, y1, y2, y3, e0, e1, e2, e3⟩ := Y3.out
    obtain ⟨n0, n1, n2, n3, _, _, _, _⟩ := N3.out
    have hlx := X3.out.lt
    have hlz := Z3.out.lt
    have hly := Y3.out.lt
    have hln := N3.out.lt
    have KS := Kept.set5D w3 w.heap.size D1 (.slice a3 m3 c3)
    have AL : Below (set5D w3 w.heap.size D1 (.slice a3 m3 c3)).heap.size (set5D w3 w.heap.size D1 (.slice a3 m3 c3)) ((set5D w3 w.heap.size D1 (.slice a3 m3 c3)).alloc (.cells #[.int .i64 D1.room, .slice a3 m3 c3, .bool D1.down, .int .i64 D1.armed, .int .u64 D1.steps] 29)) := (Below.refl _ _).alloc (Nat.le_refl _) _
    have S4a := (S3.out.setD X3.out (fun s e => by cases e) D1 (.slice a3 m3 c3)).below AL
    have X4a := (X3.out.set D1 (.slice a3 m3 c3)).below AL
    have Z4a := (Z3.out.kept KS (by omega)).below AL
    have Y4a := (Y3.out.kept KS (by omega)).below AL
    have N4a := (N3.out.kept KS (by omega)).below AL
    have B4b := B3.out.trans (KS.below B3.out.size (fun k hk => by omega))
    have B4a := B4b.trans (AL.mono B4b.size)
    unfold set5D at S4a X4a Z4a Y4a N4a B4a
    have S4 := Lib.hid S4a
    have X4 := Lib.hid X4a
    have Z4 := Lib.hid Z4a
    have Y4 := Lib.hid Y4a
    have N4 := Lib.hid N4a
    have B4 := Lib.hid B4a
    clear AL KS S4a X4a Z4a Y4a N4a B4a B4b
    go_wp2_with fail
    generalize World.alloc (World.setCell _ _ _) _ = w4 at *
    clear r0 r1 r2 r3 r4 f0 f1 f2 f3 f4 z0 z1 z2 z3 z4 g0 g1 g2 g3 g4 y0 y1 y2 y3 e0 e1 e2 e3 n0 n1 n2 n3 hlx hlz hly hln
    have HF1 : Hid (D1.files.length ≤ 1000) := Lib.hid (by have h := G1.out.few; omega)
    refine (rfind_any _ D1 nSnap w4 (RIs.new HN3.out S4.out) HF1.out).mono ?_
    rintro e w4f ⟨rfl, hb4f⟩
    have X4f := Lib.hid (X4.out.below hb4f)
    have Z4f := Lib.hid (Z4.out.below hb4f)
    have Y4f := Lib.hid (Y4.out.below hb4f)
    have N4f := Lib.hid (N4.out.below hb4f)
    have B4f : Hid (Below w.heap.size w w4f) := Lib.hid (B4.out.trans (hb4f.mono B4.out.size))
    have S4f := Lib.hid (S4.out.below hb4f)
    clear hb4f
    clear X4 Z4 Y4 N4 B4 S4
    cases hf : findFile nSnap D1.files with
    | none =>
      have hI : findI nSnap D1.files = -1 := findI_none.2 hf
      have HVE : Hid (sopenE ⟨room, L, false, -1, steps⟩ = 0) := Lib.hid (by unfold sopenE; rw [HGO2.out, if_neg (by simp), HGO.out, if_pos hf])
      have HVS : Hid (openS27 ⟨room, L, false, -1, steps⟩ = zeroS) := Lib.hid (by unfold openS27; rw [HVE.out, if_pos rfl]; unfold sopenS; rw [HGO.out, if_pos hf])
      rw [hI]
      clear hf hI
      obtain ⟨r0, r1, r2, r3, r4, f0, f1, f2, f3, f4⟩ := X4f.out
      obtain ⟨z0, z1, z2, z3, z4, g0, g1, g2, g3, g4⟩ := Z4f.out
      obtain ⟨y0, y1, y2, y3, e0, e1, e2, e3⟩ := Y4f.out
      obtain ⟨n0, n1, n2, n3, _, _, _, _⟩ := N4f.out
      have hlx := X4f.out.lt
      have hlz := Z4f.out.lt
      have hly := Y4f.out.lt
      have hln := N4f.out.lt
      have HBN : Hid (w.heap.size + 1 < (w.heap.size + 1 + 1 + 1)) := Lib.hid (by omega)
      have J1 : Hid (RD (set5D w4f (w.heap.size + 1) D1 (.slice a3 m3 c3)) w.heap.size D1 (.slice a3 m3 c3) ∧ SBlk (set5D w4f (w.heap.size + 1) D1 (.slice a3 m3 c3)) (w.heap.size + 1 + 1 + 1) 0 0 (.slice none 0 0) (.slice none 0 0)) := Lib.hid ⟨X4f.out.kept (Kept.set5D w4f (w.heap.size + 1) D1 (.slice a3 m3 c3)) (by omega), N4f.out.kept (Kept.set5D w4f (w.heap.size + 1) D1 (.slice a3 m3 c3)) (by have := HBN.out; omega)⟩
      have J2 : Hid (RD (set5D w4f (w.heap.size + 1) D1 (.slice a3 m3 c3)).drew w.heap.size D1 (.slice a3 m3 c3) ∧ SBlk (set5D w4f (w.heap.size + 1) D1 (.slice a3 m3 c3)).drew (w.heap.size + 1 + 1 + 1) 0 0 (.slice none 0 0) (.slice none 0 0)) := Lib.hid ⟨J1.out.1.below ((Below.refl _ _).drew), J1.out.2.below ((Below.refl _ _).drew)⟩
      unfold set5D at J1 J2
      go_wp2_with fail
      refine region_start [0, 0, 1, 7, 15] 4 (fun w' => RD w' w.heap.size D1 (.slice a3 m3 c3) ∧ SBlk w' (w.heap.size + 1 + 1 + 1) 0 0 (.slice none 0 0) (.slice none 0 0)) (by kernel_rfl) ?_
      refine stage_heads [0, 1] (by kernel_rfl) (L := #[true, true, false, false, false]) (by kernel_rfl) (f' := 3) rfl (fun _ _ _ _ h => h) (fun w o h => ⟨h.1.below ((Below.refl _ _).alloc (Nat.le_refl _) o), h.2.below ((Below.refl _ _).alloc (Nat.le_refl _) o)⟩) (.inr (by first | exact ⟨X4f.out.below ((Below.refl _ _).drew), N4f.out.below ((Below.refl _ _).drew)⟩ | exact ⟨X4f.out, N4f.out⟩)) ?_
      simp only [List.flatMap_cons, List.flatMap_nil, List.drop_succ_cons, List.drop_zero, List.take_succ_cons, List.take_zero, List.cons_append, List.nil_append, List.append_nil]
      iterate 2 (first | (refine heads_load _ (by rfl) (fun w' hs => by obtain ⟨⟨r0, r1, r2, r3, r4, _⟩, b0, b1, b2, b3, _⟩ := hs; go_simp; try with_reducible rfl) rfl ?_; simp only [Act.put, List.setIfInBounds_toArray, List.set_cons_zero, List.set_cons_succ]) | (refine heads_pure _ (by rfl) (fun w' => by go_simp; try with_reducible rfl) ?_; simp only [Act.put, List.setIfInBounds_toArray, List.set_cons_zero, List.set_cons_succ]))
      refine heads_nil ?_
      refine stage_op 2 (by kernel_rfl) (L := #[true, true, true, false, false]) (by kernel_rfl) ?_
      simp only [List.drop_succ_cons, List.drop_zero, List.take_succ_cons, List.take_zero]
      go_wp2_with fail
      refine step_post (fun _ => (by first | exact J2.out | exact J1.out)) ?_
      refine stage_op 3 (by kernel_rfl) (L := #[true, true, true, true, false]) (by kernel_rfl) ?_
      simp only [List.drop_succ_cons, List.drop_zero, List.take_succ_cons, List.take_zero]
      go_wp2_with fail
      refine step_post nofun ?_
      refine stage_heads [4] (by kernel_rfl) (L := #[true, true, true, true, true]) (by kernel_rfl) (f' := 0) rfl (fun _ _ _ _ h => h) (fun w o h => ⟨h.1.below ((Below.refl _ _).alloc (Nat.le_refl _) o), h.2.below ((Below.refl _ _).alloc (Nat.le_refl _) o)⟩) (.inl (by kernel_rfl)) ?_
      simp only [List.flatMap_cons, List.flatMap_nil, List.drop_succ_cons, List.drop_zero, List.take_succ_cons, List.take_zero, List.append_nil]
      iterate 1 (refine heads_pure _ (by rfl) (fun w' => by go_simp; try with_reducible rfl) ?_; simp only [Act.put, List.setIfInBounds_toArray, List.set_cons_zero, List.set_cons_succ])
      refine heads_nil ?_
      refine stage_done (by kernel_rfl) ?_
      generalize hwz : World.drew _ = wz
      have W1 : wz = ((((((((((w4f.setCell ⟨w.heap.size + 1, 0, none⟩ (.int .i64 D1.room)).setCell ⟨w.heap.size + 1, 1, none⟩ (.slice a3 m3 c3)).setCell ⟨w.heap.size + 1, 2, none⟩ (.bool D1.down)).setCell ⟨w.heap.size + 1, 3, none⟩ (.int .i64 D1.armed)).setCell ⟨w.heap.size + 1, 4, none⟩ (.int .u64 D1.steps))).setCell ⟨w.heap.size + 1 + 1, 0, none⟩ (.int .u64 0)).setCell ⟨w.heap.size + 1 + 1, 1, none⟩ (.int .u64 0)).setCell ⟨w.heap.size + 1 + 1, 2, none⟩ (.slice none 0 0)).setCell ⟨w.heap.size + 1 + 1, 3, none⟩ (.slice none 0 0)).drew := hwz.symm
      have KS := Kept.set5D w4f (w.heap.size + 1) D1 (.slice a3 m3 c3)
      have RFF := (Z4f.out.set D1 (.slice a3 m3 c3))
      have YS := Y4f.out.kept KS (by omega)
      have SS := S4f.out.setD Z4f.out (fun s e => by cases e) D1 (.slice a3 m3 c3)
      have K4 := Kept.set4 (set5D w4f (w.heap.size + 1) D1 (.slice a3 m3 c3)) (w.heap.size + 1 + 1) 0 0 (.slice none 0 0) (.slice none 0 0)
      have RFG0 := (RFF.kept K4 (by omega)).below ((Below.refl _ _).drew)
      have RFY0 := (YS.set4 0 0 (.slice none 0 0) (.slice none 0 0)).below ((Below.refl _ _).drew)
      have SF0 := (SS.setSn (p := none) (q := none) YS 0 0 (.slice none 0 0) (.slice none 0 0)).below ((Below.refl _ _).drew)
      have BF0 := B4f.out.trans (KS.below B4f.out.size (fun k hk => by omega))
      have BF1 := (BF0.trans (K4.below BF0.size (fun k hk => by omega))).drew
      have KF0 : Kept w4f _ (fun k => k = w.heap.size + 1 ∨ k = w.heap.size + 1 + 1) := ((KS.mono (fun _ _ h => .inl h)).trans (K4.mono (fun _ _ h => .inr h))).trans (Kept.drew _ _)
      unfold set5D at RFG0 RFY0 SF0 BF1 KF0
      rw [← W1] at RFG0 RFY0 SF0 BF1 KF0
      have RFG := Lib.hid RFG0
      have RFY := Lib.hid RFY0
      have SF := Lib.hid SF0
      have BF := Lib.hid BF1
      have KF := Lib.hid KF0
      clear KS RFF YS SS K4 RFG0 RFY0 SF0 BF0 BF1 KF0 W1 hwz
      clear r0 r1 r2 r3 r4 f0 f1 f2 f3 f4 z0 z1 z2 z3 z4 g0 g1 g2 g3 g4 y0 y1 y2 y3 e0 e1 e2 e3 n0 n1 n2 n3 hlx hlz hly hln
      obtain ⟨q0, q1, q2, q3, q4, _⟩ := RFG.out
      obtain ⟨u0, u1, u2, u3, _⟩ := RFY.out
      go_wp2_with fail
      refine bodyPost_ret (v := .tuple #[.agg #[.int .i64 D1.room, .slice a3 m3 c3, .bool D1.down, .int .i64 D1.armed, .int .u64 D1.steps], .agg #[.int .u64 0, .int .u64 0, (.slice none 0 0), (.slice none 0 0)], .int .i64 0]) (by simp [results, Tryz.results13, go_sem, q0, q1, q2, q3, q4, u0, u1, u2, u3]) rfl ?_
      unfold ROpen27
      rw [HGO.out, HVE.out, HVS.out]
      exact ⟨_, _, _, _, _, rfl, RIs.new HN3.out SF.out, zero_is _, BF.out, FOW.out, _, _, _, _, rfl, nofun, nofun⟩
    | some f =>
      obtain ⟨i, hI, hLi⟩ := findI_some hf
      rw [hI]
      have hi0 : ¬ (i : Int) < 0 := by omega
      have hsm := G1.out.small f (List.mem_of_getElem? hLi)
      have h8 := B81.out f (List.mem_of_getElem? hLi)
      have HGF := Lib.hid (getF_some hf)
      have HFF := Lib.hid hf
      obtain ⟨b, o, rfl, hbl, k0, k1, k2⟩ := S4f.out.file hLi
      have him : (i : Int) < (m3 : Int) := by have h1 := (List.getElem?_eq_some_iff.1 hLi).1; have h2 := HN3.out; omega
      have HTB : Hid (natsOf (strN f.all) = f.all) := Lib.hid (natsOf_strN h8)
      have HSZ : Hid ((strN f.all).size ≤ 2097152) := Lib.hid (by rw [size_strN]; omega)
      clear hf hI hLi h8
      obtain ⟨r0, r1, r2, r3, r4, f0, f1, f2, f3, f4⟩ := X4f.out
      obtain ⟨z0, z1, z2, z3, z4, g0, g1, g2, g3, g4⟩ := Z4f.out
      obtain ⟨y0, y1, y2, y3, e0, e1, e2, e3⟩ := Y4f.out
      obtain ⟨n0, n1, n2, n3, _, _, _, _⟩ := N4f.out
      have hlx := X4f.out.lt
      have hlz := Z4f.out.lt
      have hly := Y4f.out.lt
      have hln := N4f.out.lt
      go_wp2_with (refine wpList_to_bytes rfl 9 22 5 _ rfl Tryz.underlying9 Tryz.underlying22 Tryz.underlying5 _ rfl HSZ.out ?_; intro bv w5 hB5 hb5 hob5; rw [HTB.out] at hB5; obtain ⟨ab, cb, rfl, _⟩ := hB5.shape; have HB5 := Lib.hid hB5; have HB45 := Lib.hid hb5; clear hB5 hb5 hob5)
      have X5 := Lib.hid (X4f.out.below HB45.out)
      have Z5 := Lib.hid (Z4f.out.below HB45.out)
      have Y5 := Lib.hid (Y4f.out.below HB45.out)
      have N5 := Lib.hid (N4f.out.below HB45.out)
      have B5 : Hid (Below w.heap.size w w5) := Lib.hid (B4f.out.trans (HB45.out.mono B4f.out.size))
      have S5 := Lib.hid (S4f.out.below HB45.out)
      clear k0 k1 k2 hbl
      clear r0 r1 r2 r3 r4 f0 f1 f2 f3 f4 z0 z1 z2 z3 z4 g0 g1 g2 g3 g4 y0 y1 y2 y3 e0 e1 e2 e3 n0 n1 n2 n3 hlx hlz hly hln
      cases hrb : readB 6 f.all
      · have HRB := Lib.hid hrb
        refine (rread_any _ f.all w5 HB5.out).mono ?_
        rintro e w6 ⟨v6, rfl, hs6, hb6⟩
        have hz := hs6
        rw [readS_no HRB.out] at hz
        obtain ⟨mv, dv, rfl, hm, hd⟩ := hs6
        obtain ⟨am, cm, rfl, _⟩ := hm.shape
        obtain ⟨ad, cd, rfl, _⟩ := hd.shape
        rw [HRB.out]
        have HVE : Hid (sopenE ⟨room, L, false, -1, steps⟩ = 20) := Lib.hid (by unfold sopenE; rw [HGO2.out, if_neg (by simp), HGO.out, if_neg (by rw [HFF.out]; simp), HGF.out, ← readB67, HRB.out]; rfl)
        have HVS : Hid (openS27 ⟨room, L, false, -1, steps⟩ = zeroS) := Lib.hid (by unfold openS27; rw [HVE.out]; exact if_neg (by decide))
        have X6 := Lib.hid (X5.out.below hb6)
        have Z6 := Lib.hid (Z5.out.below hb6)
        have Y6 := Lib.hid (Y5.out.below hb6)
        have N6 := Lib.hid (N5.out.below hb6)
        have B6 : Hid (Below w.heap.size w w6) := Lib.hid (B5.out.trans (hb6.mono B5.out.size))
        have S6 := Lib.hid (S5.out.below hb6)
        clear hb6 hm hd hz hrb
        obtain ⟨r0, r1, r2, r3, r4, f0, f1, f2, f3, f4⟩ := X6.out
        obtain ⟨z0, z1, z2, z3, z4, g0, g1, g2, g3, g4⟩ := Z6.out
        obtain ⟨y0, y1, y2, y3, e0, e1, e2, e3⟩ := Y6.out
        obtain ⟨n0, n1, n2, n3, _, _, _, _⟩ := N6.out
        have hlx := X6.out.lt
        have hlz := Z6.out.lt
        have hly := Y6.out.lt
        have hln := N6.out.lt
        go_wp2_with fail
        have AL : Below w6.heap.size w6 (w6.alloc (.cells #[.int .u64 (readS 6 f.all).i, .int .u64 (readS 6 f.all).t, .slice am (readS 6 f.all).ms.length cm, .slice ad (readS 6 f.all).d.length cd] 40)) := (Below.refl _ _).alloc (Nat.le_refl _) _
        have X7 := Lib.hid (X6.out.below AL)
        have Z7 := Lib.hid (Z6.out.below AL)
        have Y7 := Lib.hid (Y6.out.below AL)
        have N7 := Lib.hid (N6.out.below AL)
        have B7 : Hid (Below w.heap.size w (w6.alloc (.cells #[.int .u64 (readS 6 f.all).i, .int .u64 (readS 6 f.all).t, .slice am (readS 6 f.all).ms.length cm, .slice ad (readS 6 f.all).d.length cd] 40))) := Lib.hid (B6.out.trans (AL.mono B6.out.size))
        have S7 := Lib.hid (S6.out.below AL)
        clear AL
        clear r0 r1 r2 r3 r4 f0 f1 f2 f3 f4 z0 z1 z2 z3 z4 g0 g1 g2 g3 g4 y0 y1 y2 y3 e0 e1 e2 e3 n0 n1 n2 n3 hlx hlz hly hln
        generalize World.alloc w6 _ = w7 at *
        obtain ⟨r0, r1, r2, r3, r4, f0, f1, f2, f3, f4⟩ := X7.out
        obtain ⟨z0, z1, z2, z3, z4, g0, g1, g2, g3, g4⟩ := Z7.out
        obtain ⟨y0, y1, y2, y3, e0, e1, e2, e3⟩ := Y7.out
        obtain ⟨n0, n1, n2, n3, _, _, _, _⟩ := N7.out
        have hlx := X7.out.lt
        have hlz := Z7.out.lt
        have hly := Y7.out.lt
        have hln := N7.out.lt
        have HBN : Hid (w.heap.size + 1 < (w.heap.size + 1 + 1 + 1)) := Lib.hid (by omega)
        have J1 : Hid (RD (set5D w7 (w.heap.size + 1) D1 (.slice (some ⟨b, o, none⟩) m3 c3)) w.heap.size D1 (.slice (some ⟨b, o, none⟩) m3 c3) ∧ SBlk (set5D w7 (w.heap.size + 1) D1 (.slice (some ⟨b, o, none⟩) m3 c3)) (w.heap.size + 1 + 1 + 1) 0 0 (.slice none 0 0) (.slice none 0 0)) := Lib.hid ⟨X7.out.kept (Kept.set5D w7 (w.heap.size + 1) D1 (.slice (some ⟨b, o, none⟩) m3 c3)) (by omega), N7.out.kept (Kept.set5D w7 (w.heap.size + 1) D1 (.slice (some ⟨b, o, none⟩) m3 c3)) (by have := HBN.out; omega)⟩
        have J2 : Hid (RD (set5D w7 (w.heap.size + 1) D1 (.slice (some ⟨b, o, none⟩) m3 c3)).drew w.heap.size D1 (.slice (some ⟨b, o, none⟩) m3 c3) ∧ SBlk (set5D w7 (w.heap.size + 1) D1 (.slice (some ⟨b, o, none⟩) m3 c3)).drew (w.heap.size + 1 + 1 + 1) 0 0 (.slice none 0 0) (.slice none 0 0)) := Lib.hid ⟨J1.out.1.below ((Below.refl _ _).drew), J1.out.2.below ((Below.refl _ _).drew)⟩
        unfold set5D at J1 J2
        refine region_start [0, 0, 1, 7, 15] 4 (fun w' => RD w' w.heap.size D1 (.slice (some ⟨b, o, none⟩) m3 c3) ∧ SBlk w' (w.heap.size + 1 + 1 + 1) 0 0 (.slice none 0 0) (.slice none 0 0)) (by kernel_rfl) ?_
        refine stage_heads [0, 1] (by kernel_rfl) (L := #[true, true, false, false, false]) (by kernel_rfl) (f' := 3) rfl (fun _ _ _ _ h => h) (fun w o h => ⟨h.1.below ((Below.refl _ _).alloc (Nat.le_refl _) o), h.2.below ((Below.refl _ _).alloc (Nat.le_refl _) o)⟩) (.inr (by first | exact ⟨X7.out.below ((Below.refl _ _).drew), N7.out.below ((Below.refl _ _).drew)⟩ | exact ⟨X7.out, N7.out⟩)) ?_
        simp only [List.flatMap_cons, List.flatMap_nil, List.drop_succ_cons, List.drop_zero, List.take_succ_cons, List.take_zero, List.cons_append, List.nil_append, List.append_nil]
        iterate 2 (first | (refine heads_load _ (by rfl) (fun w' hs => by obtain ⟨⟨r0, r1, r2, r3, r4, _⟩, b0, b1, b2, b3, _⟩ := hs; go_simp; try with_reducible rfl) rfl ?_; simp only [Act.put, List.setIfInBounds_toArray, List.set_cons_zero, List.set_cons_succ]) | (refine heads_pure _ (by rfl) (fun w' => by go_simp; try with_reducible rfl) ?_; simp only [Act.put, List.setIfInBounds_toArray, List.set_cons_zero, List.set_cons_succ]))
        refine heads_nil ?_
        refine stage_op 2 (by kernel_rfl) (L := #[true, true, true, false, false]) (by kernel_rfl) ?_
        simp only [List.drop_succ_cons, List.drop_zero, List.take_succ_cons, List.take_zero]
        go_wp2_with fail
        refine step_post (fun _ => (by first | exact J2.out | exact J1.out)) ?_
        refine stage_op 3 (by kernel_rfl) (L := #[true, true, true, true, false]) (by kernel_rfl) ?_
        simp only [List.drop_succ_cons, List.drop_zero, List.take_succ_cons, List.take_zero]
        go_wp2_with fail
        refine step_post nofun ?_
        refine stage_heads [4] (by kernel_rfl) (L := #[true, true, true, true, true]) (by kernel_rfl) (f' := 0) rfl (fun _ _ _ _ h => h) (fun w o h => ⟨h.1.below ((Below.refl _ _).alloc (Nat.le_refl _) o), h.2.below ((Below.refl _ _).alloc (Nat.le_refl _) o)⟩) (.inl (by kernel_rfl)) ?_
        simp only [List.flatMap_cons, List.flatMap_nil, List.drop_succ_cons, List.drop_zero, List.take_succ_cons, List.take_zero, List.append_nil]
        iterate 1 (refine heads_pure _ (by rfl) (fun w' => by go_simp; try with_reducible rfl) ?_; simp only [Act.put, List.setIfInBounds_toArray, List.set_cons_zero, List.set_cons_succ])
        refine heads_nil ?_
        refine stage_done (by kernel_rfl) ?_
        generalize hwz : World.drew _ = wz
        have W1 : wz = ((((((((((w7.setCell ⟨w.heap.size + 1, 0, none⟩ (.int .i64 D1.room)).setCell ⟨w.heap.size + 1, 1, none⟩ (.slice (some ⟨b, o, none⟩) m3 c3)).setCell ⟨w.heap.size + 1, 2, none⟩ (.bool D1.down)).setCell ⟨w.heap.size + 1, 3, none⟩ (.int .i64 D1.armed)).setCell ⟨w.heap.size + 1, 4, none⟩ (.int .u64 D1.steps))).setCell ⟨w.heap.size + 1 + 1, 0, none⟩ (.int .u64 0)).setCell ⟨w.heap.size + 1 + 1, 1, none⟩ (.int .u64 0)).setCell ⟨w.heap.size + 1 + 1, 2, none⟩ (.slice none 0 0)).setCell ⟨w.heap.size + 1 + 1, 3, none⟩ (.slice none 0 0)).drew := hwz.symm
        have KS := Kept.set5D w7 (w.heap.size + 1) D1 (.slice (some ⟨b, o, none⟩) m3 c3)
        have RFF := (Z7.out.set D1 (.slice (some ⟨b, o, none⟩) m3 c3))
        have YS := Y7.out.kept KS (by omega)
        have SS := S7.out.setD Z7.out (fun s e => by cases e) D1 (.slice (some ⟨b, o, none⟩) m3 c3)
        have K4 := Kept.set4 (set5D w7 (w.heap.size + 1) D1 (.slice (some ⟨b, o, none⟩) m3 c3)) (w.heap.size + 1 + 1) 0 0 (.slice none 0 0) (.slice none 0 0)
        have RFG0 := (RFF.kept K4 (by omega)).below ((Below.refl _ _).drew)
        have RFY0 := (YS.set4 0 0 (.slice none 0 0) (.slice none 0 0)).below ((Below.refl _ _).drew)
        have SF0 := (SS.setSn (p := none) (q := none) YS 0 0 (.slice none 0 0) (.slice none 0 0)).below ((Below.refl _ _).drew)
        have BF0 := B7.out.trans (KS.below B7.out.size (fun k hk => by omega))
        have BF1 := (BF0.trans (K4.below BF0.size (fun k hk => by omega))).drew
        have KF0 : Kept w7 _ (fun k => k = w.heap.size + 1 ∨ k = w.heap.size + 1 + 1) := ((KS.mono (fun _ _ h => .inl h)).trans (K4.mono (fun _ _ h => .inr h))).trans (Kept.drew _ _)
        unfold set5D at RFG0 RFY0 SF0 BF1 KF0
        rw [← W1] at RFG0 RFY0 SF0 BF1 KF0
        have RFG := Lib.hid RFG0
        have RFY := Lib.hid RFY0
        have SF := Lib.hid SF0
        have BF := Lib.hid BF1
        have KF := Lib.hid KF0
        clear KS RFF YS SS K4 RFG0 RFY0 SF0 BF0 BF1 KF0 W1 hwz
        clear r0 r1 r2 r3 r4 f0 f1 f2 f3 f4 z0 z1 z2 z3 z4 g0 g1 g2 g3 g4 y0 y1 y2 y3 e0 e1 e2 e3 n0 n1 n2 n3 hlx hlz hly hln
        obtain ⟨q0, q1, q2, q3, q4, _⟩ := RFG.out
        obtain ⟨u0, u1, u2, u3, _⟩ := RFY.out
        go_wp2_with fail
        refine bodyPost_ret (v := .tuple #[.agg #[.int .i64 D1.room, .slice (some ⟨b, o, none⟩) m3 c3, .bool D1.down, .int .i64 D1.armed, .int .u64 D1.steps], .agg #[.int .u64 0, .int .u64 0, (.slice none 0 0), (.slice none 0 0)], .int .i64 20]) (by simp [results, Tryz.results13, go_sem, q0, q1, q2, q3, q4, u0, u1, u2, u3]) rfl ?_
        unfold ROpen27
        rw [HGO.out, HVE.out, HVS.out]
        exact ⟨_, _, _, _, _, rfl, RIs.new HN3.out SF.out, zero_is _, BF.out, FOW.out, _, _, _, _, rfl, nofun, nofun⟩
      · have HRB := Lib.hid hrb
        refine (rread_new _ f.all w5 HB5.out hrb).mono ?_
        rintro e w6 ⟨v6, rfl, hs6, hb6, hn6⟩
        have HSS : Hid (readS 6 f.all = sopenS ⟨room, L, false, -1, steps⟩) := Lib.hid (by unfold sopenS; rw [HGO.out, if_neg (by rw [HFF.out]; simp), HGF.out, readS67])
        rw [HSS.out] at hs6
        obtain ⟨mv, dv, rfl, hm, hd⟩ := hs6
        obtain ⟨_, _, _, _, he6, hn1, hn2⟩ := hn6
        simp only [Value.agg.injEq, Array.mk.injEq, List.cons.injEq, and_true] at he6
        obtain ⟨rfl, rfl, rfl, rfl⟩ := he6
        have HVE : Hid (sopenE ⟨room, L, false, -1, steps⟩ = 0) := Lib.hid (by unfold sopenE; rw [HGO2.out, if_neg (by simp), HGO.out, if_neg (by rw [HFF.out]; simp), HGF.out, ← readB67, HRB.out]; rfl)
        have HVS : Hid (openS27 ⟨room, L, false, -1, steps⟩ = sopenS ⟨room, L, false, -1, steps⟩) := Lib.hid (by unfold openS27; rw [HVE.out]; exact if_pos rfl)
        generalize sopenS ⟨room, L, false, -1, steps⟩ = ss at *
        obtain ⟨am, cm, rfl, _⟩ := hm.shape
        obtain ⟨ad, cd, rfl, _⟩ := hd.shape
        rw [HRB.out]
        have X6 := Lib.hid (X5.out.below hb6)
        have Z6 := Lib.hid (Z5.out.below hb6)
        have Y6 := Lib.hid (Y5.out.below hb6)
        have N6 := Lib.hid (N5.out.below hb6)
        have B6 : Hid (Below w.heap.size w w6) := Lib.hid (B5.out.trans (hb6.mono B5.out.size))
        have S6 := Lib.hid (S5.out.below hb6)
        have HM6 := Lib.hid hm
        have HD6 := Lib.hid hd
        have HNM := Lib.hid hn1
        have HND := Lib.hid hn2
        have L56 : Hid (w.heap.size + 1 + 1 + 1 < w5.heap.size) := Lib.hid N5.out.lt
        clear hb6 hm hd hn1 hn2 hrb
        obtain ⟨r0, r1, r2, r3, r4, f0, f1, f2, f3, f4⟩ := X6.out
        obtain ⟨z0, z1, z2, z3, z4, g0, g1, g2, g3, g4⟩ := Z6.out
        obtain ⟨y0, y1, y2, y3, e0, e1, e2, e3⟩ := Y6.out
        obtain ⟨n0, n1, n2, n3, _, _, _, _⟩ := N6.out
        have hlx := X6.out.lt
        have hlz := Z6.out.lt
        have hly := Y6.out.lt
        have hln := N6.out.lt
        go_wp2_with fail
        have AL : Below w6.heap.size w6 (w6.alloc (.cells #[.int .u64 ss.i, .int .u64 ss.t, .slice am ss.ms.length cm, .slice ad ss.d.length cd] 40)) := (Below.refl _ _).alloc (Nat.le_refl _) _
        have T7 : Hid (SBlk (w6.alloc (.cells #[.int .u64 ss.i, .int .u64 ss.t, .slice am ss.ms.length cm, .slice ad ss.d.length cd] 40)) w6.heap.size ss.i ss.t (.slice am ss.ms.length cm) (.slice ad ss.d.length cd)) := Lib.hid ⟨by go_cell, by go_cell, by go_cell, by go_cell, by simp, by simp, by simp, by simp⟩
        have X7 := Lib.hid (X6.out.below AL)
        have Z7 := Lib.hid (Z6.out.below AL)
        have Y7 := Lib.hid (Y6.out.below AL)
        have N7 := Lib.hid (N6.out.below AL)
        have B7 : Hid (Below w.heap.size w (w6.alloc (.cells #[.int .u64 ss.i, .int .u64 ss.t, .slice am ss.ms.length cm, .slice ad ss.d.length cd] 40))) := Lib.hid (B6.out.trans (AL.mono B6.out.size))
        have S7 := Lib.hid (S6.out.below AL)
        have HM7 := Lib.hid (HM6.out.below AL)
        have HD7 := Lib.hid (HD6.out.below AL)
        clear AL
        clear r0 r1 r2 r3 r4 f0 f1 f2 f3 f4 z0 z1 z2 z3 z4 g0 g1 g2 g3 g4 y0 y1 y2 y3 e0 e1 e2 e3 n0 n1 n2 n3 hlx hlz hly hln
        have hbs : w.heap.size + 1 + 1 + 1 < w6.heap.size := N6.out.lt
        generalize World.alloc w6 _ = w7 at *
        generalize w6.heap.size = bs at *
        obtain ⟨r0, r1, r2, r3, r4, f0, f1, f2, f3, f4⟩ := X7.out
        obtain ⟨z0, z1, z2, z3, z4, g0, g1, g2, g3, g4⟩ := Z7.out
        obtain ⟨y0, y1, y2, y3, e0, e1, e2, e3⟩ := Y7.out
        obtain ⟨n0, n1, n2, n3, _, _, _, _⟩ := N7.out
        have hlx := X7.out.lt
        have hlz := Z7.out.lt
        have hly := Y7.out.lt
        have hln := N7.out.lt
        have HBN : Hid (w.heap.size + 1 < bs) := Lib.hid (by omega)
        have J1 : Hid (RD (set5D w7 (w.heap.size + 1) D1 (.slice (some ⟨b, o, none⟩) m3 c3)) w.heap.size D1 (.slice (some ⟨b, o, none⟩) m3 c3) ∧ SBlk (set5D w7 (w.heap.size + 1) D1 (.slice (some ⟨b, o, none⟩) m3 c3)) bs ss.i ss.t (.slice am ss.ms.length cm) (.slice ad ss.d.length cd)) := Lib.hid ⟨X7.out.kept (Kept.set5D w7 (w.heap.size + 1) D1 (.slice (some ⟨b, o, none⟩) m3 c3)) (by omega), T7.out.kept (Kept.set5D w7 (w.heap.size + 1) D1 (.slice (some ⟨b, o, none⟩) m3 c3)) (by have := HBN.out; omega)⟩
        have J2 : Hid (RD (set5D w7 (w.heap.size + 1) D1 (.slice (some ⟨b, o, none⟩) m3 c3)).drew w.heap.size D1 (.slice (some ⟨b, o, none⟩) m3 c3) ∧ SBlk (set5D w7 (w.heap.size + 1) D1 (.slice (some ⟨b, o, none⟩) m3 c3)).drew bs ss.i ss.t (.slice am ss.ms.length cm) (.slice ad ss.d.length cd)) := Lib.hid ⟨J1.out.1.below ((Below.refl _ _).drew), J1.out.2.below ((Below.refl _ _).drew)⟩
        unfold set5D at J1 J2
        refine region_start [0, 0, 1, 7, 15] 4 (fun w' => RD w' w.heap.size D1 (.slice (some ⟨b, o, none⟩) m3 c3) ∧ SBlk w' bs ss.i ss.t (.slice am ss.ms.length cm) (.slice ad ss.d.length cd)) (by kernel_rfl) ?_
        refine stage_heads [0, 1] (by kernel_rfl) (L := #[true, true, false, false, false]) (by kernel_rfl) (f' := 3) rfl (fun _ _ _ _ h => h) (fun w o h => ⟨h.1.below ((Below.refl _ _).alloc (Nat.le_refl _) o), h.2.below ((Below.refl _ _).alloc (Nat.le_refl _) o)⟩) (.inr (by first | exact ⟨X7.out.below ((Below.refl _ _).drew), T7.out.below ((Below.refl _ _).drew)⟩ | exact ⟨X7.out, T7.out⟩)) ?_
        simp only [List.flatMap_cons, List.flatMap_nil, List.drop_succ_cons, List.drop_zero, List.take_succ_cons, List.take_zero, List.cons_append, List.nil_append, List.append_nil]
        iterate 2 (first | (refine heads_load _ (by rfl) (fun w' hs => by obtain ⟨⟨r0, r1, r2, r3, r4, _⟩, b0, b1, b2, b3, _⟩ := hs; go_simp; try with_reducible rfl) rfl ?_; simp only [Act.put, List.setIfInBounds_toArray, List.set_cons_zero, List.set_cons_succ]) | (refine heads_pure _ (by rfl) (fun w' => by go_simp; try with_reducible rfl) ?_; simp only [Act.put, List.setIfInBounds_toArray, List.set_cons_zero, List.set_cons_succ]))
        refine heads_nil ?_
        refine stage_op 2 (by kernel_rfl) (L := #[true, true, true, false, false]) (by kernel_rfl) ?_
        simp only [List.drop_succ_cons, List.drop_zero, List.take_succ_cons, List.take_zero]
        go_wp2_with fail
        refine step_post (fun _ => (by first | exact J2.out | exact J1.out)) ?_
        refine stage_op 3 (by kernel_rfl) (L := #[true, true, true, true, false]) (by kernel_rfl) ?_
        simp only [List.drop_succ_cons, List.drop_zero, List.take_succ_cons, List.take_zero]
        go_wp2_with fail
        refine step_post nofun ?_
        refine stage_heads [4] (by kernel_rfl) (L := #[true, true, true, true, true]) (by kernel_rfl) (f' := 0) rfl (fun _ _ _ _ h => h) (fun w o h => ⟨h.1.below ((Below.refl _ _).alloc (Nat.le_refl _) o), h.2.below ((Below.refl _ _).alloc (Nat.le_refl _) o)⟩) (.inl (by kernel_rfl)) ?_
        simp only [List.flatMap_cons, List.flatMap_nil, List.drop_succ_cons, List.drop_zero, List.take_succ_cons, List.take_zero, List.append_nil]
        iterate 1 (refine heads_pure _ (by rfl) (fun w' => by go_simp; try with_reducible rfl) ?_; simp only [Act.put, List.setIfInBounds_toArray, List.set_cons_zero, List.set_cons_succ])
        refine heads_nil ?_
        refine stage_done (by kernel_rfl) ?_
        generalize hwz : World.drew _ = wz
        have W1 : wz = ((((((((((w7.setCell ⟨w.heap.size + 1, 0, none⟩ (.int .i64 D1.room)).setCell ⟨w.heap.size + 1, 1, none⟩ (.slice (some ⟨b, o, none⟩) m3 c3)).setCell ⟨w.heap.size + 1, 2, none⟩ (.bool D1.down)).setCell ⟨w.heap.size + 1, 3, none⟩ (.int .i64 D1.armed)).setCell ⟨w.heap.size + 1, 4, none⟩ (.int .u64 D1.steps))).setCell ⟨w.heap.size + 1 + 1, 0, none⟩ (.int .u64 ss.i)).setCell ⟨w.heap.size + 1 + 1, 1, none⟩ (.int .u64 ss.t)).setCell ⟨w.heap.size + 1 + 1, 2, none⟩ (.slice am ss.ms.length cm)).setCell ⟨w.heap.size + 1 + 1, 3, none⟩ (.slice ad ss.d.length cd)).drew := hwz.symm
        have KS := Kept.set5D w7 (w.heap.size + 1) D1 (.slice (some ⟨b, o, none⟩) m3 c3)
        have RFF := (Z7.out.set D1 (.slice (some ⟨b, o, none⟩) m3 c3))
        have YS := Y7.out.kept KS (by omega)
        have SS := S7.out.setD Z7.out (fun s e => by cases e) D1 (.slice (some ⟨b, o, none⟩) m3 c3)
        have K4 := Kept.set4 (set5D w7 (w.heap.size + 1) D1 (.slice (some ⟨b, o, none⟩) m3 c3)) (w.heap.size + 1 + 1) ss.i ss.t (.slice am ss.ms.length cm) (.slice ad ss.d.length cd)
        have RFG0 := (RFF.kept K4 (by omega)).below ((Below.refl _ _).drew)
        have RFY0 := (YS.set4 ss.i ss.t (.slice am ss.ms.length cm) (.slice ad ss.d.length cd)).below ((Below.refl _ _).drew)
        have SF0 := (SS.setSn (p := none) (q := none) YS ss.i ss.t (.slice am ss.ms.length cm) (.slice ad ss.d.length cd)).below ((Below.refl _ _).drew)
        have BF0 := B7.out.trans (KS.below B7.out.size (fun k hk => by omega))
        have BF1 := (BF0.trans (K4.below BF0.size (fun k hk => by omega))).drew
        have KF0 : Kept w7 _ (fun k => k = w.heap.size + 1 ∨ k = w.heap.size + 1 + 1) := ((KS.mono (fun _ _ h => .inl h)).trans (K4.mono (fun _ _ h => .inr h))).trans (Kept.drew _ _)
        unfold set5D at RFG0 RFY0 SF0 BF1 KF0
        rw [← W1] at RFG0 RFY0 SF0 BF1 KF0
        have RFG := Lib.hid RFG0
        have RFY := Lib.hid RFY0
        have SF := Lib.hid SF0
        have BF := Lib.hid BF1
        have KF := Lib.hid KF0
        clear KS RFF YS SS K4 RFG0 RFY0 SF0 BF0 BF1 KF0 W1 hwz
        clear r0 r1 r2 r3 r4 f0 f1 f2 f3 f4 z0 z1 z2 z3 z4 g0 g1 g2 g3 g4 y0 y1 y2 y3 e0 e1 e2 e3 n0 n1 n2 n3 hlx hlz hly hln
        obtain ⟨q0, q1, q2, q3, q4, _⟩ := RFG.out
        obtain ⟨u0, u1, u2, u3, _⟩ := RFY.out
        go_wp2_with fail
        refine bodyPost_ret (v := .tuple #[.agg #[.int .i64 D1.room, .slice (some ⟨b, o, none⟩) m3 c3, .bool D1.down, .int .i64 D1.armed, .int .u64 D1.steps], .agg #[.int .u64 ss.i, .int .u64 ss.t, (.slice am ss.ms.length cm), (.slice ad ss.d.length cd)], .int .i64 0]) (by simp [results, Tryz.results13, go_sem, q0, q1, q2, q3, q4, u0, u1, u2, u3]) rfl ?_
        unfold ROpen27
        rw [HGO.out, HVE.out, HVS.out]
        exact ⟨_, _, _, _, _, rfl, RIs.new HN3.out SF.out, ⟨_, _, rfl, HM7.out.kept KF.out (fun g hg h => by have h1 := HNM.out g hg; have h2 := L56.out; omega), HD7.out.kept KF.out (fun g hg h => by have h1 := HND.out g hg; have h2 := L56.out; omega)⟩, BF.out, FOW.out, _, _, _, _, rfl, fun g hg => by have h1 := HNM.out g hg; have h2 := L56.out; omega, fun g hg => by have h1 := HND.out g hg; have h2 := L56.out; omega⟩
end Go.Proofs.YtofhccpagnkalaaGreat

/- The snapshot's Get, every way; contract; no conditions. -/
namespace Go.Proofs.YtofhccpagnkalaaGreat
open Go.RowKit Go.Maps Go.Proofs.Own

set_option maxHeartbeats 1600000 in
set_option maxRecDepth 20000 in
theorem sget_0 (sb db mb tb : Nat) (s : SnapS) (w : World) (h : StoreIs w sb db mb tb s) (hi : s.i = 0) :
    Calls Tryz.prog 14 #[.pointer (some ⟨sb, 0, none⟩)] w fun e w' => e = .returned (.tuple #[.agg #[.int .u64 0, .int .u64 0, .slice none 0 0, .slice none 0 0], .bool false]) ∧ Below w.heap.size w w' := by
  have H := Lib.hid h
  obtain ⟨mv, dv, h1, _, _, _⟩ := h
  rw [hi] at h1
  have HS := Lib.hid h1
  have hsl := h1.lt
  clear h1
  go_enter Tryz.func14, Tryz.ntmps14
  go_wp2_with fail
  have R1 : Hid (SBlk (w.alloc (.cells #[.int .u64 0, .int .u64 0, .slice none 0 0, .slice none 0 0] 40)) w.heap.size 0 0 (.slice none 0 0) (.slice none 0 0)) := Lib.hid (SBlk.new w)
  have B1 : Hid (Below w.heap.size w (w.alloc (.cells #[.int .u64 0, .int .u64 0, .slice none 0 0, .slice none 0 0] 40))) := Lib.hid ((Below.refl _ _).alloc (Nat.le_refl _) _)
  generalize World.alloc w _ = w1 at *
  refine (snone sb db mb tb s w1 (H.out.below B1.out)).mono ?_
  rintro e w1' ⟨rfl, rfl⟩
  obtain ⟨r0, r1, _, _, _, _, _, _, _⟩ := HS.out.kept (Kept.of_below B1.out (S := fun _ => False) fun k h1 h2 => by omega) (fun h => h)
  obtain ⟨q0, q1, q2, q3, g0, g1, g2, g3⟩ := R1.out
  have hl1 := R1.out.lt
  go_wp2_with fail
  generalize hwF : World.setCell _ _ _ = wF
  have RF : Hid (SBlk wF w.heap.size 0 0 (.slice none 0 0) (.slice none 0 0)) := Lib.hid (by subst hwF; exact R1.out.set4 0 0 _ _)
  have BF : Hid (Below w.heap.size w wF) := Lib.hid (by subst hwF; exact B1.out.trans ((Kept.set4 w1 w.heap.size 0 0 _ _).below B1.out.size (fun k hk => by omega)))
  clear hwF q0 q1 q2 q3 g0 g1 g2 g3 r0 r1
  obtain ⟨q0, q1, q2, q3, _, _, _, _⟩ := RF.out
  refine bodyPost_ret (v := .tuple #[.agg #[.int .u64 0, .int .u64 0, .slice none 0 0, .slice none 0 0], .bool false]) (by simp [results, Tryz.results14, go_sem, q0, q1, q2, q3]) rfl ?_
  exact ⟨rfl, BF.out⟩

/-- What stands behind an Open: no store, or one with the snapshot s. -/
def OptStore (w : World) (p : Option Addr) (db mb tb : Nat) (s : SnapS) : Prop := (p = none ∧ s = zeroS) ∨ ∃ sb, p = some ⟨sb, 0, none⟩ ∧ StoreIs w sb db mb tb s ∧ (s = zeroS ∨ 1 ≤ s.i)
theorem OptStore.below {w w' : World} {p : Option Addr} {db mb tb : Nat} {s : SnapS} (h : OptStore w p db mb tb s) (hb : Below w.heap.size w w') : OptStore w' p db mb tb s := by
  rcases h with h | ⟨sb, e, h, k⟩
  · exact .inl h
  · exact .inr ⟨sb, e, h.below hb, k⟩
/-- What Get tells. -/
def SGet (s : SnapS) (w : World) : Ending → World → Prop := fun e w' => ∃ i t mv dv, e = .returned (.tuple #[.agg #[.int .u64 i, .int .u64 t, mv, dv], .bool (decide (0 < s.i))]) ∧ SnapIs w' (.agg #[.int .u64 i, .int .u64 t, mv, dv]) s ∧ Below w.heap.size w w'
theorem sget_all (p : Option Addr) (db mb tb : Nat) (s : SnapS) (w : World) (h : OptStore w p db mb tb s) : Calls Tryz.prog 14 #[.pointer p] w (SGet s w) := by
  rcases h with ⟨rfl, rfl⟩ | ⟨sb, rfl, h, hk⟩
  · refine (nos_get none w (.inl rfl)).mono ?_
    rintro e w1 ⟨rfl, hb⟩
    exact ⟨_, _, _, _, rfl, zero_is _, hb⟩
  · rcases hk with rfl | hk
    · refine (sget_0 sb db mb tb zeroS w h rfl).mono ?_
      rintro e w1 ⟨rfl, hb⟩
      exact ⟨_, _, _, _, rfl, zero_is _, hb⟩
    · refine (sget_any sb db mb tb s w h (by omega)).mono ?_
      rintro e w1 ⟨v, rfl, ⟨mv, dv, rfl, h1, h2⟩, hb⟩
      obtain ⟨_, _, _, h3, h4, _⟩ := h
      rw [show true = decide (0 < s.i) from (decide_eq_true (by omega)).symm]
      refine ⟨_, _, _, _, rfl, ⟨mv, dv, rfl, Ints.of_owns h1 h3.small, Bytes.of_owns h2 h4.lt h4.small⟩, hb⟩
theorem readS_ok (m : Nat) (l : List Nat) : readS m l = zeroS ∨ 1 ≤ (readS m l).i := by
  unfold readS
  split
  · rename_i h
    exact .inr h.2.2.2.1
  · exact .inl rfl
theorem sopenS_ok (D : DiskS) : sopenS D = zeroS ∨ 1 ≤ (sopenS D).i := by
  unfold sopenS
  split
  · exact .inl rfl
  · exact readS_ok _ _
end Go.Proofs.YtofhccpagnkalaaGreat

/- The law's own list of a disk's files (curfewlaw23.Files); contract; no conditions but the ranges. -/
namespace Go.Proofs.YtofhccpagnkalaaGreat
open Go.RowKit Go.Maps Go.Proofs.Own

theorem fi_at {w : World} {B n c : Nat} {a : Option Addr} {P : List (FileS × Value × Value)} {L : List FileS} (hP : P.map (·.1) = L) (hr : SRow w 3 (.slice a n c) (P.map fiV)) (hk : ∀ p ∈ P, FiOk w B p)
    (hl : ∀ f ∈ L, ((∀ c ∈ f.all, c < 256) ∧ f.all.length ≤ 2097152) ∧ f.kept ≤ f.all.length) {j : Nat} {f : FileS} (hj : L[j]? = some f) :
    ∃ b o ka kc la lc, a = some ⟨b, o, none⟩ ∧ b < w.heap.size ∧ w.cell? ⟨b, o + j * 3, none⟩ = some (.string f.name) ∧ w.cell? ⟨b, o + j * 3 + 1, none⟩ = some (.slice ka f.kept kc) ∧ w.cell? ⟨b, o + j * 3 + 2, none⟩ = some (.slice la (f.all.length - f.kept) lc) ∧
      Bytes w (.slice ka f.kept kc) (f.all.take f.kept) ∧ Bytes w (.slice la (f.all.length - f.kept) lc) (f.all.drop f.kept) := by
  have hf := hl f (List.mem_of_getElem? hj)
  rw [← hP, List.getElem?_map] at hj
  obtain ⟨p, hp, rfl⟩ := Option.map_eq_some_iff.1 hj
  obtain ⟨hlt, he⟩ := List.getElem?_eq_some_iff.1 hp
  obtain ⟨b, o, h1, h2, h3⟩ := hr.at (j := j) (by rw [List.length_map]; exact hlt)
  rw [List.getElem_map, he] at h3
  have ho := hk p (List.mem_of_getElem? hp)
  have b1 := Bytes.of_owns ho.k (fun c hc => hf.1.1 c (List.mem_of_mem_take hc)) (by rw [List.length_take]; omega)
  have b2 := Bytes.of_owns ho.l (fun c hc => hf.1.1 c (List.mem_of_mem_drop hc)) (by rw [List.length_drop]; omega)
  obtain ⟨p1, p2, p3⟩ := p
  obtain ⟨ka, kc, e1, _⟩ := b1.shape
  obtain ⟨la, lc, e2, _⟩ := b2.shape
  rw [List.length_take, Nat.min_eq_left hf.2] at e1
  rw [List.length_drop] at e2
  simp only at e1 e2 b1 b2 h3 ⊢
  subst e1
  subst e2
  exact ⟨b, o, ka, kc, la, lc, h1, h2, by have := h3 0 _ rfl; rwa [Nat.add_zero] at this, h3 1 _ rfl, h3 2 _ rfl, b1, b2⟩

set_option maxHeartbeats 2000000 in
set_option maxRecDepth 20000 in
theorem lfiles_any (db mb tb : Nat) (D : DiskS) (w : World) (h : DiskIs w db mb tb D) (hw : DWf D) :
    Calls Tryz.prog 17 #[.pointer (some ⟨db, 0, none⟩)] w fun e w' => ∃ v, e = .returned v ∧ SRow w' 3 v (D.files.map rfV) ∧ Below w.heap.size w w' := by
  have H := Lib.hid h
  have HW := Lib.hid hw
  have HLL : Hid (∀ f ∈ D.files, ((∀ c ∈ f.all, c < 256) ∧ f.all.length ≤ 2097152) ∧ f.kept ≤ f.all.length) := Lib.hid fun f hf => ⟨h.byt f hf, (hw.each f hf).2⟩
  obtain ⟨m, hm⟩ : ∃ m, D.files.length = m := ⟨_, rfl⟩
  have HM := Lib.hid hm
  have many : m ≤ 1000 := by rw [← hm]; exact hw.many
  clear h hw hm
  go_enter Tryz.func17, Tryz.ntmps17
  go_wp2_with fail
  refine (dfiles_any db mb tb D _ H.out HW.out).mono ?_
  rintro e w1 ⟨v, rfl, P, hP, hr, hk, hb⟩
  have HP := Lib.hid hP
  have HR := Lib.hid hr
  have HK := Lib.hid hk
  have B1 := Lib.hid hb
  obtain ⟨a, c, rfl, _⟩ := hr.shape
  have hlen : (P.map fiV).length = m := by
    have := congrArg List.length hP
    rw [List.length_map] at this ⊢
    rw [this]; exact HM.out
  rw [hlen] at HR ⊢
  clear hP hr hk hb hlen
  go_wp2_with fail
  go_loopw [3, 9] (fun lv y wr => ∃ j : Nat, j ≤ m ∧ y = .int .i64 j ∧ OwnR wr w1.heap.size 96 3 lv ((D.files.take j).map rfV) ∧ Below w1.heap.size w1 wr) (fun _ y _ => m - (intOf y).toNat)
  case atStart => exact ⟨0, Nat.zero_le _, rfl, OwnR.nil _ _ _ _, Below.refl _ _⟩
  case round =>
    obtain ⟨j, hj, rfl, ho, hb⟩ := hrel
    obtain ⟨la, lc, rfl⟩ := ho.shape
    have hlen : ((D.files.take j).map rfV).length = j := by rw [List.length_map, List.length_take]; have := HM.out; omega
    have OW := Lib.hid ho
    have BR := Lib.hid hb
    rw [hlen] at OW ⊢
    clear ho hb
    by_cases hlt : j < m
    · obtain ⟨f, hf, _⟩ := getAt (l := D.files) (j := j) (by rw [HM.out]; exact hlt)
      obtain ⟨b, o, ka, kc, ra, rc, rfl, hbl, c0, c1, c2, hB1, hB2⟩ := fi_at HP.out (HR.out.below BR.out) (fun p hp => (HK.out p hp).below BR.out) HLL.out hf
      have HF := Lib.hid hf
      have HX : Hid (D.files.take (j + 1) = D.files.take j ++ [f]) := Lib.hid (by rw [List.take_add_one, hf]; rfl)
      have hcat : strN (f.all.take f.kept) ++ strN (f.all.drop f.kept) = strN f.all := by rw [strN_app, List.take_append_drop]
      have hs1 := hB1.small
      have hs2 := hB2.small
      have hcl : ((strN (f.all.take f.kept)).size : Int) + ((strN (f.all.drop f.kept)).size : Int) ≤ 9223372036854775807 := by rw [size_strN, size_strN]; omega
      generalize f.all.take f.kept = l1 at *
      generalize f.all.drop f.kept = l2 at *
      generalize f.all.length - f.kept = n2 at *
      have y1 := (hB1.alloc (.cells #[.string f.name, .slice ka f.kept kc, .slice ra n2 rc] 110)).str Tryz.underlying22 Tryz.underlying5 Tryz.underlying9
      have y2 := (hB2.alloc (.cells #[.string f.name, .slice ka f.kept kc, .slice ra n2 rc] 110)).str Tryz.underlying22 Tryz.underlying5 Tryz.underlying9
      have HOA : Hid (OwnR ((wr.alloc (.cells #[.string f.name, .slice ka f.kept kc, .slice ra n2 rc] 110)).alloc (.cells #[.string f.name, .string (strN f.all), .int .i64 f.kept] 96)) w1.heap.size 96 3 (.slice la j lc) ((D.files.take j).map rfV)) := Lib.hid ((OW.out.alloc _).alloc _)
      have hce := rfV_cells (wr.alloc (.cells #[.string f.name, .slice ka f.kept kc, .slice ra n2 rc] 110)) f
      rw [World.size_alloc] at hce
      have HCE := Lib.hid hce
      have hsz := BR.out.size
      have HBS : Hid (w1.heap.size ≤ ((wr.alloc (.cells #[.string f.name, .slice ka f.kept kc, .slice ra n2 rc] 110)).alloc (.cells #[.string f.name, .string (strN f.all), .int .i64 f.kept] 96)).heap.size) := Lib.hid (by simp only [World.size_alloc]; omega)
      have HLE : Hid (((D.files.take j).map rfV).length ≤ 4294967296) := Lib.hid (by omega)
      have j0 : (0 : Int) ≤ (j : Int) := by omega
      have j1 : (j : Int) < (m : Int) := by omega
      clear hf hB1 hB2 hs1 hs2 hlen hce
      go_wp2_with (at_builtin; refine wpList_append_row rfile3 _ _ rfl w1.heap.size _ _ _ _ rfl rfl HOA.out (rfV_len f) HCE.out (rfV_one f) HLE.out HBS.out rfl ?_; intro v2 w2 ho2 hg2 hat2 hb2; have O2 := Lib.hid ho2; have B2 := Lib.hid hb2; clear ho2 hg2 hat2 hb2)
      go_roundw
      case rel => exact ⟨j + 1, by omega, by first | rfl | go_num, by rw [HX.out, List.map_append]; exact O2.out, ((BR.out.alloc hsz _).alloc (by simp only [World.size_alloc]; omega) _).trans B2.out⟩
      case measure => simp [intOf]; omega
    · obtain rfl : j = m := by omega
      have j1 : ¬ (j : Int) < (j : Int) := by omega
      go_wp2_with fail
      go_ret
      have HO := SRow.of_own OW.out
      rw [List.take_of_length_le (by rw [HM.out]; exact Nat.le_refl _)] at HO
      exact ⟨.slice la j lc, rfl, HO, B1.out.trans (BR.out.mono B1.out.size)⟩
end Go.Proofs.YtofhccpagnkalaaGreat

/- The document's Same of two lists of files that are alike; contract; no conditions but the ranges. -/
namespace Go.Proofs.YtofhccpagnkalaaGreat
open Go.RowKit Go.Maps Go.Proofs.Own

set_option maxHeartbeats 2000000 in
set_option maxRecDepth 20000 in
theorem rsameL_any (v1 v2 : Value) (L : List FileS) (w : World) (h1 : SRow w 3 v1 (L.map rfV)) (h2 : SRow w 3 v2 (L.map rfV)) (hm : L.length ≤ 1000) :
    Calls Tryz.prog 16 #[v1, v2] w fun e w' => e = .returned (.bool true) ∧ Below w.heap.size w w' := by
  have H1 := Lib.hid h1
  have H2 := Lib.hid h2
  obtain ⟨a1, c1, rfl, _⟩ := h1.shape
  obtain ⟨a2, c2, rfl, _⟩ := h2.shape
  obtain ⟨m, hlm⟩ : ∃ m, L.length = m := ⟨_, rfl⟩
  have HL := Lib.hid hlm
  have hl2 : (L.map rfV).length = m := by rw [List.length_map]; exact hlm
  rw [hl2] at H1 H2 ⊢
  rw [hlm] at hm
  clear h1 h2 hlm hl2
  go_enter Tryz.func16, Tryz.ntmps16
  go_wp2_with fail
  go_loopw [5] (fun y wr => ∃ j : Nat, j ≤ m ∧ y = .int .i64 j ∧ Below w.heap.size w wr) (fun y _ => m - (intOf y).toNat)
  case atStart => exact ⟨0, Nat.zero_le _, rfl, Below.refl _ _⟩
  case round =>
    obtain ⟨j, hj, rfl, hb⟩ := hrel
    have BR := Lib.hid hb
    clear hb
    by_cases hlt : j < m
    · obtain ⟨f, hf, _⟩ := getAt (l := L) (j := j) (by rw [HL.out]; exact hlt)
      obtain ⟨b, o, rfl, hbl, c0, c1, c2⟩ := (H1.out.below BR.out).file hf
      obtain ⟨b', o', rfl, hbl', d0, d1, d2⟩ := (H2.out.below BR.out).file hf
      have e1 : (f.name.toList == f.name.toList) = true := by simp
      have e2 : ((strN f.all).toList == (strN f.all).toList) = true := by simp
      have j0 : (0 : Int) ≤ (j : Int) := by omega
      have j1 : (j : Int) < (m : Int) := by omega
      clear hf hbl hbl'
      go_wp2_with fail
      go_quiet (fail)
      go_wp2_with fail
      go_roundw
      case rel => exact ⟨j + 1, by omega, by first | rfl | go_num, below_drewN BR.out _⟩
      case measure => simp [intOf]; omega
    · obtain rfl : j = m := by omega
      have j1 : ¬ (j : Int) < (j : Int) := by omega
      go_wp2_with fail
      go_ret
      exact ⟨rfl, BR.out⟩
end Go.Proofs.YtofhccpagnkalaaGreat

/- Plain facts for the law VowOpens: what is appended to a calm disk; Open of the vow never fails on one. No conditions. -/
namespace Go.Proofs.YtofhccpagnkalaaGreat
open Go.RowKit Go.Maps Go.Proofs.Own

theorem appendD_calm {D : DiskS} (h : Calm D) (n : ByteArray) (b : List Nat) : Calm (appendD D n b).1 := by
  unfold appendD
  split
  · exact h
  · unfold Calm stepD
    rw [if_neg (by show ¬ (appD D n b).armed = 0; rw [show (appD D n b).armed = D.armed from rfl, h.2]; decide), if_neg (by rw [show (appD D n b).armed = D.armed from rfl, h.2]; decide)]
    exact h
theorem Byt8.append {D : DiskS} (h : Byt8 D.files) (n : ByteArray) (b : List Nat) (hb : ∀ c ∈ b, c < 256) : Byt8 (appendD D n b).1.files := by
  unfold appendD
  split
  · exact h
  · rw [stepD_files]
    intro f hf
    rcases mem_put.1 hf with rfl | ⟨hf, _⟩
    · intro c hc
      rcases List.mem_append.1 hc with hc | hc
      · unfold getF at hc
        cases hg : findFile n D.files with
        | some g => rw [hg] at hc; exact h g (find_name hg).2 c hc
        | none => rw [hg] at hc; cases hc
      · exact hb c hc
    · exact h f hf
/-- Block b is the law's pair: the program's disk db, the document's disk D, its files' slice sl. -/
structure BO (w : World) (b db : Nat) (D : DiskS) (sl : Value) : Prop where
  c0 : w.cell? ⟨b, 0, none⟩ = some (.pointer (some ⟨db, 0, none⟩))
  c1 : ∃ p, w.cell? ⟨b, 1, none⟩ = some (.pointer p)
  c2 : w.cell? ⟨b, 2, none⟩ = some (.int .i64 D.room)
  c3 : w.cell? ⟨b, 3, none⟩ = some sl
  c4 : w.cell? ⟨b, 4, none⟩ = some (.bool D.down)
  c5 : w.cell? ⟨b, 5, none⟩ = some (.int .i64 D.armed)
  c6 : w.cell? ⟨b, 6, none⟩ = some (.int .u64 D.steps)
  f2 : w.frozen? ⟨b, 2, none⟩ = false
  f3 : w.frozen? ⟨b, 3, none⟩ = false
  f4 : w.frozen? ⟨b, 4, none⟩ = false
  f5 : w.frozen? ⟨b, 5, none⟩ = false
  f6 : w.frozen? ⟨b, 6, none⟩ = false
theorem BO.lt {w : World} {b db : Nat} {D : DiskS} {sl : Value} (h : BO w b db D sl) : b < w.heap.size := World.block_lt_of_cell? _ _ h.c0
theorem BO.kept {w w' : World} {b db : Nat} {D : DiskS} {sl : Value} {S : Nat → Prop} (h : BO w b db D sl) (hk : Kept w w' S) (hs : ¬ S b) : BO w' b db D sl :=
  have l := h.lt
  ⟨hk.cell h.c0 hs, h.c1.imp fun _ e => hk.cell e hs, hk.cell h.c2 hs, hk.cell h.c3 hs, hk.cell h.c4 hs, hk.cell h.c5 hs, hk.cell h.c6 hs, (hk.frozen (a := ⟨b, 2, none⟩) l hs).trans h.f2, (hk.frozen (a := ⟨b, 3, none⟩) l hs).trans h.f3, (hk.frozen (a := ⟨b, 4, none⟩) l hs).trans h.f4, (hk.frozen (a := ⟨b, 5, none⟩) l hs).trans h.f5, (hk.frozen (a := ⟨b, 6, none⟩) l hs).trans h.f6⟩
theorem BO.below {w w' : World} {b db : Nat} {D : DiskS} {sl : Value} (h : BO w b db D sl) (hb : Below w.heap.size w w') : BO w' b db D sl := h.kept (Kept.of_below hb (S := fun _ => False) fun k h1 h2 => by omega) (fun h => h)
theorem BO.box (w : World) (db : Nat) (D : DiskS) (sl : Value) : BO (w.alloc (.cells #[.pointer (some ⟨db, 0, none⟩), .pointer none, .int .i64 D.room, sl, .bool D.down, .int .i64 D.armed, .int .u64 D.steps, .int .u64 0, .int .i64 0] 54)) w.heap.size db D sl :=
  ⟨by go_cell, ⟨none, by go_cell⟩, by go_cell, by go_cell, by go_cell, by go_cell, by go_cell, by simp, by simp, by simp, by simp, by simp⟩
/-- The document's disk is stored into it. -/
def setBO (w : World) (b : Nat) (D : DiskS) (sl : Value) : World := ((((w.setCell ⟨b, 2, none⟩ (.int .i64 D.room)).setCell ⟨b, 3, none⟩ sl).setCell ⟨b, 4, none⟩ (.bool D.down)).setCell ⟨b, 5, none⟩ (.int .i64 D.armed)).setCell ⟨b, 6, none⟩ (.int .u64 D.steps)
theorem Kept.setBO (w : World) (b : Nat) (D : DiskS) (sl : Value) : Kept w (setBO w b D sl) (fun k => k = b) :=
  ((((Kept.setCell w ⟨b, 2, none⟩ _).trans (Kept.setCell _ ⟨b, 3, none⟩ _)).trans (Kept.setCell _ ⟨b, 4, none⟩ _)).trans (Kept.setCell _ ⟨b, 5, none⟩ _)).trans (Kept.setCell _ ⟨b, 6, none⟩ _)
theorem BO.set {w : World} {b db : Nat} {D : DiskS} {sl : Value} (h : BO w b db D sl) (E : DiskS) (sl' : Value) : BO (setBO w b E sl') b db E sl' := by
  obtain ⟨c0, ⟨p, c1⟩, c2, c3, c4, c5, c6, f2, f3, f4, f5, f6⟩ := h
  unfold setBO
  refine ⟨?_, ⟨p, ?_⟩, ?_, ?_, ?_, ?_, ?_, by simp [f2], by simp [f3], by simp [f4], by simp [f5], by simp [f6]⟩
  all_goals go_cell
theorem BO.no {w : World} {b db : Nat} {D : DiskS} {a : Option Addr} {n c : Nat} (h : BO w b db D (.slice a n c)) : ∀ k, k < 7 → ∃ x, w.cell? ⟨b, k, none⟩ = some x ∧ (∀ s, x ≠ .string s) ∧ ∀ y, x ≠ .int .u8 y := by
  intro k hk
  obtain ⟨p, c1⟩ := h.c1
  match k, hk with
  | 0, _ => exact ⟨_, h.c0, (fun s e => by cases e), (fun s e => by cases e)⟩
  | 1, _ => exact ⟨_, c1, (fun s e => by cases e), (fun s e => by cases e)⟩
  | 2, _ => exact ⟨_, h.c2, (fun s e => by cases e), (fun s e => by cases e)⟩
  | 3, _ => exact ⟨_, h.c3, (fun s e => by cases e), (fun s e => by cases e)⟩
  | 4, _ => exact ⟨_, h.c4, (fun s e => by cases e), (fun s e => by cases e)⟩
  | 5, _ => exact ⟨_, h.c5, (fun s e => by cases e), (fun s e => by cases e)⟩
  | 6, _ => exact ⟨_, h.c6, (fun s e => by cases e), (fun s e => by cases e)⟩
end Go.Proofs.YtofhccpagnkalaaGreat

/- What a disk's steps count tells, and how a region's standing fact is changed on the way; no conditions. -/
namespace Go.Proofs.Own
open Go Go.RowKit

section
variable {P : Program} {ops : Array Oper} {Q : Exit → Act → World → Prop} {M : List Nat} {J : Nat}
end
end Go.Proofs.Own
namespace Go.Proofs.YtofhccpagnkalaaGreat
open Go.RowKit Go.Maps Go.Proofs.Own

set_option maxHeartbeats 1000000 in
theorem rnew_at (room : Int) (w : World) : Calls Tryz.prog 9 #[.int .i64 room] w fun e w' => e = .returned (.agg #[.int .i64 room, .slice none 0 0, .bool false, .int .i64 (-1), .int .u64 0]) ∧ Below w.heap.size w w' := by
  go_enter Tryz.func9, Tryz.ntmps9
  go_wp2_with fail
  refine bodyPost_ret (v := .agg #[.int .i64 room, .slice none 0 0, .bool false, .int .i64 (-1), .int .u64 0]) (by simp [results, Tryz.results9, go_sem]) rfl ?_
  exact ⟨rfl, (Below.refl _ _).alloc (Nat.le_refl _) _⟩
end Go.Proofs.YtofhccpagnkalaaGreat
