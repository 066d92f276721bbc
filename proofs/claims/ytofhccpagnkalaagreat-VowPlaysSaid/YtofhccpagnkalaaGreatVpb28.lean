/- Several texts in one: Rs, Fl, Sm, Vl, Voa, Vre, Sk, Rin. What each proves stands ahead of it; together they serve vplays_law_holds. No conditions but those stated. -/
import Derived.Test.YtofhccpagnkalaaGreatVpb27
import Derived.Test.YtofhccpagnkalaaGreatVpb25
import Derived.Test.YtofhccpagnkalaaGreatVpb23
import Derived.Test.YtofhccpagnkalaaGreatVpb26
import Derived.Laws.EntriesVeiled
import Derived.Test.YtofhccpagnkalaaGreatVpb17
/- The document's Open of the vow, where the power stays; contracts; no conditions but the ranges. -/
namespace Go.Proofs.YtofhccpagnkalaaGreat
open Go.RowKit Go.Maps Go.Proofs.Own

theorem SC.zero26 (w : World) : SC (w.alloc (.cells #[.int .u64 0, .int .i64 0] 52)) w.heap.size 0 0 := ⟨by go_cell, by go_cell, by simp, by simp⟩
theorem SC.box26 (w : World) (t v : Int) : SC (w.alloc (.cells #[.int .u64 t, .int .i64 v] 52)) w.heap.size t v := ⟨by go_cell, by go_cell, by simp, by simp⟩
theorem DGood.small {D : DiskS} (h : DGood D) : ∀ f ∈ D.files, f.all.length ≤ 1048576 := fun f hf => by
  have h1 := h.tot
  obtain ⟨i, hi⟩ := List.getElem?_of_mem hf
  have h2 := total_snoc hi
  have h3 := total_take D.files (i + 1)
  omega
theorem Byt8.remove {D : DiskS} (h : Byt8 D.files) (n : ByteArray) : Byt8 (removeD D n).1.files := by
  unfold removeD
  split
  · split
    · exact h
    · split
      · simp only [stepD_files]; exact h
      · exact fun f hf => h f (mem_del.1 hf).1
  · exact h
/-- .. and where the files' slice lies. -/
def ROpenPostN (D : DiskS) (v0 : Value) (w : World) : Ending → World → Prop := fun e w' => ∃ v', e = .returned (.tuple #[v', .agg #[.int .u64 (vopenS D).t, .int .i64 (vopenS D).v], .int .i64 0]) ∧ RIs w' v' (vopenD D).1 ∧ Below w.heap.size w w' ∧ ∀ g, fsOwn v' = some g → fsOwn v0 = some g ∨ w.heap.size ≤ g
theorem SRow.setSC {w : World} {b : Nat} {t v : Int} {a : Option Addr} {n c : Nat} {L : List FileS} (h : SRow w 3 (.slice a n c) (L.map rfV)) (k : SC w b t v) (x y : Value) : SRow ((w.setCell ⟨b, 0, none⟩ x).setCell ⟨b, 1, none⟩ y) 3 (.slice a n c) (L.map rfV) := by
  refine h.far (N := 2) (b := b) (fun i hi => ?_) (fun g i hg => ?_) (Kept.set2 w b x y).size
  · match i, hi with
    | 0, _ => exact ⟨_, k.c0, fun s e => by cases e⟩
    | 1, _ => exact ⟨_, k.c1, fun s e => by cases e⟩
  · have hne : ∀ j, j < 2 → (⟨b, j, none⟩ : Addr) ≠ ⟨g, i, none⟩ := by
      intro j hj e
      simp only [Addr.mk.injEq, and_true] at e
      have := hg e.1.symm
      omega
    rw [World.cell?_setCell_other _ _ _ _ (hne 1 (by omega)), World.cell?_setCell_other _ _ _ _ (hne 0 (by omega))]

set_option maxHeartbeats 4000000 in
set_option maxRecDepth 20000 in
theorem ropen_new (v : Value) (D : DiskS) (w : World) (h : RIs w v D) (hg : DGood D) (hc : Calm D) (hs : D.steps + 3 ≤ 1000000000) (hb : Byt8 D.files) : Calls Tryz.prog 20 #[v] w (ROpenPostN D v w) := by
  obtain ⟨a, c, rfl, hr⟩ := h
  obtain ⟨room, L, down, armed, steps⟩ := D
  obtain ⟨hc1, hc2⟩ := hc
  simp only at hr hc1 hc2 hs hb ⊢
  subst hc1 hc2
  have HG := Lib.hid hg
  have HS := Lib.hid hs
  have HB8 := Lib.hid hb
  obtain ⟨n, hn⟩ : ∃ k, L.length = k := ⟨_, rfl⟩
  have HN := Lib.hid hn
  rw [hn] at hr ⊢
  have HR := Lib.hid hr
  clear hr hn hg hs hb
  have hz1 : (w.alloc (.cells #[.int .i64 room, .slice a n c, .bool false, .int .i64 (-1), .int .u64 steps] 29)).heap.size = w.heap.size + 1 := by simp
  have hz2 : ((w.alloc (.cells #[.int .i64 room, .slice a n c, .bool false, .int .i64 (-1), .int .u64 steps] 29)).alloc (.cells #[.int .i64 0, .slice none 0 0, .bool false, .int .i64 0, .int .u64 0] 29)).heap.size = w.heap.size + 1 + 1 := by simp
  have BX : RD ((((w.alloc (.cells #[.int .i64 room, .slice a n c, .bool false, .int .i64 (-1), .int .u64 steps] 29)).alloc (.cells #[.int .i64 0, .slice none 0 0, .bool false, .int .i64 0, .int .u64 0] 29)).alloc (.cells #[.int .u64 0, .int .i64 0] 52)).alloc (.cells #[.int .u64 0, .int .i64 0] 52)) w.heap.size ⟨room, L, false, -1, steps⟩ (.slice a n c) := (((RD.box w ⟨room, L, false, -1, steps⟩ (.slice a n c)).below ((Below.refl _ _).alloc (Nat.le_refl _) _)).below ((Below.refl _ _).alloc (Nat.le_refl _) _)).below ((Below.refl _ _).alloc (Nat.le_refl _) _)
  have BZ : RD ((((w.alloc (.cells #[.int .i64 room, .slice a n c, .bool false, .int .i64 (-1), .int .u64 steps] 29)).alloc (.cells #[.int .i64 0, .slice none 0 0, .bool false, .int .i64 0, .int .u64 0] 29)).alloc (.cells #[.int .u64 0, .int .i64 0] 52)).alloc (.cells #[.int .u64 0, .int .i64 0] 52)) (w.heap.size + 1) zeroD (.slice none 0 0) := by
    have h := ((RD.zero (w.alloc (.cells #[.int .i64 room, .slice a n c, .bool false, .int .i64 (-1), .int .u64 steps] 29))).below ((Below.refl _ _).alloc (Nat.le_refl _) _)).below ((Below.refl _ _).alloc (Nat.le_refl _) _) (w' := ((((w.alloc (.cells #[.int .i64 room, .slice a n c, .bool false, .int .i64 (-1), .int .u64 steps] 29)).alloc (.cells #[.int .i64 0, .slice none 0 0, .bool false, .int .i64 0, .int .u64 0] 29)).alloc (.cells #[.int .u64 0, .int .i64 0] 52)).alloc (.cells #[.int .u64 0, .int .i64 0] 52)))
    rw [hz1] at h
    exact h
  have BY : SC ((((w.alloc (.cells #[.int .i64 room, .slice a n c, .bool false, .int .i64 (-1), .int .u64 steps] 29)).alloc (.cells #[.int .i64 0, .slice none 0 0, .bool false, .int .i64 0, .int .u64 0] 29)).alloc (.cells #[.int .u64 0, .int .i64 0] 52)).alloc (.cells #[.int .u64 0, .int .i64 0] 52)) (w.heap.size + 1 + 1) 0 0 := by
    have h : SC (((w.alloc (.cells #[.int .i64 room, .slice a n c, .bool false, .int .i64 (-1), .int .u64 steps] 29)).alloc (.cells #[.int .i64 0, .slice none 0 0, .bool false, .int .i64 0, .int .u64 0] 29)).alloc (.cells #[.int .u64 0, .int .i64 0] 52)) ((w.alloc (.cells #[.int .i64 room, .slice a n c, .bool false, .int .i64 (-1), .int .u64 steps] 29)).alloc (.cells #[.int .i64 0, .slice none 0 0, .bool false, .int .i64 0, .int .u64 0] 29)).heap.size 0 0 := SC.zero26 _
    have h2 := h.below ((Below.refl _ _).alloc (Nat.le_refl _) _) (W' := ((((w.alloc (.cells #[.int .i64 room, .slice a n c, .bool false, .int .i64 (-1), .int .u64 steps] 29)).alloc (.cells #[.int .i64 0, .slice none 0 0, .bool false, .int .i64 0, .int .u64 0] 29)).alloc (.cells #[.int .u64 0, .int .i64 0] 52)).alloc (.cells #[.int .u64 0, .int .i64 0] 52)))
    rw [hz2] at h2
    exact h2
  have BB : Below w.heap.size w ((((w.alloc (.cells #[.int .i64 room, .slice a n c, .bool false, .int .i64 (-1), .int .u64 steps] 29)).alloc (.cells #[.int .i64 0, .slice none 0 0, .bool false, .int .i64 0, .int .u64 0] 29)).alloc (.cells #[.int .u64 0, .int .i64 0] 52)).alloc (.cells #[.int .u64 0, .int .i64 0] 52)) := (((Below.refl _ _).alloc (Nat.le_refl _) _).alloc (by simp) _).alloc (by simp; omega) _ |>.alloc (by simp; omega) _
  clear hz1 hz2
  go_enter Tryz.func20, Tryz.ntmps20
  go_wp2_with fail
  generalize World.alloc (World.alloc (World.alloc (World.alloc w _) _) _) _ = w1 at *
  have X1 := Lib.hid BX
  have Z1 := Lib.hid BZ
  have Y1 := Lib.hid BY
  have B1 := Lib.hid BB
  clear BX BZ BY BB
  refine (rgone_new _ ⟨room, L, false, -1, steps⟩ nVowN w1 (RIs.new (D := ⟨room, L, false, -1, steps⟩) HN.out (HR.out.below B1.out)) HG.out rfl).mono ?_
  rintro e w2 ⟨v2, rfl, hr2, hb2, hf2⟩
  have GC := gone_calm (D := ⟨room, L, false, -1, steps⟩) ⟨rfl, rfl⟩
  have GG := vgoneD_good nVowN HG.out (by have := HS.out; simp only at this ⊢; omega)
  have GB : Byt8 (vgoneD ⟨room, L, false, -1, steps⟩ nVowN).1.files := Byt8.remove (D := ⟨room, L, false, -1, steps⟩) HB8.out nVowN
  obtain ⟨r, hr⟩ : ∃ r, vgoneD ⟨room, L, false, -1, steps⟩ nVowN = r := ⟨_, rfl⟩
  have HR1 := Lib.hid hr
  rw [hr] at hr2 GC GG GB ⊢
  obtain ⟨D1, e1⟩ := r
  obtain rfl : e1 = 0 := GC.1
  have C1 := Lib.hid GC.2.1
  have G1 := Lib.hid GG.1
  have HS1 : Hid (D1.steps + 2 ≤ 1000000000) := Lib.hid (by have h1 := HS.out; have h2 := GG.2; simp only at h1 h2; omega)
  have B81 := Lib.hid GB
  have HOP : Hid (vopenD ⟨room, L, false, -1, steps⟩ = settleD D1 ∧ vopenS ⟨room, L, false, -1, steps⟩ = settleS D1) := Lib.hid (by unfold vopenD vopenS; rw [HR1.out]; exact ⟨rfl, rfl⟩)
  have HF1 : Hid (D1.files.length ≤ 1000) := Lib.hid (by have h := GG.1.few; simp only at h; omega)
  have X2 := Lib.hid (X1.out.below hb2)
  have Z2 := Lib.hid (Z1.out.below hb2)
  have Y2 := Lib.hid (Y1.out.below hb2)
  have B2 : Hid (Below w.heap.size w w2) := Lib.hid (B1.out.trans (hb2.mono B1.out.size))
  obtain ⟨a2, c2, rfl, hs2⟩ := hr2
  obtain ⟨n2, hn2⟩ : ∃ k, D1.files.length = k := ⟨_, rfl⟩
  have HN2 := Lib.hid hn2
  have S2 := Lib.hid hs2
  rw [hn2] at S2 ⊢
  clear hs2 hn2
  simp only at hf2
  rw [HN2.out] at hf2
  have FO2 : Hid (∀ g, (Value.slice a2 n2 c2).ownBlock = some g → (Value.slice a n c).ownBlock = some g ∨ w.heap.size ≤ g) := Lib.hid (fun g hg => by
    rcases hf2 g hg with h | h
    · exact .inl h
    · exact .inr (Nat.le_trans B1.out.size h))
  clear hf2
  clear hb2 hr GC GG GB
  obtain ⟨r0, r1, r2, r3, r4, f0, f1, f2, f3, f4⟩ := X2.out
  obtain ⟨z0, z1, z2, z3, z4, g0, g1, g2, g3, g4⟩ := Z2.out
  obtain ⟨y0, y1, y2, y3⟩ := Y2.out
  have hlx := X2.out.lt
  have hlz := Z2.out.lt
  have hly := Y2.out.lt
  have S3 := Lib.hid (S2.out.setD X2.out (fun s e => by cases e) D1 (.slice a2 n2 c2))
  have X3 := Lib.hid (X2.out.set D1 (.slice a2 n2 c2))
  have KS := Kept.set5D w2 w.heap.size D1 (.slice a2 n2 c2)
  have Z3 := Lib.hid (Z2.out.kept KS (by omega))
  have Y3 := Lib.hid (Y2.out.kept KS (by omega))
  have B3 := Lib.hid (B2.out.trans (KS.below B2.out.size (fun k hk => by omega)))
  unfold set5D at S3 X3 Z3 Y3 B3
  clear KS
  go_wp2_with fail
  generalize (((((w2.setCell ⟨w.heap.size, 0, none⟩ (.int .i64 D1.room)).setCell ⟨w.heap.size, 1, none⟩ (.slice a2 n2 c2)).setCell ⟨w.heap.size, 2, none⟩ (.bool D1.down)).setCell ⟨w.heap.size, 3, none⟩ (.int .i64 D1.armed)).setCell ⟨w.heap.size, 4, none⟩ (.int .u64 D1.steps)) = w3 at *
  clear r0 r1 r2 r3 r4 f0 f1 f2 f3 f4 z0 z1 z2 z3 z4 g0 g1 g2 g3 g4 y0 y1 y2 y3 hlx hlz hly
  refine (rfind_any _ D1 nVow w3 (RIs.new HN2.out S3.out) HF1.out).mono ?_
  rintro e w4 ⟨rfl, hb4⟩
  have X4 := Lib.hid (X3.out.below hb4)
  have Z4 := Lib.hid (Z3.out.below hb4)
  have Y4 := Lib.hid (Y3.out.below hb4)
  have B4 : Hid (Below w.heap.size w w4) := Lib.hid (B3.out.trans (hb4.mono B3.out.size))
  have S4 := Lib.hid (S3.out.below hb4)
  clear hb4
  cases hf : findFile nVow D1.files with
  | none =>
    have hI : findI nVow D1.files = -1 := findI_none.2 hf
    have HV : Hid (settleD D1 = (D1, 0) ∧ settleS D1 = ⟨0, -1, 0⟩) := Lib.hid (by
      have h31 : fileE D1 nVow = 31 := fileE_31 C1.out.1 hf
      unfold settleD settleS
      rw [if_pos h31, if_pos h31]
      exact ⟨rfl, rfl⟩)
    rw [hI]
    clear hf hI
    obtain ⟨r0, r1, r2, r3, r4, f0, f1, f2, f3, f4⟩ := X4.out
    obtain ⟨z0, z1, z2, z3, z4, g0, g1, g2, g3, g4⟩ := Z4.out
    obtain ⟨y0, y1, y2, y3⟩ := Y4.out
    have hlx := X4.out.lt
    have hlz := Z4.out.lt
    have hly := Y4.out.lt
    have RFF := Lib.hid (Z4.out.set D1 (.slice a2 n2 c2))
    have KS := Kept.set5D w4 (w.heap.size + 1) D1 (.slice a2 n2 c2)
    have YS := Y4.out.kept KS (by omega)
    have SS := S4.out.setD Z4.out (fun s e => by cases e) D1 (.slice a2 n2 c2)
    have RFG := Lib.hid (RFF.out.kept (Kept.set2 _ (w.heap.size + 1 + 1) (.int .u64 0) (.int .i64 (-1))) (by omega))
    have RFY := Lib.hid (YS.set 0 (-1))
    have SF := Lib.hid (SS.setSC YS (.int .u64 0) (.int .i64 (-1)))
    have BF0 := B4.out.trans (KS.below B4.out.size (fun k hk => by omega))
    have BF := Lib.hid (BF0.trans ((Kept.set2 _ (w.heap.size + 1 + 1) (.int .u64 0) (.int .i64 (-1))).below BF0.size (fun k hk => by omega)))
    unfold set5D at RFG RFY SF BF
    clear KS YS SS BF0 RFF
    go_wp2_with fail
    generalize World.setCell (World.setCell (((((w4.setCell ⟨w.heap.size + 1, 0, none⟩ (.int .i64 D1.room)).setCell ⟨w.heap.size + 1, 1, none⟩ (.slice a2 n2 c2)).setCell ⟨w.heap.size + 1, 2, none⟩ (.bool D1.down)).setCell ⟨w.heap.size + 1, 3, none⟩ (.int .i64 D1.armed)).setCell ⟨w.heap.size + 1, 4, none⟩ (.int .u64 D1.steps)) _ _) _ _ = wF at *
    clear r0 r1 r2 r3 r4 f0 f1 f2 f3 f4 z0 z1 z2 z3 z4 g0 g1 g2 g3 g4 y0 y1 y2 y3 hlx hlz hly
    obtain ⟨q0, q1, q2, q3, q4, _⟩ := RFG.out
    obtain ⟨u0, u1, _, _⟩ := RFY.out
    refine bodyPost_ret (v := .tuple #[.agg #[.int .i64 D1.room, .slice a2 n2 c2, .bool D1.down, .int .i64 D1.armed, .int .u64 D1.steps], .agg #[.int .u64 0, .int .i64 (-1)], .int .i64 0]) (by simp [results, Tryz.results20, go_sem, q0, q1, q2, q3, q4, u0, u1]) rfl ?_
    unfold ROpenPostN
    rw [HOP.out.1, HOP.out.2, HV.out.1, HV.out.2]
    exact ⟨_, rfl, RIs.new HN2.out SF.out, BF.out, FO2.out⟩
  | some f =>
    obtain ⟨i, hI, hLi⟩ := findI_some hf
    rw [hI]
    have hi0 : ¬ (i : Int) < 0 := by omega
    have hsm := G1.out.small f (List.mem_of_getElem? hLi)
    have h8 := B81.out f (List.mem_of_getElem? hLi)
    have h0 : fileE D1 nVow = 0 := by unfold fileE; rw [if_neg (by rw [C1.out.1]; decide), if_neg (by rw [hf]; simp)]
    have HF0 := Lib.hid h0
    have HFF := Lib.hid hf
    have HGF := Lib.hid (getF_some hf)
    obtain ⟨b, o, rfl, hbl, k0, k1, k2⟩ := S4.out.file hLi
    have him : (i : Int) < (n2 : Int) := by have h1 := (List.getElem?_eq_some_iff.1 hLi).1; have h2 := HN2.out; omega
    have HTB : Hid (natsOf (strN f.all) = f.all) := Lib.hid (natsOf_strN h8)
    have HSZ : Hid ((strN f.all).size ≤ 2097152) := Lib.hid (by rw [size_strN]; omega)
    have HSM := Lib.hid hsm
    have hst : Hid (settleS D1 = lastR f.all) := Lib.hid (by unfold settleS; rw [h0, if_neg (by decide), if_neg (by decide), HGF.out])
    clear hf hI hLi h8 h0
    obtain ⟨r0, r1, r2, r3, r4, f0, f1, f2, f3, f4⟩ := X4.out
    obtain ⟨z0, z1, z2, z3, z4, g0, g1, g2, g3, g4⟩ := Z4.out
    obtain ⟨y0, y1, y2, y3⟩ := Y4.out
    have hlx := X4.out.lt
    have hlz := Z4.out.lt
    have hly := Y4.out.lt
    go_wp2_with (refine wpList_to_bytes rfl 9 22 5 _ rfl Tryz.underlying9 Tryz.underlying22 Tryz.underlying5 _ rfl HSZ.out ?_; intro bv w5 hB5 hb5 hob5; rw [HTB.out] at hB5; obtain ⟨ab, cb, rfl, _⟩ := hB5.shape; have HB5 := Lib.hid hB5; have HB45 := Lib.hid hb5; clear hB5 hb5 hob5)
    have X5 := Lib.hid (X4.out.below HB45.out)
    have Z5 := Lib.hid (Z4.out.below HB45.out)
    have Y5 := Lib.hid (Y4.out.below HB45.out)
    have B5 : Hid (Below w.heap.size w w5) := Lib.hid (B4.out.trans (HB45.out.mono B4.out.size))
    have S5 := Lib.hid (S4.out.below HB45.out)
    clear k0 k1 k2 hbl
    clear r0 r1 r2 r3 r4 f0 f1 f2 f3 f4 z0 z1 z2 z3 z4 g0 g1 g2 g3 g4 y0 y1 y2 y3 hlx hlz hly
    refine (rlast_any _ f.all w5 HB5.out).mono ?_
    rintro e w6 ⟨rfl, hb6⟩
    have hgl := lastR_le f.all
    obtain ⟨r, hr⟩ : ∃ r, lastR f.all = r := ⟨_, rfl⟩
    rw [hr] at hgl hst ⊢
    obtain ⟨tv, vv, gd⟩ := r
    simp only at hgl ⊢
    have HST := Lib.hid hst
    have HLR := Lib.hid hr
    have HGL := Lib.hid hgl
    clear hst hr hgl
    have X6 := Lib.hid (X5.out.below hb6)
    have Z6 := Lib.hid (Z5.out.below hb6)
    have Y6 := Lib.hid (Y5.out.below hb6)
    have B6 : Hid (Below w.heap.size w w6) := Lib.hid (B5.out.trans (hb6.mono B5.out.size))
    have S6 := Lib.hid (S5.out.below hb6)
    clear hb6
    have HBS : Hid (w.heap.size + 1 + 1 < w6.heap.size) := Lib.hid Y6.out.lt
    have AL : Below w6.heap.size w6 (w6.alloc (.cells #[.int .u64 tv, .int .i64 vv] 52)) := (Below.refl _ _).alloc (Nat.le_refl _) _
    have TB := SC.box26 w6 tv vv
    have X7 := Lib.hid (X6.out.below AL)
    have Z7 := Lib.hid (Z6.out.below AL)
    have Y7 := Lib.hid (Y6.out.below AL)
    have B7 : Hid (Below w.heap.size w (w6.alloc (.cells #[.int .u64 tv, .int .i64 vv] 52))) := Lib.hid (B6.out.trans (AL.mono B6.out.size))
    have S7 := Lib.hid (S6.out.below AL)
    have T7 := Lib.hid TB
    have hss := size_strN f.all
    have hgd0 : ¬ (gd : Int) < 0 := by omega
    clear AL TB
    by_cases hlt : gd < f.all.length
    · obtain ⟨r0, r1, r2, r3, r4, f0, f1, f2, f3, f4⟩ := X7.out
      obtain ⟨z0, z1, z2, z3, z4, g0, g1, g2, g3, g4⟩ := Z7.out
      obtain ⟨y0, y1, y2, y3⟩ := Y7.out
      have hlx := X7.out.lt
      have hlz := Z7.out.lt
      have hly := Y7.out.lt
      have hltb : (gd : Int) < (f.all.length : Int) := by omega
      have HLT := Lib.hid hlt
      go_wp2_with fail
      generalize World.alloc w6 _ = w7 at *
      generalize w6.heap.size = bs at *
      clear hss hltb hlt
      clear r0 r1 r2 r3 r4 f0 f1 f2 f3 f4 z0 z1 z2 z3 z4 g0 g1 g2 g3 g4 y0 y1 y2 y3 hlx hlz hly
      refine (rcut_new _ D1 nVow gd w7 (RIs.new HN2.out S7.out) G1.out (fun fl hfl => by have := G1.out.small fl hfl; omega)).mono ?_
      rintro e w8 ⟨v8, rfl, hr8, hb8, hf8⟩
      have CCM := cut_calm C1.out HFF.out gd (Nat.le_of_lt HLT.out)
      have CG := G1.out.cut nVow gd (by have := HS1.out; omega)
      obtain ⟨r, hr⟩ : ∃ r, cutD D1 nVow gd = r := ⟨_, rfl⟩
      have HRC := Lib.hid hr
      rw [hr] at hr8 CCM CG ⊢
      obtain ⟨D2, e2⟩ := r
      obtain rfl : e2 = 0 := CCM.1
      have CX := Lib.hid CCM.2.1
      have FX := Lib.hid CCM.2.2
      have G2 := Lib.hid CG.1
      have X8 := Lib.hid (X7.out.below hb8)
      have Z8 := Lib.hid (Z7.out.below hb8)
      have Y8 := Lib.hid (Y7.out.below hb8)
      have B8 : Hid (Below w.heap.size w w8) := Lib.hid (B7.out.trans (hb8.mono B7.out.size))
      have T8 := Lib.hid (T7.out.below hb8)
      obtain ⟨a8, c8, rfl, hs8⟩ := hr8
      obtain ⟨n8, hn8⟩ : ∃ k, D2.files.length = k := ⟨_, rfl⟩
      have HN8 := Lib.hid hn8
      have S8 := Lib.hid hs8
      rw [hn8] at S8 ⊢
      clear hs8 hn8
      simp only at hf8
      rw [HN8.out] at hf8
      have FO8 : Hid (∀ g, (Value.slice a8 n8 c8).ownBlock = some g → (Value.slice a n c).ownBlock = some g ∨ w.heap.size ≤ g) := Lib.hid (fun g hg => by
        rcases hf8 g hg with h | h
        · exact FO2.out g h
        · exact .inr (Nat.le_trans B7.out.size h))
      clear hf8
      clear hb8 hr CCM CG
      obtain ⟨r0, r1, r2, r3, r4, f0, f1, f2, f3, f4⟩ := X8.out
      obtain ⟨z0, z1, z2, z3, z4, g0, g1, g2, g3, g4⟩ := Z8.out
      obtain ⟨y0, y1, y2, y3⟩ := Y8.out
      have hlx := X8.out.lt
      have hlz := Z8.out.lt
      have hly := Y8.out.lt
      have S9 := Lib.hid (S8.out.setD X8.out (fun s e => by cases e) D2 (.slice a8 n8 c8))
      have X9 := Lib.hid (X8.out.set D2 (.slice a8 n8 c8))
      have KS := Kept.set5D w8 w.heap.size D2 (.slice a8 n8 c8)
      have Z9 := Lib.hid (Z8.out.kept KS (by omega))
      have Y9 := Lib.hid (Y8.out.kept KS (by omega))
      have B9 := Lib.hid (B8.out.trans (KS.below B8.out.size (fun k hk => by omega)))
      unfold set5D at S9 X9 Z9 Y9 B9
      clear KS
      have T9 := Lib.hid (T8.out.kept (Kept.set5D w8 w.heap.size D2 (.slice a8 n8 c8)) (by have := HBS.out; omega))
      unfold set5D at T9
      go_wp2_with fail
      generalize (((((w8.setCell ⟨w.heap.size, 0, none⟩ (.int .i64 D2.room)).setCell ⟨w.heap.size, 1, none⟩ (.slice a8 n8 c8)).setCell ⟨w.heap.size, 2, none⟩ (.bool D2.down)).setCell ⟨w.heap.size, 3, none⟩ (.int .i64 D2.armed)).setCell ⟨w.heap.size, 4, none⟩ (.int .u64 D2.steps)) = w9 at *
      clear r0 r1 r2 r3 r4 f0 f1 f2 f3 f4 z0 z1 z2 z3 z4 g0 g1 g2 g3 g4 y0 y1 y2 y3 hlx hlz hly
      refine (rsync_new _ D2 nVow w9 (RIs.new HN8.out S9.out) G2.out).mono ?_
      rintro e w10 ⟨v10, rfl, hr10, hb10, hf10⟩
      have SCM := sync_calm CX.out FX.out
      obtain ⟨r, hr⟩ : ∃ r, syncD D2 nVow = r := ⟨_, rfl⟩
      have HRS := Lib.hid hr
      rw [hr] at hr10 SCM ⊢
      obtain ⟨D3, e3⟩ := r
      obtain rfl : e3 = 0 := SCM.1
      have X10 := Lib.hid (X9.out.below hb10)
      have Z10 := Lib.hid (Z9.out.below hb10)
      have Y10 := Lib.hid (Y9.out.below hb10)
      have B10 : Hid (Below w.heap.size w w10) := Lib.hid (B9.out.trans (hb10.mono B9.out.size))
      have T10 := Lib.hid (T9.out.below hb10)
      obtain ⟨a10, c10, rfl, hs10⟩ := hr10
      obtain ⟨n10, hn10⟩ : ∃ k, D3.files.length = k := ⟨_, rfl⟩
      have HN10 := Lib.hid hn10
      have S10 := Lib.hid hs10
      rw [hn10] at S10 ⊢
      clear hs10 hn10
      simp only at hf10
      rw [HN10.out] at hf10
      have FO10 : Hid (∀ g, (Value.slice a10 n10 c10).ownBlock = some g → (Value.slice a n c).ownBlock = some g ∨ w.heap.size ≤ g) := Lib.hid (fun g hg => by
        rcases hf10 g hg with h | h
        · exact FO8.out g h
        · exact .inr (Nat.le_trans B9.out.size h))
      clear hf10
      clear hb10 hr SCM
      obtain ⟨r0, r1, r2, r3, r4, f0, f1, f2, f3, f4⟩ := X10.out
      obtain ⟨z0, z1, z2, z3, z4, g0, g1, g2, g3, g4⟩ := Z10.out
      obtain ⟨y0, y1, y2, y3⟩ := Y10.out
      have hlx := X10.out.lt
      have hlz := Z10.out.lt
      have hly := Y10.out.lt
      have S11 := Lib.hid (S10.out.setD X10.out (fun s e => by cases e) D3 (.slice a10 n10 c10))
      have X11 := Lib.hid (X10.out.set D3 (.slice a10 n10 c10))
      have KS := Kept.set5D w10 w.heap.size D3 (.slice a10 n10 c10)
      have Z11 := Lib.hid (Z10.out.kept KS (by omega))
      have Y11 := Lib.hid (Y10.out.kept KS (by omega))
      have B11 := Lib.hid (B10.out.trans (KS.below B10.out.size (fun k hk => by omega)))
      unfold set5D at S11 X11 Z11 Y11 B11
      clear KS
      have T11 := Lib.hid (T10.out.kept (Kept.set5D w10 w.heap.size D3 (.slice a10 n10 c10)) (by have := HBS.out; omega))
      unfold set5D at T11
      go_wp2_with fail
      generalize (((((w10.setCell ⟨w.heap.size, 0, none⟩ (.int .i64 D3.room)).setCell ⟨w.heap.size, 1, none⟩ (.slice a10 n10 c10)).setCell ⟨w.heap.size, 2, none⟩ (.bool D3.down)).setCell ⟨w.heap.size, 3, none⟩ (.int .i64 D3.armed)).setCell ⟨w.heap.size, 4, none⟩ (.int .u64 D3.steps)) = w11 at *
      clear r0 r1 r2 r3 r4 f0 f1 f2 f3 f4 z0 z1 z2 z3 z4 g0 g1 g2 g3 g4 y0 y1 y2 y3 hlx hlz hly
      have HV : Hid (settleD D1 = (D3, 0)) := Lib.hid (by
        have h1 : settle1 D1 = (D2, 0) := by unfold settle1; rw [HGF.out, HLR.out]; simp only; rw [if_pos HLT.out, HRC.out]
        unfold settleD
        rw [HF0.out, if_neg (by decide), if_neg (by decide), h1, if_neg (by simp)]
        exact HRS.out)
      obtain ⟨r0, r1, r2, r3, r4, f0, f1, f2, f3, f4⟩ := X11.out
      obtain ⟨z0, z1, z2, z3, z4, g0, g1, g2, g3, g4⟩ := Z11.out
      obtain ⟨y0, y1, y2, y3⟩ := Y11.out
      have hlx := X11.out.lt
      have hlz := Z11.out.lt
      have hly := Y11.out.lt
      have J1 : Hid (RD (set5D w11 (w.heap.size + 1) D3 (.slice a10 n10 c10)) w.heap.size D3 (.slice a10 n10 c10) ∧ SC (set5D w11 (w.heap.size + 1) D3 (.slice a10 n10 c10)) bs tv vv) := Lib.hid ⟨X11.out.kept (Kept.set5D w11 (w.heap.size + 1) D3 (.slice a10 n10 c10)) (by omega), T11.out.kept (Kept.set5D w11 (w.heap.size + 1) D3 (.slice a10 n10 c10)) (by have := HBS.out; omega)⟩
      have J2 : Hid (RD (set5D w11.drew (w.heap.size + 1) D3 (.slice a10 n10 c10)) w.heap.size D3 (.slice a10 n10 c10) ∧ SC (set5D w11.drew (w.heap.size + 1) D3 (.slice a10 n10 c10)) bs tv vv) := Lib.hid ⟨(X11.out.below ((Below.refl _ _).drew)).kept (Kept.set5D w11.drew (w.heap.size + 1) D3 (.slice a10 n10 c10)) (by omega), (T11.out.below ((Below.refl _ _).drew)).kept (Kept.set5D w11.drew (w.heap.size + 1) D3 (.slice a10 n10 c10)) (by have := HBS.out; omega)⟩
      unfold set5D at J1 J2
      refine region_start [0, 0, 1, 7, 15] 4 (fun w' => RD w' w.heap.size D3 (.slice a10 n10 c10) ∧ SC w' bs tv vv) (by kernel_rfl) ?_
      refine stage_heads [0, 1] (by kernel_rfl) (L := #[true, true, false, false, false]) (by kernel_rfl) (f' := 3) rfl (fun _ _ _ _ h => h) (fun w o h => ⟨h.1.below ((Below.refl _ _).alloc (Nat.le_refl _) o), h.2.below ((Below.refl _ _).alloc (Nat.le_refl _) o)⟩) (.inr (by first | exact ⟨X11.out, T11.out⟩ | exact ⟨X11.out.below ((Below.refl _ _).drew), T11.out.below ((Below.refl _ _).drew)⟩)) ?_
      simp only [List.flatMap_cons, List.flatMap_nil, List.drop_succ_cons, List.drop_zero, List.take_succ_cons, List.take_zero, List.cons_append, List.nil_append, List.append_nil]
      iterate 2 (first | (refine heads_load _ (by rfl) (fun w' hs => by obtain ⟨⟨r0, r1, r2, r3, r4, _⟩, b0, b1, _, _⟩ := hs; go_simp; try with_reducible rfl) rfl ?_; simp only [Act.put, List.setIfInBounds_toArray, List.set_cons_zero, List.set_cons_succ]) | (refine heads_pure _ (by rfl) (fun w' => by go_simp; try with_reducible rfl) ?_; simp only [Act.put, List.setIfInBounds_toArray, List.set_cons_zero, List.set_cons_succ]))
      refine heads_nil ?_
      refine stage_op 2 (by kernel_rfl) (L := #[true, true, true, false, false]) (by kernel_rfl) ?_
      simp only [List.drop_succ_cons, List.drop_zero, List.take_succ_cons, List.take_zero]
      go_wp2_with fail
      refine step_post (fun _ => (by first | exact J1.out | exact J2.out)) ?_
      refine stage_op 3 (by kernel_rfl) (L := #[true, true, true, true, false]) (by kernel_rfl) ?_
      simp only [List.drop_succ_cons, List.drop_zero, List.take_succ_cons, List.take_zero]
      go_wp2_with fail
      refine step_post nofun ?_
      refine stage_heads [4] (by kernel_rfl) (L := #[true, true, true, true, true]) (by kernel_rfl) (f' := 0) rfl (fun _ _ _ _ h => h) (fun w o h => ⟨h.1.below ((Below.refl _ _).alloc (Nat.le_refl _) o), h.2.below ((Below.refl _ _).alloc (Nat.le_refl _) o)⟩) (.inl (by kernel_rfl)) ?_
      simp only [List.flatMap_cons, List.flatMap_nil, List.drop_succ_cons, List.drop_zero, List.take_succ_cons, List.take_zero, List.append_nil]
      iterate 1 (refine heads_pure _ (by rfl) (fun w' => by go_simp; try with_reducible rfl) ?_; simp only [Act.put, List.setIfInBounds_toArray, List.set_cons_zero, List.set_cons_succ])
      refine heads_nil ?_
      refine stage_done (by kernel_rfl) ?_
      generalize hwz : World.drew _ = wz
      have W1 : wz = (((((((((w11.setCell ⟨w.heap.size + 1, 0, none⟩ (.int .i64 D3.room)).setCell ⟨w.heap.size + 1, 1, none⟩ (.slice a10 n10 c10)).setCell ⟨w.heap.size + 1, 2, none⟩ (.bool D3.down)).setCell ⟨w.heap.size + 1, 3, none⟩ (.int .i64 D3.armed)).setCell ⟨w.heap.size + 1, 4, none⟩ (.int .u64 D3.steps))).setCell ⟨w.heap.size + 1 + 1, 0, none⟩ (.int .u64 tv)).setCell ⟨w.heap.size + 1 + 1, 1, none⟩ (.int .i64 vv))).drew := hwz.symm
      have KS := Kept.set5D w11 (w.heap.size + 1) D3 (.slice a10 n10 c10)
      have RFF := (Z11.out.set D3 (.slice a10 n10 c10))
      have YS := Y11.out.kept KS (by omega)
      have SS := S11.out.setD Z11.out (fun s e => by cases e) D3 (.slice a10 n10 c10)
      have RFG0 := (RFF.kept (Kept.set2 _ (w.heap.size + 1 + 1) (.int .u64 tv) (.int .i64 vv)) (by omega)).below ((Below.refl _ _).drew)
      have RFY0 := (YS.set tv vv).below ((Below.refl _ _).drew)
      have SF0 := (SS.setSC YS (.int .u64 tv) (.int .i64 vv)).below ((Below.refl _ _).drew)
      have BF0 := B11.out.trans (KS.below B11.out.size (fun k hk => by omega))
      have BF1 := (BF0.trans ((Kept.set2 _ (w.heap.size + 1 + 1) (.int .u64 tv) (.int .i64 vv)).below BF0.size (fun k hk => by omega))).drew
      unfold set5D at RFG0 RFY0 SF0 BF1
      rw [← W1] at RFG0 RFY0 SF0 BF1
      have RFG := Lib.hid RFG0
      have RFY := Lib.hid RFY0
      have SF := Lib.hid SF0
      have BF := Lib.hid BF1
      clear KS RFF YS SS RFG0 RFY0 SF0 BF0 BF1 W1 hwz
      clear r0 r1 r2 r3 r4 f0 f1 f2 f3 f4 z0 z1 z2 z3 z4 g0 g1 g2 g3 g4 y0 y1 y2 y3 hlx hlz hly
      obtain ⟨q0, q1, q2, q3, q4, _⟩ := RFG.out
      obtain ⟨u0, u1, _, _⟩ := RFY.out
      go_wp2_with fail
      refine bodyPost_ret (v := .tuple #[.agg #[.int .i64 D3.room, .slice a10 n10 c10, .bool D3.down, .int .i64 D3.armed, .int .u64 D3.steps], .agg #[.int .u64 tv, .int .i64 vv], .int .i64 0]) (by simp [results, Tryz.results20, go_sem, q0, q1, q2, q3, q4, u0, u1]) rfl ?_
      unfold ROpenPostN
      rw [HOP.out.1, HOP.out.2, HV.out, HST.out]
      exact ⟨_, rfl, RIs.new HN10.out SF.out, BF.out, FO10.out⟩
    · obtain ⟨r0, r1, r2, r3, r4, f0, f1, f2, f3, f4⟩ := X7.out
      obtain ⟨z0, z1, z2, z3, z4, g0, g1, g2, g3, g4⟩ := Z7.out
      obtain ⟨y0, y1, y2, y3⟩ := Y7.out
      have hlx := X7.out.lt
      have hlz := Z7.out.lt
      have hly := Y7.out.lt
      have hltb : ¬ (gd : Int) < (f.all.length : Int) := by omega
      have HLT := Lib.hid hlt
      have CX := C1
      have FX := HFF
      go_wp2_with fail
      generalize World.alloc w6 _ = w7 at *
      generalize w6.heap.size = bs at *
      clear hss hltb hlt
      clear r0 r1 r2 r3 r4 f0 f1 f2 f3 f4 z0 z1 z2 z3 z4 g0 g1 g2 g3 g4 y0 y1 y2 y3 hlx hlz hly
      refine (rsync_new _ D1 nVow w7 (RIs.new HN2.out S7.out) G1.out).mono ?_
      rintro e w10 ⟨v10, rfl, hr10, hb10, hf10⟩
      have SCM := sync_calm CX.out FX.out
      obtain ⟨r, hr⟩ : ∃ r, syncD D1 nVow = r := ⟨_, rfl⟩
      have HRS := Lib.hid hr
      rw [hr] at hr10 SCM ⊢
      obtain ⟨D3, e3⟩ := r
      obtain rfl : e3 = 0 := SCM.1
      have X10 := Lib.hid (X7.out.below hb10)
      have Z10 := Lib.hid (Z7.out.below hb10)
      have Y10 := Lib.hid (Y7.out.below hb10)
      have B10 : Hid (Below w.heap.size w w10) := Lib.hid (B7.out.trans (hb10.mono B7.out.size))
      have T10 := Lib.hid (T7.out.below hb10)
      obtain ⟨a10, c10, rfl, hs10⟩ := hr10
      obtain ⟨n10, hn10⟩ : ∃ k, D3.files.length = k := ⟨_, rfl⟩
      have HN10 := Lib.hid hn10
      have S10 := Lib.hid hs10
      rw [hn10] at S10 ⊢
      clear hs10 hn10
      simp only at hf10
      rw [HN10.out] at hf10
      have FO10 : Hid (∀ g, (Value.slice a10 n10 c10).ownBlock = some g → (Value.slice a n c).ownBlock = some g ∨ w.heap.size ≤ g) := Lib.hid (fun g hg => by
        rcases hf10 g hg with h | h
        · exact FO2.out g h
        · exact .inr (Nat.le_trans B7.out.size h))
      clear hf10
      clear hb10 hr SCM
      obtain ⟨r0, r1, r2, r3, r4, f0, f1, f2, f3, f4⟩ := X10.out
      obtain ⟨z0, z1, z2, z3, z4, g0, g1, g2, g3, g4⟩ := Z10.out
      obtain ⟨y0, y1, y2, y3⟩ := Y10.out
      have hlx := X10.out.lt
      have hlz := Z10.out.lt
      have hly := Y10.out.lt
      have S11 := Lib.hid (S10.out.setD X10.out (fun s e => by cases e) D3 (.slice a10 n10 c10))
      have X11 := Lib.hid (X10.out.set D3 (.slice a10 n10 c10))
      have KS := Kept.set5D w10 w.heap.size D3 (.slice a10 n10 c10)
      have Z11 := Lib.hid (Z10.out.kept KS (by omega))
      have Y11 := Lib.hid (Y10.out.kept KS (by omega))
      have B11 := Lib.hid (B10.out.trans (KS.below B10.out.size (fun k hk => by omega)))
      unfold set5D at S11 X11 Z11 Y11 B11
      clear KS
      have T11 := Lib.hid (T10.out.kept (Kept.set5D w10 w.heap.size D3 (.slice a10 n10 c10)) (by have := HBS.out; omega))
      unfold set5D at T11
      go_wp2_with fail
      generalize (((((w10.setCell ⟨w.heap.size, 0, none⟩ (.int .i64 D3.room)).setCell ⟨w.heap.size, 1, none⟩ (.slice a10 n10 c10)).setCell ⟨w.heap.size, 2, none⟩ (.bool D3.down)).setCell ⟨w.heap.size, 3, none⟩ (.int .i64 D3.armed)).setCell ⟨w.heap.size, 4, none⟩ (.int .u64 D3.steps)) = w11 at *
      clear r0 r1 r2 r3 r4 f0 f1 f2 f3 f4 z0 z1 z2 z3 z4 g0 g1 g2 g3 g4 y0 y1 y2 y3 hlx hlz hly
      have HV : Hid (settleD D1 = (D3, 0)) := Lib.hid (by
        have h1 : settle1 D1 = (D1, 0) := by unfold settle1; rw [HGF.out, HLR.out]; simp only; rw [if_neg HLT.out]
        unfold settleD
        rw [HF0.out, if_neg (by decide), if_neg (by decide), h1, if_neg (by simp)]
        exact HRS.out)
      obtain ⟨r0, r1, r2, r3, r4, f0, f1, f2, f3, f4⟩ := X11.out
      obtain ⟨z0, z1, z2, z3, z4, g0, g1, g2, g3, g4⟩ := Z11.out
      obtain ⟨y0, y1, y2, y3⟩ := Y11.out
      have hlx := X11.out.lt
      have hlz := Z11.out.lt
      have hly := Y11.out.lt
      have J1 : Hid (RD (set5D w11 (w.heap.size + 1) D3 (.slice a10 n10 c10)) w.heap.size D3 (.slice a10 n10 c10) ∧ SC (set5D w11 (w.heap.size + 1) D3 (.slice a10 n10 c10)) bs tv vv) := Lib.hid ⟨X11.out.kept (Kept.set5D w11 (w.heap.size + 1) D3 (.slice a10 n10 c10)) (by omega), T11.out.kept (Kept.set5D w11 (w.heap.size + 1) D3 (.slice a10 n10 c10)) (by have := HBS.out; omega)⟩
      have J2 : Hid (RD (set5D w11.drew (w.heap.size + 1) D3 (.slice a10 n10 c10)) w.heap.size D3 (.slice a10 n10 c10) ∧ SC (set5D w11.drew (w.heap.size + 1) D3 (.slice a10 n10 c10)) bs tv vv) := Lib.hid ⟨(X11.out.below ((Below.refl _ _).drew)).kept (Kept.set5D w11.drew (w.heap.size + 1) D3 (.slice a10 n10 c10)) (by omega), (T11.out.below ((Below.refl _ _).drew)).kept (Kept.set5D w11.drew (w.heap.size + 1) D3 (.slice a10 n10 c10)) (by have := HBS.out; omega)⟩
      unfold set5D at J1 J2
      refine region_start [0, 0, 1, 7, 15] 4 (fun w' => RD w' w.heap.size D3 (.slice a10 n10 c10) ∧ SC w' bs tv vv) (by kernel_rfl) ?_
      refine stage_heads [0, 1] (by kernel_rfl) (L := #[true, true, false, false, false]) (by kernel_rfl) (f' := 3) rfl (fun _ _ _ _ h => h) (fun w o h => ⟨h.1.below ((Below.refl _ _).alloc (Nat.le_refl _) o), h.2.below ((Below.refl _ _).alloc (Nat.le_refl _) o)⟩) (.inr (by first | exact ⟨X11.out, T11.out⟩ | exact ⟨X11.out.below ((Below.refl _ _).drew), T11.out.below ((Below.refl _ _).drew)⟩)) ?_
      simp only [List.flatMap_cons, List.flatMap_nil, List.drop_succ_cons, List.drop_zero, List.take_succ_cons, List.take_zero, List.cons_append, List.nil_append, List.append_nil]
      iterate 2 (first | (refine heads_load _ (by rfl) (fun w' hs => by obtain ⟨⟨r0, r1, r2, r3, r4, _⟩, b0, b1, _, _⟩ := hs; go_simp; try with_reducible rfl) rfl ?_; simp only [Act.put, List.setIfInBounds_toArray, List.set_cons_zero, List.set_cons_succ]) | (refine heads_pure _ (by rfl) (fun w' => by go_simp; try with_reducible rfl) ?_; simp only [Act.put, List.setIfInBounds_toArray, List.set_cons_zero, List.set_cons_succ]))
      refine heads_nil ?_
      refine stage_op 2 (by kernel_rfl) (L := #[true, true, true, false, false]) (by kernel_rfl) ?_
      simp only [List.drop_succ_cons, List.drop_zero, List.take_succ_cons, List.take_zero]
      go_wp2_with fail
      refine step_post (fun _ => (by first | exact J1.out | exact J2.out)) ?_
      refine stage_op 3 (by kernel_rfl) (L := #[true, true, true, true, false]) (by kernel_rfl) ?_
      simp only [List.drop_succ_cons, List.drop_zero, List.take_succ_cons, List.take_zero]
      go_wp2_with fail
      refine step_post nofun ?_
      refine stage_heads [4] (by kernel_rfl) (L := #[true, true, true, true, true]) (by kernel_rfl) (f' := 0) rfl (fun _ _ _ _ h => h) (fun w o h => ⟨h.1.below ((Below.refl _ _).alloc (Nat.le_refl _) o), h.2.below ((Below.refl _ _).alloc (Nat.le_refl _) o)⟩) (.inl (by kernel_rfl)) ?_
      simp only [List.flatMap_cons, List.flatMap_nil, List.drop_succ_cons, List.drop_zero, List.take_succ_cons, List.take_zero, List.append_nil]
      iterate 1 (refine heads_pure _ (by rfl) (fun w' => by go_simp; try with_reducible rfl) ?_; simp only [Act.put, List.setIfInBounds_toArray, List.set_cons_zero, List.set_cons_succ])
      refine heads_nil ?_
      refine stage_done (by kernel_rfl) ?_
      generalize hwz : World.drew _ = wz
      have W1 : wz = (((((((((w11.setCell ⟨w.heap.size + 1, 0, none⟩ (.int .i64 D3.room)).setCell ⟨w.heap.size + 1, 1, none⟩ (.slice a10 n10 c10)).setCell ⟨w.heap.size + 1, 2, none⟩ (.bool D3.down)).setCell ⟨w.heap.size + 1, 3, none⟩ (.int .i64 D3.armed)).setCell ⟨w.heap.size + 1, 4, none⟩ (.int .u64 D3.steps))).setCell ⟨w.heap.size + 1 + 1, 0, none⟩ (.int .u64 tv)).setCell ⟨w.heap.size + 1 + 1, 1, none⟩ (.int .i64 vv))).drew := hwz.symm
      have KS := Kept.set5D w11 (w.heap.size + 1) D3 (.slice a10 n10 c10)
      have RFF := (Z11.out.set D3 (.slice a10 n10 c10))
      have YS := Y11.out.kept KS (by omega)
      have SS := S11.out.setD Z11.out (fun s e => by cases e) D3 (.slice a10 n10 c10)
      have RFG0 := (RFF.kept (Kept.set2 _ (w.heap.size + 1 + 1) (.int .u64 tv) (.int .i64 vv)) (by omega)).below ((Below.refl _ _).drew)
      have RFY0 := (YS.set tv vv).below ((Below.refl _ _).drew)
      have SF0 := (SS.setSC YS (.int .u64 tv) (.int .i64 vv)).below ((Below.refl _ _).drew)
      have BF0 := B11.out.trans (KS.below B11.out.size (fun k hk => by omega))
      have BF1 := (BF0.trans ((Kept.set2 _ (w.heap.size + 1 + 1) (.int .u64 tv) (.int .i64 vv)).below BF0.size (fun k hk => by omega))).drew
      unfold set5D at RFG0 RFY0 SF0 BF1
      rw [← W1] at RFG0 RFY0 SF0 BF1
      have RFG := Lib.hid RFG0
      have RFY := Lib.hid RFY0
      have SF := Lib.hid SF0
      have BF := Lib.hid BF1
      clear KS RFF YS SS RFG0 RFY0 SF0 BF0 BF1 W1 hwz
      clear r0 r1 r2 r3 r4 f0 f1 f2 f3 f4 z0 z1 z2 z3 z4 g0 g1 g2 g3 g4 y0 y1 y2 y3 hlx hlz hly
      obtain ⟨q0, q1, q2, q3, q4, _⟩ := RFG.out
      obtain ⟨u0, u1, _, _⟩ := RFY.out
      go_wp2_with fail
      refine bodyPost_ret (v := .tuple #[.agg #[.int .i64 D3.room, .slice a10 n10 c10, .bool D3.down, .int .i64 D3.armed, .int .u64 D3.steps], .agg #[.int .u64 tv, .int .i64 vv], .int .i64 0]) (by simp [results, Tryz.results20, go_sem, q0, q1, q2, q3, q4, u0, u1]) rfl ?_
      unfold ROpenPostN
      rw [HOP.out.1, HOP.out.2, HV.out, HST.out]
      exact ⟨_, rfl, RIs.new HN10.out SF.out, BF.out, FO10.out⟩
end Go.Proofs.YtofhccpagnkalaaGreat

/- The law's own list of a disk's files (curfewlaw23.Files); contract; no conditions but the ranges. -/
namespace Go.Proofs.YtofhccpagnkalaaGreat
open Go.RowKit Go.Maps Go.Proofs.Own

theorem fi_at {w : World} {B n c : Nat} {a : Option Addr} {P : List (FileS × Value × Value)} {L : List FileS} (hP : P.map (·.1) = L) (hr : SRow w 3 (.slice a n c) (P.map fiV)) (hk : ∀ p ∈ P, FiOk w B p)
    (hl : ∀ f ∈ L, ((∀ c ∈ f.all, c < 256) ∧ f.all.length ≤ 2097152) ∧ f.kept ≤ f.all.length) {j : Nat} {f : FileS} (hj : L[j]? = some f) :
    ∃ b o ka kc la lc, a = some ⟨b, o, none⟩ ∧ b < w.heap.size ∧ w.cell? ⟨b, o + j * 3, none⟩ = some (.string f.name) ∧ w.cell? ⟨b, o + j * 3 + 1, none⟩ = some (.slice ka f.kept kc) ∧ w.cell? ⟨b, o + j * 3 + 2, none⟩ = some (.slice la (f.all.length - f.kept) lc) ∧
      Bytes w (.slice ka f.kept kc) (f.all.take f.kept) ∧ Bytes w (.slice la (f.all.length - f.kept) lc) (f.all.drop f.kept) := by
  have hf := hl f (List.mem_of_getElem? hj)
  rw [← hP, List.getElem?_map] at hj
  obtain ⟨p, hp, rfl⟩ := Option.map_eq_some_iff.1 hj
  obtain ⟨hlt, he⟩ := List.getElem?_eq_some_iff.1 hp
  obtain ⟨b, o, h1, h2, h3⟩ := hr.at (j := j) (by rw [List.length_map]; exact hlt)
  rw [List.getElem_map, he] at h3
  have ho := hk p (List.mem_of_getElem? hp)
  have b1 := Bytes.of_owns ho.k (fun c hc => hf.1.1 c (List.mem_of_mem_take hc)) (by rw [List.length_take]; omega)
  have b2 := Bytes.of_owns ho.l (fun c hc => hf.1.1 c (List.mem_of_mem_drop hc)) (by rw [List.length_drop]; omega)
  obtain ⟨p1, p2, p3⟩ := p
  obtain ⟨ka, kc, e1, _⟩ := b1.shape
  obtain ⟨la, lc, e2, _⟩ := b2.shape
  rw [List.length_take, Nat.min_eq_left hf.2] at e1
  rw [List.length_drop] at e2
  simp only at e1 e2 b1 b2 h3 ⊢
  subst e1
  subst e2
  exact ⟨b, o, ka, kc, la, lc, h1, h2, by have := h3 0 _ rfl; rwa [Nat.add_zero] at this, h3 1 _ rfl, h3 2 _ rfl, b1, b2⟩

set_option maxHeartbeats 2000000 in
set_option maxRecDepth 20000 in
theorem lfiles_any (db mb tb : Nat) (D : DiskS) (w : World) (h : DiskIs w db mb tb D) (hw : DWf D) :
    Calls Tryz.prog 17 #[.pointer (some ⟨db, 0, none⟩)] w fun e w' => ∃ v, e = .returned v ∧ SRow w' 3 v (D.files.map rfV) ∧ Below w.heap.size w w' := by
  have H := Lib.hid h
  have HW := Lib.hid hw
  have HLL : Hid (∀ f ∈ D.files, ((∀ c ∈ f.all, c < 256) ∧ f.all.length ≤ 2097152) ∧ f.kept ≤ f.all.length) := Lib.hid fun f hf => ⟨h.byt f hf, (hw.each f hf).2⟩
  obtain ⟨m, hm⟩ : ∃ m, D.files.length = m := ⟨_, rfl⟩
  have HM := Lib.hid hm
  have many : m ≤ 1000 := by rw [← hm]; exact hw.many
  clear h hw hm
  go_enter Tryz.func17, Tryz.ntmps17
  go_wp2_with fail
  refine (dfiles_any db mb tb D _ H.out HW.out).mono ?_
  rintro e w1 ⟨v, rfl, P, hP, hr, hk, hb⟩
  have HP := Lib.hid hP
  have HR := Lib.hid hr
  have HK := Lib.hid hk
  have B1 := Lib.hid hb
  obtain ⟨a, c, rfl, _⟩ := hr.shape
  have hlen : (P.map fiV).length = m := by
    have := congrArg List.length hP
    rw [List.length_map] at this ⊢
    rw [this]; exact HM.out
  rw [hlen] at HR ⊢
  clear hP hr hk hb hlen
  go_wp2_with fail
  go_loopw [3, 9] (fun lv y wr => ∃ j : Nat, j ≤ m ∧ y = .int .i64 j ∧ OwnR wr w1.heap.size 96 3 lv ((D.files.take j).map rfV) ∧ Below w1.heap.size w1 wr) (fun _ y _ => m - (intOf y).toNat)
  case atStart => exact ⟨0, Nat.zero_le _, rfl, OwnR.nil _ _ _ _, Below.refl _ _⟩
  case round =>
    obtain ⟨j, hj, rfl, ho, hb⟩ := hrel
    obtain ⟨la, lc, rfl⟩ := ho.shape
    have hlen : ((D.files.take j).map rfV).length = j := by rw [List.length_map, List.length_take]; have := HM.out; omega
    have OW := Lib.hid ho
    have BR := Lib.hid hb
    rw [hlen] at OW ⊢
    clear ho hb
    by_cases hlt : j < m
    · obtain ⟨f, hf, _⟩ := getAt (l := D.files) (j := j) (by rw [HM.out]; exact hlt)
      obtain ⟨b, o, ka, kc, ra, rc, rfl, hbl, c0, c1, c2, hB1, hB2⟩ := fi_at HP.out (HR.out.below BR.out) (fun p hp => (HK.out p hp).below BR.out) HLL.out hf
      have HF := Lib.hid hf
      have HX : Hid (D.files.take (j + 1) = D.files.take j ++ [f]) := Lib.hid (by rw [List.take_add_one, hf]; rfl)
      have hcat : strN (f.all.take f.kept) ++ strN (f.all.drop f.kept) = strN f.all := by rw [strN_app, List.take_append_drop]
      have hs1 := hB1.small
      have hs2 := hB2.small
      have hcl : ((strN (f.all.take f.kept)).size : Int) + ((strN (f.all.drop f.kept)).size : Int) ≤ 9223372036854775807 := by rw [size_strN, size_strN]; omega
      generalize f.all.take f.kept = l1 at *
      generalize f.all.drop f.kept = l2 at *
      generalize f.all.length - f.kept = n2 at *
      have y1 := (hB1.alloc (.cells #[.string f.name, .slice ka f.kept kc, .slice ra n2 rc] 110)).str Tryz.underlying22 Tryz.underlying5 Tryz.underlying9
      have y2 := (hB2.alloc (.cells #[.string f.name, .slice ka f.kept kc, .slice ra n2 rc] 110)).str Tryz.underlying22 Tryz.underlying5 Tryz.underlying9
      have HOA : Hid (OwnR ((wr.alloc (.cells #[.string f.name, .slice ka f.kept kc, .slice ra n2 rc] 110)).alloc (.cells #[.string f.name, .string (strN f.all), .int .i64 f.kept] 96)) w1.heap.size 96 3 (.slice la j lc) ((D.files.take j).map rfV)) := Lib.hid ((OW.out.alloc _).alloc _)
      have hce := rfV_cells (wr.alloc (.cells #[.string f.name, .slice ka f.kept kc, .slice ra n2 rc] 110)) f
      rw [World.size_alloc] at hce
      have HCE := Lib.hid hce
      have hsz := BR.out.size
      have HBS : Hid (w1.heap.size ≤ ((wr.alloc (.cells #[.string f.name, .slice ka f.kept kc, .slice ra n2 rc] 110)).alloc (.cells #[.string f.name, .string (strN f.all), .int .i64 f.kept] 96)).heap.size) := Lib.hid (by simp only [World.size_alloc]; omega)
      have HLE : Hid (((D.files.take j).map rfV).length ≤ 4294967296) := Lib.hid (by omega)
      have j0 : (0 : Int) ≤ (j : Int) := by omega
      have j1 : (j : Int) < (m : Int) := by omega
      clear hf hB1 hB2 hs1 hs2 hlen hce
      go_wp2_with (at_builtin; refine wpList_append_row rfile3 _ _ rfl w1.heap.size _ _ _ _ rfl rfl HOA.out (rfV_len f) HCE.out (rfV_one f) HLE.out HBS.out rfl ?_; intro v2 w2 ho2 hg2 hat2 hb2; have O2 := Lib.hid ho2; have B2 := Lib.hid hb2; clear ho2 hg2 hat2 hb2)
      go_roundw
      case rel => exact ⟨j + 1, by omega, by first | rfl | go_num, by rw [HX.out, List.map_append]; exact O2.out, ((BR.out.alloc hsz _).alloc (by simp only [World.size_alloc]; omega) _).trans B2.out⟩
      case measure => simp [intOf]; omega
    · obtain rfl : j = m := by omega
      have j1 : ¬ (j : Int) < (j : Int) := by omega
      go_wp2_with fail
      go_ret
      have HO := SRow.of_own OW.out
      rw [List.take_of_length_le (by rw [HM.out]; exact Nat.le_refl _)] at HO
      exact ⟨.slice la j lc, rfl, HO, B1.out.trans (BR.out.mono B1.out.size)⟩
end Go.Proofs.YtofhccpagnkalaaGreat

/- The document's Same of two lists of files that are alike; contract; no conditions but the ranges. -/
namespace Go.Proofs.YtofhccpagnkalaaGreat
open Go.RowKit Go.Maps Go.Proofs.Own

set_option maxHeartbeats 2000000 in
set_option maxRecDepth 20000 in
theorem rsameL_any (v1 v2 : Value) (L : List FileS) (w : World) (h1 : SRow w 3 v1 (L.map rfV)) (h2 : SRow w 3 v2 (L.map rfV)) (hm : L.length ≤ 1000) :
    Calls Tryz.prog 16 #[v1, v2] w fun e w' => e = .returned (.bool true) ∧ Below w.heap.size w w' := by
  have H1 := Lib.hid h1
  have H2 := Lib.hid h2
  obtain ⟨a1, c1, rfl, _⟩ := h1.shape
  obtain ⟨a2, c2, rfl, _⟩ := h2.shape
  obtain ⟨m, hlm⟩ : ∃ m, L.length = m := ⟨_, rfl⟩
  have HL := Lib.hid hlm
  have hl2 : (L.map rfV).length = m := by rw [List.length_map]; exact hlm
  rw [hl2] at H1 H2 ⊢
  rw [hlm] at hm
  clear h1 h2 hlm hl2
  go_enter Tryz.func16, Tryz.ntmps16
  go_wp2_with fail
  go_loopw [5] (fun y wr => ∃ j : Nat, j ≤ m ∧ y = .int .i64 j ∧ Below w.heap.size w wr) (fun y _ => m - (intOf y).toNat)
  case atStart => exact ⟨0, Nat.zero_le _, rfl, Below.refl _ _⟩
  case round =>
    obtain ⟨j, hj, rfl, hb⟩ := hrel
    have BR := Lib.hid hb
    clear hb
    by_cases hlt : j < m
    · obtain ⟨f, hf, _⟩ := getAt (l := L) (j := j) (by rw [HL.out]; exact hlt)
      obtain ⟨b, o, rfl, hbl, c0, c1, c2⟩ := (H1.out.below BR.out).file hf
      obtain ⟨b', o', rfl, hbl', d0, d1, d2⟩ := (H2.out.below BR.out).file hf
      have e1 : (f.name.toList == f.name.toList) = true := by simp
      have e2 : ((strN f.all).toList == (strN f.all).toList) = true := by simp
      have j0 : (0 : Int) ≤ (j : Int) := by omega
      have j1 : (j : Int) < (m : Int) := by omega
      clear hf hbl hbl'
      go_wp2_with fail
      go_quiet (fail)
      go_wp2_with fail
      go_roundw
      case rel => exact ⟨j + 1, by omega, by first | rfl | go_num, below_drewN BR.out _⟩
      case measure => simp [intOf]; omega
    · obtain rfl : j = m := by omega
      have j1 : ¬ (j : Int) < (j : Int) := by omega
      go_wp2_with fail
      go_ret
      exact ⟨rfl, BR.out⟩
end Go.Proofs.YtofhccpagnkalaaGreat

/- The chapter's example of the vow; no conditions. -/
namespace Go.Proofs.YtofhccpagnkalaaGreat
open Go.RowKit Go.Maps Go.Proofs.Own Go.Shelf

set_option maxHeartbeats 1600000 in
set_option maxRecDepth 20000 in
theorem vlives_any (w : World) : Calls Tryz.prog 18 #[] w fun e w' => e = .returned (.bool true) ∧ Below w.heap.size w w' := by
  have HO0 := lw_open0
  have HKD := lw_keep
  have HCD := lw_crash
  have HOP := lw_open
  have HGD := lw_good
  generalize vowW 3 2 = b at *
  generalize b.length = n at *
  have HO0 := Lib.hid HO0
  have HKD := Lib.hid HKD
  have HCD := Lib.hid HCD
  have HOP := Lib.hid HOP
  have HGD := Lib.hid HGD
  rename_i a1 a2 a3 a4 a5
  clear a1 a2 a3 a4 a5
  go_enter Tryz.func18, Tryz.ntmps18
  go_wp2_with fail
  refine (dnew 1000 w (by decide) (by decide)).mono ?_
  rintro e w1 ⟨db, mb, tb, rfl, hd1, hb1, h1, h2, h3⟩
  have D1 : Hid (DiskIs w1 db mb tb (lvD [] 0)) := Lib.hid hd1
  have B1 := Lib.hid hb1
  have HO : Hid (∀ k, Own3 db mb tb k → w.heap.size ≤ k) := Lib.hid (by rintro k (rfl | rfl | rfl) <;> assumption)
  have L1 := hb1.size
  clear hd1 hb1 h1 h2 h3
  go_wp2_with fail
  refine (vopen_any db mb tb (lvD [] 0) w1 D1.out lv_good0 (by decide)).mono ?_
  rintro e w2 ⟨-, hok, hd2, hk2⟩
  rw [HO0.out.1] at hok hd2
  rw [HO0.out.2] at hok
  obtain ⟨bb, rfl, hbk, hbb⟩ := hok rfl
  have D2 := Lib.hid hd2
  have K2 := Lib.hid hbk
  have B2 : Hid (Below w.heap.size w w2) := Lib.hid (B1.out.trans (hk2.below L1 HO.out))
  have NB : Hid (¬ Own3 db mb tb bb) := Lib.hid (fun h => by have := D1.out.lt3 _ h; omega)
  have HBB : Hid (w.heap.size ≤ bb) := Lib.hid (Nat.le_trans L1 hbb)
  clear hok hd2 hk2 hbk hbb
  go_wp2_with fail
  refine (vkeep_any bb db mb tb (lvD [] 0) 0 (-1) 3 1 w2 D2.out lv_good0 (by decide) K2.out NB.out (by decide)).mono ?_
  rintro e w3 ⟨rfl, hd3, -, hk3⟩
  rw [HKD.out] at hd3 ⊢
  have D3 := Lib.hid hd3
  have B3 : Hid (Below w.heap.size w w3) := Lib.hid (B2.out.trans (hk3.below B2.out.size (fun k hk => hk.elim (HO.out k) (fun e => e ▸ HBB.out))))
  clear hd3 hk3
  go_wp2_with fail
  refine (dcrash_any db mb tb _ _ [] w3 D3.out (HGD.out 2 (by decide) (by decide)) (TearsIs.nil _) (.inl rfl)).mono ?_
  rintro e w4 ⟨rfl, hd4, hk4⟩
  rw [HCD.out] at hd4 ⊢
  have D4 := Lib.hid hd4
  have B4 : Hid (Below w.heap.size w w4) := Lib.hid (B3.out.trans (hk4.below B3.out.size HO.out))
  clear hd4 hk4
  go_wp2_with fail
  refine (dboot_any db mb tb _ w4 D4.out).mono ?_
  rintro e w5 ⟨rfl, hd5, hk5⟩
  have D5 : Hid (DiskIs w5 db mb tb (lvD [⟨nVow, b, n⟩] 2)) := Lib.hid hd5
  have B5 : Hid (Below w.heap.size w w5) := Lib.hid (B4.out.trans (hk5.below B4.out.size HO.out))
  clear hd5 hk5
  go_wp2_with fail
  refine (vopen_any db mb tb _ w5 D5.out (HGD.out 2 (by decide) (by decide)) (by show (2 : Int) + 2 ≤ _; decide)).mono ?_
  rintro e w6 ⟨-, hok, hd6, hk6⟩
  rw [HOP.out.1] at hok hd6
  rw [HOP.out.2] at hok
  obtain ⟨b2, rfl, hbk, hbb⟩ := hok rfl
  have D6 := Lib.hid hd6
  have K6 := Lib.hid hbk
  have B6 : Hid (Below w.heap.size w w6) := Lib.hid (B5.out.trans (hk6.below B5.out.size HO.out))
  have N6 : Hid (¬ Own3 db mb tb b2) := Lib.hid (fun h => by have := D5.out.lt3 _ h; omega)
  have HB6 : Hid (w.heap.size ≤ b2) := Lib.hid (Nat.le_trans B5.out.size hbb)
  clear hok hd6 hk6 hbk hbb
  go_wp2_with fail
  refine (vstate_any b2 db 3 1 w6 K6.out).mono ?_
  rintro e w7 ⟨rfl, hb7⟩
  have D7 := Lib.hid (D6.out.below hb7)
  have K7 := Lib.hid (K6.out.below hb7)
  have B7 : Hid (Below w.heap.size w w7) := Lib.hid (B6.out.trans (hb7.mono B6.out.size))
  clear hb7
  go_wp2_with fail
  refine (vkeep_any b2 db mb tb _ 3 1 3 2 w7 D7.out (HGD.out 3 (by decide) (by decide)) (by show (3 : Int) + 4 ≤ _; decide) K7.out N6.out (by decide)).mono ?_
  rintro e w8 ⟨rfl, -, -, hk8⟩
  rw [lw_keep2] 
  have B8 : Hid (Below w.heap.size w w8) := Lib.hid (B7.out.trans (hk8.below B7.out.size (fun k hk => hk.elim (HO.out k) (fun e => e ▸ HB6.out))))
  clear hk8
  go_wp2_with fail
  go_ret
  exact ⟨rfl, B8.out⟩
end Go.Proofs.YtofhccpagnkalaaGreat

/- Plain facts for the law VowOpens: what is appended to a calm disk; Open of the vow never fails on one. No conditions. -/
namespace Go.Proofs.YtofhccpagnkalaaGreat
open Go.RowKit Go.Maps Go.Proofs.Own

theorem Byt8.append {D : DiskS} (h : Byt8 D.files) (n : ByteArray) (b : List Nat) (hb : ∀ c ∈ b, c < 256) : Byt8 (appendD D n b).1.files := by
  unfold appendD
  split
  · exact h
  · rw [stepD_files]
    intro f hf
    rcases mem_put.1 hf with rfl | ⟨hf, _⟩
    · intro c hc
      rcases List.mem_append.1 hc with hc | hc
      · unfold getF at hc
        cases hg : findFile n D.files with
        | some g => rw [hg] at hc; exact h g (find_name hg).2 c hc
        | none => rw [hg] at hc; cases hc
      · exact hb c hc
    · exact h f hf
theorem open0 {D : DiskS} (h : Calm D) : (vopenD D).2 = 0 := by
  obtain ⟨g1, g2, _⟩ := gone_calm h
  unfold vopenD
  rw [if_neg (by rw [g1]; decide)]
  generalize (vgoneD D nVowN).1 = E at *
  cases e : findFile nVow E.files with
  | none =>
    have h31 : fileE E nVow = 31 := by unfold fileE; rw [if_neg (by rw [g2.1]; decide), if_pos e]
    unfold settleD
    rw [if_pos h31]
  | some f =>
    have h0 : fileE E nVow = 0 := by unfold fileE; rw [if_neg (by rw [g2.1]; decide), if_neg (by rw [e]; exact nofun)]
    unfold settleD
    rw [if_neg (by rw [h0]; decide), if_neg (by rw [h0]; decide)]
    have hs : (settle1 E).2 = 0 ∧ Calm (settle1 E).1 ∧ ∃ f', findFile nVow (settle1 E).1.files = some f' := by
      unfold settle1
      rw [getF_some e]
      split
      · obtain ⟨c1, c2, c3⟩ := cut_calm g2 e (lastR f.all).g (by omega)
        exact ⟨c1, c2, _, c3⟩
      · exact ⟨rfl, g2, _, e⟩
    obtain ⟨s1, s2, f', s3⟩ := hs
    rw [if_neg (by rw [s1]; decide)]
    exact (sync_calm s2 s3).1
/-- Block b is the law's pair: the program's disk db, the document's disk D, its files' slice sl. -/
structure BO (w : World) (b db : Nat) (D : DiskS) (sl : Value) : Prop where
  c0 : w.cell? ⟨b, 0, none⟩ = some (.pointer (some ⟨db, 0, none⟩))
  c1 : ∃ p, w.cell? ⟨b, 1, none⟩ = some (.pointer p)
  c2 : w.cell? ⟨b, 2, none⟩ = some (.int .i64 D.room)
  c3 : w.cell? ⟨b, 3, none⟩ = some sl
  c4 : w.cell? ⟨b, 4, none⟩ = some (.bool D.down)
  c5 : w.cell? ⟨b, 5, none⟩ = some (.int .i64 D.armed)
  c6 : w.cell? ⟨b, 6, none⟩ = some (.int .u64 D.steps)
  f2 : w.frozen? ⟨b, 2, none⟩ = false
  f3 : w.frozen? ⟨b, 3, none⟩ = false
  f4 : w.frozen? ⟨b, 4, none⟩ = false
  f5 : w.frozen? ⟨b, 5, none⟩ = false
  f6 : w.frozen? ⟨b, 6, none⟩ = false
theorem BO.lt {w : World} {b db : Nat} {D : DiskS} {sl : Value} (h : BO w b db D sl) : b < w.heap.size := World.block_lt_of_cell? _ _ h.c0
theorem BO.kept {w w' : World} {b db : Nat} {D : DiskS} {sl : Value} {S : Nat → Prop} (h : BO w b db D sl) (hk : Kept w w' S) (hs : ¬ S b) : BO w' b db D sl :=
  have l := h.lt
  ⟨hk.cell h.c0 hs, h.c1.imp fun _ e => hk.cell e hs, hk.cell h.c2 hs, hk.cell h.c3 hs, hk.cell h.c4 hs, hk.cell h.c5 hs, hk.cell h.c6 hs, (hk.frozen (a := ⟨b, 2, none⟩) l hs).trans h.f2, (hk.frozen (a := ⟨b, 3, none⟩) l hs).trans h.f3, (hk.frozen (a := ⟨b, 4, none⟩) l hs).trans h.f4, (hk.frozen (a := ⟨b, 5, none⟩) l hs).trans h.f5, (hk.frozen (a := ⟨b, 6, none⟩) l hs).trans h.f6⟩
theorem BO.below {w w' : World} {b db : Nat} {D : DiskS} {sl : Value} (h : BO w b db D sl) (hb : Below w.heap.size w w') : BO w' b db D sl := h.kept (Kept.of_below hb (S := fun _ => False) fun k h1 h2 => by omega) (fun h => h)
theorem BO.box (w : World) (db : Nat) (D : DiskS) (sl : Value) : BO (w.alloc (.cells #[.pointer (some ⟨db, 0, none⟩), .pointer none, .int .i64 D.room, sl, .bool D.down, .int .i64 D.armed, .int .u64 D.steps, .int .u64 0, .int .i64 0] 54)) w.heap.size db D sl :=
  ⟨by go_cell, ⟨none, by go_cell⟩, by go_cell, by go_cell, by go_cell, by go_cell, by go_cell, by simp, by simp, by simp, by simp, by simp⟩
/-- The document's disk is stored into it. -/
def setBO (w : World) (b : Nat) (D : DiskS) (sl : Value) : World := ((((w.setCell ⟨b, 2, none⟩ (.int .i64 D.room)).setCell ⟨b, 3, none⟩ sl).setCell ⟨b, 4, none⟩ (.bool D.down)).setCell ⟨b, 5, none⟩ (.int .i64 D.armed)).setCell ⟨b, 6, none⟩ (.int .u64 D.steps)
theorem Kept.setBO (w : World) (b : Nat) (D : DiskS) (sl : Value) : Kept w (setBO w b D sl) (fun k => k = b) :=
  ((((Kept.setCell w ⟨b, 2, none⟩ _).trans (Kept.setCell _ ⟨b, 3, none⟩ _)).trans (Kept.setCell _ ⟨b, 4, none⟩ _)).trans (Kept.setCell _ ⟨b, 5, none⟩ _)).trans (Kept.setCell _ ⟨b, 6, none⟩ _)
theorem BO.set {w : World} {b db : Nat} {D : DiskS} {sl : Value} (h : BO w b db D sl) (E : DiskS) (sl' : Value) : BO (setBO w b E sl') b db E sl' := by
  obtain ⟨c0, ⟨p, c1⟩, c2, c3, c4, c5, c6, f2, f3, f4, f5, f6⟩ := h
  unfold setBO
  refine ⟨?_, ⟨p, ?_⟩, ?_, ?_, ?_, ?_, ?_, by simp [f2], by simp [f3], by simp [f4], by simp [f5], by simp [f6]⟩
  all_goals go_cell
theorem BO.no {w : World} {b db : Nat} {D : DiskS} {a : Option Addr} {n c : Nat} (h : BO w b db D (.slice a n c)) : ∀ k, k < 7 → ∃ x, w.cell? ⟨b, k, none⟩ = some x ∧ (∀ s, x ≠ .string s) ∧ ∀ y, x ≠ .int .u8 y := by
  intro k hk
  obtain ⟨p, c1⟩ := h.c1
  match k, hk with
  | 0, _ => exact ⟨_, h.c0, (fun s e => by cases e), (fun s e => by cases e)⟩
  | 1, _ => exact ⟨_, c1, (fun s e => by cases e), (fun s e => by cases e)⟩
  | 2, _ => exact ⟨_, h.c2, (fun s e => by cases e), (fun s e => by cases e)⟩
  | 3, _ => exact ⟨_, h.c3, (fun s e => by cases e), (fun s e => by cases e)⟩
  | 4, _ => exact ⟨_, h.c4, (fun s e => by cases e), (fun s e => by cases e)⟩
  | 5, _ => exact ⟨_, h.c5, (fun s e => by cases e), (fun s e => by cases e)⟩
  | 6, _ => exact ⟨_, h.c6, (fun s e => by cases e), (fun s e => by cases e)⟩
theorem setBO_far (w : World) (b : Nat) (D : DiskS) (sl : Value) (g i : Nat) (hg : g = b → 7 ≤ i) : (setBO w b D sl).cell? ⟨g, i, none⟩ = w.cell? ⟨g, i, none⟩ := by
  have hne : ∀ j, j < 7 → (⟨b, j, none⟩ : Addr) ≠ ⟨g, i, none⟩ := by
    intro j hj e
    simp only [Addr.mk.injEq, and_true] at e
    have := hg e.1.symm
    omega
  unfold setBO
  rw [World.cell?_setCell_other _ _ _ _ (hne 6 (by omega)), World.cell?_setCell_other _ _ _ _ (hne 5 (by omega)), World.cell?_setCell_other _ _ _ _ (hne 4 (by omega)), World.cell?_setCell_other _ _ _ _ (hne 3 (by omega)), World.cell?_setCell_other _ _ _ _ (hne 2 (by omega))]
theorem SRow.setPair {w : World} {b db : Nat} {E : DiskS} {a0 : Option Addr} {n0 c0 : Nat} {a : Option Addr} {n c : Nat} {L : List FileS} (h : SRow w 3 (.slice a n c) (L.map rfV)) (k : BO w b db E (.slice a0 n0 c0)) (D' : DiskS) (fv' : Value) : SRow (setBO w b D' fv') 3 (.slice a n c) (L.map rfV) :=
  h.far (fun i hi => let ⟨x, h1, h2, _⟩ := k.no i hi; ⟨x, h1, h2⟩) (fun g i hg => setBO_far w b D' fv' g i hg) (Kept.setBO w b D' fv').size
theorem DiskIs.setPair {w : World} {b db db' mb tb : Nat} {D E : DiskS} {a : Option Addr} {n c : Nat} (h : DiskIs w db mb tb D) (k : BO w b db' E (.slice a n c)) (hn : ¬ Own3 db mb tb b) (D' : DiskS) (fv' : Value) : DiskIs (setBO w b D' fv') db mb tb D := by
  have no : ∀ i, i < 7 → ∀ x, w.cell? ⟨b, i, none⟩ ≠ some (.int .u8 x) := fun i hi x e => by
    obtain ⟨y, h1, _, h2⟩ := k.no i hi
    rw [h1] at e
    exact h2 x (Option.some.inj e)
  unfold setBO
  refine ((((h.setOther _ hn (no 2 (by omega))).setOther _ hn (fun x => ?_)).setOther _ hn (fun x => ?_)).setOther _ hn (fun x => ?_)).setOther _ hn (fun x => ?_)
  · rw [World.cell?_setCell_other _ _ _ _ (by simp)]; exact no 3 (by omega) x
  · rw [World.cell?_setCell_other _ _ _ _ (by simp), World.cell?_setCell_other _ _ _ _ (by simp)]; exact no 4 (by omega) x
  · rw [World.cell?_setCell_other _ _ _ _ (by simp), World.cell?_setCell_other _ _ _ _ (by simp), World.cell?_setCell_other _ _ _ _ (by simp)]; exact no 5 (by omega) x
  · rw [World.cell?_setCell_other _ _ _ _ (by simp), World.cell?_setCell_other _ _ _ _ (by simp), World.cell?_setCell_other _ _ _ _ (by simp), World.cell?_setCell_other _ _ _ _ (by simp)]; exact no 6 (by omega) x
end Go.Proofs.YtofhccpagnkalaaGreat

/- The law VowPlays: its pair of a book and the document's, and reopen; contract; no conditions but the ranges. -/
namespace Go.Proofs.YtofhccpagnkalaaGreat
open Go.RowKit Go.Maps Go.Proofs.Own

/-- Block b is the law's pair: the program's disk db, its book p, the document's disk D (its files' slice sl) and state t v. -/
structure BP (w : World) (b db : Nat) (p : Option Addr) (D : DiskS) (sl : Value) (t v : Int) : Prop where
  c0 : w.cell? ⟨b, 0, none⟩ = some (.pointer (some ⟨db, 0, none⟩))
  c1 : w.cell? ⟨b, 1, none⟩ = some (.pointer p)
  c2 : w.cell? ⟨b, 2, none⟩ = some (.int .i64 D.room)
  c3 : w.cell? ⟨b, 3, none⟩ = some sl
  c4 : w.cell? ⟨b, 4, none⟩ = some (.bool D.down)
  c5 : w.cell? ⟨b, 5, none⟩ = some (.int .i64 D.armed)
  c6 : w.cell? ⟨b, 6, none⟩ = some (.int .u64 D.steps)
  c7 : w.cell? ⟨b, 7, none⟩ = some (.int .u64 t)
  c8 : w.cell? ⟨b, 8, none⟩ = some (.int .i64 v)
  fz : ∀ i, 1 ≤ i → i ≤ 8 → w.frozen? ⟨b, i, none⟩ = false
theorem BP.lt {w : World} {b db : Nat} {p : Option Addr} {D : DiskS} {sl : Value} {t v : Int} (h : BP w b db p D sl t v) : b < w.heap.size := World.block_lt_of_cell? _ _ h.c0
theorem BP.kept {w w' : World} {b db : Nat} {p : Option Addr} {D : DiskS} {sl : Value} {t v : Int} {S : Nat → Prop} (h : BP w b db p D sl t v) (hk : Kept w w' S) (hs : ¬ S b) : BP w' b db p D sl t v :=
  have l := h.lt
  ⟨hk.cell h.c0 hs, hk.cell h.c1 hs, hk.cell h.c2 hs, hk.cell h.c3 hs, hk.cell h.c4 hs, hk.cell h.c5 hs, hk.cell h.c6 hs, hk.cell h.c7 hs, hk.cell h.c8 hs, fun i h1 h2 => (hk.frozen (a := ⟨b, i, none⟩) l hs).trans (h.fz i h1 h2)⟩
theorem BP.below {w w' : World} {b db : Nat} {p : Option Addr} {D : DiskS} {sl : Value} {t v : Int} (h : BP w b db p D sl t v) (hb : Below w.heap.size w w') : BP w' b db p D sl t v := h.kept (Kept.of_below hb (S := fun _ => False) fun k h1 h2 => by omega) (fun h => h)
theorem BP.box (w : World) (db : Nat) (D : DiskS) (sl : Value) : BP (w.alloc (.cells #[.pointer (some ⟨db, 0, none⟩), .pointer none, .int .i64 D.room, sl, .bool D.down, .int .i64 D.armed, .int .u64 D.steps, .int .u64 0, .int .i64 0] 54)) w.heap.size db none D sl 0 0 :=
  ⟨by go_cell, by go_cell, by go_cell, by go_cell, by go_cell, by go_cell, by go_cell, by go_cell, by go_cell, fun i h1 h2 => by
    match i, h1, h2 with
    | 1, _, _ => simp
    | 2, _, _ => simp
    | 3, _, _ => simp
    | 4, _, _ => simp
    | 5, _, _ => simp
    | 6, _, _ => simp
    | 7, _, _ => simp
    | 8, _, _ => simp⟩
theorem BP.setD {w : World} {b db : Nat} {p : Option Addr} {D : DiskS} {sl : Value} {t v : Int} (h : BP w b db p D sl t v) (E : DiskS) (sl' : Value) : BP (setBO w b E sl') b db p E sl' t v := by
  obtain ⟨c0, c1, c2, c3, c4, c5, c6, c7, c8, fz⟩ := h
  have f2 := fz 2 (by omega) (by omega)
  have f3 := fz 3 (by omega) (by omega)
  have f4 := fz 4 (by omega) (by omega)
  have f5 := fz 5 (by omega) (by omega)
  have f6 := fz 6 (by omega) (by omega)
  unfold setBO
  refine ⟨?_, ?_, ?_, ?_, ?_, ?_, ?_, ?_, ?_, fun i h1 h2 => by simp [fz i h1 h2]⟩
  all_goals go_cell
/-- The book is stored into it. -/
theorem BP.setP {w : World} {b db : Nat} {p : Option Addr} {D : DiskS} {sl : Value} {t v : Int} (h : BP w b db p D sl t v) (p' : Option Addr) : BP (w.setCell ⟨b, 1, none⟩ (.pointer p')) b db p' D sl t v := by
  obtain ⟨c0, c1, c2, c3, c4, c5, c6, c7, c8, fz⟩ := h
  have f1 := fz 1 (by omega) (by omega)
  refine ⟨?_, ?_, ?_, ?_, ?_, ?_, ?_, ?_, ?_, fun i h1 h2 => by simp [fz i h1 h2]⟩
  all_goals go_cell
/-- The state is stored into it. -/
theorem BP.setS {w : World} {b db : Nat} {p : Option Addr} {D : DiskS} {sl : Value} {t v : Int} (h : BP w b db p D sl t v) (t' v' : Int) : BP ((w.setCell ⟨b, 7, none⟩ (.int .u64 t')).setCell ⟨b, 8, none⟩ (.int .i64 v')) b db p D sl t' v' := by
  obtain ⟨c0, c1, c2, c3, c4, c5, c6, c7, c8, fz⟩ := h
  have f7 := fz 7 (by omega) (by omega)
  have f8 := fz 8 (by omega) (by omega)
  refine ⟨?_, ?_, ?_, ?_, ?_, ?_, ?_, ?_, ?_, fun i h1 h2 => by simp [fz i h1 h2]⟩
  all_goals go_cell
theorem calm_boot (D : DiskS) : Calm (bootD D) := ⟨rfl, rfl⟩
/-- The pair's disk, as it stands between two calls. -/
structure PairIs (w : World) (bo db mb tb : Nat) (p : Option Addr) (D : DiskS) (t v : Int) : Prop where
  disk : DiskIs w db mb tb D
  good : DGood D
  sl : ∃ a n c, D.files.length = n ∧ BP w bo db p D (.slice a n c) t v ∧ SRow w 3 (.slice a n c) (D.files.map rfV) ∧ ∀ b, (Value.slice a n c).ownBlock = some b → ¬ Own3 db mb tb b ∧ b ≠ bo ∧ ∀ q, p = some q → q.block ≠ b
  no : ¬ Own3 db mb tb bo

theorem BP.bo {w : World} {b db : Nat} {p : Option Addr} {D : DiskS} {sl : Value} {t v : Int} (h : BP w b db p D sl t v) : BO w b db D sl :=
  ⟨h.c0, ⟨p, h.c1⟩, h.c2, h.c3, h.c4, h.c5, h.c6, h.fz 2 (by omega) (by omega), h.fz 3 (by omega) (by omega), h.fz 4 (by omega) (by omega), h.fz 5 (by omega) (by omega), h.fz 6 (by omega) (by omega)⟩
theorem DiskIs.setP {w : World} {bo db db' mb tb : Nat} {p : Option Addr} {D E : DiskS} {sl : Value} {t v : Int} (h : DiskIs w db mb tb D) (k : BP w bo db' p E sl t v) (hn : ¬ Own3 db mb tb bo) (y : Value) : DiskIs (w.setCell ⟨bo, 1, none⟩ y) db mb tb D :=
  h.setOther (p := ⟨bo, 1, none⟩) _ hn (fun x e => by rw [k.c1] at e; cases e)
theorem DiskIs.setS {w : World} {bo db db' mb tb : Nat} {p : Option Addr} {D E : DiskS} {sl : Value} {t v : Int} (h : DiskIs w db mb tb D) (k : BP w bo db' p E sl t v) (hn : ¬ Own3 db mb tb bo) (x y : Value) : DiskIs ((w.setCell ⟨bo, 7, none⟩ x).setCell ⟨bo, 8, none⟩ y) db mb tb D :=
  (h.setOther (p := ⟨bo, 7, none⟩) _ hn (fun x e => by rw [k.c7] at e; cases e)).setOther (p := ⟨bo, 8, none⟩) _ hn (fun x e => by rw [World.cell?_setCell_other _ _ _ _ (by simp), k.c8] at e; cases e)
/-- Crash, boot and Open: what the disk and the state are then. -/
def reD (D : DiskS) (ts : List (Nat × Nat)) : DiskS := (vopenD (bootD (crashD D ts))).1
def reS (D : DiskS) (ts : List (Nat × Nat)) : LastS := vopenS (bootD (crashD D ts))
theorem reD_good {D : DiskS} (h : DGood D) (ts : List (Nat × Nat)) (hs : D.steps + 3 ≤ 1000000000) : DGood (reD D ts) ∧ (reD D ts).steps ≤ D.steps + 3 := vopenD_good (h.crash ts).boot hs
set_option maxHeartbeats 1000000 in
theorem rboot_old (v : Value) (D : DiskS) (w : World) (h : RIs w v D) : Calls Tryz.prog 59 #[v] w fun e w' => ∃ v', e = .returned v' ∧ RIs w' v' (bootD D) ∧ Below w.heap.size w w' ∧ ∀ g, fsOwn v' = some g → fsOwn v = some g := by
  obtain ⟨a, c, rfl, hr⟩ := h
  obtain ⟨room, L, down, armed, steps⟩ := D
  simp only at hr ⊢
  have HR := Lib.hid hr
  clear hr
  go_enter Tryz.func59, Tryz.ntmps59
  go_wp2_with fail
  refine bodyPost_ret (v := .agg #[.int .i64 room, .slice a L.length c, .bool false, .int .i64 (-1), .int .u64 steps]) (by simp [results, Tryz.results59, go_sem]) rfl ?_
  exact ⟨_, rfl, ⟨a, c, rfl, HR.out.below (((Below.refl _ _).alloc (Nat.le_refl _) _).alloc (by simp) _)⟩, ((Below.refl _ _).alloc (Nat.le_refl _) _).alloc (by simp) _, fun g hg => hg⟩

set_option maxHeartbeats 2000000 in
set_option maxRecDepth 20000 in
theorem vreopen_any (bo db mb tb : Nat) (p : Option Addr) (D : DiskS) (t v : Int) (tv : Value) (ts : List (Nat × Nat)) (w : World) (h : PairIs w bo db mb tb p D t v) (hT : TearsIs w tv ts) (htm : ts.length ≤ 1000) (hta : ts = [] ∨ ∀ b, tv.ownBlock = some b → ¬ Own3 db mb tb b) (hst : D.steps + 3 ≤ 1000000000) :
    Calls Tryz.prog 23 #[.pointer (some ⟨bo, 0, none⟩), tv] w fun e w' => e = .returned (.bool true) ∧ ∃ bb, PairIs w' bo db mb tb (some ⟨bb, 0, none⟩) (reD D ts) (reS D ts).t (reS D ts).v ∧ BookIs w' bb db (reS D ts).t (reS D ts).v ∧ w.heap.size ≤ bb ∧ ¬ Own3 db mb tb bb ∧ bb ≠ bo ∧ Kept w w' (fun k => Own3 db mb tb k ∨ k = bo) := by
  obtain ⟨hd, hg, ⟨a, n, c, hn, hb, hs, hap⟩, hno⟩ := h
  have HD0 := Lib.hid hd
  have HG := Lib.hid hg
  have HN := Lib.hid hn
  have HB0 := Lib.hid hb
  have HS0 := Lib.hid hs
  have AP := Lib.hid hap
  have NO := Lib.hid hno
  have HTM := Lib.hid htm
  have HST := Lib.hid hst
  have B8 : Hid (Byt8 D.files) := Lib.hid (fun f hf => (hd.byt f hf).1)
  have HVD : Hid (reD D ts = (vopenD (bootD (crashD D ts))).1 ∧ reS D ts = vopenS (bootD (crashD D ts))) := Lib.hid ⟨rfl, rfl⟩
  obtain ⟨ta, tc, rfl, _⟩ := hT.1.shape
  rw [List.length_map] at hT hta ⊢
  have HT0 := Lib.hid hT
  obtain ⟨tn, htn⟩ : ∃ k, ts.length = k := ⟨_, rfl⟩
  have HTN := Lib.hid htn
  rw [htn] at HT0 hta ⊢
  have HTA := Lib.hid hta
  clear hd hg hn hb hs hap hno hT htm hta hst htn
  go_enter Tryz.func23, Tryz.ntmps23
  have q0 := HB0.out.c0
  go_wp2_with fail
  refine (dcrash_any db mb tb D _ ts w HD0.out HG.out HT0.out (by rcases HTA.out with h | h; exact .inl h; exact .inr (fun b hb => h b hb))).mono ?_
  rintro e w1 ⟨rfl, hd1, hk1⟩
  have HT1 : Hid (TearsIs w1 (.slice ta tn tc) ts) := Lib.hid ⟨HT0.out.1.kept hk1 (by rcases HTA.out with h | h; exact .inl (by rw [h]; rfl); exact .inr (fun b hb => h b hb)), HT0.out.2⟩
  have HD1 := Lib.hid hd1
  have HB1 := Lib.hid (HB0.out.kept hk1 NO.out)
  have HS1 : Hid (SRow w1 3 (.slice a n c) (D.files.map rfV)) := Lib.hid (HS0.out.kept hk1 (.inr fun b hb h => (AP.out b hb).1 h))
  have K1 : Hid (Kept w w1 (fun k => Own3 db mb tb k ∨ k = bo)) := Lib.hid (hk1.mono fun _ _ h => .inl h)
  clear hd1 hk1 q0
  simp only at HD1
  have HGC := Lib.hid (HG.out.crash ts)
  obtain ⟨E1, hE1⟩ : ∃ E, crashD D ts = E := ⟨_, rfl⟩
  have HE1 := Lib.hid hE1
  rw [hE1] at HD1 HGC HVD
  clear hE1
  have q0 := HB1.out.c0
  go_wp2_with fail
  refine (dboot_any db mb tb E1 w1 HD1.out).mono ?_
  rintro e w2 ⟨rfl, hd2, hk2⟩
  have HT2 : Hid (TearsIs w2 (.slice ta tn tc) ts) := Lib.hid ⟨HT1.out.1.kept hk2 (by rcases HTA.out with h | h; exact .inl (by rw [h]; rfl); exact .inr (fun b hb => h b hb)), HT1.out.2⟩
  have HD2 := Lib.hid hd2
  have HB2 := Lib.hid (HB1.out.kept hk2 NO.out)
  have HS2 : Hid (SRow w2 3 (.slice a n c) (D.files.map rfV)) := Lib.hid (HS1.out.kept hk2 (.inr fun b hb h => (AP.out b hb).1 h))
  have K2 : Hid (Kept w w2 (fun k => Own3 db mb tb k ∨ k = bo)) := Lib.hid (K1.out.trans (hk2.mono fun _ _ h => .inl h))
  clear hd2 hk2 q0
  simp only at HD2
  have G2 := Lib.hid HGC.out.boot
  have CA := Lib.hid (calm_boot E1)
  have ST2 : Hid ((bootD E1).steps + 3 ≤ 1000000000) := Lib.hid (by rw [← HE1.out]; exact HST.out)
  obtain ⟨E2, hE2⟩ : ∃ E, bootD E1 = E := ⟨_, rfl⟩
  have HE2 := Lib.hid hE2
  rw [hE2] at HD2 G2 CA ST2 HVD
  have B82 : Hid (Byt8 E2.files) := Lib.hid (fun f hf => (HD2.out.byt f hf).1)
  clear hE2 HD0 HB0 HS0 HT0 HD1 HB1 HS1 HT1 K1
  have ST := Stable.from w2
  go_wp2_with fail
  refine region_start [0, 0, 2, 6, 14, 0, 32, 126, 254, 511, 1023, 2047] 64 (fun w' => Below w2.heap.size w2 w') (by kernel_rfl) ?_
  refine stage_heads [0, 1, 2, 3, 4, 5] (by kernel_rfl) (L := #[true, true, true, true, true, true, false, false, false, false, false, false]) (by kernel_rfl) (f' := 6) rfl (fun _ _ _ _ h => h) (fun w o h => ST.alloc h o) (.inr (by first | exact Below.refl _ _ | exact (Below.refl _ _).drew)) ?_
  simp only [List.flatMap_cons, List.flatMap_nil, List.drop_succ_cons, List.drop_zero, List.take_succ_cons, List.take_zero, List.cons_append, List.nil_append, List.append_nil]
  iterate 6 (first | (refine heads_load _ (by rfl) (fun w' hs => by obtain ⟨q0, q1, q2, q3, q4, q5, q6, _⟩ := HB2.out.below hs; go_simp; try with_reducible rfl) rfl ?_; simp only [Act.put, List.setIfInBounds_toArray, List.set_cons_zero, List.set_cons_succ]) | (refine heads_pure _ (by rfl) (fun w' => by go_simp; try with_reducible rfl) ?_; simp only [Act.put, List.setIfInBounds_toArray, List.set_cons_zero, List.set_cons_succ]))
  refine heads_nil ?_
  refine stage_op 6 (by kernel_rfl) (L := #[true, true, true, true, true, true, true, false, false, false, false, false]) (by kernel_rfl) ?_
  simp only [List.drop_succ_cons, List.drop_zero, List.take_succ_cons, List.take_zero]
  go_wp2_with fail; refine (ltears_any _ ts _ (by first | exact HT2.out | exact HT2.out.below ((Below.refl _ _).drew)) HTM.out).mono ?_; rintro e w6 ⟨v6, rfl, hT6, hb6⟩; have I6 : Hid (Below w2.heap.size w2 w6) := Lib.hid (by first | exact hb6 | exact ((Below.refl _ _).drew).trans hb6); obtain ⟨ta6, tc6, rfl, _⟩ := hT6.1.shape; rw [List.length_map, HTN.out] at hT6 ⊢; have HT6 := Lib.hid hT6; clear hT6 hb6; go_wp2_with fail
  refine step_post (fun _ => I6.out) ?_
  refine stage_op 7 (by kernel_rfl) (L := #[true, true, true, true, true, true, true, true, false, false, false, false]) (by kernel_rfl) ?_
  simp only [List.drop_succ_cons, List.drop_zero, List.take_succ_cons, List.take_zero]
  go_wp2_with fail; refine (rcrash_any _ _ D ts _ (RIs.new HN.out (HS2.out.below I6.out)) HG.out B8.out HT6.out HTM.out).mono ?_; rintro e w7 ⟨v7, rfl, hr7, hb7, hf7⟩; rw [HE1.out] at hr7; have I7 : Hid (Below w2.heap.size w2 w7) := Lib.hid (I6.out.trans (hb7.mono I6.out.size)); have HF7 : Hid (∀ g, fsOwn v7 = some g → w2.heap.size ≤ g ∧ g < w7.heap.size) := Lib.hid (fun g hg => ⟨Nat.le_trans I6.out.size (hf7 g hg).1, (hf7 g hg).2⟩); have HR7 := Lib.hid hr7; obtain ⟨a7, c7, rfl, _⟩ := hr7; clear hb7 hf7; go_wp2_with fail
  refine step_post nofun ?_
  refine stage_op 8 (by kernel_rfl) (L := #[true, true, true, true, true, true, true, true, true, false, false, false]) (by kernel_rfl) ?_
  simp only [List.drop_succ_cons, List.drop_zero, List.take_succ_cons, List.take_zero]
  go_wp2_with fail; refine (rboot_old _ E1 w7 HR7.out).mono ?_; rintro e w8 ⟨v8, rfl, hr8, hb8, hf8⟩; have I8 : Hid (Below w2.heap.size w2 w8) := Lib.hid (I7.out.trans (hb8.mono I7.out.size)); rw [HE2.out] at hr8; obtain ⟨a8, c8, rfl, hs8⟩ := hr8; obtain ⟨n8, hn8⟩ : ∃ k, E2.files.length = k := ⟨_, rfl⟩; have HN8 := Lib.hid hn8; rw [hn8] at hs8 hf8 ⊢; have FO8 : Hid (∀ g, (Value.slice a8 n8 c8).ownBlock = some g → w2.heap.size ≤ g ∧ g < w8.heap.size) := Lib.hid (fun g hg => ⟨(HF7.out g (hf8 g hg)).1, Nat.lt_of_lt_of_le (HF7.out g (hf8 g hg)).2 hb8.size⟩); have S8 := Lib.hid hs8; clear hs8 hf8 hn8 hb8; go_wp2_with fail
  refine step_post nofun ?_
  refine stage_heads [9, 10] (by kernel_rfl) (L := #[true, true, true, true, true, true, true, true, true, true, true, false]) (by kernel_rfl) (f' := 1) rfl (fun _ _ _ _ h => h) (fun w o h => ST.alloc h o) (.inl (by kernel_rfl)) ?_
  simp only [List.flatMap_cons, List.flatMap_nil, List.drop_succ_cons, List.drop_zero, List.take_succ_cons, List.take_zero, List.cons_append, List.nil_append, List.append_nil]
  iterate 2 (refine heads_pure _ (by rfl) (fun w' => by go_simp; try with_reducible rfl) ?_; simp only [Act.put, List.setIfInBounds_toArray, List.set_cons_zero, List.set_cons_succ])
  refine heads_nil ?_
  refine stage_op 11 (by kernel_rfl) (L := #[true, true, true, true, true, true, true, true, true, true, true, true]) (by kernel_rfl) ?_
  simp only [List.drop_succ_cons, List.drop_zero, List.take_succ_cons, List.take_zero]
  have HB8 := Lib.hid (HB2.out.below I8.out); obtain ⟨q0, q1, q2, q3, q4, q5, q6, _, _, fz⟩ := HB8.out; have g2 := fz 2 (by omega) (by omega); have g3 := fz 3 (by omega) (by omega); have g4 := fz 4 (by omega) (by omega); have g5 := fz 5 (by omega) (by omega); have g6 := fz 6 (by omega) (by omega); go_wp2_with fail
  refine step_post nofun ?_
  refine stage_done (by kernel_rfl) ?_
  clear q0 q1 q2 q3 q4 q5 q6 g2 g3 g4 g5 g6 fz
  have HB3a := HB8.out.setD E2 (.slice a8 n8 c8)
  have HD3a := (HD2.out.below I8.out).setPair HB8.out.bo NO.out E2 (.slice a8 n8 c8)
  have HS3a := S8.out.setPair HB8.out.bo E2 (.slice a8 n8 c8)
  have K3a : Kept w (setBO w8 bo E2 (.slice a8 n8 c8)) (fun k => Own3 db mb tb k ∨ k = bo) := (K2.out.trans (Kept.of_below I8.out (fun k h1 h2 => by omega))).trans ((Kept.setBO w8 bo E2 (.slice a8 n8 c8)).mono fun _ _ h => .inr h)
  have Z3a : w8.heap.size ≤ (setBO w8 bo E2 (.slice a8 n8 c8)).heap.size := (Kept.setBO w8 bo E2 (.slice a8 n8 c8)).size
  unfold setBO at HB3a HD3a HS3a K3a Z3a
  generalize World.setCell _ _ _ = w3 at *
  have HB3 := Lib.hid HB3a
  have HD3 := Lib.hid HD3a
  have HS3 := Lib.hid HS3a
  have K3 := Lib.hid K3a
  have Z3 := Lib.hid Z3a
  clear HB3a HD3a HS3a K3a Z3a ST
  have AP3 : Hid (∀ b, (Value.slice a8 n8 c8).ownBlock = some b → ¬ Own3 db mb tb b ∧ b ≠ bo ∧ b < w3.heap.size) := Lib.hid (fun b hb => by
    have h1 := FO8.out b hb
    have h2 := HB2.out.lt
    have h3 := Z3.out
    exact ⟨fun h => by have := HD2.out.lt3 b h; omega, by omega, by omega⟩)
  clear HB8 S8 HD2 HB2 HS2 HT2 K2 FO8 HF7 HR7
  have q0 := HB3.out.c0
  go_wp2_with fail
  refine (vopen_any db mb tb E2 w3 HD3.out G2.out (by have := ST2.out; omega)).mono ?_
  rintro e w4 ⟨-, hok, hd4, hk4⟩
  obtain ⟨bb, rfl, hbk, hbb⟩ := hok (open0 CA.out)
  have HK4 := Lib.hid hbk
  have HD4 := Lib.hid hd4
  have HB4 := Lib.hid (HB3.out.kept hk4 NO.out)
  have HS4 : Hid (SRow w4 3 (.slice a8 n8 c8) (E2.files.map rfV)) := Lib.hid (HS3.out.kept hk4 (.inr fun b hb h => (AP3.out b hb).1 h))
  have K4 : Hid (Kept w w4 (fun k => Own3 db mb tb k ∨ k = bo)) := Lib.hid (K3.out.trans (hk4.mono fun _ _ h => .inl h))
  have NB : Hid (¬ Own3 db mb tb bb ∧ bb ≠ bo ∧ w3.heap.size ≤ bb ∧ bb < w4.heap.size ∧ w.heap.size ≤ bb) := Lib.hid ⟨fun h => by have := HD3.out.lt3 bb h; omega, by have := HB3.out.lt; omega, hbb, hbk.lt, Nat.le_trans K3.out.size hbb⟩
  clear hok hbk hbb hd4 hk4 q0 HD3 HB3 HS3 K3
  obtain ⟨q0, q1, q2, q3, q4, q5, q6, _⟩ := HB4.out
  go_wp2_with fail
  refine (ropen_new _ E2 _ (RIs.new HN8.out HS4.out) G2.out CA.out ST2.out B82.out).mono ?_
  rintro e w5 ⟨v5, rfl, hr5, hb5, hf5⟩
  obtain ⟨a5, c5, rfl, hs5⟩ := hr5
  have hgo := vopenD_good G2.out ST2.out
  have G5 := Lib.hid hgo.1
  generalize (vopenD E2).1 = DP at *
  generalize vopenS E2 = LS at *
  obtain ⟨st, sv, gd⟩ := LS
  simp only at hs5 hf5 HK4 ⊢
  obtain ⟨n5, hn5⟩ : ∃ k, DP.files.length = k := ⟨_, rfl⟩
  have HN5 := Lib.hid hn5
  rw [hn5] at hs5 hf5 ⊢
  have AP5 : Hid (∀ b, (Value.slice a5 n5 c5).ownBlock = some b → ¬ Own3 db mb tb b ∧ b ≠ bo ∧ bb ≠ b) := Lib.hid (fun b hb => by
    have h3 := NB.out
    rcases hf5 b hb with h | h
    · have h1 := AP3.out b h
      exact ⟨h1.1, h1.2.1, by omega⟩
    · have h2 := HB4.out.lt
      exact ⟨fun h1 => by have := HD4.out.lt3 b h1; omega, by omega, by omega⟩)
  have HD5 := Lib.hid (HD4.out.below hb5)
  have HB5 := Lib.hid (HB4.out.below hb5)
  have HK5 := Lib.hid (HK4.out.below hb5)
  have HS5 := Lib.hid hs5
  have K5 : Hid (Kept w w5 (fun k => Own3 db mb tb k ∨ k = bo)) := Lib.hid (K4.out.trans (Kept.of_below hb5 (fun k h1 h2 => by omega)))
  clear hs5 hb5 hf5 hgo hn5 HD4 HB4 HS4 HK4 K4 q0 q1 q2 q3 q4 q5 q6
  go_wp2_with fail
  have hxq := (RD.box w5 DP (.slice a5 n5 c5)).below ((Below.refl _ _).alloc (Nat.le_refl _) (.cells #[.int .u64 st, .int .i64 sv] 52))
  have htq := SC.box26 (w5.alloc (.cells #[.int .i64 DP.room, .slice a5 n5 c5, .bool DP.down, .int .i64 DP.armed, .int .u64 DP.steps] 29)) st sv
  have hbq : Below w5.heap.size w5 ((w5.alloc (.cells #[.int .i64 DP.room, .slice a5 n5 c5, .bool DP.down, .int .i64 DP.armed, .int .u64 DP.steps] 29)).alloc (.cells #[.int .u64 st, .int .i64 sv] 52)) := ((Below.refl _ _).alloc (Nat.le_refl _) _).alloc (by simp) _
  rw [World.size_alloc] at htq
  generalize World.alloc (World.alloc w5 _) _ = wQ at *
  have XQ := Lib.hid hxq
  have TQ := Lib.hid htq
  have HDQ := Lib.hid (HD5.out.below hbq)
  have HBQ := Lib.hid (HB5.out.below hbq)
  have HKQ := Lib.hid (HK5.out.below hbq)
  have HSQ := Lib.hid (HS5.out.below hbq)
  have KQ : Hid (Kept w wQ (fun k => Own3 db mb tb k ∨ k = bo)) := Lib.hid (K5.out.trans (Kept.of_below hbq (fun k h1 h2 => by omega)))
  have LB : Hid (bo < w5.heap.size) := Lib.hid HB5.out.lt
  clear hxq htq hbq HD5 HB5 HK5 HS5 K5
  obtain ⟨q0, q1, q2, q3, q4, q5, q6, q7, q8, fz⟩ := HBQ.out
  have g1 := fz 1 (by omega) (by omega)
  have g2 := fz 2 (by omega) (by omega)
  have g3 := fz 3 (by omega) (by omega)
  have g4 := fz 4 (by omega) (by omega)
  have g5 := fz 5 (by omega) (by omega)
  have g6 := fz 6 (by omega) (by omega)
  have g7 := fz 7 (by omega) (by omega)
  have g8 := fz 8 (by omega) (by omega)
  clear fz
  have J1 : Hid (RD (wQ.setCell ⟨bo, 1, none⟩ (.pointer (some ⟨bb, 0, none⟩))) w5.heap.size DP (.slice a5 n5 c5) ∧ SC (wQ.setCell ⟨bo, 1, none⟩ (.pointer (some ⟨bb, 0, none⟩))) (w5.heap.size + 1) st sv) := Lib.hid ⟨XQ.out.kept (Kept.setCell wQ ⟨bo, 1, none⟩ _) (by have := LB.out; simp only; omega), TQ.out.kept (Kept.setCell wQ ⟨bo, 1, none⟩ _) (by have := LB.out; simp only; omega)⟩
  have J3 := (And.intro (J1.out.1.kept (Kept.setBO _ bo DP (.slice a5 n5 c5)) (by have := LB.out; omega)) (J1.out.2.kept (Kept.setBO _ bo DP (.slice a5 n5 c5)) (by have := LB.out; omega)))
  unfold setBO at J3
  have J5 := Lib.hid J3
  have J2 := Lib.hid (And.intro (J1.out.1.below ((Below.refl _ _).drew)) (J1.out.2.below ((Below.refl _ _).drew)))
  have J6 := Lib.hid (And.intro (J5.out.1.below ((Below.refl _ _).drew)) (J5.out.2.below ((Below.refl _ _).drew)))
  clear J3
  refine region_start [0, 0, 0, 0, 0, 0, 9, 73, 201, 475, 987, 2011, 4095, 8191, 16383] 3840 (fun w' => RD w' w5.heap.size DP (.slice a5 n5 c5) ∧ SC w' (w5.heap.size + 1) st sv) (by kernel_rfl) ?_
  refine stage_heads [0, 1, 2, 3, 4, 5, 6, 7] (by kernel_rfl) (L := #[true, true, true, true, true, true, true, true, false, false, false, false, false, false, false]) (by kernel_rfl) (f' := 7) rfl (fun _ _ _ _ h => h) (fun w o h => ⟨h.1.below ((Below.refl _ _).alloc (Nat.le_refl _) o), h.2.below ((Below.refl _ _).alloc (Nat.le_refl _) o)⟩) (.inr (by first | exact ⟨XQ.out, TQ.out⟩ | exact ⟨XQ.out.below ((Below.refl _ _).drew), TQ.out.below ((Below.refl _ _).drew)⟩)) ?_
  simp only [List.flatMap_cons, List.flatMap_nil, List.drop_succ_cons, List.drop_zero, List.take_succ_cons, List.take_zero, List.cons_append, List.nil_append, List.append_nil]
  iterate 8 (first | (refine heads_load _ (by rfl) (fun w' hs => by obtain ⟨⟨r0, r1, r2, r3, r4, _⟩, b0, b1, _, _⟩ := hs; go_simp; try with_reducible rfl) rfl ?_; simp only [Act.put, List.setIfInBounds_toArray, List.set_cons_zero, List.set_cons_succ]) | (refine heads_pure _ (by rfl) (fun w' => by go_simp; try with_reducible rfl) ?_; simp only [Act.put, List.setIfInBounds_toArray, List.set_cons_zero, List.set_cons_succ]))
  refine heads_nil ?_
  refine stage_op 8 (by kernel_rfl) (L := #[true, true, true, true, true, true, true, true, true, false, false, false, false, false, false]) (by kernel_rfl) ?_
  simp only [List.drop_succ_cons, List.drop_zero, List.take_succ_cons, List.take_zero]
  go_wp2_with fail
  refine step_post (fun _ => J2.out) ?_
  refine stage_heads [9, 10] (by kernel_rfl) (L := #[true, true, true, true, true, true, true, true, true, true, true, false, false, false, false]) (by kernel_rfl) (f' := 4) rfl (fun _ _ _ _ h => h) (fun w o h => ⟨h.1.below ((Below.refl _ _).alloc (Nat.le_refl _) o), h.2.below ((Below.refl _ _).alloc (Nat.le_refl _) o)⟩) (.inr (by first | exact J2.out | exact J6.out)) ?_
  simp only [List.flatMap_cons, List.flatMap_nil, List.drop_succ_cons, List.drop_zero, List.take_succ_cons, List.take_zero, List.cons_append, List.nil_append, List.append_nil]
  iterate 2 (refine heads_pure _ (by rfl) (fun w' => by go_simp; try with_reducible rfl) ?_; simp only [Act.put, List.setIfInBounds_toArray, List.set_cons_zero, List.set_cons_succ])
  refine heads_nil ?_
  refine stage_op 11 (by kernel_rfl) (L := #[true, true, true, true, true, true, true, true, true, true, true, true, false, false, false]) (by kernel_rfl) ?_
  simp only [List.drop_succ_cons, List.drop_zero, List.take_succ_cons, List.take_zero]
  go_wp2_with fail
  refine step_post (fun _ => J6.out) ?_
  refine stage_heads [12, 13] (by kernel_rfl) (L := #[true, true, true, true, true, true, true, true, true, true, true, true, true, true, false]) (by kernel_rfl) (f' := 1) rfl (fun _ _ _ _ h => h) (fun w o h => ⟨h.1.below ((Below.refl _ _).alloc (Nat.le_refl _) o), h.2.below ((Below.refl _ _).alloc (Nat.le_refl _) o)⟩) (.inl (by kernel_rfl)) ?_
  simp only [List.flatMap_cons, List.flatMap_nil, List.drop_succ_cons, List.drop_zero, List.take_succ_cons, List.take_zero, List.cons_append, List.nil_append, List.append_nil]
  iterate 2 (refine heads_pure _ (by rfl) (fun w' => by go_simp; try with_reducible rfl) ?_; simp only [Act.put, List.setIfInBounds_toArray, List.set_cons_zero, List.set_cons_succ])
  refine heads_nil ?_
  refine stage_op 14 (by kernel_rfl) (L := #[true, true, true, true, true, true, true, true, true, true, true, true, true, true, true]) (by kernel_rfl) ?_
  simp only [List.drop_succ_cons, List.drop_zero, List.take_succ_cons, List.take_zero]
  go_wp2_with fail
  refine step_post nofun ?_
  refine stage_done (by kernel_rfl) ?_
  generalize hwz : World.drew _ = wz
  have W1 : wz = ((((setBO (wQ.setCell ⟨bo, 1, none⟩ (.pointer (some ⟨bb, 0, none⟩))) bo DP (.slice a5 n5 c5)).setCell ⟨bo, 7, none⟩ (.int .u64 st)).setCell ⟨bo, 8, none⟩ (.int .i64 sv))).drew := hwz.symm
  have HBZ := (((HBQ.out.setP (some ⟨bb, 0, none⟩)).setD DP (.slice a5 n5 c5)).setS st sv).below ((Below.refl _ _).drew)
  have HDZ := ((((HDQ.out.setP HBQ.out NO.out (.pointer (some ⟨bb, 0, none⟩))).setPair (HBQ.out.setP (some ⟨bb, 0, none⟩)).bo NO.out DP (.slice a5 n5 c5))).setS ((HBQ.out.setP (some ⟨bb, 0, none⟩)).setD DP (.slice a5 n5 c5)) NO.out (.int .u64 st) (.int .i64 sv)).below ((Below.refl _ _).drew)
  have KB := ((((Kept.setCell wQ ⟨bo, 1, none⟩ (.pointer (some ⟨bb, 0, none⟩))).trans (Kept.setBO _ bo DP (.slice a5 n5 c5))).trans (Kept.setCell _ ⟨bo, 7, none⟩ (.int .u64 st))).trans (Kept.setCell _ ⟨bo, 8, none⟩ (.int .i64 sv))).trans (Kept.drew _ _)
  rw [← W1] at HBZ HDZ KB
  have HSZ := HSQ.out.kept KB (.inr fun b hb h => (AP5.out b hb).2.1 h)
  have HKZ := HKQ.out.kept KB (fun h => NB.out.2.1 h)
  have KZ : Kept w wz (fun k => Own3 db mb tb k ∨ k = bo) := KQ.out.trans (KB.mono fun _ _ h => .inr h)
  have ZZ := Lib.hid (And.intro HBZ (And.intro HDZ (And.intro HSZ (And.intro HKZ KZ))))
  clear HBZ HDZ HSZ HKZ KZ KB W1 hwz q0 q1 q2 q3 q4 q5 q6 q7 q8 g1 g2 g3 g4 g5 g6 g7 g8 J1 J2 J5 J6
  go_wp2_with fail
  go_ret
  rw [HVD.out.1, HVD.out.2]
  exact ⟨rfl, bb, ⟨ZZ.out.2.1, G5.out, ⟨a5, n5, c5, HN5.out, ZZ.out.1, ZZ.out.2.2.1, fun b hb => ⟨(AP5.out b hb).1, (AP5.out b hb).2.1, fun q hq => by obtain rfl := (Option.some.inj hq).symm; exact (AP5.out b hb).2.2⟩⟩, NO.out⟩, ZZ.out.2.2.2.1, NB.out.2.2.2.2, NB.out.1, NB.out.2.1, ZZ.out.2.2.2.2⟩
end Go.Proofs.YtofhccpagnkalaaGreat

/- What a snapshot's Save, a crash and Open leave of its file; plain. -/
namespace Go.Proofs.YtofhccpagnkalaaGreat
open Go.RowKit Go.Maps Go.Proofs.Own

/-- Bytes written into a new file that then takes another one's place. -/
def intoD (D : DiskS) (m n : ByteArray) (b : List Nat) : DiskS × Nat :=
  if (vgoneD D m).2 ≠ 0 then vgoneD D m else if (wrTo (vgoneD D m).1 m b).2 ≠ 0 then wrTo (vgoneD D m).1 m b else moveD (wrTo (vgoneD D m).1 m b).1 m n
/-- The disk's snapshot is s: the file is its bytes, all kept; or there is none. -/
def SFile (D : DiskS) (s : SnapS) : Prop := (s = zeroS ∧ findFile nSnap D.files = none) ∨ (s.ok ∧ findFile nSnap D.files = some ⟨nSnap, frP 4 (snapW s), (frP 4 (snapW s)).length⟩)
theorem frP_ne (k : Nat) (l : List Nat) : frP k l ≠ [] := fun h => by have := length_frP k l; rw [h] at this; simp at this
theorem SFile.crash {D : DiskS} {s : SnapS} (h : SFile D s) (hr : Rising D.files) (ts : List (Nat × Nat)) : SFile (crashD D ts) s := by
  obtain ⟨us, hu⟩ := find_crash nSnap D.files ts hr.apart
  have hu' : findFile nSnap (crashD D ts).files = (findFile nSnap D.files).bind fun f => (crash1 f us).head? := hu
  rcases h with ⟨h1, h2⟩ | ⟨h1, h2⟩
  · rw [h2] at hu'
    exact .inl ⟨h1, hu'⟩
  · rw [h2] at hu'
    refine .inr ⟨h1, hu'.trans ?_⟩
    simp only [Option.bind_some]
    unfold crash1
    rw [if_neg (Nat.lt_irrefl _), if_neg (frP_ne 4 (snapW s))]
    rfl
end Go.Proofs.YtofhccpagnkalaaGreat

/- The document's Into: bytes written into a new file that then takes another one's place; contract; no conditions but the ranges. -/
namespace Go.Proofs.YtofhccpagnkalaaGreat
open Go.RowKit Go.Maps Go.Proofs.Own

theorem into_1 {D D1 : DiskS} {m to : ByteArray} {b : List Nat} {e : Nat} (h1 : vgoneD D m = (D1, e)) (he : e ≠ 0) : intoD D m to b = (D1, e) := by
  unfold intoD; rw [h1, if_pos he]
theorem into_2 {D D1 D2 : DiskS} {m to : ByteArray} {b : List Nat} {e : Nat} (h1 : vgoneD D m = (D1, 0)) (h2 : appendD D1 m b = (D2, e)) (he : e ≠ 0) : intoD D m to b = (D2, e) := by
  unfold intoD wrTo; rw [h1]; simp only [ne_eq, not_true_eq_false, if_false]; rw [h2, if_pos he, if_pos he]
theorem into_3 {D D1 D2 D3 : DiskS} {m to : ByteArray} {b : List Nat} {e : Nat} (h1 : vgoneD D m = (D1, 0)) (h2 : appendD D1 m b = (D2, 0)) (h3 : syncD D2 m = (D3, e)) (he : e ≠ 0) : intoD D m to b = (D3, e) := by
  unfold intoD wrTo; rw [h1]; simp only [ne_eq, not_true_eq_false, if_false]; rw [h2]; simp only [not_true_eq_false, if_false]; rw [h3, if_pos he]
theorem into_4 {D D1 D2 D3 : DiskS} {m to : ByteArray} {b : List Nat} (h1 : vgoneD D m = (D1, 0)) (h2 : appendD D1 m b = (D2, 0)) (h3 : syncD D2 m = (D3, 0)) : intoD D m to b = moveD D3 m to := by
  unfold intoD wrTo; rw [h1]; simp only [ne_eq, not_true_eq_false, if_false]; rw [h2]; simp only [not_true_eq_false, if_false]; rw [h3]; simp only [not_true_eq_false, if_false]

set_option maxHeartbeats 4000000 in
set_option maxRecDepth 20000 in
theorem rinto_new (v bv : Value) (D0 : DiskS) (to m : ByteArray) (b : List Nat) (w : World) (h : RIs w v D0) (hg : DGood D0) (hd : D0.down = false) (hs : D0.steps + 4 ≤ 1000000000) (hb : Bytes w bv b) (hbl : b.length ≤ 2097152) (hm : to ++ ⟨#[46, 110, 101, 119]⟩ = m) (hto : to.size ≤ 1000) (hms : m.size ≤ 1000) : Calls Tryz.prog 106 #[v, .string to, bv] w (RPostN (intoD D0 m to b) v w) := by
  obtain ⟨a0, c0, rfl, hr⟩ := h
  obtain ⟨n0, hn⟩ : ∃ n, D0.files.length = n := ⟨_, rfl⟩
  have HN0 := Lib.hid hn
  rw [hn] at hr ⊢
  have HS0 := Lib.hid hr
  have G0 := Lib.hid hg
  have DN := Lib.hid hd
  have ST0 := Lib.hid hs
  have HBB := Lib.hid hb
  have HBL := Lib.hid hbl
  have HM := Lib.hid hm
  have HTO := Lib.hid hto
  have HMS := Lib.hid hms
  obtain ⟨ba, bc, rfl, _⟩ := hb.shape
  have hcl : (to.size : Int) + 4 ≤ 9223372036854775807 := by omega
  clear hr hn hg hd hs hb hbl hto hms
  have BX : RD ((w.alloc (.cells #[.int .i64 D0.room, .slice a0 n0 c0, .bool D0.down, .int .i64 D0.armed, .int .u64 D0.steps] 29)).alloc (.cells #[.int .i64 0, .slice none 0 0, .bool false, .int .i64 0, .int .u64 0] 29)) w.heap.size D0 (.slice a0 n0 c0) := (RD.box w D0 (.slice a0 n0 c0)).below ((Below.refl _ _).alloc (Nat.le_refl _) _)
  have BZ := RD.zero (w.alloc (.cells #[.int .i64 D0.room, .slice a0 n0 c0, .bool D0.down, .int .i64 D0.armed, .int .u64 D0.steps] 29))
  have hsz : (w.alloc (.cells #[.int .i64 D0.room, .slice a0 n0 c0, .bool D0.down, .int .i64 D0.armed, .int .u64 D0.steps] 29)).heap.size = w.heap.size + 1 := by simp
  rw [hsz] at BZ
  have BB : Below w.heap.size w ((w.alloc (.cells #[.int .i64 D0.room, .slice a0 n0 c0, .bool D0.down, .int .i64 D0.armed, .int .u64 D0.steps] 29)).alloc (.cells #[.int .i64 0, .slice none 0 0, .bool false, .int .i64 0, .int .u64 0] 29)) := ((Below.refl _ _).alloc (Nat.le_refl _) _).alloc (by simp) _
  have SS := HS0.out.below BB
  clear hsz
  go_enter Tryz.func106, Tryz.ntmps106
  go_wp2_with fail
  generalize World.alloc (World.alloc w _) _ = w1 at *
  have X1 := Lib.hid BX
  have Z1 := Lib.hid BZ
  have B1 := Lib.hid BB
  have S1 := Lib.hid SS
  have F0 : Hid (∀ g, (.slice a0 n0 c0 : Value).ownBlock = some g → (.slice a0 n0 c0 : Value).ownBlock = some g ∨ w.heap.size ≤ g) := Lib.hid (fun g h => .inl h)
  clear BX BZ BB SS
  have hcat : to ++ ⟨#[46, 110, 101, 119]⟩ = m := HM.out
  go_wp2_with fail
  refine (rgone_new _ D0 m w1 (RIs.new HN0.out S1.out) G0.out DN.out).mono ?_
  rintro e w1r ⟨v1, rfl, hr1, hb1, hf1⟩
  have X1r := Lib.hid (X1.out.below hb1)
  have Z1r := Lib.hid (Z1.out.below hb1)
  have B1r : Hid (Below w.heap.size w w1r) := Lib.hid (B1.out.trans (hb1.mono B1.out.size))
  have GG := vgoneD_good m G0.out (by have := ST0.out; omega)
  obtain ⟨r, hr⟩ : ∃ r, vgoneD D0 m = r := ⟨_, rfl⟩
  have HR1 := Lib.hid hr
  rw [hr] at hr1 GG ⊢
  obtain ⟨D1, e1⟩ := r
  simp only at GG hr1 ⊢
  have G1 := Lib.hid GG.1
  have ST1 : Hid (D1.steps + 3 ≤ 1000000000) := Lib.hid (by have h1 := ST0.out; have h2 := GG.2; omega)
  obtain ⟨a1, c1, rfl, hs1⟩ := hr1
  obtain ⟨n1, hn1⟩ : ∃ n, D1.files.length = n := ⟨_, rfl⟩
  have HN1 := Lib.hid hn1
  rw [hn1] at hs1 hf1 ⊢
  have S1r := Lib.hid hs1
  have F1 : Hid (∀ g, (.slice a1 n1 c1 : Value).ownBlock = some g → (.slice a0 n0 c0 : Value).ownBlock = some g ∨ w.heap.size ≤ g) := Lib.hid (fun g hg => by
    rcases hf1 g hg with h | h
    · exact F0.out g h
    · exact .inr (by have := B1.out.size; omega))
  clear hr hs1 hn1 hb1 hf1 GG
  obtain ⟨r0, r1, r2, r3, r4, f0, f1, f2, f3, f4⟩ := X1r.out
  obtain ⟨z0, z1, z2, z3, z4, g0, g1, g2, g3, g4⟩ := Z1r.out
  have hlx := X1r.out.lt
  have hlz := Z1r.out.lt
  have X2a := X1r.out.set D1 (.slice a1 n1 c1)
  have KS := Kept.set5D w1r w.heap.size D1 (.slice a1 n1 c1)
  have Z2a := Z1r.out.kept KS (by omega)
  have S2a := S1r.out.setD X1r.out (fun s e => by cases e) D1 (.slice a1 n1 c1)
  have B2a := B1r.out.trans (KS.below B1r.out.size (fun k hk => by omega))
  unfold set5D at X2a Z2a S2a B2a
  have X2 := Lib.hid X2a
  have Z2 := Lib.hid Z2a
  have S2 := Lib.hid S2a
  have B2 := Lib.hid B2a
  clear X2a Z2a S2a B2a KS
  by_cases he : e1 = 0
  · subst he
    have y0 := (HBB.out.below B2.out).str Tryz.underlying22 Tryz.underlying5 Tryz.underlying9
    go_wp2_with fail
    generalize (((((w1r.setCell ⟨w.heap.size, 0, none⟩ (.int .i64 D1.room)).setCell ⟨w.heap.size, 1, none⟩ (.slice a1 n1 c1)).setCell ⟨w.heap.size, 2, none⟩ (.bool D1.down)).setCell ⟨w.heap.size, 3, none⟩ (.int .i64 D1.armed)).setCell ⟨w.heap.size, 4, none⟩ (.int .u64 D1.steps)) = w2 at *
    clear r0 r1 r2 r3 r4 f0 f1 f2 f3 f4 z0 z1 z2 z3 z4 g0 g1 g2 g3 g4 hlx hlz
    clear y0
    refine (rappend_new _ D1 m b w2 (RIs.new HN1.out S2.out) G1.out (by have := HMS.out; omega) HBL.out).mono ?_
    rintro e w2r ⟨v2, rfl, hr2, hb2, hf2⟩
    have X2r := Lib.hid (X2.out.below hb2)
    have Z2r := Lib.hid (Z2.out.below hb2)
    have B2r : Hid (Below w.heap.size w w2r) := Lib.hid (B2.out.trans (hb2.mono B2.out.size))
    have GG := G1.out.append m b (by have := ST1.out; omega)
    obtain ⟨r, hr⟩ : ∃ r, appendD D1 m b = r := ⟨_, rfl⟩
    have HR2 := Lib.hid hr
    rw [hr] at hr2 GG ⊢
    obtain ⟨D2, e2⟩ := r
    simp only at GG hr2 ⊢
    have G2 := Lib.hid GG.1
    have ST2 : Hid (D2.steps + 2 ≤ 1000000000) := Lib.hid (by have h1 := ST1.out; have h2 := GG.2; omega)
    obtain ⟨a2, c2, rfl, hs2⟩ := hr2
    obtain ⟨n2, hn2⟩ : ∃ n, D2.files.length = n := ⟨_, rfl⟩
    have HN2 := Lib.hid hn2
    rw [hn2] at hs2 hf2 ⊢
    have S2r := Lib.hid hs2
    have F2 : Hid (∀ g, (.slice a2 n2 c2 : Value).ownBlock = some g → (.slice a0 n0 c0 : Value).ownBlock = some g ∨ w.heap.size ≤ g) := Lib.hid (fun g hg => by
      rcases hf2 g hg with h | h
      · exact F1.out g h
      · exact .inr (by have := B2.out.size; omega))
    clear hr hs2 hn2 hb2 hf2 GG
    obtain ⟨r0, r1, r2, r3, r4, f0, f1, f2, f3, f4⟩ := X2r.out
    obtain ⟨z0, z1, z2, z3, z4, g0, g1, g2, g3, g4⟩ := Z2r.out
    have hlx := X2r.out.lt
    have hlz := Z2r.out.lt
    have X3a := X2r.out.set D2 (.slice a2 n2 c2)
    have KS := Kept.set5D w2r w.heap.size D2 (.slice a2 n2 c2)
    have Z3a := Z2r.out.kept KS (by omega)
    have S3a := S2r.out.setD X2r.out (fun s e => by cases e) D2 (.slice a2 n2 c2)
    have B3a := B2r.out.trans (KS.below B2r.out.size (fun k hk => by omega))
    unfold set5D at X3a Z3a S3a B3a
    have X3 := Lib.hid X3a
    have Z3 := Lib.hid Z3a
    have S3 := Lib.hid S3a
    have B3 := Lib.hid B3a
    clear X3a Z3a S3a B3a KS
    by_cases he : e2 = 0
    · subst he
      go_wp2_with fail
      generalize (((((w2r.setCell ⟨w.heap.size, 0, none⟩ (.int .i64 D2.room)).setCell ⟨w.heap.size, 1, none⟩ (.slice a2 n2 c2)).setCell ⟨w.heap.size, 2, none⟩ (.bool D2.down)).setCell ⟨w.heap.size, 3, none⟩ (.int .i64 D2.armed)).setCell ⟨w.heap.size, 4, none⟩ (.int .u64 D2.steps)) = w3 at *
      clear r0 r1 r2 r3 r4 f0 f1 f2 f3 f4 z0 z1 z2 z3 z4 g0 g1 g2 g3 g4 hlx hlz
      refine (rsync_new _ D2 m w3 (RIs.new HN2.out S3.out) G2.out).mono ?_
      rintro e w3r ⟨v3, rfl, hr3, hb3, hf3⟩
      have X3r := Lib.hid (X3.out.below hb3)
      have Z3r := Lib.hid (Z3.out.below hb3)
      have B3r : Hid (Below w.heap.size w w3r) := Lib.hid (B3.out.trans (hb3.mono B3.out.size))
      have GG := G2.out.sync m (by have := ST2.out; omega)
      obtain ⟨r, hr⟩ : ∃ r, syncD D2 m = r := ⟨_, rfl⟩
      have HR3 := Lib.hid hr
      rw [hr] at hr3 GG ⊢
      obtain ⟨D3, e3⟩ := r
      simp only at GG hr3 ⊢
      have G3 := Lib.hid GG.1
      have ST3 : Hid (D3.steps + 1 ≤ 1000000000) := Lib.hid (by have h1 := ST2.out; have h2 := GG.2; omega)
      obtain ⟨a3, c3, rfl, hs3⟩ := hr3
      obtain ⟨n3, hn3⟩ : ∃ n, D3.files.length = n := ⟨_, rfl⟩
      have HN3 := Lib.hid hn3
      rw [hn3] at hs3 hf3 ⊢
      have S3r := Lib.hid hs3
      have F3 : Hid (∀ g, (.slice a3 n3 c3 : Value).ownBlock = some g → (.slice a0 n0 c0 : Value).ownBlock = some g ∨ w.heap.size ≤ g) := Lib.hid (fun g hg => by
        rcases hf3 g hg with h | h
        · exact F2.out g h
        · exact .inr (by have := B3.out.size; omega))
      clear hr hs3 hn3 hb3 hf3 GG
      obtain ⟨r0, r1, r2, r3, r4, f0, f1, f2, f3, f4⟩ := X3r.out
      obtain ⟨z0, z1, z2, z3, z4, g0, g1, g2, g3, g4⟩ := Z3r.out
      have hlx := X3r.out.lt
      have hlz := Z3r.out.lt
      have X4a := X3r.out.set D3 (.slice a3 n3 c3)
      have KS := Kept.set5D w3r w.heap.size D3 (.slice a3 n3 c3)
      have Z4a := Z3r.out.kept KS (by omega)
      have S4a := S3r.out.setD X3r.out (fun s e => by cases e) D3 (.slice a3 n3 c3)
      have B4a := B3r.out.trans (KS.below B3r.out.size (fun k hk => by omega))
      unfold set5D at X4a Z4a S4a B4a
      have X4 := Lib.hid X4a
      have Z4 := Lib.hid Z4a
      have S4 := Lib.hid S4a
      have B4 := Lib.hid B4a
      clear X4a Z4a S4a B4a KS
      by_cases he : e3 = 0
      · subst he
        go_wp2_with fail
        generalize (((((w3r.setCell ⟨w.heap.size, 0, none⟩ (.int .i64 D3.room)).setCell ⟨w.heap.size, 1, none⟩ (.slice a3 n3 c3)).setCell ⟨w.heap.size, 2, none⟩ (.bool D3.down)).setCell ⟨w.heap.size, 3, none⟩ (.int .i64 D3.armed)).setCell ⟨w.heap.size, 4, none⟩ (.int .u64 D3.steps)) = w4 at *
        clear r0 r1 r2 r3 r4 f0 f1 f2 f3 f4 z0 z1 z2 z3 z4 g0 g1 g2 g3 g4 hlx hlz
        refine (rmove_new _ D3 m to w4 (RIs.new HN3.out S4.out) G3.out (by have := HTO.out; omega)).mono ?_
        rintro e w4r ⟨v4, rfl, hr4, hb4, hf4⟩
        have X4r := Lib.hid (X4.out.below hb4)
        have Z4r := Lib.hid (Z4.out.below hb4)
        have B4r : Hid (Below w.heap.size w w4r) := Lib.hid (B4.out.trans (hb4.mono B4.out.size))
        have GG := G3.out.move m to (by have := ST3.out; omega)
        obtain ⟨r, hr⟩ : ∃ r, moveD D3 m to = r := ⟨_, rfl⟩
        have HR4 := Lib.hid hr
        rw [hr] at hr4 GG ⊢
        obtain ⟨D4, e4⟩ := r
        simp only at GG hr4 ⊢
        have G4 := Lib.hid GG.1
        have ST4 : Hid (D4.steps + 0 ≤ 1000000000) := Lib.hid (by have h1 := ST3.out; have h2 := GG.2; omega)
        obtain ⟨a4, c4, rfl, hs4⟩ := hr4
        obtain ⟨n4, hn4⟩ : ∃ n, D4.files.length = n := ⟨_, rfl⟩
        have HN4 := Lib.hid hn4
        rw [hn4] at hs4 hf4 ⊢
        have S4r := Lib.hid hs4
        have F4 : Hid (∀ g, (.slice a4 n4 c4 : Value).ownBlock = some g → (.slice a0 n0 c0 : Value).ownBlock = some g ∨ w.heap.size ≤ g) := Lib.hid (fun g hg => by
          rcases hf4 g hg with h | h
          · exact F3.out g h
          · exact .inr (by have := B4.out.size; omega))
        clear hr hs4 hn4 hb4 hf4 GG
        obtain ⟨r0, r1, r2, r3, r4, f0, f1, f2, f3, f4⟩ := X4r.out
        obtain ⟨z0, z1, z2, z3, z4, g0, g1, g2, g3, g4⟩ := Z4r.out
        have hlx := X4r.out.lt
        have hlz := Z4r.out.lt
        have X5a := X4r.out.set D4 (.slice a4 n4 c4)
        have KS := Kept.set5D w4r w.heap.size D4 (.slice a4 n4 c4)
        have Z5a := Z4r.out.kept KS (by omega)
        have S5a := S4r.out.setD X4r.out (fun s e => by cases e) D4 (.slice a4 n4 c4)
        have B5a := B4r.out.trans (KS.below B4r.out.size (fun k hk => by omega))
        unfold set5D at X5a Z5a S5a B5a
        have X5 := Lib.hid X5a
        have Z5 := Lib.hid Z5a
        have S5 := Lib.hid S5a
        have B5 := Lib.hid B5a
        clear X5a Z5a S5a B5a KS
        have RFF0 := Z5.out.set D4 (.slice a4 n4 c4)
        have KS := Kept.set5D (((((w4r.setCell ⟨w.heap.size, 0, none⟩ (.int .i64 D4.room)).setCell ⟨w.heap.size, 1, none⟩ (.slice a4 n4 c4)).setCell ⟨w.heap.size, 2, none⟩ (.bool D4.down)).setCell ⟨w.heap.size, 3, none⟩ (.int .i64 D4.armed)).setCell ⟨w.heap.size, 4, none⟩ (.int .u64 D4.steps)) (w.heap.size + 1) D4 (.slice a4 n4 c4)
        have BF0 := B5.out.trans (KS.below B5.out.size (fun k hk => by omega))
        have SF0 := S5.out.setD Z5.out (fun s e => by cases e) D4 (.slice a4 n4 c4)
        unfold set5D at RFF0 BF0 SF0
        have RFF := Lib.hid RFF0
        have BF := Lib.hid BF0
        have SF := Lib.hid SF0
        clear KS RFF0 BF0 SF0
        go_wp2_with fail
        generalize ((((((((((w4r.setCell ⟨w.heap.size, 0, none⟩ (.int .i64 D4.room)).setCell ⟨w.heap.size, 1, none⟩ (.slice a4 n4 c4)).setCell ⟨w.heap.size, 2, none⟩ (.bool D4.down)).setCell ⟨w.heap.size, 3, none⟩ (.int .i64 D4.armed)).setCell ⟨w.heap.size, 4, none⟩ (.int .u64 D4.steps)).setCell ⟨(w.heap.size + 1), 0, none⟩ (.int .i64 D4.room)).setCell ⟨(w.heap.size + 1), 1, none⟩ (.slice a4 n4 c4)).setCell ⟨(w.heap.size + 1), 2, none⟩ (.bool D4.down)).setCell ⟨(w.heap.size + 1), 3, none⟩ (.int .i64 D4.armed)).setCell ⟨(w.heap.size + 1), 4, none⟩ (.int .u64 D4.steps)) = wF at *
        obtain ⟨q0, q1, q2, q3, q4, _⟩ := RFF.out
        refine bodyPost_ret (v := .tuple #[.agg #[.int .i64 D4.room, .slice a4 n4 c4, .bool D4.down, .int .i64 D4.armed, .int .u64 D4.steps], .int .i64 (e4 : Nat)]) (by simp [results, Tryz.results106, go_sem, q0, q1, q2, q3, q4]) rfl ?_
        have HV : intoD D0 m to b = (D4, e4) := (into_4 HR1.out HR2.out HR3.out).trans HR4.out
        rw [HV]
        exact ⟨_, rfl, RIs.new HN4.out SF.out, BF.out, F4.out⟩
      · have hb0 : ((e3 : Int) == 0) = false := beq_eq_false_iff_ne.2 (by omega)
        have HE := Lib.hid he
        clear he
        have RFF0 := Z4.out.set D3 (.slice a3 n3 c3)
        have KS := Kept.set5D (((((w3r.setCell ⟨w.heap.size, 0, none⟩ (.int .i64 D3.room)).setCell ⟨w.heap.size, 1, none⟩ (.slice a3 n3 c3)).setCell ⟨w.heap.size, 2, none⟩ (.bool D3.down)).setCell ⟨w.heap.size, 3, none⟩ (.int .i64 D3.armed)).setCell ⟨w.heap.size, 4, none⟩ (.int .u64 D3.steps)) (w.heap.size + 1) D3 (.slice a3 n3 c3)
        have BF0 := B4.out.trans (KS.below B4.out.size (fun k hk => by omega))
        have SF0 := S4.out.setD Z4.out (fun s e => by cases e) D3 (.slice a3 n3 c3)
        unfold set5D at RFF0 BF0 SF0
        have RFF := Lib.hid RFF0
        have BF := Lib.hid BF0
        have SF := Lib.hid SF0
        clear KS RFF0 BF0 SF0
        go_wp2_with fail
        generalize ((((((((((w3r.setCell ⟨w.heap.size, 0, none⟩ (.int .i64 D3.room)).setCell ⟨w.heap.size, 1, none⟩ (.slice a3 n3 c3)).setCell ⟨w.heap.size, 2, none⟩ (.bool D3.down)).setCell ⟨w.heap.size, 3, none⟩ (.int .i64 D3.armed)).setCell ⟨w.heap.size, 4, none⟩ (.int .u64 D3.steps)).setCell ⟨(w.heap.size + 1), 0, none⟩ (.int .i64 D3.room)).setCell ⟨(w.heap.size + 1), 1, none⟩ (.slice a3 n3 c3)).setCell ⟨(w.heap.size + 1), 2, none⟩ (.bool D3.down)).setCell ⟨(w.heap.size + 1), 3, none⟩ (.int .i64 D3.armed)).setCell ⟨(w.heap.size + 1), 4, none⟩ (.int .u64 D3.steps)) = wF at *
        obtain ⟨q0, q1, q2, q3, q4, _⟩ := RFF.out
        refine bodyPost_ret (v := .tuple #[.agg #[.int .i64 D3.room, .slice a3 n3 c3, .bool D3.down, .int .i64 D3.armed, .int .u64 D3.steps], .int .i64 (e3 : Nat)]) (by simp [results, Tryz.results106, go_sem, q0, q1, q2, q3, q4]) rfl ?_
        have HV : intoD D0 m to b = (D3, e3) := into_3 HR1.out HR2.out HR3.out HE.out
        rw [HV]
        exact ⟨_, rfl, RIs.new HN3.out SF.out, BF.out, F3.out⟩
    · have hb0 : ((e2 : Int) == 0) = false := beq_eq_false_iff_ne.2 (by omega)
      have HE := Lib.hid he
      clear he
      have RFF0 := Z3.out.set D2 (.slice a2 n2 c2)
      have KS := Kept.set5D (((((w2r.setCell ⟨w.heap.size, 0, none⟩ (.int .i64 D2.room)).setCell ⟨w.heap.size, 1, none⟩ (.slice a2 n2 c2)).setCell ⟨w.heap.size, 2, none⟩ (.bool D2.down)).setCell ⟨w.heap.size, 3, none⟩ (.int .i64 D2.armed)).setCell ⟨w.heap.size, 4, none⟩ (.int .u64 D2.steps)) (w.heap.size + 1) D2 (.slice a2 n2 c2)
      have BF0 := B3.out.trans (KS.below B3.out.size (fun k hk => by omega))
      have SF0 := S3.out.setD Z3.out (fun s e => by cases e) D2 (.slice a2 n2 c2)
      unfold set5D at RFF0 BF0 SF0
      have RFF := Lib.hid RFF0
      have BF := Lib.hid BF0
      have SF := Lib.hid SF0
      clear KS RFF0 BF0 SF0
      go_wp2_with fail
      generalize ((((((((((w2r.setCell ⟨w.heap.size, 0, none⟩ (.int .i64 D2.room)).setCell ⟨w.heap.size, 1, none⟩ (.slice a2 n2 c2)).setCell ⟨w.heap.size, 2, none⟩ (.bool D2.down)).setCell ⟨w.heap.size, 3, none⟩ (.int .i64 D2.armed)).setCell ⟨w.heap.size, 4, none⟩ (.int .u64 D2.steps)).setCell ⟨(w.heap.size + 1), 0, none⟩ (.int .i64 D2.room)).setCell ⟨(w.heap.size + 1), 1, none⟩ (.slice a2 n2 c2)).setCell ⟨(w.heap.size + 1), 2, none⟩ (.bool D2.down)).setCell ⟨(w.heap.size + 1), 3, none⟩ (.int .i64 D2.armed)).setCell ⟨(w.heap.size + 1), 4, none⟩ (.int .u64 D2.steps)) = wF at *
      obtain ⟨q0, q1, q2, q3, q4, _⟩ := RFF.out
      refine bodyPost_ret (v := .tuple #[.agg #[.int .i64 D2.room, .slice a2 n2 c2, .bool D2.down, .int .i64 D2.armed, .int .u64 D2.steps], .int .i64 (e2 : Nat)]) (by simp [results, Tryz.results106, go_sem, q0, q1, q2, q3, q4]) rfl ?_
      have HV : intoD D0 m to b = (D2, e2) := into_2 HR1.out HR2.out HE.out
      rw [HV]
      exact ⟨_, rfl, RIs.new HN2.out SF.out, BF.out, F2.out⟩
  · have hb0 : ((e1 : Int) == 0) = false := beq_eq_false_iff_ne.2 (by omega)
    have HE := Lib.hid he
    clear he
    have RFF0 := Z2.out.set D1 (.slice a1 n1 c1)
    have KS := Kept.set5D (((((w1r.setCell ⟨w.heap.size, 0, none⟩ (.int .i64 D1.room)).setCell ⟨w.heap.size, 1, none⟩ (.slice a1 n1 c1)).setCell ⟨w.heap.size, 2, none⟩ (.bool D1.down)).setCell ⟨w.heap.size, 3, none⟩ (.int .i64 D1.armed)).setCell ⟨w.heap.size, 4, none⟩ (.int .u64 D1.steps)) (w.heap.size + 1) D1 (.slice a1 n1 c1)
    have BF0 := B2.out.trans (KS.below B2.out.size (fun k hk => by omega))
    have SF0 := S2.out.setD Z2.out (fun s e => by cases e) D1 (.slice a1 n1 c1)
    unfold set5D at RFF0 BF0 SF0
    have RFF := Lib.hid RFF0
    have BF := Lib.hid BF0
    have SF := Lib.hid SF0
    clear KS RFF0 BF0 SF0
    go_wp2_with fail
    generalize ((((((((((w1r.setCell ⟨w.heap.size, 0, none⟩ (.int .i64 D1.room)).setCell ⟨w.heap.size, 1, none⟩ (.slice a1 n1 c1)).setCell ⟨w.heap.size, 2, none⟩ (.bool D1.down)).setCell ⟨w.heap.size, 3, none⟩ (.int .i64 D1.armed)).setCell ⟨w.heap.size, 4, none⟩ (.int .u64 D1.steps)).setCell ⟨(w.heap.size + 1), 0, none⟩ (.int .i64 D1.room)).setCell ⟨(w.heap.size + 1), 1, none⟩ (.slice a1 n1 c1)).setCell ⟨(w.heap.size + 1), 2, none⟩ (.bool D1.down)).setCell ⟨(w.heap.size + 1), 3, none⟩ (.int .i64 D1.armed)).setCell ⟨(w.heap.size + 1), 4, none⟩ (.int .u64 D1.steps)) = wF at *
    obtain ⟨q0, q1, q2, q3, q4, _⟩ := RFF.out
    refine bodyPost_ret (v := .tuple #[.agg #[.int .i64 D1.room, .slice a1 n1 c1, .bool D1.down, .int .i64 D1.armed, .int .u64 D1.steps], .int .i64 (e1 : Nat)]) (by simp [results, Tryz.results106, go_sem, q0, q1, q2, q3, q4]) rfl ?_
    have HV : intoD D0 m to b = (D1, e1) := into_1 HR1.out HE.out
    rw [HV]
    exact ⟨_, rfl, RIs.new HN1.out SF.out, BF.out, F1.out⟩
end Go.Proofs.YtofhccpagnkalaaGreat
