/- Several texts in one: Vo, Vop, Vw, Vk. What each proves stands ahead of it; together they serve vplays_law_holds. No conditions but those stated. -/
import Derived.Test.YtofhccpagnkalaaGreatVpb17
import Derived.Test.YtofhccpagnkalaaGreatVpb20
/- Contracts of the vow's settle and Open; no conditions but the ranges. -/
namespace Go.Proofs.YtofhccpagnkalaaGreat
open Go.RowKit Go.Maps Go.Proofs.Own

/-- Block b is a state's two cells. -/
structure SC (W : World) (b : Nat) (t v : Int) : Prop where
  c0 : W.cell? ⟨b, 0, none⟩ = some (.int .u64 t)
  c1 : W.cell? ⟨b, 1, none⟩ = some (.int .i64 v)
  f0 : W.frozen? ⟨b, 0, none⟩ = false
  f1 : W.frozen? ⟨b, 1, none⟩ = false
theorem SC.lt {W : World} {b : Nat} {t v : Int} (h : SC W b t v) : b < W.heap.size := World.block_lt_of_cell? _ _ h.c0
theorem SC.kept {W W' : World} {b : Nat} {t v : Int} {S : Nat → Prop} (h : SC W b t v) (hk : Kept W W' S) (hs : ¬ S b) : SC W' b t v :=
  ⟨hk.cell h.c0 hs, hk.cell h.c1 hs, (hk.frozen (a := ⟨b, 0, none⟩) h.lt hs).trans h.f0, (hk.frozen (a := ⟨b, 1, none⟩) h.lt hs).trans h.f1⟩
theorem SC.below {W W' : World} {b : Nat} {t v : Int} (h : SC W b t v) (hb : Below W.heap.size W W') : SC W' b t v :=
  h.kept (Kept.of_below hb (S := fun _ => False) fun k h1 h2 => by omega) fun h => h
theorem SC.box (w : World) (t v : Int) : SC (w.alloc (.cells #[.int .u64 t, .int .i64 v] 59)) w.heap.size t v := ⟨by go_cell, by go_cell, by simp, by simp⟩
theorem SC.set {W : World} {b : Nat} {t v : Int} (h : SC W b t v) (t' v' : Int) : SC ((W.setCell ⟨b, 0, none⟩ (.int .u64 t')).setCell ⟨b, 1, none⟩ (.int .i64 v')) b t' v' := by
  refine ⟨?_, ?_, ?_, ?_⟩
  · rw [World.cell?_setCell_other _ _ _ _ (by simp)]
    exact World.cell?_setCell_same _ _ _ h.c0
  · exact World.cell?_setCell_same _ _ _ (by rw [World.cell?_setCell_other _ _ _ _ (by simp)]; exact h.c1)
  · rw [World.frozen?_setCell, World.frozen?_setCell]; exact h.f0
  · rw [World.frozen?_setCell, World.frozen?_setCell]; exact h.f1
theorem Kept.set2 (W : World) (b : Nat) (x y : Value) : Kept W ((W.setCell ⟨b, 0, none⟩ x).setCell ⟨b, 1, none⟩ y) (fun k => k = b) := (Kept.setCell W ⟨b, 0, none⟩ x).trans (Kept.setCell _ ⟨b, 1, none⟩ y)
theorem DiskIs.sc {W : World} {db mb tb b : Nat} {D : DiskS} {t v : Int} (h : DiskIs W db mb tb D) (s : SC W b t v) (hn : ¬ Own3 db mb tb b) (t' v' : Int) : DiskIs ((W.setCell ⟨b, 0, none⟩ (.int .u64 t')).setCell ⟨b, 1, none⟩ (.int .i64 v')) db mb tb D :=
  (h.setOther (p := ⟨b, 0, none⟩) _ hn (fun x e => by rw [s.c0] at e; cases e)).setOther (p := ⟨b, 1, none⟩) _ hn (fun x e => by rw [World.cell?_setCell_other _ _ _ _ (by simp), s.c1] at e; cases e)

theorem lastF_le : ∀ n l (s : LastS), (lastF n l s).g ≤ s.g + l.length
  | 0, _, s => Nat.le_add_right _ _
  | n + 1, l, s => by
    unfold lastF
    split
    · rename_i h
      have h1 := lastF_le n (frNx l) ⟨vT l, (vV l : Int) - 1, s.g + (frBody l).length + 8⟩
      have h2 := (frNx_len h.1).2.2
      simp only at h1
      omega
    · exact Nat.le_add_right _ _
theorem lastR_le (l : List Nat) : (lastR l).g ≤ l.length := by
  have := lastF_le l.length l ⟨0, -1, 0⟩
  unfold lastR
  simpa using this
theorem DGood.cut {D : DiskS} (h : DGood D) (n : ByteArray) (k : Int) (hs : D.steps + 1 ≤ 1000000000) : DGood (cutD D n k).1 ∧ (cutD D n k).1.steps ≤ D.steps + 1 := by
  unfold cutD
  cases e : findFile n D.files with
  | none => exact ⟨h, by simp only; omega⟩
  | some f =>
    simp only
    split
    · exact ⟨h, by simp only; omega⟩
    · split
      · exact ⟨h, by simp only; omega⟩
      · split
        · exact ⟨h.step hs, by simp only; rw [stepD_steps]; omega⟩
        · obtain ⟨e1, e2⟩ := find_name e
          have e3 := total_del_find e
          have e4 := h.wf.each f e2
          refine ⟨h.withFiles hs _ ?_ ?_ ?_, by simp only; rw [stepD_steps]; omega⟩
          · unfold putFile; rw [total_ins]; simp only [List.length_take]; rw [e1]; have := h.tot; omega
          · unfold putFile; rw [length_ins]; simp only; rw [e1]; have := h.few; omega
          · intro g hg
            rcases mem_put.1 hg with rfl | ⟨hg, _⟩
            · exact ⟨e4.1, by simp only [List.length_take]; omega⟩
            · exact h.wf.each g hg

def settleS (D : DiskS) : LastS := if fileE D nVow = 31 then ⟨0, -1, 0⟩ else if fileE D nVow ≠ 0 then ⟨0, 0, 0⟩ else lastR (getF D nVow).all
def settle1 (D : DiskS) : DiskS × Nat := if (lastR (getF D nVow).all).g < (getF D nVow).all.length then cutD D nVow (lastR (getF D nVow).all).g else (D, 0)
def settleD (D : DiskS) : DiskS × Nat :=
  if fileE D nVow = 31 then (D, 0) else if fileE D nVow ≠ 0 then (D, fileE D nVow) else if (settle1 D).2 ≠ 0 then settle1 D else syncD (settle1 D).1 nVow
def SettlePost (db mb tb : Nat) (D : DiskS) (w : World) : Ending → World → Prop := fun e w' =>
  e = .returned (.tuple #[.agg #[.int .u64 (settleS D).t, .int .i64 (settleS D).v], .int .i64 (settleD D).2]) ∧ DiskIs w' db mb tb (settleD D).1 ∧ Kept w w' (Own3 db mb tb)

set_option maxHeartbeats 1600000 in
set_option maxRecDepth 20000 in
theorem vsettle_no (db mb tb : Nat) (D : DiskS) (w : World) (hd : DiskIs w db mb tb D) (hf : fileE D nVow ≠ 0) :
    Calls Tryz.prog 53 #[.pointer (some ⟨db, 0, none⟩)] w (SettlePost db mb tb D w) := by
  have HD := Lib.hid hd
  have HF := Lib.hid hf
  obtain ⟨k, hk⟩ : ∃ k, fileE D nVow = k := ⟨_, rfl⟩
  have HK := Lib.hid hk
  have HV : Hid (settleS D = (if k = 31 then ⟨0, -1, 0⟩ else ⟨0, 0, 0⟩) ∧ settleD D = (D, if k = 31 then 0 else k)) := Lib.hid (by
    unfold settleS settleD
    rw [hk]
    rw [hk] at hf
    by_cases h : k = 31
    · rw [if_pos h, if_pos h, if_pos h, if_pos h]; exact ⟨rfl, rfl⟩
    · rw [if_neg h, if_neg h, if_neg h, if_neg h, if_pos hf, if_pos hf]; exact ⟨rfl, rfl⟩)
  clear hd hf hk
  unfold SettlePost
  rw [HV.out.1, HV.out.2]
  by_cases h31 : k = 31
  · subst h31
    go_enter Tryz.func53, Tryz.ntmps53
    go_wp2_with fail
    have S0 := Lib.hid (SC.box w 0 0)
    have B0 : Hid (Below w.heap.size w (w.alloc (.cells #[.int .u64 0, .int .i64 0] 59))) := Lib.hid ((Below.refl _ _).alloc (Nat.le_refl _) _)
    generalize World.alloc w _ = w1 at *
    refine (dread_err db mb tb D nVow w1 (HD.out.below B0.out) (by decide) HF.out).mono ?_
    rintro e w2 ⟨rfl, hb2⟩
    rw [HK.out]
    have S2 := Lib.hid (S0.out.below hb2)
    have B2 : Hid (Below w.heap.size w w2) := Lib.hid (B0.out.trans (hb2.mono B0.out.size))
    clear hb2
    obtain ⟨x0, x1, g0, g1⟩ := S2.out
    go_wp2_with fail
    have S3 := Lib.hid (S2.out.set 0 (-1))
    have B3 := Lib.hid (B2.out.trans ((Kept.set2 w2 w.heap.size (.int .u64 0) (.int .i64 (-1))).below B2.out.size (fun k h => by omega)))
    generalize World.setCell _ _ _ = w3 at *
    obtain ⟨y0, y1, _, _⟩ := S3.out
    refine bodyPost_ret (v := .tuple #[.agg #[.int .u64 0, .int .i64 (-1)], .int .i64 0]) (by simp [results, Tryz.results53, go_sem, y0, y1]) rfl ?_
    exact ⟨rfl, HD.out.below B3.out, Kept.below3 B3.out⟩
  · have h31b : ((k : Int) == 31) = false := by simp; omega
    have h0b : ((k : Int) != 0) = true := by have := HF.out; rw [HK.out] at this; simp; omega
    have HN := Lib.hid h31
    clear h31
    go_enter Tryz.func53, Tryz.ntmps53
    go_wp2_with fail
    have S0 := Lib.hid (SC.box w 0 0)
    have B0 : Hid (Below w.heap.size w (w.alloc (.cells #[.int .u64 0, .int .i64 0] 59))) := Lib.hid ((Below.refl _ _).alloc (Nat.le_refl _) _)
    generalize World.alloc w _ = w1 at *
    refine (dread_err db mb tb D nVow w1 (HD.out.below B0.out) (by decide) HF.out).mono ?_
    rintro e w2 ⟨rfl, hb2⟩
    rw [HK.out]
    have S2 := Lib.hid (S0.out.below hb2)
    have B2 : Hid (Below w.heap.size w w2) := Lib.hid (B0.out.trans (hb2.mono B0.out.size))
    clear hb2
    obtain ⟨x0, x1, g0, g1⟩ := S2.out
    go_wp2_with fail
    have S3 := Lib.hid (S2.out.set 0 0)
    have B3 := Lib.hid (B2.out.trans ((Kept.set2 w2 w.heap.size (.int .u64 0) (.int .i64 0)).below B2.out.size (fun k h => by omega)))
    generalize World.setCell _ _ _ = w3 at *
    obtain ⟨y0, y1, _, _⟩ := S3.out
    refine bodyPost_ret (v := .tuple #[.agg #[.int .u64 0, .int .i64 0], .int .i64 k]) (by simp [results, Tryz.results53, go_sem, y0, y1]) rfl ?_
    exact ⟨rfl, HD.out.below B3.out, Kept.below3 B3.out⟩

set_option maxHeartbeats 1600000 in
set_option maxRecDepth 20000 in
theorem vsettle_yes (db mb tb : Nat) (D : DiskS) (w : World) (hd : DiskIs w db mb tb D) (hw : DGood D) (hs : D.steps + 1 ≤ 1000000000) (hf : fileE D nVow = 0) :
    Calls Tryz.prog 53 #[.pointer (some ⟨db, 0, none⟩)] w (SettlePost db mb tb D w) := by
  obtain ⟨hdn, f, hfi⟩ := fileE_ok hf
  have HD := Lib.hid hd
  have HF := Lib.hid hfi
  have HDN := Lib.hid hdn
  have HW := Lib.hid hw
  have H3 := Lib.hid hd.lt3
  have HG : Hid (getF D nVow = f) := Lib.hid (by unfold getF; rw [hfi]; rfl)
  have HV : Hid (settleS D = lastR f.all ∧ settle1 D = (if (lastR f.all).g < f.all.length then cutD D nVow (lastR f.all).g else (D, 0)) ∧ settleD D = if (settle1 D).2 ≠ 0 then settle1 D else syncD (settle1 D).1 nVow) := Lib.hid (by
    have h1 : settleS D = lastR (getF D nVow).all := by
      unfold settleS
      rw [hf, if_neg (by decide), if_neg (by decide)]
    have h2 : settleD D = if (settle1 D).2 ≠ 0 then settle1 D else syncD (settle1 D).1 nVow := by
      unfold settleD
      rw [hf, if_neg (by decide), if_neg (by decide)]
    refine ⟨by rw [h1, HG.out], ?_, h2⟩
    unfold settle1
    rw [HG.out])
  have HGW : Hid (DGood (cutD D nVow (lastR f.all).g).1) := Lib.hid (hw.cut nVow _ hs).1
  clear hd hf hfi hdn hw
  unfold SettlePost
  go_enter Tryz.func53, Tryz.ntmps53
  go_wp2_with fail
  have S0 := Lib.hid (SC.box w 0 0)
  have B0 : Hid (Below w.heap.size w (w.alloc (.cells #[.int .u64 0, .int .i64 0] 59))) := Lib.hid ((Below.refl _ _).alloc (Nat.le_refl _) _)
  generalize World.alloc w _ = w1 at *
  refine (dread_ok db mb tb D nVow f w1 (HD.out.below B0.out) HDN.out (by decide) HF.out).mono ?_
  rintro e w2 ⟨v, rfl, hB2, hb2⟩
  have S2 := Lib.hid (S0.out.below hb2)
  have B2 : Hid (Below w.heap.size w w2) := Lib.hid (B0.out.trans (hb2.mono B0.out.size))
  obtain ⟨a, c, rfl, _⟩ := hB2.shape
  have HB2 := Lib.hid hB2
  clear hb2 hB2
  go_wp2_with fail
  refine (vlast_any _ f.all w2 HB2.out).mono ?_
  rintro e w3 ⟨rfl, hb3⟩
  have S3 := Lib.hid (S2.out.below hb3)
  have B3 : Hid (Below w.heap.size w w3) := Lib.hid (B2.out.trans (hb3.mono B2.out.size))
  have HLE : Hid ((lastR f.all).g ≤ f.all.length) := Lib.hid (lastR_le _)
  clear hb3
  generalize lastR f.all = s at *
  obtain ⟨t, u, g⟩ := s
  generalize f.all.length = len at *
  simp only at *
  have L3 : w.heap.size < w3.heap.size := S3.out.lt
  have N6 : Hid (¬ Own3 db mb tb w3.heap.size) := Lib.hid (fun h => by have := H3.out _ h; omega)
  have NB : Hid (¬ Own3 db mb tb w.heap.size) := Lib.hid (fun h => by have := H3.out _ h; omega)
  by_cases hlt : g < len
  · have hlti : (g : Int) < (len : Int) := by omega
    have HV2 : Hid (settle1 D = cutD D nVow g) := Lib.hid (by rw [HV.out.2.1, if_pos hlt])
    clear hlt
    go_wp2_with fail
    have S4 := Lib.hid (SC.box w3 t u)
    have A4 : Below w3.heap.size w3 (w3.alloc (.cells #[.int .u64 t, .int .i64 u] 59)) := (Below.refl _ _).alloc (Nat.le_refl _) _
    generalize World.alloc w3 _ = w4 at *
    have B4 : Hid (Below w.heap.size w w4) := Lib.hid (B3.out.trans (A4.mono B3.out.size))
    have T4 := Lib.hid (S3.out.below A4)
    clear A4
    refine (dcut_any db mb tb D nVow g w4 (HD.out.below B4.out) HW.out.wf (by decide)).mono ?_
    rintro e w5 ⟨rfl, hd5, hk5⟩
    have KW : Hid (Kept w w5 (Own3 db mb tb)) := Lib.hid ((Kept.below3 B4.out).trans hk5)
    have SCB : Hid (SC w5 w.heap.size 0 0) := Lib.hid (T4.out.kept hk5 NB.out)
    have SC6 : Hid (SC w5 w3.heap.size t u) := Lib.hid (S4.out.kept hk5 N6.out)
    have DW := Lib.hid hd5
    clear hd5 hk5
    obtain ⟨r, hr⟩ : ∃ r, cutD D nVow g = r := ⟨_, rfl⟩
    obtain ⟨D1, e1⟩ := r
    have GD := HGW
    rw [hr] at HV2 DW GD ⊢
    simp only at DW GD ⊢
    by_cases he : e1 = 0
    · subst he
      have HVF : Hid (settleD D = syncD D1 nVow) := Lib.hid (by rw [HV.out.2.2, HV2.out]; rfl)
      clear hr
      go_wp2_with fail
      obtain ⟨x0, x1, _, _⟩ := SC6.out
      obtain ⟨p0, p1, q0, q1⟩ := SCB.out
      obtain ⟨r, hr⟩ : ∃ r, syncD D1 nVow = r := ⟨_, rfl⟩
      obtain ⟨D2, e2⟩ := r
      have HR := Lib.hid hr
      clear hr
      go_region_with (refine (dsync_any db mb tb D1 nVow _ (by first | exact DW.out | exact DW.out.below ((Below.refl _ _).drew)) GD.out.wf (by decide)).mono ?_; rintro e w9 ⟨rfl, hd9, hk9⟩; have D9 := Lib.hid hd9; have K9 : Hid (Kept w w9 (Own3 db mb tb)) := Lib.hid (KW.out.trans (by first | exact hk9 | exact (Kept.drew _ _).trans hk9)); have SB9 : Hid (SC w9 w.heap.size 0 0) := Lib.hid (SCB.out.kept (by first | exact hk9 | exact (Kept.drew _ _).trans hk9) NB.out); have SC9 : Hid (SC w9 w3.heap.size t u) := Lib.hid (SC6.out.kept (by first | exact hk9 | exact (Kept.drew _ _).trans hk9) N6.out); clear hd9 hk9 p0 p1 q0 q1 x0 x1; obtain ⟨x0, x1, _, _⟩ := SC9.out; obtain ⟨p0, p1, q0, q1⟩ := SB9.out; rw [HR.out] at D9 ⊢)
      all_goals
        go_wp2_with fail
        have SF := Lib.hid (SB9.out.set t u)
        have KF : Hid (Kept w ((w9.setCell ⟨w.heap.size, 0, none⟩ (.int .u64 t)).setCell ⟨w.heap.size, 1, none⟩ (.int .i64 u)) (Own3 db mb tb)) := Lib.hid (K9.out.stepNew (Kept.set2 w9 w.heap.size (.int .u64 t) (.int .i64 u)) (Nat.le_refl _))
        have DF := Lib.hid (D9.out.sc SB9.out NB.out t u)
        generalize World.setCell _ _ _ = wF at *
        obtain ⟨y0, y1, _, _⟩ := SF.out
        simp only [Act.put, List.getElem_toArray, List.getElem_cons_succ, List.getElem_cons_zero, List.setIfInBounds_toArray, List.set_cons_zero, List.set_cons_succ]
        refine bodyPost_ret (v := .tuple #[.agg #[.int .u64 t, .int .i64 u], .int .i64 e2]) ?_ rfl ?_
        · simp [results, Tryz.results53, go_sem, y0, y1]
        · rw [HV.out.1, HVF.out, HR.out]
          exact ⟨rfl, DF.out, KF.out⟩
    · have he1 : ((e1 : Int) != 0) = true := by simp; omega
      have HVF : Hid (settleD D = (D1, e1)) := Lib.hid (by rw [HV.out.2.2, HV2.out]; exact if_pos he)
      clear hr he
      obtain ⟨x0, x1, _, _⟩ := SC6.out
      obtain ⟨p0, p1, q0, q1⟩ := SCB.out
      go_wp2_with fail
      have SF := Lib.hid (SCB.out.set t u)
      have KF : Hid (Kept w ((w5.setCell ⟨w.heap.size, 0, none⟩ (.int .u64 t)).setCell ⟨w.heap.size, 1, none⟩ (.int .i64 u)) (Own3 db mb tb)) := Lib.hid (KW.out.stepNew (Kept.set2 w5 w.heap.size (.int .u64 t) (.int .i64 u)) (Nat.le_refl _))
      have DF := Lib.hid (DW.out.sc SCB.out NB.out t u)
      generalize World.setCell _ _ _ = wF at *
      obtain ⟨y0, y1, _, _⟩ := SF.out
      refine bodyPost_ret (v := .tuple #[.agg #[.int .u64 t, .int .i64 u], .int .i64 e1]) (by simp [results, Tryz.results53, go_sem, y0, y1]) rfl ?_
      rw [HV.out.1, HVF.out]
      exact ⟨rfl, DF.out, KF.out⟩
  · have hlti : ¬ ((g : Int) < (len : Int)) := by omega
    have HVF' : Hid (settleD D = syncD D nVow) := Lib.hid (by rw [HV.out.2.2, HV.out.2.1, if_neg hlt]; rfl)
    clear hlt
    go_wp2_with fail
    have S4 := Lib.hid (SC.box w3 t u)
    have A4 : Below w3.heap.size w3 (w3.alloc (.cells #[.int .u64 t, .int .i64 u] 59)) := (Below.refl _ _).alloc (Nat.le_refl _) _
    generalize World.alloc w3 _ = w4 at *
    have B4 : Hid (Below w.heap.size w w4) := Lib.hid (B3.out.trans (A4.mono B3.out.size))
    have SCB := Lib.hid (S3.out.below A4)
    have SC6 := S4
    have KW : Hid (Kept w w4 (Own3 db mb tb)) := Lib.hid (Kept.below3 B4.out)
    have DW := Lib.hid (HD.out.below B4.out)
    clear A4
    obtain ⟨D1, hD1⟩ : ∃ D1, D = D1 := ⟨_, rfl⟩
    have GD := HW
    have HVF : Hid (settleD D = syncD D1 nVow) := Lib.hid (by rw [HVF'.out, hD1])
    rw [hD1] at DW GD
    clear hD1
    obtain ⟨x0, x1, _, _⟩ := SC6.out
    obtain ⟨p0, p1, q0, q1⟩ := SCB.out
    obtain ⟨r, hr⟩ : ∃ r, syncD D1 nVow = r := ⟨_, rfl⟩
    obtain ⟨D2, e2⟩ := r
    have HR := Lib.hid hr
    clear hr
    go_region_with (refine (dsync_any db mb tb D1 nVow _ (by first | exact DW.out | exact DW.out.below ((Below.refl _ _).drew)) GD.out.wf (by decide)).mono ?_; rintro e w9 ⟨rfl, hd9, hk9⟩; have D9 := Lib.hid hd9; have K9 : Hid (Kept w w9 (Own3 db mb tb)) := Lib.hid (KW.out.trans (by first | exact hk9 | exact (Kept.drew _ _).trans hk9)); have SB9 : Hid (SC w9 w.heap.size 0 0) := Lib.hid (SCB.out.kept (by first | exact hk9 | exact (Kept.drew _ _).trans hk9) NB.out); have SC9 : Hid (SC w9 w3.heap.size t u) := Lib.hid (SC6.out.kept (by first | exact hk9 | exact (Kept.drew _ _).trans hk9) N6.out); clear hd9 hk9 p0 p1 q0 q1 x0 x1; obtain ⟨x0, x1, _, _⟩ := SC9.out; obtain ⟨p0, p1, q0, q1⟩ := SB9.out; rw [HR.out] at D9 ⊢)
    all_goals
      go_wp2_with fail
      have SF := Lib.hid (SB9.out.set t u)
      have KF : Hid (Kept w ((w9.setCell ⟨w.heap.size, 0, none⟩ (.int .u64 t)).setCell ⟨w.heap.size, 1, none⟩ (.int .i64 u)) (Own3 db mb tb)) := Lib.hid (K9.out.stepNew (Kept.set2 w9 w.heap.size (.int .u64 t) (.int .i64 u)) (Nat.le_refl _))
      have DF := Lib.hid (D9.out.sc SB9.out NB.out t u)
      generalize World.setCell _ _ _ = wF at *
      obtain ⟨y0, y1, _, _⟩ := SF.out
      simp only [Act.put, List.getElem_toArray, List.getElem_cons_succ, List.getElem_cons_zero, List.setIfInBounds_toArray, List.set_cons_zero, List.set_cons_succ]
      refine bodyPost_ret (v := .tuple #[.agg #[.int .u64 t, .int .i64 u], .int .i64 e2]) ?_ rfl ?_
      · simp [results, Tryz.results53, go_sem, y0, y1]
      · rw [HV.out.1, HVF.out, HR.out]
        exact ⟨rfl, DF.out, KF.out⟩
end Go.Proofs.YtofhccpagnkalaaGreat

/- The contract of the vow's Open; no conditions but the ranges. -/
namespace Go.Proofs.YtofhccpagnkalaaGreat
open Go.RowKit Go.Maps Go.Proofs.Own

theorem BookIs.box (w : World) (db : Nat) (t v : Int) : BookIs (w.alloc (.cells #[.pointer (some ⟨db, 0, none⟩), .int .u64 t, .int .i64 v] 117)) w.heap.size db t v :=
  ⟨by go_cell, by go_cell, by go_cell, by simp, by simp⟩
theorem vsettle_any (db mb tb : Nat) (D : DiskS) (w : World) (hd : DiskIs w db mb tb D) (hw : DGood D) (hs : D.steps + 1 ≤ 1000000000) :
    Calls Tryz.prog 53 #[.pointer (some ⟨db, 0, none⟩)] w (SettlePost db mb tb D w) := by
  by_cases h : fileE D nVow = 0
  · exact vsettle_yes db mb tb D w hd hw hs h
  · exact vsettle_no db mb tb D w hd h
theorem settleD_good {D : DiskS} (h : DGood D) (hs : D.steps + 2 ≤ 1000000000) : DGood (settleD D).1 ∧ (settleD D).1.steps ≤ D.steps + 2 := by
  have h1 : DGood (settle1 D).1 ∧ (settle1 D).1.steps ≤ D.steps + 1 := by
    unfold settle1
    split
    · exact h.cut _ _ (by omega)
    · exact ⟨h, by simp only; omega⟩
  unfold settleD
  split
  · exact ⟨h, by simp only; omega⟩
  · split
    · exact ⟨h, by simp only; omega⟩
    · split
      · exact ⟨h1.1, by omega⟩
      · have h2 := h1.1.sync nVow (by omega)
        exact ⟨h2.1, by omega⟩

def vopenD (D : DiskS) : DiskS × Nat := if (vgoneD D nVowN).2 ≠ 0 then vgoneD D nVowN else settleD (vgoneD D nVowN).1
def vopenS (D : DiskS) : LastS := settleS (vgoneD D nVowN).1
def OpenPost (db mb tb : Nat) (D : DiskS) (w : World) : Ending → World → Prop := fun e w' =>
  ((vopenD D).2 ≠ 0 → e = .returned (.tuple #[.pointer none, .int .i64 (vopenD D).2])) ∧
  ((vopenD D).2 = 0 → ∃ bb, e = .returned (.tuple #[.pointer (some ⟨bb, 0, none⟩), .int .i64 0]) ∧ BookIs w' bb db (vopenS D).t (vopenS D).v ∧ w.heap.size ≤ bb) ∧
  DiskIs w' db mb tb (vopenD D).1 ∧ Kept w w' (Own3 db mb tb)
theorem vopenD_good {D : DiskS} (h : DGood D) (hs : D.steps + 3 ≤ 1000000000) : DGood (vopenD D).1 ∧ (vopenD D).1.steps ≤ D.steps + 3 := by
  have h1 := vgoneD_good nVowN h (by omega)
  unfold vopenD
  split
  · exact ⟨h1.1, by omega⟩
  · have h2 := settleD_good h1.1 (by omega)
    exact ⟨h2.1, by omega⟩

set_option maxHeartbeats 1600000 in
set_option maxRecDepth 20000 in
theorem vopen_any (db mb tb : Nat) (D : DiskS) (w : World) (hd : DiskIs w db mb tb D) (hw : DGood D) (hs : D.steps + 2 ≤ 1000000000) :
    Calls Tryz.prog 19 #[.pointer (some ⟨db, 0, none⟩)] w (OpenPost db mb tb D w) := by
  have HD := Lib.hid hd
  have HW := Lib.hid hw
  have HG1 := Lib.hid (vgoneD_good nVowN hw (by omega))
  have HS := Lib.hid hs
  have H3 := Lib.hid hd.lt3
  clear hd hw hs
  unfold OpenPost
  obtain ⟨r, hr⟩ : ∃ r, vgoneD D nVowN = r := ⟨_, rfl⟩
  obtain ⟨D1, e1⟩ := r
  have HR := Lib.hid hr
  have HV : Hid (vopenD D = (if e1 ≠ 0 then (D1, e1) else settleD D1) ∧ vopenS D = settleS D1) := Lib.hid (by unfold vopenD vopenS; rw [hr]; exact ⟨rfl, rfl⟩)
  rw [hr] at HG1
  clear hr
  rw [HV.out.1, HV.out.2]
  clear HV
  by_cases he : e1 = 0
  · subst he
    rw [if_neg (by simp)]
    obtain ⟨r2, hr2⟩ : ∃ r, settleD D1 = r := ⟨_, rfl⟩
    obtain ⟨D2, e2⟩ := r2
    obtain ⟨s, hs⟩ : ∃ s, settleS D1 = s := ⟨_, rfl⟩
    obtain ⟨t, v, g⟩ := s
    have HR2 := Lib.hid hr2
    have HS2 := Lib.hid hs
    rw [hr2, hs]
    clear hr2 hs
    simp only
    by_cases he2 : e2 = 0
    · subst he2
      go_enter Tryz.func19, Tryz.ntmps19
      go_wp2_with fail
      refine (vgone_any db mb tb D nVowN w HD.out HW.out (by decide)).mono ?_
      rintro e w1 ⟨rfl, hd1, hk1⟩
      rw [HR.out] at hd1 ⊢
      have DD1 := Lib.hid hd1
      have K1 := Lib.hid hk1
      clear hd1 hk1
      go_wp2_with fail
      refine (vsettle_any db mb tb D1 w1 DD1.out HG1.out.1 (by have h1 : D1.steps ≤ D.steps + 1 := HG1.out.2; have := HS.out; omega)).mono ?_
      rintro e w2 ⟨rfl, hd2, hk2⟩
      rw [HR2.out] at hd2 ⊢
      rw [HS2.out]
      have DD2 := Lib.hid hd2
      have K2 := Lib.hid (K1.out.trans hk2)
      clear hd2 hk2
      go_wp2_with fail
      have S3 := Lib.hid (SC.box w2 t v)
      have A3 : Below w2.heap.size w2 (w2.alloc (.cells #[.int .u64 t, .int .i64 v] 59)) := (Below.refl _ _).alloc (Nat.le_refl _) _
      have A4 : Below w2.heap.size w2 ((w2.alloc (.cells #[.int .u64 t, .int .i64 v] 59)).alloc (.cells #[.pointer (some ⟨db, 0, none⟩), .int .u64 t, .int .i64 v] 117)) := A3.alloc (by simp) _
      have BK := BookIs.box (w2.alloc (.cells #[.int .u64 t, .int .i64 v] 59)) db t v
      go_ret2
      refine ⟨fun h => absurd rfl h, fun _ => ⟨_, rfl, ?_, ?_⟩, ?_, ?_⟩
      · simpa using BK
      · have := K2.out.size
        omega
      · exact DD2.out.below A4
      · exact K2.out.trans (Kept.below3 A4)
    · have he2b : ((e2 : Int) != 0) = true := by simp; omega
      have HE2 := Lib.hid he2
      clear he2
      go_enter Tryz.func19, Tryz.ntmps19
      go_wp2_with fail
      refine (vgone_any db mb tb D nVowN w HD.out HW.out (by decide)).mono ?_
      rintro e w1 ⟨rfl, hd1, hk1⟩
      rw [HR.out] at hd1 ⊢
      have DD1 := Lib.hid hd1
      have K1 := Lib.hid hk1
      clear hd1 hk1
      go_wp2_with fail
      refine (vsettle_any db mb tb D1 w1 DD1.out HG1.out.1 (by have h1 : D1.steps ≤ D.steps + 1 := HG1.out.2; have := HS.out; omega)).mono ?_
      rintro e w2 ⟨rfl, hd2, hk2⟩
      rw [HR2.out] at hd2 ⊢
      rw [HS2.out]
      have DD2 := Lib.hid hd2
      have K2 := Lib.hid (K1.out.trans hk2)
      clear hd2 hk2
      go_wp2_with fail
      have S3 := Lib.hid (SC.box w2 t v)
      have A3 : Below w2.heap.size w2 (w2.alloc (.cells #[.int .u64 t, .int .i64 v] 59)) := (Below.refl _ _).alloc (Nat.le_refl _) _
      go_ret2
      exact ⟨fun _ => rfl, fun h => absurd h HE2.out, DD2.out.below A3, K2.out.trans (Kept.below3 A3)⟩
  · have he1 : ((e1 : Int) != 0) = true := by simp; omega
    have HE := Lib.hid he
    clear he
    go_enter Tryz.func19, Tryz.ntmps19
    go_wp2_with fail
    refine (vgone_any db mb tb D nVowN w HD.out HW.out (by decide)).mono ?_
    rintro e w1 ⟨rfl, hd1, hk1⟩
    have D1 := Lib.hid hd1
    have K1 := Lib.hid hk1
    clear hd1 hk1
    rw [HR.out] at D1 ⊢
    go_wp2_with fail
    go_ret2
    exact ⟨rfl, D1.out, K1.out⟩
end Go.Proofs.YtofhccpagnkalaaGreat

/- The contract of the vow's write; no conditions but the ranges. -/
namespace Go.Proofs.YtofhccpagnkalaaGreat
open Go.RowKit Go.Maps Go.Proofs.Own

/-- Bytes behind a file's, and all of it kept. -/
def wrTo (D : DiskS) (n : ByteArray) (b : List Nat) : DiskS × Nat := if (appendD D n b).2 ≠ 0 then appendD D n b else syncD (appendD D n b).1 n
def vwrite2 (D : DiskS) (b : List Nat) : DiskS × Nat := if (wrTo D nVowN b).2 ≠ 0 then wrTo D nVowN b else moveD (wrTo D nVowN b).1 nVowN nVow
def vwriteD (D : DiskS) (b : List Nat) : DiskS × Nat :=
  if D.down = true then (D, 50) else if (getF D nVow).all.length < 256 then wrTo D nVow b else if (vgoneD D nVowN).2 ≠ 0 then vgoneD D nVowN else vwrite2 (vgoneD D nVowN).1 b
theorem wrTo_good {D : DiskS} (n : ByteArray) (b : List Nat) (h : DGood D) (hs : D.steps + 2 ≤ 1000000000) : DGood (wrTo D n b).1 ∧ (wrTo D n b).1.steps ≤ D.steps + 2 := by
  have h1 := h.append n b (by omega)
  unfold wrTo
  split
  · exact ⟨h1.1, by omega⟩
  · have h2 := h1.1.sync n (by omega)
    exact ⟨h2.1, by omega⟩
theorem vwrite2_good {D : DiskS} (b : List Nat) (h : DGood D) (hs : D.steps + 3 ≤ 1000000000) : DGood (vwrite2 D b).1 ∧ (vwrite2 D b).1.steps ≤ D.steps + 3 := by
  have h1 := wrTo_good nVowN b h (by omega)
  unfold vwrite2
  split
  · exact ⟨h1.1, by omega⟩
  · have h2 := h1.1.move nVowN nVow (by omega)
    exact ⟨h2.1, by omega⟩
theorem vwriteD_good {D : DiskS} (b : List Nat) (h : DGood D) (hs : D.steps + 4 ≤ 1000000000) : DGood (vwriteD D b).1 ∧ (vwriteD D b).1.steps ≤ D.steps + 4 := by
  unfold vwriteD
  split
  · exact ⟨h, by simp only; omega⟩
  · split
    · have h1 := wrTo_good nVow b h (by omega)
      exact ⟨h1.1, by omega⟩
    · have h1 := vgoneD_good nVowN h (by omega)
      split
      · exact ⟨h1.1, by omega⟩
      · have h2 := vwrite2_good b h1.1 (by omega)
        exact ⟨h2.1, by omega⟩

set_option maxHeartbeats 1600000 in
set_option maxRecDepth 20000 in
theorem vwrite_down (bb db mb tb : Nat) (D : DiskS) (bv : Value) (b : List Nat) (w : World) (hd : DiskIs w db mb tb D) (hw : DGood D) (hs : D.steps + 4 ≤ 1000000000) (hc : w.cell? ⟨bb, 0, none⟩ = some (.pointer (some ⟨db, 0, none⟩))) (hnb : ¬ Own3 db mb tb bb)
    (hB : Bytes w bv b) (hbv : ∀ g, bv.ownBlock = some g → ¬ Own3 db mb tb g) (hdn : D.down = true) :
    Calls Tryz.prog 96 #[.pointer (some ⟨bb, 0, none⟩), bv] w (OpPost db mb tb (vwriteD D b) w) := by
  have HD := Lib.hid hd
  have HW := Lib.hid hw
  have HS := Lib.hid hs
  have HNB := Lib.hid hnb
  have HB := Lib.hid hB
  have HBV := Lib.hid hbv
  have HC := Lib.hid hc
  obtain ⟨ab, cb, rfl, _⟩ := hB.shape
  clear hd hw hs hnb hB hbv
  have HDN := Lib.hid hdn
  have HV : Hid (vwriteD D b = (D, 50)) := Lib.hid (by unfold vwriteD; rw [if_pos hdn])
  have HF : Hid (fileE D nVow = 50) := Lib.hid (by unfold fileE; rw [if_pos hdn])
  clear hdn
  go_enter Tryz.func96, Tryz.ntmps96
  go_wp2_with fail
  refine (dread_err db mb tb D nVow w HD.out (by decide) (by rw [HF.out]; decide)).mono ?_
  rintro e w1 ⟨rfl, hb1⟩
  rw [HF.out]
  have B1 := Lib.hid hb1
  clear hb1
  go_wp2_with fail
  go_ret
  exact ⟨by rw [HV.out]; rfl, by rw [HV.out]; exact HD.out.below B1.out, Kept.below3 B1.out⟩

set_option maxHeartbeats 1600000 in
set_option maxRecDepth 20000 in
theorem vwrite_none (bb db mb tb : Nat) (D : DiskS) (bv : Value) (b : List Nat) (w : World) (hd : DiskIs w db mb tb D) (hw : DGood D) (hs : D.steps + 4 ≤ 1000000000) (hc : w.cell? ⟨bb, 0, none⟩ = some (.pointer (some ⟨db, 0, none⟩))) (hnb : ¬ Own3 db mb tb bb)
    (hB : Bytes w bv b) (hbv : ∀ g, bv.ownBlock = some g → ¬ Own3 db mb tb g) (hdn : D.down = false) (hf : findFile nVow D.files = none) :
    Calls Tryz.prog 96 #[.pointer (some ⟨bb, 0, none⟩), bv] w (OpPost db mb tb (vwriteD D b) w) := by
  have HD := Lib.hid hd
  have HW := Lib.hid hw
  have HS := Lib.hid hs
  have HNB := Lib.hid hnb
  have HB := Lib.hid hB
  have HBV := Lib.hid hbv
  have HC := Lib.hid hc
  obtain ⟨ab, cb, rfl, _⟩ := hB.shape
  clear hd hw hs hnb hB hbv
  have HF : Hid (fileE D nVow = 31) := Lib.hid (by unfold fileE; rw [if_neg (by rw [hdn]; decide), if_pos hf])
  have hlen : (getF D nVow).all.length < 256 := by rw [getF_none hf]; decide
  have HVT : Hid (vwriteD D b = wrTo D nVow b) := Lib.hid (by
    unfold vwriteD
    rw [if_neg (by rw [hdn]; decide), if_pos hlen])
  have HVE : Hid (∀ D' e', wrTo D nVow b = (D', e') → e' ≠ 0 → vwriteD D b = (D', e')) := Lib.hid fun D' e' h _ => by rw [HVT.out, h]
  have HV0 : Hid (∀ D', wrTo D nVow b = (D', 0) → vwriteD D b = (D', 0)) := Lib.hid fun D' h => by rw [HVT.out, h]
  clear hdn hf hlen
  go_enter Tryz.func96, Tryz.ntmps96
  go_wp2_with fail
  refine (dread_err db mb tb D nVow w HD.out (by decide) (by rw [HF.out]; decide)).mono ?_
  rintro e w1 ⟨rfl, hb1⟩
  rw [HF.out]
  have C1 := Lib.hid (HC.out)
  have DW := Lib.hid (HD.out.below hb1)
  have KW : Hid (Kept w w1 (Own3 db mb tb)) := Lib.hid (Kept.below3 hb1)
  have BVW := Lib.hid (HB.out.below hb1)
  have CW : Hid (w1.cell? ⟨bb, 0, none⟩ = some (.pointer (some ⟨db, 0, none⟩))) := Lib.hid (KW.out.cell HC.out HNB.out)
  have GD : Hid (DGood D ∧ D.steps + 2 ≤ 1000000000) := Lib.hid ⟨HW.out, by have := HS.out; omega⟩
  clear hb1
  clear hc
  have c1 := CW.out
  go_wp2_with fail
  obtain ⟨r, hr⟩ : ∃ r, appendD D nVow b = r := ⟨_, rfl⟩
  obtain ⟨D2, e2⟩ := r
  have HR := Lib.hid hr
  have G2 : Hid (DGood D2 ∧ D2.steps ≤ D.steps + 1) := Lib.hid (by have h := GD.out.1.append nVow b (by have := GD.out.2; omega); rw [hr] at h; exact h)
  clear hr
  refine (dapp_any db mb tb D nVow _ b w1 DW.out GD.out.1 BVW.out (by decide)).mono ?_
  rintro e w4 ⟨rfl, hd4, hk4⟩
  rw [HR.out] at hd4 ⊢
  have D4 := Lib.hid hd4
  have K4 := Lib.hid (KW.out.trans hk4)
  have C4 : Hid (w4.cell? ⟨bb, 0, none⟩ = some (.pointer (some ⟨db, 0, none⟩))) := Lib.hid (hk4.cell CW.out HNB.out)
  clear hd4 hk4
  by_cases he2 : e2 = 0
  · subst he2
    have c4 := C4.out
    go_wp2_with fail
    obtain ⟨r, hr⟩ : ∃ r, syncD D2 nVow = r := ⟨_, rfl⟩
    obtain ⟨D3, e3⟩ := r
    have HR3 := Lib.hid hr
    have G3 : Hid (DGood D3 ∧ D3.steps ≤ D2.steps + 1) := Lib.hid (by have h := G2.out.1.sync nVow (by have := GD.out.2; have := G2.out.2; omega); rw [hr] at h; exact h)
    clear hr
    refine (dsync_any db mb tb D2 nVow w4 D4.out G2.out.1.wf (by decide)).mono ?_
    rintro e w5 ⟨rfl, hd5, hk5⟩
    rw [HR3.out] at hd5 ⊢
    have D5 := Lib.hid hd5
    have K5 := Lib.hid (K4.out.trans hk5)
    have C5 : Hid (w5.cell? ⟨bb, 0, none⟩ = some (.pointer (some ⟨db, 0, none⟩))) := Lib.hid (hk5.cell C4.out HNB.out)
    clear hd5 hk5 c4
    have HT : Hid (wrTo D nVow b = (D3, e3)) := Lib.hid (by unfold wrTo; rw [HR.out]; exact HR3.out)
    by_cases he3 : e3 = 0
    · subst he3
      go_wp2_with fail
      go_ret
      exact ⟨by rw [HV0.out D3 HT.out]; rfl, by rw [HV0.out D3 HT.out]; exact D5.out, K5.out⟩
    · have he3b : ((e3 : Int) != 0) = true := by simp; omega
      have HE := Lib.hid he3
      clear he3
      go_wp2_with fail
      go_ret
      exact ⟨by rw [HVE.out D3 e3 HT.out HE.out]; rfl, by rw [HVE.out D3 e3 HT.out HE.out]; exact D5.out, K5.out⟩
  · have he2b : ((e2 : Int) != 0) = true := by simp; omega
    have HE := Lib.hid he2
    have HT : Hid (wrTo D nVow b = (D2, e2)) := Lib.hid (by unfold wrTo; rw [HR.out]; exact if_pos he2)
    clear he2
    go_wp2_with fail
    go_ret
    exact ⟨by rw [HVE.out D2 e2 HT.out HE.out]; rfl, by rw [HVE.out D2 e2 HT.out HE.out]; exact D4.out, K4.out⟩

set_option maxHeartbeats 1600000 in
set_option maxRecDepth 20000 in
theorem vwrite_short (bb db mb tb : Nat) (D : DiskS) (bv : Value) (b : List Nat) (w : World) (hd : DiskIs w db mb tb D) (hw : DGood D) (hs : D.steps + 4 ≤ 1000000000) (hc : w.cell? ⟨bb, 0, none⟩ = some (.pointer (some ⟨db, 0, none⟩))) (hnb : ¬ Own3 db mb tb bb)
    (hB : Bytes w bv b) (hbv : ∀ g, bv.ownBlock = some g → ¬ Own3 db mb tb g) (f : FileS) (hdn : D.down = false) (hf : findFile nVow D.files = some f) (hl : f.all.length < 256) :
    Calls Tryz.prog 96 #[.pointer (some ⟨bb, 0, none⟩), bv] w (OpPost db mb tb (vwriteD D b) w) := by
  have HD := Lib.hid hd
  have HW := Lib.hid hw
  have HS := Lib.hid hs
  have HNB := Lib.hid hnb
  have HB := Lib.hid hB
  have HBV := Lib.hid hbv
  have HC := Lib.hid hc
  obtain ⟨ab, cb, rfl, _⟩ := hB.shape
  clear hd hw hs hnb hB hbv
  have HF := Lib.hid hf
  have HDN := Lib.hid hdn
  have hlen : (getF D nVow).all.length < 256 := by unfold getF; rw [hf]; exact hl
  have HVT : Hid (vwriteD D b = wrTo D nVow b) := Lib.hid (by
    unfold vwriteD
    rw [if_neg (by rw [hdn]; decide), if_pos hlen])
  have HVE : Hid (∀ D' e', wrTo D nVow b = (D', e') → e' ≠ 0 → vwriteD D b = (D', e')) := Lib.hid fun D' e' h _ => by rw [HVT.out, h]
  have HV0 : Hid (∀ D', wrTo D nVow b = (D', 0) → vwriteD D b = (D', 0)) := Lib.hid fun D' h => by rw [HVT.out, h]
  clear hdn hf hlen
  generalize hL : f.all = L at hl
  have hli : (L.length : Int) < 256 := by omega
  go_enter Tryz.func96, Tryz.ntmps96
  go_wp2_with fail
  refine (dread_ok db mb tb D nVow f w HD.out HDN.out (by decide) HF.out).mono ?_
  rintro e w1 ⟨v, rfl, hBf, hb1⟩
  obtain ⟨a, c, rfl, _⟩ := hBf.shape
  rw [hL] at hBf ⊢
  clear hBf
  have C1 := Lib.hid (HC.out)
  have DW := Lib.hid (HD.out.below hb1)
  have KW : Hid (Kept w w1 (Own3 db mb tb)) := Lib.hid (Kept.below3 hb1)
  have BVW := Lib.hid (HB.out.below hb1)
  have CW : Hid (w1.cell? ⟨bb, 0, none⟩ = some (.pointer (some ⟨db, 0, none⟩))) := Lib.hid (KW.out.cell HC.out HNB.out)
  have GD : Hid (DGood D ∧ D.steps + 2 ≤ 1000000000) := Lib.hid ⟨HW.out, by have := HS.out; omega⟩
  clear hb1
  clear hc hl
  have c1 := CW.out
  go_wp2_with fail
  obtain ⟨r, hr⟩ : ∃ r, appendD D nVow b = r := ⟨_, rfl⟩
  obtain ⟨D2, e2⟩ := r
  have HR := Lib.hid hr
  have G2 : Hid (DGood D2 ∧ D2.steps ≤ D.steps + 1) := Lib.hid (by have h := GD.out.1.append nVow b (by have := GD.out.2; omega); rw [hr] at h; exact h)
  clear hr
  refine (dapp_any db mb tb D nVow _ b w1 DW.out GD.out.1 BVW.out (by decide)).mono ?_
  rintro e w4 ⟨rfl, hd4, hk4⟩
  rw [HR.out] at hd4 ⊢
  have D4 := Lib.hid hd4
  have K4 := Lib.hid (KW.out.trans hk4)
  have C4 : Hid (w4.cell? ⟨bb, 0, none⟩ = some (.pointer (some ⟨db, 0, none⟩))) := Lib.hid (hk4.cell CW.out HNB.out)
  clear hd4 hk4
  by_cases he2 : e2 = 0
  · subst he2
    have c4 := C4.out
    go_wp2_with fail
    obtain ⟨r, hr⟩ : ∃ r, syncD D2 nVow = r := ⟨_, rfl⟩
    obtain ⟨D3, e3⟩ := r
    have HR3 := Lib.hid hr
    have G3 : Hid (DGood D3 ∧ D3.steps ≤ D2.steps + 1) := Lib.hid (by have h := G2.out.1.sync nVow (by have := GD.out.2; have := G2.out.2; omega); rw [hr] at h; exact h)
    clear hr
    refine (dsync_any db mb tb D2 nVow w4 D4.out G2.out.1.wf (by decide)).mono ?_
    rintro e w5 ⟨rfl, hd5, hk5⟩
    rw [HR3.out] at hd5 ⊢
    have D5 := Lib.hid hd5
    have K5 := Lib.hid (K4.out.trans hk5)
    have C5 : Hid (w5.cell? ⟨bb, 0, none⟩ = some (.pointer (some ⟨db, 0, none⟩))) := Lib.hid (hk5.cell C4.out HNB.out)
    clear hd5 hk5 c4
    have HT : Hid (wrTo D nVow b = (D3, e3)) := Lib.hid (by unfold wrTo; rw [HR.out]; exact HR3.out)
    by_cases he3 : e3 = 0
    · subst he3
      go_wp2_with fail
      go_ret
      exact ⟨by rw [HV0.out D3 HT.out]; rfl, by rw [HV0.out D3 HT.out]; exact D5.out, K5.out⟩
    · have he3b : ((e3 : Int) != 0) = true := by simp; omega
      have HE := Lib.hid he3
      clear he3
      go_wp2_with fail
      go_ret
      exact ⟨by rw [HVE.out D3 e3 HT.out HE.out]; rfl, by rw [HVE.out D3 e3 HT.out HE.out]; exact D5.out, K5.out⟩
  · have he2b : ((e2 : Int) != 0) = true := by simp; omega
    have HE := Lib.hid he2
    have HT : Hid (wrTo D nVow b = (D2, e2)) := Lib.hid (by unfold wrTo; rw [HR.out]; exact if_pos he2)
    clear he2
    go_wp2_with fail
    go_ret
    exact ⟨by rw [HVE.out D2 e2 HT.out HE.out]; rfl, by rw [HVE.out D2 e2 HT.out HE.out]; exact D4.out, K4.out⟩

set_option maxHeartbeats 1600000 in
set_option maxRecDepth 20000 in
theorem vwrite_long (bb db mb tb : Nat) (D : DiskS) (bv : Value) (b : List Nat) (w : World) (hd : DiskIs w db mb tb D) (hw : DGood D) (hs : D.steps + 4 ≤ 1000000000) (hc : w.cell? ⟨bb, 0, none⟩ = some (.pointer (some ⟨db, 0, none⟩))) (hnb : ¬ Own3 db mb tb bb)
    (hB : Bytes w bv b) (hbv : ∀ g, bv.ownBlock = some g → ¬ Own3 db mb tb g) (f : FileS) (hdn : D.down = false) (hf : findFile nVow D.files = some f) (hl : ¬ f.all.length < 256) :
    Calls Tryz.prog 96 #[.pointer (some ⟨bb, 0, none⟩), bv] w (OpPost db mb tb (vwriteD D b) w) := by
  have HD := Lib.hid hd
  have HW := Lib.hid hw
  have HS := Lib.hid hs
  have HNB := Lib.hid hnb
  have HB := Lib.hid hB
  have HBV := Lib.hid hbv
  have HC := Lib.hid hc
  obtain ⟨ab, cb, rfl, _⟩ := hB.shape
  clear hd hw hs hnb hB hbv
  have HF := Lib.hid hf
  have HDN := Lib.hid hdn
  obtain ⟨r, hr⟩ : ∃ r, vgoneD D nVowN = r := ⟨_, rfl⟩
  obtain ⟨D1, e1⟩ := r
  have HR1 := Lib.hid hr
  have HVT : Hid (vwriteD D b = if e1 ≠ 0 then (D1, e1) else vwrite2 D1 b) := Lib.hid (by
    unfold vwriteD
    rw [if_neg (by rw [hdn]; decide), if_neg (by unfold getF; rw [hf]; exact hl), hr])
  have G1 : Hid (DGood D1 ∧ D1.steps ≤ D.steps + 1) := Lib.hid (by have h := vgoneD_good nVowN HW.out (by have := HS.out; omega); rw [hr] at h; exact h)
  clear hdn hf hr
  generalize hL : f.all = L at hl
  have hli : ¬ (L.length : Int) < 256 := by omega
  go_enter Tryz.func96, Tryz.ntmps96
  go_wp2_with fail
  refine (dread_ok db mb tb D nVow f w HD.out HDN.out (by decide) HF.out).mono ?_
  rintro e w1 ⟨v, rfl, hBf, hb1⟩
  obtain ⟨a, c, rfl, _⟩ := hBf.shape
  rw [hL] at hBf ⊢
  clear hBf
  have C1 := Lib.hid (HC.out)
  have DW := Lib.hid (HD.out.below hb1)
  have KW : Hid (Kept w w1 (Own3 db mb tb)) := Lib.hid (Kept.below3 hb1)
  have BVW := Lib.hid (HB.out.below hb1)
  have CW : Hid (w1.cell? ⟨bb, 0, none⟩ = some (.pointer (some ⟨db, 0, none⟩))) := Lib.hid (KW.out.cell HC.out HNB.out)
  have GD : Hid (DGood D ∧ D.steps + 2 ≤ 1000000000) := Lib.hid ⟨HW.out, by have := HS.out; omega⟩
  clear hb1
  clear hc hl
  have c1 := CW.out
  go_wp2_with fail
  refine (vgone_any db mb tb D nVowN w1 DW.out HW.out (by decide)).mono ?_
  rintro e w2 ⟨rfl, hd2, hk2⟩
  rw [HR1.out] at hd2 ⊢
  have DX := Lib.hid hd2
  have KX := Lib.hid (KW.out.trans hk2)
  have BX := Lib.hid (BVW.out.kept hk2 HBV.out)
  have CX : Hid (w2.cell? ⟨bb, 0, none⟩ = some (.pointer (some ⟨db, 0, none⟩))) := Lib.hid (hk2.cell CW.out HNB.out)
  clear hd2 hk2 c1 DW KW BVW CW GD
  have DW := DX
  have KW := KX
  have BVW := BX
  have CW := CX
  have GD : Hid (DGood D1 ∧ D1.steps + 3 ≤ 1000000000) := Lib.hid ⟨G1.out.1, by have := HS.out; have := G1.out.2; omega⟩
  by_cases he1 : e1 = 0
  · subst he1
    have HVE : Hid (∀ D' e', wrTo D1 nVowN b = (D', e') → e' ≠ 0 → vwriteD D b = (D', e')) := Lib.hid fun D' e' h h2 => by
      rw [HVT.out, if_neg (by decide)]
      unfold vwrite2
      rw [h]
      exact if_pos h2
    have HV0 : Hid (∀ D', wrTo D1 nVowN b = (D', 0) → vwriteD D b = moveD D' nVowN nVow) := Lib.hid fun D' h => by
      rw [HVT.out, if_neg (by decide)]
      unfold vwrite2
      rw [h]
      exact if_neg (fun h => h rfl)
    have c2 := CW.out
    go_wp2_with fail
    obtain ⟨r, hr⟩ : ∃ r, appendD D1 nVowN b = r := ⟨_, rfl⟩
    obtain ⟨D2, e2⟩ := r
    have HR := Lib.hid hr
    have G2 : Hid (DGood D2 ∧ D2.steps ≤ D1.steps + 1) := Lib.hid (by have h := GD.out.1.append nVowN b (by have := GD.out.2; omega); rw [hr] at h; exact h)
    clear hr
    refine (dapp_any db mb tb D1 nVowN _ b w2 DW.out GD.out.1 BVW.out (by decide)).mono ?_
    rintro e w4 ⟨rfl, hd4, hk4⟩
    rw [HR.out] at hd4 ⊢
    have D4 := Lib.hid hd4
    have K4 := Lib.hid (KW.out.trans hk4)
    have C4 : Hid (w4.cell? ⟨bb, 0, none⟩ = some (.pointer (some ⟨db, 0, none⟩))) := Lib.hid (hk4.cell CW.out HNB.out)
    clear hd4 hk4
    by_cases he2 : e2 = 0
    · subst he2
      have c4 := C4.out
      go_wp2_with fail
      obtain ⟨r, hr⟩ : ∃ r, syncD D2 nVowN = r := ⟨_, rfl⟩
      obtain ⟨D3, e3⟩ := r
      have HR3 := Lib.hid hr
      have G3 : Hid (DGood D3 ∧ D3.steps ≤ D2.steps + 1) := Lib.hid (by have h := G2.out.1.sync nVowN (by have := GD.out.2; have := G2.out.2; omega); rw [hr] at h; exact h)
      clear hr
      refine (dsync_any db mb tb D2 nVowN w4 D4.out G2.out.1.wf (by decide)).mono ?_
      rintro e w5 ⟨rfl, hd5, hk5⟩
      rw [HR3.out] at hd5 ⊢
      have D5 := Lib.hid hd5
      have K5 := Lib.hid (K4.out.trans hk5)
      have C5 : Hid (w5.cell? ⟨bb, 0, none⟩ = some (.pointer (some ⟨db, 0, none⟩))) := Lib.hid (hk5.cell C4.out HNB.out)
      clear hd5 hk5 c4
      have HT : Hid (wrTo D1 nVowN b = (D3, e3)) := Lib.hid (by unfold wrTo; rw [HR.out]; exact HR3.out)
      by_cases he3 : e3 = 0
      · subst he3
        have c5 := C5.out
        go_wp2_with fail
        refine (dmove_any db mb tb D3 nVowN nVow w5 D5.out G3.out.1.wf (by decide) (by decide)).mono ?_
        rintro e w6 ⟨rfl, hd6, hk6⟩
        have D6 := Lib.hid hd6
        have K6 := Lib.hid (K5.out.trans hk6)
        clear hd6 hk6 c5
        go_wp2_with fail
        go_ret
        exact ⟨by rw [HV0.out D3 HT.out]; rfl, by rw [HV0.out D3 HT.out]; exact D6.out, K6.out⟩
      · have he3b : ((e3 : Int) != 0) = true := by simp; omega
        have HE := Lib.hid he3
        clear he3
        go_wp2_with fail
        go_ret
        exact ⟨by rw [HVE.out D3 e3 HT.out HE.out]; rfl, by rw [HVE.out D3 e3 HT.out HE.out]; exact D5.out, K5.out⟩
    · have he2b : ((e2 : Int) != 0) = true := by simp; omega
      have HE := Lib.hid he2
      have HT : Hid (wrTo D1 nVowN b = (D2, e2)) := Lib.hid (by unfold wrTo; rw [HR.out]; exact if_pos he2)
      clear he2
      go_wp2_with fail
      go_ret
      exact ⟨by rw [HVE.out D2 e2 HT.out HE.out]; rfl, by rw [HVE.out D2 e2 HT.out HE.out]; exact D4.out, K4.out⟩
  · have he1b : ((e1 : Int) != 0) = true := by simp; omega
    have HV : Hid (vwriteD D b = (D1, e1)) := Lib.hid (by rw [HVT.out, if_pos he1])
    clear he1
    go_wp2_with fail
    go_ret
    exact ⟨by rw [HV.out]; rfl, by rw [HV.out]; exact DW.out, KW.out⟩

set_option maxHeartbeats 1600000 in
set_option maxRecDepth 20000 in
theorem vwrite_any (bb db mb tb : Nat) (D : DiskS) (bv : Value) (b : List Nat) (w : World) (hd : DiskIs w db mb tb D) (hw : DGood D) (hs : D.steps + 4 ≤ 1000000000) (hc : w.cell? ⟨bb, 0, none⟩ = some (.pointer (some ⟨db, 0, none⟩))) (hnb : ¬ Own3 db mb tb bb)
    (hB : Bytes w bv b) (hbv : ∀ g, bv.ownBlock = some g → ¬ Own3 db mb tb g) :
    Calls Tryz.prog 96 #[.pointer (some ⟨bb, 0, none⟩), bv] w (OpPost db mb tb (vwriteD D b) w) := by
  have HD := Lib.hid hd
  have HW := Lib.hid hw
  have HS := Lib.hid hs
  have HNB := Lib.hid hnb
  have HB := Lib.hid hB
  have HBV := Lib.hid hbv
  have HC := Lib.hid hc
  obtain ⟨ab, cb, rfl, _⟩ := hB.shape
  clear hd hw hs hnb hB hbv
  cases hdn : D.down
  · cases hf : findFile nVow D.files with
    | none => exact vwrite_none bb db mb tb D _ b w HD.out HW.out HS.out hc HNB.out HB.out HBV.out hdn hf
    | some f =>
      by_cases hl : f.all.length < 256
      · exact vwrite_short bb db mb tb D _ b w HD.out HW.out HS.out hc HNB.out HB.out HBV.out f hdn hf hl
      · exact vwrite_long bb db mb tb D _ b w HD.out HW.out HS.out hc HNB.out HB.out HBV.out f hdn hf hl
  · exact vwrite_down bb db mb tb D _ b w HD.out HW.out HS.out hc HNB.out HB.out HBV.out hdn
end Go.Proofs.YtofhccpagnkalaaGreat

/- The contract of the vow's Keep; no conditions but the ranges. -/
namespace Go.Proofs.YtofhccpagnkalaaGreat
open Go.RowKit Go.Maps Go.Proofs.Own

def keepD (D : DiskS) (t v t' v' : Int) : DiskS × Nat :=
  if vSnd t' v' = false then (D, 2) else if vMy t v t' v' = false then (D, 34) else if t' = t ∧ v' = v then (D, 0) else vwriteD D (frP 3 (numsW [t'.toNat, (v' + 1).toNat]))
theorem keepD_good {D : DiskS} (t v t' v' : Int) (h : DGood D) (hs : D.steps + 4 ≤ 1000000000) : DGood (keepD D t v t' v').1 ∧ (keepD D t v t' v').1.steps ≤ D.steps + 4 := by
  unfold keepD
  split
  · exact ⟨h, by simp only; omega⟩
  · split
    · exact ⟨h, by simp only; omega⟩
    · split
      · exact ⟨h, by simp only; omega⟩
      · exact vwriteD_good _ h hs
def KeepPost (bb db mb tb : Nat) (D : DiskS) (t v t' v' : Int) (w : World) : Ending → World → Prop := fun e w' =>
  e = .returned (.int .i64 (keepD D t v t' v').2) ∧ DiskIs w' db mb tb (keepD D t v t' v').1 ∧ BookIs w' bb db (if (keepD D t v t' v').2 = 0 then t' else t) (if (keepD D t v t' v').2 = 0 then v' else v) ∧ Kept w w' (fun k => Own3 db mb tb k ∨ k = bb)
theorem BookIs.set {w : World} {bb db : Nat} {t v : Int} (h : BookIs w bb db t v) (t' v' : Int) : BookIs ((w.setCell ⟨bb, 1, none⟩ (.int .u64 t')).setCell ⟨bb, 2, none⟩ (.int .i64 v')) bb db t' v' := by
  refine ⟨?_, ?_, ?_, ?_, ?_⟩
  · rw [World.cell?_setCell_other _ _ _ _ (by simp), World.cell?_setCell_other _ _ _ _ (by simp)]; exact h.c0
  · rw [World.cell?_setCell_other _ _ _ _ (by simp)]; exact World.cell?_setCell_same _ _ _ h.c1
  · exact World.cell?_setCell_same _ _ _ (by rw [World.cell?_setCell_other _ _ _ _ (by simp)]; exact h.c2)
  · rw [World.frozen?_setCell, World.frozen?_setCell]; exact h.f1
  · rw [World.frozen?_setCell, World.frozen?_setCell]; exact h.f2
theorem DiskIs.book {w : World} {bb db db' mb tb : Nat} {D : DiskS} {t v : Int} (h : DiskIs w db mb tb D) (s : BookIs w bb db' t v) (hn : ¬ Own3 db mb tb bb) (t' v' : Int) : DiskIs ((w.setCell ⟨bb, 1, none⟩ (.int .u64 t')).setCell ⟨bb, 2, none⟩ (.int .i64 v')) db mb tb D :=
  (h.setOther (p := ⟨bb, 1, none⟩) _ hn (fun x e => by rw [s.c1] at e; cases e)).setOther (p := ⟨bb, 2, none⟩) _ hn (fun x e => by rw [World.cell?_setCell_other _ _ _ _ (by simp), s.c2] at e; cases e)

set_option maxHeartbeats 1600000 in
set_option maxRecDepth 20000 in
theorem vkeep_bad (bb db mb tb : Nat) (D : DiskS) (t v t' v' : Int) (w : World) (hd : DiskIs w db mb tb D) (hw : DGood D) (hs : D.steps + 4 ≤ 1000000000) (hk : BookIs w bb db t v) (hnb : ¬ Own3 db mb tb bb) (_ht0 : 0 ≤ t') (hsn : vSnd t' v' = false) :
    Calls Tryz.prog 49 #[.pointer (some ⟨bb, 0, none⟩), .agg #[.int .u64 t', .int .i64 v']] w (KeepPost bb db mb tb D t v t' v' w) := by
  have HD := Lib.hid hd
  have HW := Lib.hid hw
  have HS := Lib.hid hs
  have HNB := Lib.hid hnb
  have HK := Lib.hid hk
  have H3 := Lib.hid hd.lt3
  have HBL := Lib.hid hk.lt
  have HSN := Lib.hid hsn
  have HV : Hid (keepD D t v t' v' = (D, 2)) := Lib.hid (if_pos hsn)
  clear hsn
  clear hd hw hs hnb hk
  go_enter Tryz.func49, Tryz.ntmps49
  go_wp2_with fail
  have SX1 := Lib.hid (SC.box w t' v')
  have A1 : Hid (Below w.heap.size w (w.alloc (.cells #[.int .u64 t', .int .i64 v'] 59))) := Lib.hid ((Below.refl _ _).alloc (Nat.le_refl _) _)
  generalize World.alloc w _ = w1 at *
  have BK1 := Lib.hid (HK.out.below A1.out)
  refine (vnone bb db t v w1 BK1.out).mono ?_
  rintro e w2 ⟨rfl, rfl⟩
  obtain ⟨x0, x1, _, _⟩ := SX1.out
  go_wp2_with fail
  refine (vsound_any t' v' w1).mono ?_
  rintro e w3 ⟨rfl, hb3⟩
  have SX := Lib.hid (SX1.out.below hb3)
  have BK := Lib.hid (BK1.out.below hb3)
  have B3 : Hid (Below w.heap.size w w3) := Lib.hid (A1.out.trans (hb3.mono A1.out.size))
  rw [HSN.out]
  clear hb3 x0 x1
  go_wp2_with fail
  go_ret
  unfold KeepPost
  rw [HV.out]
  exact ⟨rfl, HD.out.below B3.out, BK.out, (Kept.below3 B3.out).mono fun k _ h => .inl h⟩

set_option maxHeartbeats 1600000 in
set_option maxRecDepth 20000 in
theorem vkeep_old (bb db mb tb : Nat) (D : DiskS) (t v t' v' : Int) (w : World) (hd : DiskIs w db mb tb D) (hw : DGood D) (hs : D.steps + 4 ≤ 1000000000) (hk : BookIs w bb db t v) (hnb : ¬ Own3 db mb tb bb) (_ht0 : 0 ≤ t') (hsn : vSnd t' v' = true) (hm : vMy t v t' v' = false) :
    Calls Tryz.prog 49 #[.pointer (some ⟨bb, 0, none⟩), .agg #[.int .u64 t', .int .i64 v']] w (KeepPost bb db mb tb D t v t' v' w) := by
  have HD := Lib.hid hd
  have HW := Lib.hid hw
  have HS := Lib.hid hs
  have HNB := Lib.hid hnb
  have HK := Lib.hid hk
  have H3 := Lib.hid hd.lt3
  have HBL := Lib.hid hk.lt
  have HSN := Lib.hid hsn
  have HM := Lib.hid hm
  have HV : Hid (keepD D t v t' v' = (D, 34)) := Lib.hid (by unfold keepD; rw [if_neg (by rw [hsn]; decide), if_pos hm])
  clear hsn hm
  clear hd hw hs hnb hk
  go_enter Tryz.func49, Tryz.ntmps49
  go_wp2_with fail
  have SX1 := Lib.hid (SC.box w t' v')
  have A1 : Hid (Below w.heap.size w (w.alloc (.cells #[.int .u64 t', .int .i64 v'] 59))) := Lib.hid ((Below.refl _ _).alloc (Nat.le_refl _) _)
  generalize World.alloc w _ = w1 at *
  have BK1 := Lib.hid (HK.out.below A1.out)
  refine (vnone bb db t v w1 BK1.out).mono ?_
  rintro e w2 ⟨rfl, rfl⟩
  obtain ⟨x0, x1, _, _⟩ := SX1.out
  go_wp2_with fail
  refine (vsound_any t' v' w1).mono ?_
  rintro e w3 ⟨rfl, hb3⟩
  have SX := Lib.hid (SX1.out.below hb3)
  have BK := Lib.hid (BK1.out.below hb3)
  have B3 : Hid (Below w.heap.size w w3) := Lib.hid (A1.out.trans (hb3.mono A1.out.size))
  rw [HSN.out]
  clear hb3 x0 x1
  go_wp2_with fail
  have ST := Stable.from w3
  refine region_start [0, 1, 3, 7, 0, 31, 63, 127] 0 (fun w' => Below w3.heap.size w3 w') (by kernel_rfl) ?_
  refine stage_heads [0, 1, 2, 3, 4] (by kernel_rfl) (L := #[true, true, true, true, true, false, false, false]) (by kernel_rfl) (f' := 3) rfl (fun _ _ _ _ h => h) (fun w o h => ST.alloc h o) (.inr (by first | exact Below.refl _ _ | exact (Below.refl _ _).drew)) ?_
  simp only [List.flatMap_cons, List.flatMap_nil, List.drop_succ_cons, List.drop_zero, List.take_succ_cons, List.take_zero, List.cons_append, List.nil_append, List.append_nil]
  iterate 5 (first | (refine heads_load _ (by rfl) (fun w' hs => by obtain ⟨b0, b1, b2, _, _⟩ := BK.out.below hs; obtain ⟨x0, x1, _, _⟩ := SX.out.below hs; go_simp; try with_reducible rfl) rfl ?_; simp only [Act.put, List.setIfInBounds_toArray, List.set_cons_zero, List.set_cons_succ]) | (refine heads_pure _ (by rfl) (fun w' => by go_simp; try with_reducible rfl) ?_; simp only [Act.put, List.setIfInBounds_toArray, List.set_cons_zero, List.set_cons_succ]))
  refine heads_nil ?_
  refine stage_op 5 (by kernel_rfl) (L := #[true, true, true, true, true, true, false, false]) (by kernel_rfl) ?_
  simp only [List.drop_succ_cons, List.drop_zero, List.take_succ_cons, List.take_zero]
  go_wp2_with fail; refine (vmay_any t v t' v' _).mono ?_; rintro e w4 ⟨rfl, hb4⟩; have I4 : Hid (Below w3.heap.size w3 w4) := Lib.hid (by first | exact hb4 | exact ((Below.refl _ _).drew).trans hb4); clear hb4; rw [HM.out]; go_wp2_with fail
  refine step_post nofun ?_
  refine stage_heads [6, 7] (by kernel_rfl) (L := #[true, true, true, true, true, true, true, true]) (by kernel_rfl) (f' := 0) rfl (fun _ _ _ _ h => h) (fun w o h => ST.alloc h o) (.inl (by kernel_rfl)) ?_
  simp only [List.flatMap_cons, List.flatMap_nil, List.drop_succ_cons, List.drop_zero, List.take_succ_cons, List.take_zero, List.cons_append, List.nil_append, List.append_nil]
  iterate 2 (refine heads_pure _ (by rfl) (fun w' => by go_simp; try with_reducible rfl) ?_; simp only [Act.put, List.setIfInBounds_toArray, List.set_cons_zero, List.set_cons_succ])
  refine heads_nil ?_
  refine stage_done (by kernel_rfl) ?_
  go_wp2_with fail
  have SX4 := Lib.hid (SX.out.below I4.out)
  have BK4 := Lib.hid (BK.out.below I4.out)
  have B4 : Hid (Below w.heap.size w w4) := Lib.hid (B3.out.trans (I4.out.mono B3.out.size))
  clear SX BK ST
  go_ret
  unfold KeepPost
  rw [HV.out]
  exact ⟨rfl, HD.out.below B4.out, BK4.out, (Kept.below3 B4.out).mono fun k _ h => .inl h⟩

set_option maxHeartbeats 1600000 in
set_option maxRecDepth 20000 in
theorem vkeep_same (bb db mb tb : Nat) (D : DiskS) (t v : Int) (w : World) (hd : DiskIs w db mb tb D) (hw : DGood D) (hs : D.steps + 4 ≤ 1000000000) (hk : BookIs w bb db t v) (hnb : ¬ Own3 db mb tb bb) (_ht0 : 0 ≤ t) (hsn : vSnd t v = true) (hm : vMy t v t v = true) :
    Calls Tryz.prog 49 #[.pointer (some ⟨bb, 0, none⟩), .agg #[.int .u64 t, .int .i64 v]] w (KeepPost bb db mb tb D t v t v w) := by
  have HD := Lib.hid hd
  have HW := Lib.hid hw
  have HS := Lib.hid hs
  have HNB := Lib.hid hnb
  have HK := Lib.hid hk
  have H3 := Lib.hid hd.lt3
  have HBL := Lib.hid hk.lt
  have HSN := Lib.hid hsn
  have HM := Lib.hid hm
  have HV : Hid (keepD D t v t v = (D, 0)) := Lib.hid (by unfold keepD; rw [if_neg (by rw [hsn]; decide), if_neg (by rw [hm]; decide), if_pos ⟨rfl, rfl⟩])
  clear hsn hm
  clear hd hw hs hnb hk
  go_enter Tryz.func49, Tryz.ntmps49
  go_wp2_with fail
  have SX1 := Lib.hid (SC.box w t v)
  have A1 : Hid (Below w.heap.size w (w.alloc (.cells #[.int .u64 t, .int .i64 v] 59))) := Lib.hid ((Below.refl _ _).alloc (Nat.le_refl _) _)
  generalize World.alloc w _ = w1 at *
  have BK1 := Lib.hid (HK.out.below A1.out)
  refine (vnone bb db t v w1 BK1.out).mono ?_
  rintro e w2 ⟨rfl, rfl⟩
  obtain ⟨x0, x1, _, _⟩ := SX1.out
  go_wp2_with fail
  refine (vsound_any t v w1).mono ?_
  rintro e w3 ⟨rfl, hb3⟩
  have SX := Lib.hid (SX1.out.below hb3)
  have BK := Lib.hid (BK1.out.below hb3)
  have B3 : Hid (Below w.heap.size w w3) := Lib.hid (A1.out.trans (hb3.mono A1.out.size))
  rw [HSN.out]
  clear hb3 x0 x1
  go_wp2_with fail
  have ST := Stable.from w3
  refine region_start [0, 1, 3, 7, 0, 31, 63, 127] 0 (fun w' => Below w3.heap.size w3 w') (by kernel_rfl) ?_
  refine stage_heads [0, 1, 2, 3, 4] (by kernel_rfl) (L := #[true, true, true, true, true, false, false, false]) (by kernel_rfl) (f' := 3) rfl (fun _ _ _ _ h => h) (fun w o h => ST.alloc h o) (.inr (by first | exact Below.refl _ _ | exact (Below.refl _ _).drew)) ?_
  simp only [List.flatMap_cons, List.flatMap_nil, List.drop_succ_cons, List.drop_zero, List.take_succ_cons, List.take_zero, List.cons_append, List.nil_append, List.append_nil]
  iterate 5 (first | (refine heads_load _ (by rfl) (fun w' hs => by obtain ⟨b0, b1, b2, _, _⟩ := BK.out.below hs; obtain ⟨x0, x1, _, _⟩ := SX.out.below hs; go_simp; try with_reducible rfl) rfl ?_; simp only [Act.put, List.setIfInBounds_toArray, List.set_cons_zero, List.set_cons_succ]) | (refine heads_pure _ (by rfl) (fun w' => by go_simp; try with_reducible rfl) ?_; simp only [Act.put, List.setIfInBounds_toArray, List.set_cons_zero, List.set_cons_succ]))
  refine heads_nil ?_
  refine stage_op 5 (by kernel_rfl) (L := #[true, true, true, true, true, true, false, false]) (by kernel_rfl) ?_
  simp only [List.drop_succ_cons, List.drop_zero, List.take_succ_cons, List.take_zero]
  go_wp2_with fail; refine (vmay_any t v t v _).mono ?_; rintro e w4 ⟨rfl, hb4⟩; have I4 : Hid (Below w3.heap.size w3 w4) := Lib.hid (by first | exact hb4 | exact ((Below.refl _ _).drew).trans hb4); clear hb4; rw [HM.out]; go_wp2_with fail
  refine step_post nofun ?_
  refine stage_heads [6, 7] (by kernel_rfl) (L := #[true, true, true, true, true, true, true, true]) (by kernel_rfl) (f' := 0) rfl (fun _ _ _ _ h => h) (fun w o h => ST.alloc h o) (.inl (by kernel_rfl)) ?_
  simp only [List.flatMap_cons, List.flatMap_nil, List.drop_succ_cons, List.drop_zero, List.take_succ_cons, List.take_zero, List.cons_append, List.nil_append, List.append_nil]
  iterate 2 (refine heads_pure _ (by rfl) (fun w' => by go_simp; try with_reducible rfl) ?_; simp only [Act.put, List.setIfInBounds_toArray, List.set_cons_zero, List.set_cons_succ])
  refine heads_nil ?_
  refine stage_done (by kernel_rfl) ?_
  go_wp2_with fail
  have SX4 := Lib.hid (SX.out.below I4.out)
  have BK4 := Lib.hid (BK.out.below I4.out)
  have B4 : Hid (Below w.heap.size w w4) := Lib.hid (B3.out.trans (I4.out.mono B3.out.size))
  clear SX BK ST
  have ST4 := Stable.from w4
  refine region_start [0, 0, 2, 6, 14, 31, 63] 0 (fun w' => Below w4.heap.size w4 w') (by kernel_rfl) ?_
  refine stage_heads [0, 1, 2, 3, 4, 5, 6] (by kernel_rfl) (L := #[true, true, true, true, true, true, true]) (by kernel_rfl) (f' := 0) rfl (fun _ _ _ _ h => h) (fun w o h => ST4.alloc h o) (.inr (by first | exact Below.refl _ _ | exact (Below.refl _ _).drew)) ?_
  simp only [List.flatMap_cons, List.flatMap_nil, List.drop_succ_cons, List.drop_zero, List.take_succ_cons, List.take_zero, List.cons_append, List.nil_append, List.append_nil]
  iterate 7 (first | (refine heads_load _ (by rfl) (fun w' hs => by obtain ⟨b0, b1, b2, _, _⟩ := BK4.out.below hs; obtain ⟨x0, x1, _, _⟩ := SX4.out.below hs; go_simp; try with_reducible rfl) rfl ?_; simp only [Act.put, List.setIfInBounds_toArray, List.set_cons_zero, List.set_cons_succ]) | (refine heads_pure _ (by rfl) (fun w' => by go_simp; try with_reducible rfl) ?_; simp only [Act.put, List.setIfInBounds_toArray, List.set_cons_zero, List.set_cons_succ]))
  refine heads_nil ?_
  refine stage_done (by kernel_rfl) ?_
  have B5 : Hid (Below w.heap.size w w4.drew) := Lib.hid B4.out.drew
  have SX5 : Hid (SC w4.drew w.heap.size t v) := Lib.hid (SX4.out.below ((Below.refl _ _).drew))
  have BK5 : Hid (BookIs w4.drew bb db t v) := Lib.hid (BK4.out.below ((Below.refl _ _).drew))
  generalize w4.drew = w5 at *
  clear SX4 BK4 ST4
  obtain ⟨x0, x1, _, _⟩ := SX5.out
  go_wp2_with fail
  go_ret
  unfold KeepPost
  rw [HV.out]
  exact ⟨rfl, HD.out.below B5.out, BK5.out, (Kept.below3 B5.out).mono fun k _ h => .inl h⟩

set_option maxHeartbeats 1600000 in
set_option maxRecDepth 20000 in
theorem vkeep_new (bb db mb tb : Nat) (D : DiskS) (t v t' v' : Int) (w : World) (hd : DiskIs w db mb tb D) (hw : DGood D) (hs : D.steps + 4 ≤ 1000000000) (hk : BookIs w bb db t v) (hnb : ¬ Own3 db mb tb bb) (ht0 : 0 ≤ t') (hsn : vSnd t' v' = true) (hm : vMy t v t' v' = true) (he : ¬ (t' = t ∧ v' = v)) :
    Calls Tryz.prog 49 #[.pointer (some ⟨bb, 0, none⟩), .agg #[.int .u64 t', .int .i64 v']] w (KeepPost bb db mb tb D t v t' v' w) := by
  have HD := Lib.hid hd
  have HW := Lib.hid hw
  have HS := Lib.hid hs
  have HNB := Lib.hid hnb
  have HK := Lib.hid hk
  have H3 := Lib.hid hd.lt3
  have HBL := Lib.hid hk.lt
  have HSN := Lib.hid hsn
  have HM := Lib.hid hm
  have HV : Hid (keepD D t v t' v' = vwriteD D (frP 3 (numsW [t'.toNat, (v' + 1).toNat]))) := Lib.hid (by unfold keepD; rw [if_neg (by rw [hsn]; decide), if_neg (by rw [hm]; decide), if_neg he])
  have HQ : Hid (∀ (A B : Result Next), (if t' = t then (if v' = v then A else B) else B) = B) := Lib.hid (fun A B => by
    by_cases h1 : t' = t
    · have h2 : ¬ v' = v := fun h => he ⟨h1, h⟩
      rw [if_pos h1, if_neg h2]
    · rw [if_neg h1])
  have HBY : Hid (∀ W : World, Calls Tryz.prog 97 #[.agg #[.int .u64 t', .int .i64 v']] W fun e W' => ∃ bv, e = .returned bv ∧ Bytes W' bv (frP 3 (numsW [t'.toNat, (v' + 1).toNat])) ∧ Below W.heap.size W W' ∧ ∀ g, bv.ownBlock = some g → W.heap.size ≤ g) := Lib.hid (fun W => by
    have h := hsn
    unfold vSnd at h
    simp only [Bool.and_eq_true, decide_eq_true_eq] at h
    have h1 := vbytes_any t'.toNat (v' + 1).toNat W (by omega) (by omega)
    rw [show ((t'.toNat : Nat) : Int) = t' by omega, show (((v' + 1).toNat : Nat) : Int) - 1 = v' by omega] at h1
    exact h1)
  clear he
  clear hsn hm
  clear hd hw hs hnb hk
  go_enter Tryz.func49, Tryz.ntmps49
  go_wp2_with fail
  have SX1 := Lib.hid (SC.box w t' v')
  have A1 : Hid (Below w.heap.size w (w.alloc (.cells #[.int .u64 t', .int .i64 v'] 59))) := Lib.hid ((Below.refl _ _).alloc (Nat.le_refl _) _)
  generalize World.alloc w _ = w1 at *
  have BK1 := Lib.hid (HK.out.below A1.out)
  refine (vnone bb db t v w1 BK1.out).mono ?_
  rintro e w2 ⟨rfl, rfl⟩
  obtain ⟨x0, x1, _, _⟩ := SX1.out
  go_wp2_with fail
  refine (vsound_any t' v' w1).mono ?_
  rintro e w3 ⟨rfl, hb3⟩
  have SX := Lib.hid (SX1.out.below hb3)
  have BK := Lib.hid (BK1.out.below hb3)
  have B3 : Hid (Below w.heap.size w w3) := Lib.hid (A1.out.trans (hb3.mono A1.out.size))
  rw [HSN.out]
  clear hb3 x0 x1
  go_wp2_with fail
  have ST := Stable.from w3
  refine region_start [0, 1, 3, 7, 0, 31, 63, 127] 0 (fun w' => Below w3.heap.size w3 w') (by kernel_rfl) ?_
  refine stage_heads [0, 1, 2, 3, 4] (by kernel_rfl) (L := #[true, true, true, true, true, false, false, false]) (by kernel_rfl) (f' := 3) rfl (fun _ _ _ _ h => h) (fun w o h => ST.alloc h o) (.inr (by first | exact Below.refl _ _ | exact (Below.refl _ _).drew)) ?_
  simp only [List.flatMap_cons, List.flatMap_nil, List.drop_succ_cons, List.drop_zero, List.take_succ_cons, List.take_zero, List.cons_append, List.nil_append, List.append_nil]
  iterate 5 (first | (refine heads_load _ (by rfl) (fun w' hs => by obtain ⟨b0, b1, b2, _, _⟩ := BK.out.below hs; obtain ⟨x0, x1, _, _⟩ := SX.out.below hs; go_simp; first | with_reducible rfl | exact HQ.out _ _ | skip) rfl ?_; simp only [Act.put, List.setIfInBounds_toArray, List.set_cons_zero, List.set_cons_succ]) | (refine heads_pure _ (by rfl) (fun w' => by go_simp; first | with_reducible rfl | exact HQ.out _ _ | skip) ?_; simp only [Act.put, List.setIfInBounds_toArray, List.set_cons_zero, List.set_cons_succ]))
  refine heads_nil ?_
  refine stage_op 5 (by kernel_rfl) (L := #[true, true, true, true, true, true, false, false]) (by kernel_rfl) ?_
  simp only [List.drop_succ_cons, List.drop_zero, List.take_succ_cons, List.take_zero]
  go_wp2_with fail; refine (vmay_any t v t' v' _).mono ?_; rintro e w4 ⟨rfl, hb4⟩; have I4 : Hid (Below w3.heap.size w3 w4) := Lib.hid (by first | exact hb4 | exact ((Below.refl _ _).drew).trans hb4); clear hb4; rw [HM.out]; go_wp2_with fail
  refine step_post nofun ?_
  refine stage_heads [6, 7] (by kernel_rfl) (L := #[true, true, true, true, true, true, true, true]) (by kernel_rfl) (f' := 0) rfl (fun _ _ _ _ h => h) (fun w o h => ST.alloc h o) (.inl (by kernel_rfl)) ?_
  simp only [List.flatMap_cons, List.flatMap_nil, List.drop_succ_cons, List.drop_zero, List.take_succ_cons, List.take_zero, List.cons_append, List.nil_append, List.append_nil]
  iterate 2 (refine heads_pure _ (by rfl) (fun w' => by go_simp; first | with_reducible rfl | exact HQ.out _ _ | skip) ?_; simp only [Act.put, List.setIfInBounds_toArray, List.set_cons_zero, List.set_cons_succ])
  refine heads_nil ?_
  refine stage_done (by kernel_rfl) ?_
  go_wp2_with fail
  have SX4 := Lib.hid (SX.out.below I4.out)
  have BK4 := Lib.hid (BK.out.below I4.out)
  have B4 : Hid (Below w.heap.size w w4) := Lib.hid (B3.out.trans (I4.out.mono B3.out.size))
  clear SX BK ST
  have ST4 := Stable.from w4
  refine region_start [0, 0, 2, 6, 14, 31, 63] 0 (fun w' => Below w4.heap.size w4 w') (by kernel_rfl) ?_
  refine stage_heads [0, 1, 2, 3, 4, 5, 6] (by kernel_rfl) (L := #[true, true, true, true, true, true, true]) (by kernel_rfl) (f' := 0) rfl (fun _ _ _ _ h => h) (fun w o h => ST4.alloc h o) (.inr (by first | exact Below.refl _ _ | exact (Below.refl _ _).drew)) ?_
  simp only [List.flatMap_cons, List.flatMap_nil, List.drop_succ_cons, List.drop_zero, List.take_succ_cons, List.take_zero, List.cons_append, List.nil_append, List.append_nil]
  iterate 7 (first | (refine heads_load _ (by rfl) (fun w' hs => by obtain ⟨b0, b1, b2, _, _⟩ := BK4.out.below hs; obtain ⟨x0, x1, _, _⟩ := SX4.out.below hs; go_simp; first | with_reducible rfl | exact HQ.out _ _ | skip) rfl ?_; simp only [Act.put, List.setIfInBounds_toArray, List.set_cons_zero, List.set_cons_succ]) | (refine heads_pure _ (by rfl) (fun w' => by go_simp; first | with_reducible rfl | exact HQ.out _ _ | skip) ?_; simp only [Act.put, List.setIfInBounds_toArray, List.set_cons_zero, List.set_cons_succ]))
  refine heads_nil ?_
  refine stage_done (by kernel_rfl) ?_
  have B5 : Hid (Below w.heap.size w w4.drew) := Lib.hid B4.out.drew
  have SX5 : Hid (SC w4.drew w.heap.size t' v') := Lib.hid (SX4.out.below ((Below.refl _ _).drew))
  have BK5 : Hid (BookIs w4.drew bb db t v) := Lib.hid (BK4.out.below ((Below.refl _ _).drew))
  generalize w4.drew = w5 at *
  clear SX4 BK4 ST4
  obtain ⟨x0, x1, _, _⟩ := SX5.out
  go_wp2_with fail
  refine (HBY.out w5).mono ?_
  rintro e w6 ⟨bv, rfl, hBy, hb6, ho6⟩
  have BV := Lib.hid hBy
  have HO : Hid (∀ g, bv.ownBlock = some g → ¬ Own3 db mb tb g) := Lib.hid (fun g hg h => by have h1 := H3.out _ h; have h2 := ho6 g hg; have h3 := B5.out.size; omega)
  have SX6 := Lib.hid (SX5.out.below hb6)
  have BK6 := Lib.hid (BK5.out.below hb6)
  have B6 : Hid (Below w.heap.size w w6) := Lib.hid (B5.out.trans (hb6.mono B5.out.size))
  clear hBy hb6 ho6 x0 x1
  generalize frP 3 (numsW [t'.toNat, (v' + 1).toNat]) = L at *
  obtain ⟨av, nv, cv, rfl⟩ : ∃ a n c, bv = Value.slice a n c := by obtain ⟨a, c, e, _⟩ := BV.out.shape; exact ⟨a, _, c, e⟩
  go_wp2_with fail
  refine (vwrite_any bb db mb tb D _ L w6 (HD.out.below B6.out) HW.out HS.out BK6.out.c0 HNB.out BV.out HO.out).mono ?_
  rintro e w7 ⟨rfl, hd7, hk7⟩
  obtain ⟨r, hr⟩ : ∃ r, vwriteD D L = r := ⟨_, rfl⟩
  obtain ⟨D2, e2⟩ := r
  have HVV : Hid (keepD D t v t' v' = (D2, e2)) := Lib.hid (HV.out.trans hr)
  rw [hr] at hd7 ⊢
  have D7 := Lib.hid hd7
  have NS : Hid (¬ Own3 db mb tb w.heap.size) := Lib.hid (fun h => by have := H3.out _ h; omega)
  have SX7 := Lib.hid (SX6.out.kept hk7 NS.out)
  have BK7 := Lib.hid (BK6.out.kept hk7 HNB.out)
  have K7 : Hid (Kept w w7 (Own3 db mb tb)) := Lib.hid ((Kept.below3 B6.out).trans hk7)
  clear hd7 hk7 hr
  obtain ⟨x0, x1, _, _⟩ := SX7.out
  obtain ⟨b0, b1, b2, g1, g2⟩ := BK7.out
  by_cases he : e2 = 0
  · subst he
    have BK8 := Lib.hid (BK7.out.set t' v')
    have D8 := Lib.hid (D7.out.book BK7.out HNB.out t' v')
    have K8 : Hid (Kept w ((w7.setCell ⟨bb, 1, none⟩ (.int .u64 t')).setCell ⟨bb, 2, none⟩ (.int .i64 v')) (fun k => Own3 db mb tb k ∨ k = bb)) := Lib.hid ((K7.out.mono fun k _ h => .inl h).trans (((Kept.setCell w7 ⟨bb, 1, none⟩ _).trans (Kept.setCell _ ⟨bb, 2, none⟩ _)).mono fun k _ h => .inr h))
    go_wp2_with fail
    go_ret
    unfold KeepPost
    rw [HVV.out]
    exact ⟨rfl, D8.out, BK8.out, K8.out⟩
  · have heb : ((e2 : Int) != 0) = true := by simp; omega
    have HE := Lib.hid he
    clear he
    go_wp2_with fail
    go_ret
    unfold KeepPost
    rw [HVV.out]
    exact ⟨rfl, D7.out, by rw [if_neg HE.out, if_neg HE.out]; exact BK7.out, K7.out.mono fun k _ h => .inl h⟩

theorem vkeep_any (bb db mb tb : Nat) (D : DiskS) (t v t' v' : Int) (w : World) (hd : DiskIs w db mb tb D) (hw : DGood D) (hs : D.steps + 4 ≤ 1000000000) (hk : BookIs w bb db t v) (hnb : ¬ Own3 db mb tb bb) (ht0 : 0 ≤ t') :
    Calls Tryz.prog 49 #[.pointer (some ⟨bb, 0, none⟩), .agg #[.int .u64 t', .int .i64 v']] w (KeepPost bb db mb tb D t v t' v' w) := by
  cases hsn : vSnd t' v'
  · exact vkeep_bad bb db mb tb D t v t' v' w hd hw hs hk hnb ht0 hsn
  · cases hm : vMy t v t' v'
    · exact vkeep_old bb db mb tb D t v t' v' w hd hw hs hk hnb ht0 hsn hm
    · by_cases he : t' = t ∧ v' = v
      · obtain ⟨rfl, rfl⟩ := he
        exact vkeep_same bb db mb tb D _ _ w hd hw hs hk hnb ht0 hsn hm
      · exact vkeep_new bb db mb tb D t v t' v' w hd hw hs hk hnb ht0 hsn hm he
end Go.Proofs.YtofhccpagnkalaaGreat
