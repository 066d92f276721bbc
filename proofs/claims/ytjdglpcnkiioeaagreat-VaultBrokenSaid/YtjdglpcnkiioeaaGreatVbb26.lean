/- Several texts in one: Vo, Vop, Vw, Nov. What each proves stands ahead of it; together they serve vbroken_law_holds. No conditions but those stated. -/
import Derived.Test.YtjdglpcnkiioeaaGreatVbb18
import Derived.Test.YtjdglpcnkiioeaaGreatVbb22
namespace Go.Proofs.YtjdglpcnkiioeaaGreat
open Go.Lib (hid)
open Go.RowKit Go.Maps Go.Proofs.Own

structure SC (W : World) (b : Nat) (t v : Int) : Prop where
  c0 : W.cell? ⟨b, 0, none⟩ = some (.int .u64 t)
  c1 : W.cell? ⟨b, 1, none⟩ = some (.int .i64 v)
  f0 : W.frozen? ⟨b, 0, none⟩ = false
  f1 : W.frozen? ⟨b, 1, none⟩ = false
theorem SC.lt {W : World} {b : Nat} {t v : Int} (h : SC W b t v) : b < W.heap.size := World.block_lt_of_cell? _ _ h.c0
theorem SC.kept {W W' : World} {b : Nat} {t v : Int} {S : Nat -> Prop} (h : SC W b t v) (hk : Kept W W' S) (hs : ¬ S b) : SC W' b t v :=
  ⟨hk.cell h.c0 hs, hk.cell h.c1 hs, (hk.frozen (a := ⟨b, 0, none⟩) h.lt hs).trans h.f0, (hk.frozen (a := ⟨b, 1, none⟩) h.lt hs).trans h.f1⟩
theorem SC.below {W W' : World} {b : Nat} {t v : Int} (h : SC W b t v) (hb : Below W.heap.size W W') : SC W' b t v :=
  h.kept (Kept.of_below hb (S := fun _ => False) fun k h1 h2 => by omega) fun h => h
theorem SC.box (w : World) (t v : Int) : SC (w.alloc (.cells #[.int .u64 t, .int .i64 v] 97)) w.heap.size t v := ⟨by go_cell, by go_cell, by simp, by simp⟩
theorem SC.set {W : World} {b : Nat} {t v : Int} (h : SC W b t v) (t' v' : Int) : SC ((W.setCell ⟨b, 0, none⟩ (.int .u64 t')).setCell ⟨b, 1, none⟩ (.int .i64 v')) b t' v' := by
  refine ⟨?_, ?_, ?_, ?_⟩
  . rw [World.cell?_setCell_other _ _ _ _ (by simp)]
    exact World.cell?_setCell_same _ _ _ h.c0
  . exact World.cell?_setCell_same _ _ _ (by rw [World.cell?_setCell_other _ _ _ _ (by simp)]; exact h.c1)
  . rw [World.frozen?_setCell, World.frozen?_setCell]; exact h.f0
  . rw [World.frozen?_setCell, World.frozen?_setCell]; exact h.f1
theorem Kept.set2 (W : World) (b : Nat) (x y : Value) : Kept W ((W.setCell ⟨b, 0, none⟩ x).setCell ⟨b, 1, none⟩ y) (fun k => k = b) := (Kept.setCell W ⟨b, 0, none⟩ x).trans (Kept.setCell _ ⟨b, 1, none⟩ y)
theorem DiskIs.sc {W : World} {db mb tb b : Nat} {D : DiskS} {t v : Int} (h : DiskIs W db mb tb D) (s : SC W b t v) (hn : ¬ Own3 db mb tb b) (t' v' : Int) : DiskIs ((W.setCell ⟨b, 0, none⟩ (.int .u64 t')).setCell ⟨b, 1, none⟩ (.int .i64 v')) db mb tb D :=
  (h.setOther (p := ⟨b, 0, none⟩) _ hn (fun x e => by rw [s.c0] at e; cases e)).setOther (p := ⟨b, 1, none⟩) _ hn (fun x e => by rw [World.cell?_setCell_other _ _ _ _ (by simp), s.c1] at e; cases e)

theorem lastF_le : ∀ n l (s : LastS), (lastF n l s).g <= s.g + l.length
  | 0, _, s => Nat.le_add_right _ _
  | n + 1, l, s => by
    unfold lastF
    split
    . rename_i h
      have h1 := lastF_le n (frNx l) ⟨vT l, (vV l : Int) - 1, s.g + (frBody l).length + 8⟩
      have h2 := (frNx_len h.1).2.2
      simp only at h1
      omega
    . exact Nat.le_add_right _ _
theorem lastR_le (l : List Nat) : (lastR l).g <= l.length := by
  have := lastF_le l.length l ⟨0, -1, 0⟩
  unfold lastR
  simpa using this
theorem DGood.cut {D : DiskS} (h : DGood D) (n : ByteArray) (k : Int) (hs : D.steps + 1 <= 1000000000) : DGood (cutD D n k).1 /\ (cutD D n k).1.steps <= D.steps + 1 := by
  unfold cutD
  cases e : findFile n D.files with
  | none => exact ⟨h, by simp only; omega⟩
  | some f =>
    simp only
    split
    . exact ⟨h, by simp only; omega⟩
    . split
      . exact ⟨h, by simp only; omega⟩
      . split
        . exact ⟨h.step hs, by simp only; rw [stepD_steps]; omega⟩
        . obtain ⟨e1, e2⟩ := find_name e
          have e3 := total_del_find e
          have e4 := h.wf.each f e2
          refine ⟨h.withFiles hs _ ?_ ?_ ?_, by simp only; rw [stepD_steps]; omega⟩
          . unfold putFile; rw [total_ins]; simp only [List.length_take]; rw [e1]; have := h.tot; omega
          . unfold putFile; rw [length_ins]; simp only; rw [e1]; have := h.few; omega
          . intro g hg
            rcases mem_put.1 hg with rfl | ⟨hg, _⟩
            . exact ⟨e4.1, by simp only [List.length_take]; omega⟩
            . exact h.wf.each g hg

def settleS (D : DiskS) : LastS := if fileE D nVow = 31 then ⟨0, -1, 0⟩ else if fileE D nVow ≠ 0 then ⟨0, 0, 0⟩ else lastR (getF D nVow).all
def settle1 (D : DiskS) : DiskS × Nat := if (lastR (getF D nVow).all).g < (getF D nVow).all.length then cutD D nVow (lastR (getF D nVow).all).g else (D, 0)
def settleD (D : DiskS) : DiskS × Nat :=
  if fileE D nVow = 31 then (D, 0) else if fileE D nVow ≠ 0 then (D, fileE D nVow) else if (settle1 D).2 ≠ 0 then settle1 D else syncD (settle1 D).1 nVow
def SettlePost (db mb tb : Nat) (D : DiskS) (w : World) : Ending -> World -> Prop := fun e w' =>
  e = .returned (.tuple #[.agg #[.int .u64 (settleS D).t, .int .i64 (settleS D).v], .int .i64 (settleD D).2]) /\ DiskIs w' db mb tb (settleD D).1 /\ Kept w w' (Own3 db mb tb)

set_option maxHeartbeats 1600000 in
set_option maxRecDepth 20000 in
theorem vsettle_no (db mb tb : Nat) (D : DiskS) (w : World) (hd : DiskIs w db mb tb D) (hf : fileE D nVow ≠ 0) :
    Calls Tryz.prog 145 #[.pointer (some ⟨db, 0, none⟩)] w (SettlePost db mb tb D w) := by
  have HD := hid hd
  have HF := hid hf
  obtain ⟨k, hk⟩ : ∃ k, fileE D nVow = k := ⟨_, rfl⟩
  have HK := hid hk
  have HV : Hid (settleS D = (if k = 31 then ⟨0, -1, 0⟩ else ⟨0, 0, 0⟩) /\ settleD D = (D, if k = 31 then 0 else k)) := hid (by
    unfold settleS settleD
    rw [hk]
    rw [hk] at hf
    by_cases h : k = 31
    . rw [if_pos h, if_pos h, if_pos h, if_pos h]; exact ⟨rfl, rfl⟩
    . rw [if_neg h, if_neg h, if_neg h, if_neg h, if_pos hf, if_pos hf]; exact ⟨rfl, rfl⟩)
  clear hd hf hk
  unfold SettlePost
  rw [HV.out.1, HV.out.2]
  by_cases h31 : k = 31
  . subst h31
    go_enter Tryz.func145, Tryz.ntmps145
    go_wp2_with fail
    have S0 := hid (SC.box w 0 0)
    have B0 : Hid (Below w.heap.size w (w.alloc (.cells #[.int .u64 0, .int .i64 0] 97))) := hid ((Below.refl _ _).alloc (Nat.le_refl _) _)
    generalize World.alloc w _ = w1 at *
    refine (dread_err db mb tb D nVow w1 (HD.out.below B0.out) (by decide) HF.out).mono ?_
    rintro e w2 ⟨rfl, hb2⟩
    rw [HK.out]
    have S2 := hid (S0.out.below hb2)
    have B2 : Hid (Below w.heap.size w w2) := hid (B0.out.trans (hb2.mono B0.out.size))
    clear hb2
    obtain ⟨x0, x1, g0, g1⟩ := S2.out
    go_wp2_with fail
    have S3 := hid (S2.out.set 0 (-1))
    have B3 := hid (B2.out.trans ((Kept.set2 w2 w.heap.size (.int .u64 0) (.int .i64 (-1))).below B2.out.size (fun k h => by omega)))
    generalize World.setCell _ _ _ = w3 at *
    obtain ⟨y0, y1, _, _⟩ := S3.out
    refine bodyPost_ret (v := .tuple #[.agg #[.int .u64 0, .int .i64 (-1)], .int .i64 0]) (by simp [results, Tryz.results145, go_sem, y0, y1]) rfl ?_
    exact ⟨rfl, HD.out.below B3.out, Kept.below3 B3.out⟩
  . have h31b : ((k : Int) == 31) = false := by simp; omega
    have h0b : ((k : Int) != 0) = true := by have := HF.out; rw [HK.out] at this; simp; omega
    have HN := hid h31
    clear h31
    go_enter Tryz.func145, Tryz.ntmps145
    go_wp2_with fail
    have S0 := hid (SC.box w 0 0)
    have B0 : Hid (Below w.heap.size w (w.alloc (.cells #[.int .u64 0, .int .i64 0] 97))) := hid ((Below.refl _ _).alloc (Nat.le_refl _) _)
    generalize World.alloc w _ = w1 at *
    refine (dread_err db mb tb D nVow w1 (HD.out.below B0.out) (by decide) HF.out).mono ?_
    rintro e w2 ⟨rfl, hb2⟩
    rw [HK.out]
    have S2 := hid (S0.out.below hb2)
    have B2 : Hid (Below w.heap.size w w2) := hid (B0.out.trans (hb2.mono B0.out.size))
    clear hb2
    obtain ⟨x0, x1, g0, g1⟩ := S2.out
    go_wp2_with fail
    have S3 := hid (S2.out.set 0 0)
    have B3 := hid (B2.out.trans ((Kept.set2 w2 w.heap.size (.int .u64 0) (.int .i64 0)).below B2.out.size (fun k h => by omega)))
    generalize World.setCell _ _ _ = w3 at *
    obtain ⟨y0, y1, _, _⟩ := S3.out
    refine bodyPost_ret (v := .tuple #[.agg #[.int .u64 0, .int .i64 0], .int .i64 k]) (by simp [results, Tryz.results145, go_sem, y0, y1]) rfl ?_
    exact ⟨rfl, HD.out.below B3.out, Kept.below3 B3.out⟩

set_option maxHeartbeats 1600000 in
set_option maxRecDepth 20000 in
theorem vsettle_yes (db mb tb : Nat) (D : DiskS) (w : World) (hd : DiskIs w db mb tb D) (hw : DGood D) (hs : D.steps + 1 <= 1000000000) (hf : fileE D nVow = 0) :
    Calls Tryz.prog 145 #[.pointer (some ⟨db, 0, none⟩)] w (SettlePost db mb tb D w) := by
  obtain ⟨hdn, f, hfi⟩ := fileE_ok hf
  have HD := hid hd
  have HF := hid hfi
  have HDN := hid hdn
  have HW := hid hw
  have H3 := hid hd.lt3
  have HG : Hid (getF D nVow = f) := hid (by unfold getF; rw [hfi]; rfl)
  have HV : Hid (settleS D = lastR f.all /\ settle1 D = (if (lastR f.all).g < f.all.length then cutD D nVow (lastR f.all).g else (D, 0)) /\ settleD D = if (settle1 D).2 ≠ 0 then settle1 D else syncD (settle1 D).1 nVow) := hid (by
    have h1 : settleS D = lastR (getF D nVow).all := by
      unfold settleS
      rw [hf, if_neg (by decide), if_neg (by decide)]
    have h2 : settleD D = if (settle1 D).2 ≠ 0 then settle1 D else syncD (settle1 D).1 nVow := by
      unfold settleD
      rw [hf, if_neg (by decide), if_neg (by decide)]
    refine ⟨by rw [h1, HG.out], ?_, h2⟩
    unfold settle1
    rw [HG.out])
  have HGW : Hid (DGood (cutD D nVow (lastR f.all).g).1) := hid (hw.cut nVow _ hs).1
  clear hd hf hfi hdn hw
  unfold SettlePost
  go_enter Tryz.func145, Tryz.ntmps145
  go_wp2_with fail
  have S0 := hid (SC.box w 0 0)
  have B0 : Hid (Below w.heap.size w (w.alloc (.cells #[.int .u64 0, .int .i64 0] 97))) := hid ((Below.refl _ _).alloc (Nat.le_refl _) _)
  generalize World.alloc w _ = w1 at *
  refine (dread_ok db mb tb D nVow f w1 (HD.out.below B0.out) HDN.out (by decide) HF.out).mono ?_
  rintro e w2 ⟨v, rfl, hB2, hb2⟩
  have S2 := hid (S0.out.below hb2)
  have B2 : Hid (Below w.heap.size w w2) := hid (B0.out.trans (hb2.mono B0.out.size))
  obtain ⟨a, c, rfl, _⟩ := hB2.shape
  have HB2 := hid hB2
  clear hb2 hB2
  go_wp2_with fail
  refine (vlast_any _ f.all w2 HB2.out).mono ?_
  rintro e w3 ⟨rfl, hb3⟩
  have S3 := hid (S2.out.below hb3)
  have B3 : Hid (Below w.heap.size w w3) := hid (B2.out.trans (hb3.mono B2.out.size))
  have HLE : Hid ((lastR f.all).g <= f.all.length) := hid (lastR_le _)
  clear hb3
  generalize lastR f.all = s at *
  obtain ⟨t, u, g⟩ := s
  generalize f.all.length = len at *
  simp only at *
  have L3 : w.heap.size < w3.heap.size := S3.out.lt
  have N6 : Hid (¬ Own3 db mb tb w3.heap.size) := hid (fun h => by have := H3.out _ h; omega)
  have NB : Hid (¬ Own3 db mb tb w.heap.size) := hid (fun h => by have := H3.out _ h; omega)
  by_cases hlt : g < len
  . have hlti : (g : Int) < (len : Int) := by omega
    have HV2 : Hid (settle1 D = cutD D nVow g) := hid (by rw [HV.out.2.1, if_pos hlt])
    clear hlt
    go_wp2_with fail
    have S4 := hid (SC.box w3 t u)
    have A4 : Below w3.heap.size w3 (w3.alloc (.cells #[.int .u64 t, .int .i64 u] 97)) := (Below.refl _ _).alloc (Nat.le_refl _) _
    generalize World.alloc w3 _ = w4 at *
    have B4 : Hid (Below w.heap.size w w4) := hid (B3.out.trans (A4.mono B3.out.size))
    have T4 := hid (S3.out.below A4)
    clear A4
    refine (dcut_any db mb tb D nVow g w4 (HD.out.below B4.out) HW.out.wf (by decide)).mono ?_
    rintro e w5 ⟨rfl, hd5, hk5⟩
    have KW : Hid (Kept w w5 (Own3 db mb tb)) := hid ((Kept.below3 B4.out).trans hk5)
    have SCB : Hid (SC w5 w.heap.size 0 0) := hid (T4.out.kept hk5 NB.out)
    have SC6 : Hid (SC w5 w3.heap.size t u) := hid (S4.out.kept hk5 N6.out)
    have DW := hid hd5
    clear hd5 hk5
    obtain ⟨r, hr⟩ : ∃ r, cutD D nVow g = r := ⟨_, rfl⟩
    obtain ⟨D1, e1⟩ := r
    have GD := HGW
    rw [hr] at HV2 DW GD ⊢
    simp only at DW GD ⊢
    by_cases he : e1 = 0
    . subst he
      have HVF : Hid (settleD D = syncD D1 nVow) := hid (by rw [HV.out.2.2, HV2.out]; rfl)
      clear hr
      go_wp2_with fail
      obtain ⟨x0, x1, _, _⟩ := SC6.out
      obtain ⟨p0, p1, q0, q1⟩ := SCB.out
      obtain ⟨r, hr⟩ : ∃ r, syncD D1 nVow = r := ⟨_, rfl⟩
      obtain ⟨D2, e2⟩ := r
      have HR := hid hr
      clear hr
      go_region_with (refine (dsync_any db mb tb D1 nVow _ (by first | exact DW.out | exact DW.out.below ((Below.refl _ _).drew)) GD.out.wf (by decide)).mono ?_; rintro e w9 ⟨rfl, hd9, hk9⟩; have D9 := hid hd9; have K9 : Hid (Kept w w9 (Own3 db mb tb)) := hid (KW.out.trans (by first | exact hk9 | exact (Kept.drew _ _).trans hk9)); have SB9 : Hid (SC w9 w.heap.size 0 0) := hid (SCB.out.kept (by first | exact hk9 | exact (Kept.drew _ _).trans hk9) NB.out); have SC9 : Hid (SC w9 w3.heap.size t u) := hid (SC6.out.kept (by first | exact hk9 | exact (Kept.drew _ _).trans hk9) N6.out); clear hd9 hk9 p0 p1 q0 q1 x0 x1; obtain ⟨x0, x1, _, _⟩ := SC9.out; obtain ⟨p0, p1, q0, q1⟩ := SB9.out; rw [HR.out] at D9 ⊢)
      all_goals
        go_wp2_with fail
        have SF := hid (SB9.out.set t u)
        have KF : Hid (Kept w ((w9.setCell ⟨w.heap.size, 0, none⟩ (.int .u64 t)).setCell ⟨w.heap.size, 1, none⟩ (.int .i64 u)) (Own3 db mb tb)) := hid (K9.out.stepNew (Kept.set2 w9 w.heap.size (.int .u64 t) (.int .i64 u)) (Nat.le_refl _))
        have DF := hid (D9.out.sc SB9.out NB.out t u)
        generalize World.setCell _ _ _ = wF at *
        obtain ⟨y0, y1, _, _⟩ := SF.out
        simp only [Act.put, List.getElem_toArray, List.getElem_cons_succ, List.getElem_cons_zero, List.setIfInBounds_toArray, List.set_cons_zero, List.set_cons_succ]
        refine bodyPost_ret (v := .tuple #[.agg #[.int .u64 t, .int .i64 u], .int .i64 e2]) ?_ rfl ?_
        . simp [results, Tryz.results145, go_sem, y0, y1]
        . rw [HV.out.1, HVF.out, HR.out]
          exact ⟨rfl, DF.out, KF.out⟩
    . have he1 : ((e1 : Int) != 0) = true := by simp; omega
      have HVF : Hid (settleD D = (D1, e1)) := hid (by rw [HV.out.2.2, HV2.out]; exact if_pos he)
      clear hr he
      obtain ⟨x0, x1, _, _⟩ := SC6.out
      obtain ⟨p0, p1, q0, q1⟩ := SCB.out
      go_wp2_with fail
      have SF := hid (SCB.out.set t u)
      have KF : Hid (Kept w ((w5.setCell ⟨w.heap.size, 0, none⟩ (.int .u64 t)).setCell ⟨w.heap.size, 1, none⟩ (.int .i64 u)) (Own3 db mb tb)) := hid (KW.out.stepNew (Kept.set2 w5 w.heap.size (.int .u64 t) (.int .i64 u)) (Nat.le_refl _))
      have DF := hid (DW.out.sc SCB.out NB.out t u)
      generalize World.setCell _ _ _ = wF at *
      obtain ⟨y0, y1, _, _⟩ := SF.out
      refine bodyPost_ret (v := .tuple #[.agg #[.int .u64 t, .int .i64 u], .int .i64 e1]) (by simp [results, Tryz.results145, go_sem, y0, y1]) rfl ?_
      rw [HV.out.1, HVF.out]
      exact ⟨rfl, DF.out, KF.out⟩
  . have hlti : ¬ ((g : Int) < (len : Int)) := by omega
    have HVF' : Hid (settleD D = syncD D nVow) := hid (by rw [HV.out.2.2, HV.out.2.1, if_neg hlt]; rfl)
    clear hlt
    go_wp2_with fail
    have S4 := hid (SC.box w3 t u)
    have A4 : Below w3.heap.size w3 (w3.alloc (.cells #[.int .u64 t, .int .i64 u] 97)) := (Below.refl _ _).alloc (Nat.le_refl _) _
    generalize World.alloc w3 _ = w4 at *
    have B4 : Hid (Below w.heap.size w w4) := hid (B3.out.trans (A4.mono B3.out.size))
    have SCB := hid (S3.out.below A4)
    have SC6 := S4
    have KW : Hid (Kept w w4 (Own3 db mb tb)) := hid (Kept.below3 B4.out)
    have DW := hid (HD.out.below B4.out)
    clear A4
    obtain ⟨D1, hD1⟩ : ∃ D1, D = D1 := ⟨_, rfl⟩
    have GD := HW
    have HVF : Hid (settleD D = syncD D1 nVow) := hid (by rw [HVF'.out, hD1])
    rw [hD1] at DW GD
    clear hD1
    obtain ⟨x0, x1, _, _⟩ := SC6.out
    obtain ⟨p0, p1, q0, q1⟩ := SCB.out
    obtain ⟨r, hr⟩ : ∃ r, syncD D1 nVow = r := ⟨_, rfl⟩
    obtain ⟨D2, e2⟩ := r
    have HR := hid hr
    clear hr
    go_region_with (refine (dsync_any db mb tb D1 nVow _ (by first | exact DW.out | exact DW.out.below ((Below.refl _ _).drew)) GD.out.wf (by decide)).mono ?_; rintro e w9 ⟨rfl, hd9, hk9⟩; have D9 := hid hd9; have K9 : Hid (Kept w w9 (Own3 db mb tb)) := hid (KW.out.trans (by first | exact hk9 | exact (Kept.drew _ _).trans hk9)); have SB9 : Hid (SC w9 w.heap.size 0 0) := hid (SCB.out.kept (by first | exact hk9 | exact (Kept.drew _ _).trans hk9) NB.out); have SC9 : Hid (SC w9 w3.heap.size t u) := hid (SC6.out.kept (by first | exact hk9 | exact (Kept.drew _ _).trans hk9) N6.out); clear hd9 hk9 p0 p1 q0 q1 x0 x1; obtain ⟨x0, x1, _, _⟩ := SC9.out; obtain ⟨p0, p1, q0, q1⟩ := SB9.out; rw [HR.out] at D9 ⊢)
    all_goals
      go_wp2_with fail
      have SF := hid (SB9.out.set t u)
      have KF : Hid (Kept w ((w9.setCell ⟨w.heap.size, 0, none⟩ (.int .u64 t)).setCell ⟨w.heap.size, 1, none⟩ (.int .i64 u)) (Own3 db mb tb)) := hid (K9.out.stepNew (Kept.set2 w9 w.heap.size (.int .u64 t) (.int .i64 u)) (Nat.le_refl _))
      have DF := hid (D9.out.sc SB9.out NB.out t u)
      generalize World.setCell _ _ _ = wF at *
      obtain ⟨y0, y1, _, _⟩ := SF.out
      simp only [Act.put, List.getElem_toArray, List.getElem_cons_succ, List.getElem_cons_zero, List.setIfInBounds_toArray, List.set_cons_zero, List.set_cons_succ]
      refine bodyPost_ret (v := .tuple #[.agg #[.int .u64 t, .int .i64 u], .int .i64 e2]) ?_ rfl ?_
      . simp [results, Tryz.results145, go_sem, y0, y1]
      . rw [HV.out.1, HVF.out, HR.out]
        exact ⟨rfl, DF.out, KF.out⟩

theorem BookIs.box (w : World) (db : Nat) (t v : Int) : BookIs (w.alloc (.cells #[.pointer (some ⟨db, 0, none⟩), .int .u64 t, .int .i64 v] 231)) w.heap.size db t v :=
  ⟨by go_cell, by go_cell, by go_cell, by simp, by simp, NoU8.alloc (by simp)⟩
theorem vsettle_any (db mb tb : Nat) (D : DiskS) (w : World) (hd : DiskIs w db mb tb D) (hw : DGood D) (hs : D.steps + 1 <= 1000000000) :
    Calls Tryz.prog 145 #[.pointer (some ⟨db, 0, none⟩)] w (SettlePost db mb tb D w) := by
  by_cases h : fileE D nVow = 0
  . exact vsettle_yes db mb tb D w hd hw hs h
  . exact vsettle_no db mb tb D w hd h
theorem settleD_good {D : DiskS} (h : DGood D) (hs : D.steps + 2 <= 1000000000) : DGood (settleD D).1 /\ (settleD D).1.steps <= D.steps + 2 := by
  have h1 : DGood (settle1 D).1 /\ (settle1 D).1.steps <= D.steps + 1 := by
    unfold settle1
    split
    . exact h.cut _ _ (by omega)
    . exact ⟨h, by simp only; omega⟩
  unfold settleD
  split
  . exact ⟨h, by simp only; omega⟩
  . split
    . exact ⟨h, by simp only; omega⟩
    . split
      . exact ⟨h1.1, by omega⟩
      . have h2 := h1.1.sync nVow (by omega)
        exact ⟨h2.1, by omega⟩

def vopenD (D : DiskS) : DiskS × Nat := if (vgoneD D nVowN).2 ≠ 0 then vgoneD D nVowN else settleD (vgoneD D nVowN).1
def vopenS (D : DiskS) : LastS := settleS (vgoneD D nVowN).1
def OpenPost (db mb tb : Nat) (D : DiskS) (w : World) : Ending -> World -> Prop := fun e w' =>
  ((vopenD D).2 ≠ 0 -> e = .returned (.tuple #[.pointer none, .int .i64 (vopenD D).2])) /\
  ((vopenD D).2 = 0 -> ∃ bb, e = .returned (.tuple #[.pointer (some ⟨bb, 0, none⟩), .int .i64 0]) /\ BookIs w' bb db (vopenS D).t (vopenS D).v /\ w.heap.size <= bb) /\
  DiskIs w' db mb tb (vopenD D).1 /\ Kept w w' (Own3 db mb tb)
theorem vopenD_good {D : DiskS} (h : DGood D) (hs : D.steps + 3 <= 1000000000) : DGood (vopenD D).1 /\ (vopenD D).1.steps <= D.steps + 3 := by
  have h1 := vgoneD_good nVowN h (by omega)
  unfold vopenD
  split
  . exact ⟨h1.1, by omega⟩
  . have h2 := settleD_good h1.1 (by omega)
    exact ⟨h2.1, by omega⟩

set_option maxHeartbeats 1600000 in
set_option maxRecDepth 20000 in
theorem vopen_any (db mb tb : Nat) (D : DiskS) (w : World) (hd : DiskIs w db mb tb D) (hw : DGood D) (hs : D.steps + 2 <= 1000000000) :
    Calls Tryz.prog 99 #[.pointer (some ⟨db, 0, none⟩)] w (OpenPost db mb tb D w) := by
  have HD := hid hd
  have HW := hid hw
  have HG1 := hid (vgoneD_good nVowN hw (by omega))
  have HS := hid hs
  have H3 := hid hd.lt3
  clear hd hw hs
  unfold OpenPost
  obtain ⟨r, hr⟩ : ∃ r, vgoneD D nVowN = r := ⟨_, rfl⟩
  obtain ⟨D1, e1⟩ := r
  have HR := hid hr
  have HV : Hid (vopenD D = (if e1 ≠ 0 then (D1, e1) else settleD D1) /\ vopenS D = settleS D1) := hid (by unfold vopenD vopenS; rw [hr]; exact ⟨rfl, rfl⟩)
  rw [hr] at HG1
  clear hr
  rw [HV.out.1, HV.out.2]
  clear HV
  by_cases he : e1 = 0
  . subst he
    rw [if_neg (by simp)]
    obtain ⟨r2, hr2⟩ : ∃ r, settleD D1 = r := ⟨_, rfl⟩
    obtain ⟨D2, e2⟩ := r2
    obtain ⟨s, hs⟩ : ∃ s, settleS D1 = s := ⟨_, rfl⟩
    obtain ⟨t, v, g⟩ := s
    have HR2 := hid hr2
    have HS2 := hid hs
    rw [hr2, hs]
    clear hr2 hs
    simp only
    by_cases he2 : e2 = 0
    . subst he2
      go_enter Tryz.func99, Tryz.ntmps99
      go_wp2_with fail
      refine (vgone_any db mb tb D nVowN w HD.out HW.out (by decide)).mono ?_
      rintro e w1 ⟨rfl, hd1, hk1⟩
      rw [HR.out] at hd1 ⊢
      have DD1 := hid hd1
      have K1 := hid hk1
      clear hd1 hk1
      go_wp2_with fail
      refine (vsettle_any db mb tb D1 w1 DD1.out HG1.out.1 (by have h1 : D1.steps <= D.steps + 1 := HG1.out.2; have := HS.out; omega)).mono ?_
      rintro e w2 ⟨rfl, hd2, hk2⟩
      rw [HR2.out] at hd2 ⊢
      rw [HS2.out]
      have DD2 := hid hd2
      have K2 := hid (K1.out.trans hk2)
      clear hd2 hk2
      go_wp2_with fail
      have S3 := hid (SC.box w2 t v)
      have A3 : Below w2.heap.size w2 (w2.alloc (.cells #[.int .u64 t, .int .i64 v] 97)) := (Below.refl _ _).alloc (Nat.le_refl _) _
      have A4 : Below w2.heap.size w2 ((w2.alloc (.cells #[.int .u64 t, .int .i64 v] 97)).alloc (.cells #[.pointer (some ⟨db, 0, none⟩), .int .u64 t, .int .i64 v] 231)) := A3.alloc (by simp) _
      have BK := BookIs.box (w2.alloc (.cells #[.int .u64 t, .int .i64 v] 97)) db t v
      go_ret2
      refine ⟨fun h => absurd rfl h, fun _ => ⟨_, rfl, ?_, ?_⟩, ?_, ?_⟩
      . simpa using BK
      . have := K2.out.size
        omega
      . exact DD2.out.below A4
      . exact K2.out.trans (Kept.below3 A4)
    . have he2b : ((e2 : Int) != 0) = true := by simp; omega
      have HE2 := hid he2
      clear he2
      go_enter Tryz.func99, Tryz.ntmps99
      go_wp2_with fail
      refine (vgone_any db mb tb D nVowN w HD.out HW.out (by decide)).mono ?_
      rintro e w1 ⟨rfl, hd1, hk1⟩
      rw [HR.out] at hd1 ⊢
      have DD1 := hid hd1
      have K1 := hid hk1
      clear hd1 hk1
      go_wp2_with fail
      refine (vsettle_any db mb tb D1 w1 DD1.out HG1.out.1 (by have h1 : D1.steps <= D.steps + 1 := HG1.out.2; have := HS.out; omega)).mono ?_
      rintro e w2 ⟨rfl, hd2, hk2⟩
      rw [HR2.out] at hd2 ⊢
      rw [HS2.out]
      have DD2 := hid hd2
      have K2 := hid (K1.out.trans hk2)
      clear hd2 hk2
      go_wp2_with fail
      have S3 := hid (SC.box w2 t v)
      have A3 : Below w2.heap.size w2 (w2.alloc (.cells #[.int .u64 t, .int .i64 v] 97)) := (Below.refl _ _).alloc (Nat.le_refl _) _
      go_ret2
      exact ⟨fun _ => rfl, fun h => absurd h HE2.out, DD2.out.below A3, K2.out.trans (Kept.below3 A3)⟩
  . have he1 : ((e1 : Int) != 0) = true := by simp; omega
    have HE := hid he
    clear he
    go_enter Tryz.func99, Tryz.ntmps99
    go_wp2_with fail
    refine (vgone_any db mb tb D nVowN w HD.out HW.out (by decide)).mono ?_
    rintro e w1 ⟨rfl, hd1, hk1⟩
    have D1 := hid hd1
    have K1 := hid hk1
    clear hd1 hk1
    rw [HR.out] at D1 ⊢
    go_wp2_with fail
    go_ret2
    exact ⟨rfl, D1.out, K1.out⟩
end Go.Proofs.YtjdglpcnkiioeaaGreat
namespace Go.Proofs.YtjdglpcnkiioeaaGreat
open Go.RowKit Go.Maps Go.Proofs.Own

def wrTo (D : DiskS) (n : ByteArray) (b : List Nat) : DiskS × Nat := if (appendD D n b).2 ≠ 0 then appendD D n b else syncD (appendD D n b).1 n
end Go.Proofs.YtjdglpcnkiioeaaGreat
namespace Go.Proofs.YtjdglpcnkiioeaaGreat
open Go.Lib (hid)
open Go.RowKit Go.Maps Go.Proofs.Own

set_option maxHeartbeats 1000000 in
theorem nod_gone (p : Option Addr) (n : ByteArray) (w : World) (h : NoDisk w p) : Calls Tryz.prog 144 #[.pointer p, .string n] w fun e w' => e = .returned (.int .i64 1) /\ Below w.heap.size w w' := by
  have H := hid h
  clear h
  go_enter Tryz.func144, Tryz.ntmps144
  go_wp2_with fail
  refine (nod_remove p n _ H.out).mono ?_
  rintro e w1 ⟨rfl, hb1⟩
  have B1 := hid hb1
  clear hb1
  go_wp2_with fail
  go_ret
  exact ⟨rfl, B1.out⟩
set_option maxHeartbeats 1000000 in
theorem nod_vopen (p : Option Addr) (w : World) (h : NoDisk w p) : Calls Tryz.prog 99 #[.pointer p] w fun e w' => e = .returned (.tuple #[.pointer none, .int .i64 1]) /\ Below w.heap.size w w' := by
  have H := hid h
  clear h
  go_enter Tryz.func99, Tryz.ntmps99
  go_wp2_with fail
  refine (nod_gone p _ _ H.out).mono ?_
  rintro e w1 ⟨rfl, hb1⟩
  have B1 := hid hb1
  clear hb1
  go_wp2_with fail
  go_ret2
  exact ⟨rfl, B1.out⟩
end Go.Proofs.YtjdglpcnkiioeaaGreat
