/- Several texts in one: Sl, Ru. What each proves stands ahead of it; together they serve splays_law_holds. No conditions but those stated. -/
import Derived.Test.YtofhccpagnkalaaGreatSpb27
import Derived.Test.YtofhccpagnkalaaGreatSpb11
/- The store of snapshots, whose rows lie behind its own block: Open and Save, told so; contracts; no conditions but the ranges. -/
namespace Go.Proofs.YtofhccpagnkalaaGreat
open Go.RowKit Go.Maps Go.Proofs.Own

/-- Block sb is the store of the disk db with the snapshot s, whose rows lie in blocks behind sb. -/
def StoreL (w : World) (sb db mb tb : Nat) (s : SnapS) : Prop :=
  ∃ mv dv, SBlk5 w sb db s.i s.t mv dv ∧ Ints w mv s.ms ∧ Bytes w dv s.d ∧ (∀ b, mv.ownBlock = some b → ¬ Own3 db mb tb b ∧ sb < b) ∧ (∀ b, dv.ownBlock = some b → ¬ Own3 db mb tb b ∧ sb < b) ∧ ¬ Own3 db mb tb sb
theorem StoreL.is {w : World} {sb db mb tb : Nat} {s : SnapS} (h : StoreL w sb db mb tb s) : StoreIs w sb db mb tb s :=
  let ⟨mv, dv, h1, h2, h3, h4, h5, h6⟩ := h
  ⟨mv, dv, h1, h2, h3, fun b hb => ⟨(h4 b hb).1, Nat.ne_of_gt (h4 b hb).2⟩, fun b hb => ⟨(h5 b hb).1, Nat.ne_of_gt (h5 b hb).2⟩, h6⟩
/-- It stays where blocks are changed that are not its own, and lie ahead of it or are the disk's. -/
theorem StoreL.keptOff {w w' : World} {sb db mb tb : Nat} {s : SnapS} {S : Nat → Prop} (h : StoreL w sb db mb tb s) (hk : Kept w w' S) (hs : ∀ k, S k → Own3 db mb tb k ∨ k < sb) : StoreL w' sb db mb tb s := by
  obtain ⟨mv, dv, h1, h2, h3, h4, h5, h6⟩ := h
  exact ⟨mv, dv, h1.kept hk (fun h => (hs _ h).elim h6 (Nat.lt_irrefl _)), h2.kept hk fun b hb h => (hs _ h).elim (h4 b hb).1 (fun e => by have := (h4 b hb).2; omega), h3.kept hk fun b hb h => (hs _ h).elim (h5 b hb).1 (fun e => by have := (h5 b hb).2; omega), h4, h5, h6⟩
theorem StoreL.kept {w w' : World} {sb db mb tb : Nat} {s : SnapS} (h : StoreL w sb db mb tb s) (hk : Kept w w' (Own3 db mb tb)) : StoreL w' sb db mb tb s := h.keptOff hk fun _ h => .inl h
theorem StoreL.below {w w' : World} {sb db mb tb : Nat} {s : SnapS} (h : StoreL w sb db mb tb s) (hb : Below w.heap.size w w') : StoreL w' sb db mb tb s := h.kept (Kept.below3 hb)
theorem StoreL.lt {w : World} {sb db mb tb : Nat} {s : SnapS} (h : StoreL w sb db mb tb s) : sb < w.heap.size := let ⟨_, _, h1, _⟩ := h; h1.lt
/-- What Open tells, with rows behind. -/
def SOpenPostL (db mb tb : Nat) (D : DiskS) (w : World) : Ending → World → Prop := fun e w' =>
  (sopenE D ≠ 0 → e = .returned (.tuple #[.pointer none, .int .i64 (sopenE D)])) ∧
  (sopenE D = 0 → ∃ sb, e = .returned (.tuple #[.pointer (some ⟨sb, 0, none⟩), .int .i64 0]) ∧ StoreL w' sb db mb tb (sopenS D) ∧ w.heap.size ≤ sb) ∧
  DiskIs w' db mb tb (goneD D).1 ∧ Kept w w' (Own3 db mb tb)
def SavePostL (sb db mb tb : Nat) (R : DiskS × Nat) (s x : SnapS) (w : World) : Ending → World → Prop := fun e w' =>
  e = .returned (.int .i64 R.2) ∧ DiskIs w' db mb tb R.1 ∧ StoreL w' sb db mb tb (if R.2 = 0 then x else s) ∧ Kept w w' (fun k => Own3 db mb tb k ∨ k = sb)

set_option maxHeartbeats 1000000 in
set_option maxRecDepth 20000 in
theorem sopen_newL (db mb tb : Nat) (D : DiskS) (w : World) (hd : DiskIs w db mb tb D) (hw : DGood D) (hg : (goneD D).2 = 0) (hf : fileE (goneD D).1 nSnap = 31) :
    Calls Tryz.prog 12 #[.pointer (some ⟨db, 0, none⟩)] w fun e w' => ∃ sb, e = .returned (.tuple #[.pointer (some ⟨sb, 0, none⟩), .int .i64 0]) ∧ DiskIs w' db mb tb (goneD D).1 ∧ StoreL w' sb db mb tb zeroS ∧ Kept w w' (Own3 db mb tb) ∧ w.heap.size ≤ sb := by
  have HD := Lib.hid hd
  have HW := Lib.hid hw
  have HG := Lib.hid hg
  have HF := Lib.hid hf
  have H3 := Lib.hid hd.lt3
  clear hd hw hg hf
  go_enter Tryz.func12, Tryz.ntmps12
  go_wp2_with fail
  generalize hw1 : World.alloc w _ = w1
  have B1 : Hid (Below w.heap.size w w1) := Lib.hid (by subst hw1; exact (Below.refl _ _).alloc (Nat.le_refl _) _)
  have S1 : Hid (StoreL w1 w.heap.size db mb tb zeroS) := Lib.hid (by
    subst hw1
    refine ⟨.slice none 0 0, .slice none 0 0, (show SBlk5 _ _ _ 0 0 _ _ from ⟨by go_cell, by go_cell, by go_cell, by go_cell, by go_cell, by simp, by simp, by simp, by simp⟩), Ints.nil _, Bytes.nil _, fun b hb => (by cases hb), fun b hb => (by cases hb), fun e => ?_⟩
    have := H3.out _ e
    omega)
  clear hw1
  refine (sgone_any w.heap.size db mb tb D w1 (by obtain ⟨_, _, h, _⟩ := S1.out; exact h.c0) (HD.out.below B1.out) HW.out).mono ?_
  rintro e w2 ⟨rfl, hd2, hk2⟩
  have D2 := Lib.hid hd2
  have K2 : Hid (Kept w w2 (Own3 db mb tb)) := Lib.hid ((Kept.below3 B1.out).trans hk2)
  have S2 := Lib.hid (S1.out.kept hk2)
  clear hd2 hk2
  rw [HG.out]
  go_wp2_with fail
  refine (dread_err db mb tb _ nSnap w2 D2.out (by decide) (by rw [HF.out]; decide)).mono ?_
  rintro e w3 ⟨rfl, hb3⟩
  have B3 := Lib.hid hb3
  clear hb3
  rw [HF.out]
  go_wp2_with fail
  go_ret2
  exact ⟨_, rfl, D2.out.below B3.out, S2.out.below B3.out, K2.out.trans (Kept.below3 B3.out), Nat.le_refl _⟩

set_option maxHeartbeats 1600000 in
set_option maxRecDepth 20000 in
theorem sopen_fileL (db mb tb : Nat) (D : DiskS) (f : FileS) (w : World) (hd : DiskIs w db mb tb D) (hw : DGood D) (hg : (goneD D).2 = 0) (hf : findFile nSnap (goneD D).1.files = some f) :
    Calls Tryz.prog 12 #[.pointer (some ⟨db, 0, none⟩)] w (SOpenPostL db mb tb D w) := by
  have HD := Lib.hid hd
  have HW := Lib.hid hw
  have HG := Lib.hid hg
  have HF := Lib.hid hf
  have HUP := Lib.hid (gone_up hg)
  have H3 := Lib.hid hd.lt3
  have HE : Hid (sopenE D = if readB 7 f.all = true then 0 else 20) := Lib.hid (by unfold sopenE; rw [if_neg (not_not_intro hg), if_neg (by rw [hf]; simp), getF_some hf])
  have HSS : Hid (sopenS D = readS 7 f.all) := Lib.hid (by unfold sopenS; rw [if_neg (by rw [hf]; simp), getF_some hf])
  clear hd hw hg hf
  go_enter Tryz.func12, Tryz.ntmps12
  go_wp2_with fail
  generalize hw1 : World.alloc w _ = w1
  have B1 : Hid (Below w.heap.size w w1) := Lib.hid (by subst hw1; exact (Below.refl _ _).alloc (Nat.le_refl _) _)
  have S1 : Hid (SBlk5 w1 w.heap.size db 0 0 (.slice none 0 0) (.slice none 0 0)) := Lib.hid (by
    subst hw1
    exact ⟨by go_cell, by go_cell, by go_cell, by go_cell, by go_cell, by simp, by simp, by simp, by simp⟩)
  clear hw1
  have N1 : Hid (¬ Own3 db mb tb w.heap.size) := Lib.hid fun e => by have := H3.out _ e; omega
  refine (sgone_any w.heap.size db mb tb D w1 S1.out.c0 (HD.out.below B1.out) HW.out).mono ?_
  rintro e w2 ⟨rfl, hd2, hk2⟩
  have D2 := Lib.hid hd2
  have K2 : Hid (Kept w w2 (Own3 db mb tb)) := Lib.hid ((Kept.below3 B1.out).trans hk2)
  have S2 := Lib.hid (S1.out.kept hk2 N1.out)
  clear hd2 hk2
  rw [HG.out]
  generalize hDD : (goneD D).1 = D' at *
  have HDD := Lib.hid hDD
  clear hDD
  go_wp2_with fail
  refine (dread_ok db mb tb D' nSnap f w2 D2.out HUP.out (by decide) HF.out).mono ?_
  rintro e w3 ⟨v3, rfl, hB3, hb3⟩
  obtain ⟨a3, c3, rfl, _⟩ := hB3.shape
  have HB3 := Lib.hid hB3
  have D3 := Lib.hid (D2.out.below hb3)
  have K3 : Hid (Kept w w3 (Own3 db mb tb)) := Lib.hid (K2.out.trans (Kept.below3 hb3))
  have S3 : Hid (SBlk5 w3 w.heap.size db 0 0 (.slice none 0 0) (.slice none 0 0)) := Lib.hid (S2.out.kept (Kept.of_below hb3 (S := fun _ => False) fun k h1 h2 => by omega) fun h => h)
  clear hB3 hb3
  generalize hfl : f.all.length = n at HB3 ⊢
  cases hr : readB 7 f.all
  · have HR := Lib.hid hr
    have HV : Hid (sopenE D = 20) := Lib.hid (by rw [HE.out, hr]; rfl)
    clear hr
    go_wp2_with fail
    refine (pread_any _ f.all w3 HB3.out).mono ?_
    rintro e w4 ⟨v4, rfl, hs4, hb4⟩
    obtain ⟨mv, dv, rfl, hm4, hd4⟩ := hs4
    obtain ⟨am, cm, rfl, _⟩ := hm4.shape
    obtain ⟨ad, cd, rfl, _⟩ := hd4.shape
    rw [HR.out]
    have D4 := Lib.hid (D3.out.below hb4)
    have K4 : Hid (Kept w w4 (Own3 db mb tb)) := Lib.hid (K3.out.trans (Kept.below3 hb4))
    clear hm4 hd4 hb4
    go_wp2_with fail
    go_ret2
    unfold SOpenPostL
    rw [HV.out, HDD.out]
    refine ⟨fun _ => rfl, fun h => absurd h (by decide), D4.out.below ((Below.refl _ _).alloc (Nat.le_refl _) _), K4.out.trans (Kept.below3 ((Below.refl _ _).alloc (Nat.le_refl _) _))⟩
  · have HR := Lib.hid hr
    have HV : Hid (sopenE D = 0) := Lib.hid (by rw [HE.out, hr]; rfl)
    clear hr
    go_wp2_with fail
    refine (pread_new _ f.all w3 HB3.out HR.out).mono ?_
    rintro e w4 ⟨v4, rfl, hs4, hb4, hn4⟩
    obtain ⟨mv, dv, rfl, hm4, hd4⟩ := hs4
    obtain ⟨_, _, _, _, he4, hn1, hn2⟩ := hn4
    simp only [Value.agg.injEq, Array.mk.injEq, List.cons.injEq, and_true] at he4
    obtain ⟨rfl, rfl, rfl, rfl⟩ := he4
    generalize hs : readS 7 f.all = s at *
    obtain ⟨am, cm, rfl, _⟩ := hm4.shape
    obtain ⟨ad, cd, rfl, _⟩ := hd4.shape
    rw [HR.out]
    have HM4 := Lib.hid hm4
    have HD4 := Lib.hid hd4
    have HN1 := Lib.hid hn1
    have HN2 := Lib.hid hn2
    have D4 := Lib.hid (D3.out.below hb4)
    have K4 : Hid (Kept w w4 (Own3 db mb tb)) := Lib.hid (K3.out.trans (Kept.below3 hb4))
    have S4 : Hid (SBlk5 w4 w.heap.size db 0 0 (.slice none 0 0) (.slice none 0 0)) := Lib.hid (S3.out.kept (Kept.of_below hb4 (S := fun _ => False) fun k h1 h2 => by omega) fun h => h)
    have L34 : w3.heap.size ≤ w4.heap.size := hb4.size
    have L3 := S3.out.lt
    have L4 := S4.out.lt
    clear hm4 hd4 hb4 hn1 hn2 hs
    obtain ⟨_, k1, k2, k3, k4, f1, f2, f3, f4⟩ := S4.out
    have SF := Lib.hid ((S4.out.set4 s.i s.t (.slice am s.ms.length cm) (.slice ad s.d.length cd)).kept (Kept.alloc _ (.cells #[.int .u64 s.i, .int .u64 s.t, .slice am s.ms.length cm, .slice ad s.d.length cd] 40) (fun _ => False)) (fun h => h))
    have KX : Kept w4 ((((((w4.setCell ⟨w.heap.size, 1, none⟩ (.int .u64 s.i)).setCell ⟨w.heap.size, 2, none⟩ (.int .u64 s.t)).setCell ⟨w.heap.size, 3, none⟩ (.slice am s.ms.length cm)).setCell ⟨w.heap.size, 4, none⟩ (.slice ad s.d.length cd)).alloc (.cells #[.int .u64 s.i, .int .u64 s.t, .slice am s.ms.length cm, .slice ad s.d.length cd] 40))) (fun k => k = w.heap.size) := (Kept.set5 w4 w.heap.size _ _ _ _).trans (Kept.alloc _ _ _)
    have DF := Lib.hid ((D4.out.set5 S4.out N1.out (fun _ h => by cases h) (fun _ h => by cases h) (.int .u64 s.i) (.int .u64 s.t) (.slice am s.ms.length cm) (.slice ad s.d.length cd)).below ((Below.refl _ _).alloc (Nat.le_refl _) (.cells #[.int .u64 s.i, .int .u64 s.t, .slice am s.ms.length cm, .slice ad s.d.length cd] 40)))
    have HMF := Lib.hid (HM4.out.kept KX fun g hg h => by have := HN1.out g hg; omega)
    have HBF := Lib.hid (HD4.out.kept KX fun g hg h => by have := HN2.out g hg; omega)
    have KF : Hid (Kept w ((((((w4.setCell ⟨w.heap.size, 1, none⟩ (.int .u64 s.i)).setCell ⟨w.heap.size, 2, none⟩ (.int .u64 s.t)).setCell ⟨w.heap.size, 3, none⟩ (.slice am s.ms.length cm)).setCell ⟨w.heap.size, 4, none⟩ (.slice ad s.d.length cd)).alloc (.cells #[.int .u64 s.i, .int .u64 s.t, .slice am s.ms.length cm, .slice ad s.d.length cd] 40))) (Own3 db mb tb)) := Lib.hid (K4.out.andThen KX fun k h1 h2 => h2.elim id fun e => by omega)
    have NR : Hid (∀ g, w3.heap.size ≤ g → ¬ Own3 db mb tb g ∧ w.heap.size < g) := Lib.hid fun g hg => ⟨fun e => by have := D3.out.lt3 _ e; omega, by omega⟩
    clear KX
    go_wp2_with fail
    generalize World.alloc _ _ = wF at *
    clear k1 k2 k3 k4 f1 f2 f3 f4
    go_ret2
    unfold SOpenPostL
    rw [HV.out, HDD.out, HSS.out]
    exact ⟨fun h => absurd rfl h, fun _ => ⟨_, rfl, ⟨_, _, SF.out, HMF.out, HBF.out, fun g hg => NR.out g (HN1.out g hg), fun g hg => NR.out g (HN2.out g hg), N1.out⟩, Nat.le_refl _⟩, DF.out, KF.out⟩
theorem sopen_anyL (db mb tb : Nat) (D : DiskS) (w : World) (hd : DiskIs w db mb tb D) (hw : DGood D) : Calls Tryz.prog 12 #[.pointer (some ⟨db, 0, none⟩)] w (SOpenPostL db mb tb D w) := by
  by_cases hg : (goneD D).2 = 0
  · cases hf : findFile nSnap (goneD D).1.files with
    | none =>
      have he : fileE (goneD D).1 nSnap = 31 := by unfold fileE; rw [if_neg (by rw [gone_up hg]; decide), if_pos hf]
      have hE : sopenE D = 0 := by unfold sopenE; rw [if_neg (not_not_intro hg), if_pos hf]
      have hS : sopenS D = zeroS := by unfold sopenS; rw [if_pos hf]
      refine (sopen_newL db mb tb D w hd hw hg he).mono ?_
      rintro e w' ⟨sb, rfl, h1, h2, h3, h4⟩
      exact ⟨fun h => absurd hE h, fun _ => ⟨sb, rfl, by rw [hS]; exact h2, h4⟩, h1, h3⟩
    | some f => exact sopen_fileL db mb tb D f w hd hw hg hf
  · have hE : sopenE D = (goneD D).2 := by unfold sopenE; rw [if_pos hg]
    refine (sopen_err db mb tb D w hd hw hg).mono ?_
    rintro e w' ⟨rfl, h1, h2⟩
    exact ⟨fun _ => by rw [hE], fun h => absurd (hE.symm.trans h) hg, h1, h2⟩
set_option maxHeartbeats 4000000 in
set_option maxRecDepth 20000 in
theorem ssave_goL (sb db mb tb : Nat) (s x : SnapS) (D D1 D2 D3 D4 : DiskS) (n1 n2 n3 n4 : Nat) (R : DiskS × Nat) (v : Value) (w : World) (h : StoreL w sb db mb tb s) (hx : SnapIs w v x) (hxk : ∀ w', Kept w w' (Own3 db mb tb) → SnapIs w' v x) (hok : x.ok) (hgt : s.i < x.i) (hd0 : DiskIs w db mb tb D)
    (g0 : DGood D) (g1 : DGood D1) (g2 : DGood D2) (g3 : DGood D3) (e1 : goneD D = (D1, n1)) (e2 : appendD D1 nOther (frP 4 (snapW x)) = (D2, n2)) (e3 : syncD D2 nOther = (D3, n3)) (e4 : moveD D3 nOther nSnap = (D4, n4)) (hv : R = if n1 ≠ 0 then (D1, n1) else if n2 ≠ 0 then (D2, n2) else if n3 ≠ 0 then (D3, n3) else (D4, n4)) :
    Calls Tryz.prog 29 #[.pointer (some ⟨sb, 0, none⟩), v] w (SavePostL sb db mb tb R s x w) := by
  have H := Lib.hid h
  have HX := Lib.hid hx
  have HXK := Lib.hid hxk
  have HOK := Lib.hid hok
  have D0 := Lib.hid hd0
  have G0 := Lib.hid g0
  have G1 := Lib.hid g1
  have G2 := Lib.hid g2
  have G3 := Lib.hid g3
  have E1 := Lib.hid e1
  have E2 := Lib.hid e2
  have E3 := Lib.hid e3
  have E4 := Lib.hid e4
  have HV := Lib.hid hv
  have hgt' : ¬ x.i ≤ s.i := by omega
  obtain ⟨mv, dv, rfl, hm, hd⟩ := hx
  obtain ⟨a, c, rfl, _⟩ := hd.shape
  obtain ⟨am, cm, rfl, _⟩ := hm.shape
  have hsl := h.lt
  clear h hm hd hok hd0 g0 g1 g2 g3 e1 e2 e3 e4 hxk hv
  go_enter Tryz.func29, Tryz.ntmps29
  go_wp2_with fail
  generalize hw2 : World.alloc (World.alloc w _) _ = w2
  have B2 : Hid (Below w.heap.size w w2) := Lib.hid (by subst hw2; exact ((Below.refl _ _).alloc (Nat.le_refl _) _).alloc (by simp) _)
  have c2 : w2.cell? ⟨w.heap.size, 0, none⟩ = some (.pointer (some ⟨sb, 0, none⟩)) := by subst hw2; go_cell
  have S2 : Hid (SBlk w2 (w.heap.size + 1) x.i x.t (.slice am x.ms.length cm) (.slice a x.d.length c)) := Lib.hid (by
    subst hw2
    have k := SBlk.box (w.alloc (.cells #[.pointer (some ⟨sb, 0, none⟩)] 35)) x.i x.t (.slice am x.ms.length cm) (.slice a x.d.length c)
    simpa using k)
  have l2 : w.heap.size + 1 < w2.heap.size := S2.out.lt
  clear hw2
  refine (snone sb db mb tb s w2 (H.out.below B2.out).is).mono ?_
  rintro e w2' ⟨rfl, rfl⟩
  obtain ⟨r0, r1, r2, r3, _, _, _, _⟩ := S2.out
  go_wp2_with fail
  refine (sbytes_yes _ x w2 (HX.out.below B2.out) HOK.out).mono ?_
  rintro e w3 ⟨bv, rfl, hB3, hb3, ho3⟩
  obtain ⟨ab, cb, rfl, _⟩ := hB3.shape
  have HO3 := Lib.hid ho3
  have HB3 := Lib.hid hB3
  have B3 := Lib.hid hb3
  have c3 := Below.at hb3 c2 (by show w.heap.size < w2.heap.size; omega)
  have r3' := Below.at hb3 r0 l2
  have l3 := hb3.size
  have H3 : Hid (StoreL w3 sb db mb tb s) := Lib.hid ((H.out.below B2.out).below hb3)
  clear hB3 hb3 ho3 r0 r1 r2 r3 c2
  generalize hnb : (frP 4 (snapW x)).length = nb at HB3 HO3
  go_wp2_with fail
  have S3 := H3.out
  obtain ⟨mv3, dv3, hS3, _⟩ := S3
  have y0 := cell_alloc c3 (.cells #[.slice ab nb cb] 22)
  have y1 := cell_alloc r3' (.cells #[.slice ab nb cb] 22)
  have y2 := cell_alloc hS3.c1 (.cells #[.slice ab nb cb] 22)
  have B4 : Hid (Below w.heap.size w (w3.alloc (.cells #[.slice ab nb cb] 22))) := Lib.hid ((B2.out.trans (B3.out.mono B2.out.size)).alloc (by have := B2.out.size; omega) _)
  have Y3 : Hid ((w3.alloc (.cells #[.slice ab nb cb] 22)).cell? ⟨w3.heap.size, 0, none⟩ = some (.slice ab nb cb)) := Lib.hid (by go_cell)
  have X4 : Hid (SBlk (w3.alloc (.cells #[.slice ab nb cb] 22)) (w.heap.size + 1) x.i x.t (.slice am x.ms.length cm) (.slice a x.d.length c)) := Lib.hid ((S2.out.kept (Kept.of_below B3.out (S := fun _ => False) fun k h1 h2 => by omega) (fun h => h)).kept (Kept.alloc _ _ (fun _ => False)) (fun h => h))
  clear hS3 c3 r3'
  have hbc : w3.heap.size < (w3.alloc (.cells #[.slice ab nb cb] 22)).heap.size := by simp
  have HB4 : Hid (Bytes (w3.alloc (.cells #[.slice ab nb cb] 22)) (.slice ab nb cb) (frP 4 (snapW x))) := Lib.hid (HB3.out.alloc _)
  generalize w3.heap.size = bc at *
  generalize World.alloc w3 _ = w4 at *
  go_quiet (fail)
  have IQ : Hid (Below w.heap.size w (w4.drewN nq)) := Lib.hid (below_drewN B4.out nq)
  have YQ : Hid ((w4.drewN nq).cell? ⟨w.heap.size, 0, none⟩ = some (.pointer (some ⟨sb, 0, none⟩)) ∧ (w4.drewN nq).cell? ⟨bc, 0, none⟩ = some (.slice ab nb cb) ∧ SBlk (w4.drewN nq) (w.heap.size + 1) x.i x.t (.slice am x.ms.length cm) (.slice a x.d.length c) ∧ Bytes (w4.drewN nq) (.slice ab nb cb) (frP 4 (snapW x)) ∧ bc < (w4.drewN nq).heap.size) := by
    have k := below_drewN (Below.refl w4.heap.size w4) nq
    exact Lib.hid ⟨Below.at k y0 (World.block_lt_of_cell? _ _ y0), Below.at k Y3.out hbc, X4.out.below k, HB4.out.below k, Nat.lt_of_lt_of_le hbc k.size⟩
  clear y0 y1 y2 hbc
  generalize w4.drewN nq = wq at IQ YQ ⊢
  have z0 := YQ.out.1
  have hmf : ∀ (fn : Fn) (first cap : Array Value) (w : World), (Instr.makeFunc fn first cap).run Tryz.prog w = .ok (.func fn first cap) w := fun _ _ _ _ => rfl
  go_wp2_with fail
  have l3' : w2.heap.size ≤ bc := l3
  have hW0s : wq.heap.size ≤ (World.alloc wq (.cells #[.func (Fn.func 41) #[.pointer (some ⟨sb, 0, none⟩)] #[], .func (Fn.func 73) #[] #[.pointer (some ⟨w.heap.size, 0, none⟩), .pointer (some ⟨bc, 0, none⟩)], .func (Fn.func 74) #[] #[.pointer (some ⟨w.heap.size, 0, none⟩)], .func (Fn.func 76) #[] #[.pointer (some ⟨w.heap.size, 0, none⟩)]] 134)).heap.size := by simp
  clear hW0s
  generalize hW0 : World.alloc wq _ = W0
  have BW0 : Below wq.heap.size wq W0 := by subst hW0; exact (Below.refl _ _).alloc (Nat.le_refl _) _
  clear hW0
  have T0 : Hid (W0.cell? ⟨w.heap.size, 0, none⟩ = some (.pointer (some ⟨sb, 0, none⟩)) ∧ W0.cell? ⟨bc, 0, none⟩ = some (.slice ab nb cb) ∧ SBlk W0 (w.heap.size + 1) x.i x.t (.slice am x.ms.length cm) (.slice a x.d.length c) ∧ Bytes W0 (.slice ab nb cb) (frP 4 (snapW x))) :=
    Lib.hid ⟨Below.at BW0 YQ.out.1 (World.block_lt_of_cell? _ _ YQ.out.1), Below.at BW0 YQ.out.2.1 YQ.out.2.2.2.2, YQ.out.2.2.1.below BW0, YQ.out.2.2.2.1.below BW0⟩
  have IW : Hid (Below w.heap.size w W0) := Lib.hid (IQ.out.trans (BW0.mono IQ.out.size))
  have DW := Lib.hid (D0.out.below IW.out)
  have HW := Lib.hid (H.out.below IW.out)
  have N3 : Hid (¬ Own3 db mb tb w.heap.size ∧ ¬ Own3 db mb tb (w.heap.size + 1) ∧ ¬ Own3 db mb tb bc ∧ ∀ g, (Value.slice ab nb cb).ownBlock = some g → ¬ Own3 db mb tb g) := Lib.hid ⟨fun e => by have := D0.out.lt3 _ e; omega, fun e => by have := D0.out.lt3 _ e; omega, fun e => by have := D0.out.lt3 _ e; omega, fun g hg e => by have := D0.out.lt3 _ e; have := HO3.out g hg; omega⟩
  clear BW0 z0 YQ IQ B4 X4 Y3 HB4 S2 B2 B3 H3 HB3 HO3 l2 l3 l3' hnb
  go_loopw [38] (fun i wr => ∃ (j : Nat) (Dc : DiskS), i = .int .i64 j ∧ ((j = 0 ∧ Dc = D) ∨ (j = 1 ∧ Dc = D1 ∧ n1 = 0) ∨ (j = 2 ∧ Dc = D2 ∧ n1 = 0 ∧ n2 = 0) ∨ (j = 3 ∧ Dc = D3 ∧ n1 = 0 ∧ n2 = 0 ∧ n3 = 0) ∨ (j = 4 ∧ Dc = D4 ∧ n1 = 0 ∧ n2 = 0 ∧ n3 = 0 ∧ n4 = 0)) ∧ DiskIs wr db mb tb Dc ∧ Kept W0 wr (Own3 db mb tb)) (fun i _ => 4 - (intOf i).toNat)
  case atStart => exact ⟨0, D, rfl, .inl ⟨rfl, rfl⟩, DW.out, Kept.refl _ _⟩
  case round =>
    obtain ⟨j, Dc, rfl, hc, hdr, hkr⟩ := hrel
    have DR := Lib.hid hdr
    have KR := Lib.hid hkr
    have HR : Hid (StoreL wr sb db mb tb s) := Lib.hid (HW.out.kept hkr)
    have TR : Hid (wr.cell? ⟨w.heap.size, 0, none⟩ = some (.pointer (some ⟨sb, 0, none⟩)) ∧ wr.cell? ⟨bc, 0, none⟩ = some (.slice ab nb cb) ∧ SBlk wr (w.heap.size + 1) x.i x.t (.slice am x.ms.length cm) (.slice a x.d.length c) ∧ Bytes wr (.slice ab nb cb) (frP 4 (snapW x))) :=
      Lib.hid ⟨hkr.cell T0.out.1 N3.out.1, hkr.cell T0.out.2.1 N3.out.2.2.1, T0.out.2.2.1.kept hkr N3.out.2.1, T0.out.2.2.2.kept hkr N3.out.2.2.2⟩
    have HC : Hid (wr.cell? ⟨sb, 0, none⟩ = some (.pointer (some ⟨db, 0, none⟩))) := Lib.hid (by obtain ⟨_, _, h, _⟩ := HR.out; exact h.c0)
    clear hdr hkr
    rcases hc with ⟨rfl, rfl⟩ | ⟨rfl, rfl, rfl⟩ | ⟨rfl, rfl, rfl, rfl⟩ | ⟨rfl, rfl, rfl, rfl, rfl⟩ | ⟨rfl, rfl, rfl, rfl, rfl, rfl⟩
    · rw [show ((0 : Nat) : Int) = 0 from rfl]
      have hix := fun w0 => idx_fn (.func (Fn.func 41) #[.pointer (some ⟨sb, 0, none⟩)] #[]) (.func (Fn.func 73) #[] #[.pointer (some ⟨w.heap.size, 0, none⟩), .pointer (some ⟨bc, 0, none⟩)]) (.func (Fn.func 74) #[] #[.pointer (some ⟨w.heap.size, 0, none⟩)]) (.func (Fn.func 76) #[] #[.pointer (some ⟨w.heap.size, 0, none⟩)]) _ 0 w0 rfl
      rw [show ((0 : Nat) : Int) = 0 from rfl] at hix
      go_wp2_with fail
      refine (sgone_any sb db mb tb _ wr HC.out DR.out G0.out).mono ?_
      rintro e w5 ⟨rfl, hd5, hk5⟩
      rw [E1.out] at hd5 ⊢
      have D5 := Lib.hid hd5
      have K5 := Lib.hid (KR.out.trans hk5)
      clear hd5 hk5 hix
      by_cases hn : n1 = 0
      · subst hn
        rw [show ((0 : Nat) : Int) = 0 from rfl]
        go_wp2_with fail
        go_roundw
        case rel => exact ⟨1, D1, by first | rfl | go_num, by simp, D5.out, K5.out⟩
        all_goals (show 4 - ((1 : Int)).toNat < 4 - ((0 : Int)).toNat; decide)
      · have hkb : ((n1 : Int) != 0) = true := by simp; omega
        go_wp2_with fail
        go_ret
        have hR : R = (D1, n1) := by rw [HV.out]; simp [hn]
        rw [hR]
        refine ⟨rfl, D5.out, ?_, ?_⟩
        · rw [if_neg hn]
          exact HW.out.kept K5.out
        · exact ((Kept.below3 IW.out).trans K5.out).mono fun k _ h => .inl h
    · rw [show ((1 : Nat) : Int) = 1 from rfl]
      have hix := fun w0 => idx_fn (.func (Fn.func 41) #[.pointer (some ⟨sb, 0, none⟩)] #[]) (.func (Fn.func 73) #[] #[.pointer (some ⟨w.heap.size, 0, none⟩), .pointer (some ⟨bc, 0, none⟩)]) (.func (Fn.func 74) #[] #[.pointer (some ⟨w.heap.size, 0, none⟩)]) (.func (Fn.func 76) #[] #[.pointer (some ⟨w.heap.size, 0, none⟩)]) _ 1 w0 rfl
      rw [show ((1 : Nat) : Int) = 1 from rfl] at hix
      go_wp2_with fail
      refine (save1_any w.heap.size bc sb db mb tb _ ab nb cb _ wr TR.out.1 TR.out.2.1 HC.out DR.out G1.out TR.out.2.2.2).mono ?_
      rintro e w5 ⟨rfl, hd5, hk5⟩
      rw [E2.out] at hd5 ⊢
      have D5 := Lib.hid hd5
      have K5 := Lib.hid (KR.out.trans hk5)
      clear hd5 hk5 hix
      by_cases hn : n2 = 0
      · subst hn
        rw [show ((0 : Nat) : Int) = 0 from rfl]
        go_wp2_with fail
        go_roundw
        case rel => exact ⟨2, D2, by first | rfl | go_num, by simp, D5.out, K5.out⟩
        all_goals (show 4 - ((2 : Int)).toNat < 4 - ((1 : Int)).toNat; decide)
      · have hkb : ((n2 : Int) != 0) = true := by simp; omega
        go_wp2_with fail
        go_ret
        have hR : R = (D2, n2) := by rw [HV.out]; simp [hn]
        rw [hR]
        refine ⟨rfl, D5.out, ?_, ?_⟩
        · rw [if_neg hn]
          exact HW.out.kept K5.out
        · exact ((Kept.below3 IW.out).trans K5.out).mono fun k _ h => .inl h
    · rw [show ((2 : Nat) : Int) = 2 from rfl]
      have hix := fun w0 => idx_fn (.func (Fn.func 41) #[.pointer (some ⟨sb, 0, none⟩)] #[]) (.func (Fn.func 73) #[] #[.pointer (some ⟨w.heap.size, 0, none⟩), .pointer (some ⟨bc, 0, none⟩)]) (.func (Fn.func 74) #[] #[.pointer (some ⟨w.heap.size, 0, none⟩)]) (.func (Fn.func 76) #[] #[.pointer (some ⟨w.heap.size, 0, none⟩)]) _ 2 w0 rfl
      rw [show ((2 : Nat) : Int) = 2 from rfl] at hix
      go_wp2_with fail
      refine (save2_any w.heap.size sb db mb tb _ wr TR.out.1 HC.out DR.out G2.out).mono ?_
      rintro e w5 ⟨rfl, hd5, hk5⟩
      rw [E3.out] at hd5 ⊢
      have D5 := Lib.hid hd5
      have K5 := Lib.hid (KR.out.trans hk5)
      clear hd5 hk5 hix
      by_cases hn : n3 = 0
      · subst hn
        rw [show ((0 : Nat) : Int) = 0 from rfl]
        go_wp2_with fail
        go_roundw
        case rel => exact ⟨3, D3, by first | rfl | go_num, by simp, D5.out, K5.out⟩
        all_goals (show 4 - ((3 : Int)).toNat < 4 - ((2 : Int)).toNat; decide)
      · have hkb : ((n3 : Int) != 0) = true := by simp; omega
        go_wp2_with fail
        go_ret
        have hR : R = (D3, n3) := by rw [HV.out]; simp [hn]
        rw [hR]
        refine ⟨rfl, D5.out, ?_, ?_⟩
        · rw [if_neg hn]
          exact HW.out.kept K5.out
        · exact ((Kept.below3 IW.out).trans K5.out).mono fun k _ h => .inl h
    · rw [show ((3 : Nat) : Int) = 3 from rfl]
      have hix := fun w0 => idx_fn (.func (Fn.func 41) #[.pointer (some ⟨sb, 0, none⟩)] #[]) (.func (Fn.func 73) #[] #[.pointer (some ⟨w.heap.size, 0, none⟩), .pointer (some ⟨bc, 0, none⟩)]) (.func (Fn.func 74) #[] #[.pointer (some ⟨w.heap.size, 0, none⟩)]) (.func (Fn.func 76) #[] #[.pointer (some ⟨w.heap.size, 0, none⟩)]) _ 3 w0 rfl
      rw [show ((3 : Nat) : Int) = 3 from rfl] at hix
      go_wp2_with fail
      refine (save3_any w.heap.size sb db mb tb _ wr TR.out.1 HC.out DR.out G3.out).mono ?_
      rintro e w5 ⟨rfl, hd5, hk5⟩
      rw [E4.out] at hd5 ⊢
      have D5 := Lib.hid hd5
      have K5 := Lib.hid (KR.out.trans hk5)
      clear hd5 hk5 hix
      by_cases hn : n4 = 0
      · subst hn
        rw [show ((0 : Nat) : Int) = 0 from rfl]
        go_wp2_with fail
        go_roundw
        case rel => exact ⟨4, D4, by first | rfl | go_num, by simp, D5.out, K5.out⟩
        all_goals (show 4 - ((4 : Int)).toNat < 4 - ((3 : Int)).toNat; decide)
      · have hkb : ((n4 : Int) != 0) = true := by simp; omega
        go_wp2_with fail
        go_ret
        have hR : R = (D4, n4) := by rw [HV.out]; simp
        rw [hR]
        refine ⟨rfl, D5.out, ?_, ?_⟩
        · rw [if_neg hn]
          exact HW.out.kept K5.out
        · exact ((Kept.below3 IW.out).trans K5.out).mono fun k _ h => .inl h
    · rw [show ((4 : Nat) : Int) = 4 from rfl]
      go_wp2_with fail
      obtain ⟨mvs, dvs, hS5, hms, hds, _, _, hno⟩ := HR.out
      have HS5 := Lib.hid hS5
      have HNO := Lib.hid hno
      have HMV : Hid (∀ x, mvs ≠ .int .u8 x) := Lib.hid (by obtain ⟨_, _, e, _⟩ := hms.shape; rw [e]; exact fun x h => by cases h)
      have HDV : Hid (∀ x, dvs ≠ .int .u8 x) := Lib.hid (by obtain ⟨_, _, e, _⟩ := hds.shape; rw [e]; exact fun x h => by cases h)
      have hlw : w.heap.size < wr.heap.size := World.block_lt_of_cell? _ _ TR.out.1
      have ST := Stable.from wr
      have KW : Hid (Kept w wr (Own3 db mb tb)) := Lib.hid ((Kept.below3 IW.out).trans KR.out)
      clear hS5 hno hms hds
      refine region_start [0, 0, 2, 7, 15, 31] 4 (fun w' => Below wr.heap.size wr w') (by kernel_rfl) ?_
      refine stage_heads [0, 1] (by kernel_rfl) (L := #[true, true, false, false, false, false]) (by kernel_rfl) (f' := 4) rfl (fun _ _ _ _ h => h) (fun w o h => ST.alloc h o) (.inr (by first | exact Below.refl _ _ | exact (Below.refl _ _).drew)) ?_
      simp only [List.flatMap_cons, List.flatMap_nil, List.drop_succ_cons, List.drop_zero, List.take_succ_cons, List.take_zero, List.cons_append, List.nil_append, List.append_nil]
      iterate 2 (first | (refine heads_load _ (by rfl) (fun w' hs => by have y0 := Below.at hs TR.out.1 hlw; obtain ⟨r0, r1, r2, r3, _, _, _, _⟩ := TR.out.2.2.1.below hs; go_simp; try with_reducible rfl) rfl ?_; simp only [Act.put, List.setIfInBounds_toArray, List.set_cons_zero, List.set_cons_succ]) | (refine heads_pure _ (by rfl) (fun w' => by go_simp; try with_reducible rfl) ?_; simp only [Act.put, List.setIfInBounds_toArray, List.set_cons_zero, List.set_cons_succ]))
      refine heads_nil ?_
      refine stage_op 2 (by kernel_rfl) (L := #[true, true, true, false, false, false]) (by kernel_rfl) ?_
      simp only [List.drop_succ_cons, List.drop_zero, List.take_succ_cons, List.take_zero]
      go_wp2_with fail; refine (scopy_any _ x _ ((HXK.out wr KW.out).below (by first | exact Below.refl _ _ | exact (Below.refl _ _).drew))).mono ?_; rintro e w6 ⟨v6, rfl, ⟨mv6, dv6, rfl, om, od⟩, hb6⟩; obtain ⟨am6, cm6, rfl⟩ := om.shape; obtain ⟨ad6, cd6, rfl⟩ := od.shape; have OM : Hid (Owns w6 wr.heap.size 3 .i64 (.slice am6 x.ms.length cm6) x.ms) := Lib.hid om; have OD : Hid (Owns w6 wr.heap.size 5 .u8 (.slice ad6 (ints x.d).length cd6) (ints x.d)) := Lib.hid od; have I6 : Hid (Below wr.heap.size wr w6) := Lib.hid (by first | exact hb6 | exact ((Below.refl _ _).drew).trans hb6); clear om od hb6; go_wp2_with fail
      refine step_post (fun _ => I6.out) ?_
      refine stage_heads [3, 4] (by kernel_rfl) (L := #[true, true, true, true, true, false]) (by kernel_rfl) (f' := 1) rfl (fun _ _ _ _ h => h) (fun w o h => ST.alloc h o) (.inl (by kernel_rfl)) ?_
      simp only [List.flatMap_cons, List.flatMap_nil, List.drop_succ_cons, List.drop_zero, List.take_succ_cons, List.take_zero, List.cons_append, List.nil_append, List.append_nil]
      iterate 2 (refine heads_pure _ (by rfl) (fun w' => by go_simp; try with_reducible rfl) ?_; simp only [Act.put, List.setIfInBounds_toArray, List.set_cons_zero, List.set_cons_succ])
      refine heads_nil ?_
      refine stage_op 5 (by kernel_rfl) (L := #[true, true, true, true, true, true]) (by kernel_rfl) ?_
      simp only [List.drop_succ_cons, List.drop_zero, List.take_succ_cons, List.take_zero]
      obtain ⟨_, k1, k2, k3, k4, f1, f2, f3, f4⟩ := HS5.out.kept (Kept.of_below I6.out (S := fun _ => False) fun k h1 h2 => by omega) (fun h => h); go_wp2_with fail
      refine step_post nofun ?_
      refine stage_done (by kernel_rfl) ?_
      generalize hwF : World.setCell _ _ _ = wF
      have S6 : Hid (SBlk5 w6 sb db s.i s.t mvs dvs) := Lib.hid (HS5.out.kept (Kept.of_below I6.out (S := fun _ => False) fun k h1 h2 => by omega) (fun h => h))
      have KF : Hid (Kept w6 wF (fun k => k = sb)) := Lib.hid (by subst hwF; exact Kept.set5 _ _ _ _ _ _)
      have SF : Hid (SBlk5 wF sb db x.i x.t (.slice am6 x.ms.length cm6) (.slice ad6 (ints x.d).length cd6)) := Lib.hid (by subst hwF; exact S6.out.set4 _ _ _ _)
      have DF : Hid (DiskIs wF db mb tb Dc) := Lib.hid (by subst hwF; exact (DR.out.below I6.out).set5 S6.out HNO.out HMV.out HDV.out _ _ _ _)
      have hsw := HS5.out.lt
      have NW : Hid (∀ g, wr.heap.size ≤ g → ¬ Own3 db mb tb g ∧ sb < g) := Lib.hid fun g hg => ⟨fun e => by have := DR.out.lt3 _ e; omega, by omega⟩
      have HXD : Hid ((∀ c ∈ x.d, c < 256) ∧ x.d.length ≤ 2097152 ∧ x.ms.length ≤ 2097152) := Lib.hid (by obtain ⟨_, _, _, h1, h2⟩ := HX.out; exact ⟨h2.lt, h2.small, h1.small⟩)
      clear hwF k1 k2 k3 k4 f1 f2 f3 f4
      go_wp2_with fail
      go_ret
      have hR : R = (Dc, 0) := by rw [HV.out]; rfl
      rw [hR]
      refine ⟨rfl, DF.out, ⟨_, _, SF.out, Ints.of_owns (OM.out.kept KF.out fun g hg => Nat.ne_of_gt (NW.out g (OM.out.lt g hg).1).2) HXD.out.2.2, Bytes.of_owns (OD.out.kept KF.out fun g hg => Nat.ne_of_gt (NW.out g (OD.out.lt g hg).1).2) HXD.out.1 HXD.out.2.1, fun g hg => NW.out g (OM.out.lt g hg).1, fun g hg => NW.out g (OD.out.lt g hg).1, HNO.out⟩, ?_⟩
      refine (KW.out.mono fun k _ h => .inl h).trans (Kept.trans ?_ (KF.out.mono fun k _ h => .inr h))
      exact Kept.of_below I6.out fun k h1 h2 => by omega

theorem ssave_anyL (sb db mb tb : Nat) (s x : SnapS) (D : DiskS) (v : Value) (w : World) (h : StoreL w sb db mb tb s) (hx : SnapIs w v x) (hxk : ∀ w', Kept w w' (Own3 db mb tb) → SnapIs w' v x) (hd : DiskIs w db mb tb D) (g : DGood D) (hs : D.steps + 4 ≤ 1000000000) :
    Calls Tryz.prog 29 #[.pointer (some ⟨sb, 0, none⟩), v] w (SavePostL sb db mb tb (saveD D s x) s x w) := by
  unfold saveD
  by_cases hok : x.ok
  · rw [if_neg (not_not_intro hok)]
    by_cases hle : x.i ≤ s.i
    · rw [if_pos hle]
      exact (ssave_old sb db mb tb s x v w h.is hx hok hle).mono fun e w' ⟨he, hb⟩ => ⟨he, hd.below hb, h.below hb, (Kept.below3 hb).mono fun k _ h => .inl h⟩
    · rw [if_neg hle]
      have h1 := goneD_good g (by omega)
      have h2 := h1.1.append nOther (frP 4 (snapW x)) (by omega)
      have h3 := h2.1.sync nOther (by omega)
      exact ssave_goL sb db mb tb s x D (goneD D).1 (appendD (goneD D).1 nOther (frP 4 (snapW x))).1 (syncD (appendD (goneD D).1 nOther (frP 4 (snapW x))).1 nOther).1 (moveD (syncD (appendD (goneD D).1 nOther (frP 4 (snapW x))).1 nOther).1 nOther nSnap).1
        (goneD D).2 (appendD (goneD D).1 nOther (frP 4 (snapW x))).2 (syncD (appendD (goneD D).1 nOther (frP 4 (snapW x))).1 nOther).2 (moveD (syncD (appendD (goneD D).1 nOther (frP 4 (snapW x))).1 nOther).1 nOther nSnap).2 _ v w h hx hxk hok (by omega) hd g h1.1 h2.1 h3.1 rfl rfl rfl rfl rfl
  · rw [if_pos hok]
    exact (ssave_bad sb db mb tb s x v w h.is hx hok).mono fun e w' ⟨he, hb⟩ => ⟨he, hd.below hb, h.below hb, (Kept.below3 hb).mono fun k _ h => .inl h⟩
end Go.Proofs.YtofhccpagnkalaaGreat

/- The document's Open of the snapshot, where the power stays; contracts; no conditions but the ranges. -/
namespace Go.Proofs.YtofhccpagnkalaaGreat
open Go.RowKit Go.Maps Go.Proofs.Own

theorem readS_no {m : Nat} {l : List Nat} (h : readB m l = false) : readS m l = zeroS := if_neg (of_decide_eq_false h)
theorem SRow.setSn {w : World} {b : Nat} {i t : Int} {p q : Option Addr} {n1 c1 n2 c2 : Nat} {a : Option Addr} {n c : Nat} {L : List FileS} (h : SRow w 3 (.slice a n c) (L.map rfV)) (k : SBlk w b i t (.slice p n1 c1) (.slice q n2 c2)) (i' t' : Int) (mv' dv' : Value) : SRow ((((w.setCell ⟨b, 0, none⟩ (.int .u64 i')).setCell ⟨b, 1, none⟩ (.int .u64 t')).setCell ⟨b, 2, none⟩ mv').setCell ⟨b, 3, none⟩ dv') 3 (.slice a n c) (L.map rfV) := by
  refine h.far (N := 4) (b := b) (fun i hi => ?_) (fun g i hg => ?_) (Kept.set4 w b i' t' mv' dv').size
  · match i, hi with
    | 0, _ => exact ⟨_, k.c0, fun s e => by cases e⟩
    | 1, _ => exact ⟨_, k.c1, fun s e => by cases e⟩
    | 2, _ => exact ⟨_, k.c2, fun s e => by cases e⟩
    | 3, _ => exact ⟨_, k.c3, fun s e => by cases e⟩
  · have hne : ∀ j, j < 4 → (⟨b, j, none⟩ : Addr) ≠ ⟨g, i, none⟩ := by
      intro j hj e
      simp only [Addr.mk.injEq, and_true] at e
      have := hg e.1.symm
      omega
    rw [World.cell?_setCell_other _ _ _ _ (hne 3 (by omega)), World.cell?_setCell_other _ _ _ _ (hne 2 (by omega)), World.cell?_setCell_other _ _ _ _ (hne 1 (by omega)), World.cell?_setCell_other _ _ _ _ (hne 0 (by omega))]
theorem gone27_calm {D : DiskS} (h : Calm D) : (goneD D).2 = 0 ∧ Calm (goneD D).1 := by
  unfold goneD removeD
  cases e : findFile nOther D.files with
  | none =>
    simp only
    rw [fileE_31 h.1 e]
    exact ⟨rfl, h⟩
  | some f =>
    have hr : removeD D nOther = ({ stepD D with files := delFile nOther D.files }, 0) := by
      unfold removeD
      rw [e]
      simp only
      rw [if_neg (by rw [h.1]; decide), if_neg (by rw [h.2]; decide)]
    have h2 := h.step (delFile nOther D.files)
    unfold removeD at hr
    rw [e] at hr
    simp only at hr ⊢
    rw [hr]
    exact ⟨rfl, h2⟩
/-- The snapshot that Open tells. -/
def openS27 (D : DiskS) : SnapS := if sopenE D = 0 then sopenS D else zeroS
/-- What Open of the snapshot tells, where the power stays. -/
def ROpen27 (D : DiskS) (v0 : Value) (w : World) : Ending → World → Prop := fun e w' => ∃ v' i t mv dv, e = .returned (.tuple #[v', .agg #[.int .u64 i, .int .u64 t, mv, dv], .int .i64 (sopenE D)]) ∧ RIs w' v' (goneD D).1 ∧ SnapIs w' (.agg #[.int .u64 i, .int .u64 t, mv, dv]) (openS27 D) ∧ Below w.heap.size w w' ∧ (∀ g, fsOwn v' = some g → fsOwn v0 = some g ∨ w.heap.size ≤ g) ∧ NewRows w.heap.size (.agg #[.int .u64 i, .int .u64 t, mv, dv])

set_option maxHeartbeats 4000000 in
set_option maxRecDepth 20000 in
theorem ropen27_any (v : Value) (D : DiskS) (w : World) (h : RIs w v D) (hg : DGood D) (hc : Calm D) (hs : D.steps + 1 ≤ 1000000000) (hb : Byt8 D.files) : Calls Tryz.prog 13 #[v] w (ROpen27 D v w) := by
  obtain ⟨a, c, rfl, hr⟩ := h
  obtain ⟨room, L, down, armed, steps⟩ := D
  obtain ⟨hc1, hc2⟩ := hc
  simp only at hr hc1 hc2 hs hb ⊢
  subst hc1 hc2
  have HG := Lib.hid hg
  have HS := Lib.hid hs
  have HB8 := Lib.hid hb
  obtain ⟨n, hn⟩ : ∃ k, L.length = k := ⟨_, rfl⟩
  have HN := Lib.hid hn
  rw [hn] at hr ⊢
  have HR := Lib.hid hr
  have HF0 : Hid (L.length ≤ 1000) := Lib.hid (by have h := hg.few; simp only at h; omega)
  clear hr hn hg hs hb
  have hz1 : (w.alloc (.cells #[.int .i64 room, .slice a n c, .bool false, .int .i64 (-1), .int .u64 steps] 29)).heap.size = w.heap.size + 1 := by simp
  have hz2 : ((w.alloc (.cells #[.int .i64 room, .slice a n c, .bool false, .int .i64 (-1), .int .u64 steps] 29)).alloc (.cells #[.int .i64 0, .slice none 0 0, .bool false, .int .i64 0, .int .u64 0] 29)).heap.size = w.heap.size + 1 + 1 := by simp
  have hz3 : (((w.alloc (.cells #[.int .i64 room, .slice a n c, .bool false, .int .i64 (-1), .int .u64 steps] 29)).alloc (.cells #[.int .i64 0, .slice none 0 0, .bool false, .int .i64 0, .int .u64 0] 29)).alloc (.cells #[.int .u64 0, .int .u64 0, .slice none 0 0, .slice none 0 0] 40)).heap.size = w.heap.size + 1 + 1 + 1 := by simp
  have BX : RD ((((w.alloc (.cells #[.int .i64 room, .slice a n c, .bool false, .int .i64 (-1), .int .u64 steps] 29)).alloc (.cells #[.int .i64 0, .slice none 0 0, .bool false, .int .i64 0, .int .u64 0] 29)).alloc (.cells #[.int .u64 0, .int .u64 0, .slice none 0 0, .slice none 0 0] 40)).alloc (.cells #[.int .u64 0, .int .u64 0, .slice none 0 0, .slice none 0 0] 40)) w.heap.size ⟨room, L, false, -1, steps⟩ (.slice a n c) := (((RD.box w ⟨room, L, false, -1, steps⟩ (.slice a n c)).below ((Below.refl _ _).alloc (Nat.le_refl _) _)).below ((Below.refl _ _).alloc (Nat.le_refl _) _)).below ((Below.refl _ _).alloc (Nat.le_refl _) _)
  have BZ : RD ((((w.alloc (.cells #[.int .i64 room, .slice a n c, .bool false, .int .i64 (-1), .int .u64 steps] 29)).alloc (.cells #[.int .i64 0, .slice none 0 0, .bool false, .int .i64 0, .int .u64 0] 29)).alloc (.cells #[.int .u64 0, .int .u64 0, .slice none 0 0, .slice none 0 0] 40)).alloc (.cells #[.int .u64 0, .int .u64 0, .slice none 0 0, .slice none 0 0] 40)) (w.heap.size + 1) zeroD (.slice none 0 0) := by
    have h := ((RD.zero (w.alloc (.cells #[.int .i64 room, .slice a n c, .bool false, .int .i64 (-1), .int .u64 steps] 29))).below ((Below.refl _ _).alloc (Nat.le_refl _) _)).below ((Below.refl _ _).alloc (Nat.le_refl _) _) (w' := ((((w.alloc (.cells #[.int .i64 room, .slice a n c, .bool false, .int .i64 (-1), .int .u64 steps] 29)).alloc (.cells #[.int .i64 0, .slice none 0 0, .bool false, .int .i64 0, .int .u64 0] 29)).alloc (.cells #[.int .u64 0, .int .u64 0, .slice none 0 0, .slice none 0 0] 40)).alloc (.cells #[.int .u64 0, .int .u64 0, .slice none 0 0, .slice none 0 0] 40)))
    rw [hz1] at h
    exact h
  have BY : SBlk ((((w.alloc (.cells #[.int .i64 room, .slice a n c, .bool false, .int .i64 (-1), .int .u64 steps] 29)).alloc (.cells #[.int .i64 0, .slice none 0 0, .bool false, .int .i64 0, .int .u64 0] 29)).alloc (.cells #[.int .u64 0, .int .u64 0, .slice none 0 0, .slice none 0 0] 40)).alloc (.cells #[.int .u64 0, .int .u64 0, .slice none 0 0, .slice none 0 0] 40)) (w.heap.size + 1 + 1) 0 0 (.slice none 0 0) (.slice none 0 0) := by
    have h := (SBlk.new ((w.alloc (.cells #[.int .i64 room, .slice a n c, .bool false, .int .i64 (-1), .int .u64 steps] 29)).alloc (.cells #[.int .i64 0, .slice none 0 0, .bool false, .int .i64 0, .int .u64 0] 29))).below ((Below.refl _ _).alloc (Nat.le_refl _) _) (w' := ((((w.alloc (.cells #[.int .i64 room, .slice a n c, .bool false, .int .i64 (-1), .int .u64 steps] 29)).alloc (.cells #[.int .i64 0, .slice none 0 0, .bool false, .int .i64 0, .int .u64 0] 29)).alloc (.cells #[.int .u64 0, .int .u64 0, .slice none 0 0, .slice none 0 0] 40)).alloc (.cells #[.int .u64 0, .int .u64 0, .slice none 0 0, .slice none 0 0] 40)))
    rw [hz2] at h
    exact h
  have BN : SBlk ((((w.alloc (.cells #[.int .i64 room, .slice a n c, .bool false, .int .i64 (-1), .int .u64 steps] 29)).alloc (.cells #[.int .i64 0, .slice none 0 0, .bool false, .int .i64 0, .int .u64 0] 29)).alloc (.cells #[.int .u64 0, .int .u64 0, .slice none 0 0, .slice none 0 0] 40)).alloc (.cells #[.int .u64 0, .int .u64 0, .slice none 0 0, .slice none 0 0] 40)) (w.heap.size + 1 + 1 + 1) 0 0 (.slice none 0 0) (.slice none 0 0) := by
    have h := SBlk.new (((w.alloc (.cells #[.int .i64 room, .slice a n c, .bool false, .int .i64 (-1), .int .u64 steps] 29)).alloc (.cells #[.int .i64 0, .slice none 0 0, .bool false, .int .i64 0, .int .u64 0] 29)).alloc (.cells #[.int .u64 0, .int .u64 0, .slice none 0 0, .slice none 0 0] 40))
    rw [hz3] at h
    exact h
  have BB : Below w.heap.size w ((((w.alloc (.cells #[.int .i64 room, .slice a n c, .bool false, .int .i64 (-1), .int .u64 steps] 29)).alloc (.cells #[.int .i64 0, .slice none 0 0, .bool false, .int .i64 0, .int .u64 0] 29)).alloc (.cells #[.int .u64 0, .int .u64 0, .slice none 0 0, .slice none 0 0] 40)).alloc (.cells #[.int .u64 0, .int .u64 0, .slice none 0 0, .slice none 0 0] 40)) := (((Below.refl _ _).alloc (Nat.le_refl _) _).alloc (by simp) _).alloc (by simp; omega) _ |>.alloc (by simp; omega) _
  clear hz1 hz2 hz3
  go_enter Tryz.func13, Tryz.ntmps13
  go_wp2_with fail
  generalize World.alloc (World.alloc (World.alloc (World.alloc w _) _) _) _ = w1 at *
  have X1 := Lib.hid BX
  have Z1 := Lib.hid BZ
  have Y1 := Lib.hid BY
  have N1 := Lib.hid BN
  have B1 := Lib.hid BB
  clear BX BZ BY BN BB
  refine (rfind_any _ ⟨room, L, false, -1, steps⟩ nOther w1 (RIs.new (D := ⟨room, L, false, -1, steps⟩) HN.out (HR.out.below B1.out)) HF0.out).mono ?_
  rintro e w2 ⟨rfl, hb2⟩
  cases hf : findFile nOther L with
  | none =>
    have X2 := Lib.hid (X1.out.below hb2)
    have Z2 := Lib.hid (Z1.out.below hb2)
    have Y2 := Lib.hid (Y1.out.below hb2)
    have N2 := Lib.hid (N1.out.below hb2)
    have B2 : Hid (Below w.heap.size w w2) := Lib.hid (B1.out.trans (hb2.mono B1.out.size))
    have S2 : Hid (SRow w2 3 (.slice a n c) (L.map rfV)) := Lib.hid (HR.out.below B2.out)
    have hI : findI nOther L = -1 := findI_none.2 hf
    have HGO0 : goneD ⟨room, L, false, -1, steps⟩ = (⟨room, L, false, -1, steps⟩, 0) := by unfold goneD removeD; rw [show findFile nOther (⟨room, L, false, -1, steps⟩ : DiskS).files = none from hf]; simp only; rw [fileE_31 rfl hf]; rfl
    rw [hI]
    clear hf hI hb2 X1 Z1 Y1 N1 B1
    obtain ⟨D1, hD1⟩ : ∃ D1, D1 = (⟨room, L, false, -1, steps⟩ : DiskS) := ⟨_, rfl⟩
    have HGO : Hid ((goneD ⟨room, L, false, -1, steps⟩).1 = D1) := Lib.hid (by rw [HGO0, hD1])
    have HGO2 : Hid ((goneD ⟨room, L, false, -1, steps⟩).2 = 0) := Lib.hid (by rw [HGO0])
    have G1 : Hid (DGood D1) := Lib.hid (by rw [hD1]; exact HG.out)
    have B81 : Hid (Byt8 D1.files) := Lib.hid (by rw [hD1]; exact HB8.out)
    have HN2 : Hid (D1.files.length = n) := Lib.hid (by rw [hD1]; exact HN.out)
    have S2' : Hid (SRow w2 3 (.slice a n c) (D1.files.map rfV)) := Lib.hid (by rw [hD1]; exact S2.out)
    have X2' : Hid (RD w2 w.heap.size D1 (.slice a n c)) := Lib.hid (by rw [hD1]; exact X2.out)
    have FOW : Hid (∀ g, fsOwn (.agg #[.int .i64 D1.room, .slice a n c, .bool D1.down, .int .i64 D1.armed, .int .u64 D1.steps]) = some g → fsOwn (.agg #[.int .i64 room, .slice a n c, .bool false, .int .i64 (-1), .int .u64 steps]) = some g ∨ w.heap.size ≤ g) := Lib.hid (fun g hg => .inl hg)
    clear S2 X2 HGO0 hD1
    have S2 := S2'
    have X2 := X2'
    clear S2' X2'
    obtain ⟨r0, r1, r2, r3, r4, f0, f1, f2, f3, f4⟩ := X2.out
    obtain ⟨z0, z1, z2, z3, z4, g0, g1, g2, g3, g4⟩ := Z2.out
    obtain ⟨y0, y1, y2, y3, e0, e1, e2, e3⟩ := Y2.out
    obtain ⟨n0, n1, n2, n3, _, _, _, _⟩ := N2.out
    have hlx := X2.out.lt
    have hlz := Z2.out.lt
    have hly := Y2.out.lt
    have hln := N2.out.lt
    go_wp2_with fail
    clear r0 r1 r2 r3 r4 f0 f1 f2 f3 f4 z0 z1 z2 z3 z4 g0 g1 g2 g3 g4 y0 y1 y2 y3 e0 e1 e2 e3 n0 n1 n2 n3 hlx hlz hly hln
    have HF1 : Hid (D1.files.length ≤ 1000) := Lib.hid (by have h := G1.out.few; omega)
    refine (rfind_any _ D1 nSnap w2 (RIs.new HN2.out S2.out) HF1.out).mono ?_
    rintro e w2f ⟨rfl, hb2f⟩
    have X2f := Lib.hid (X2.out.below hb2f)
    have Z2f := Lib.hid (Z2.out.below hb2f)
    have Y2f := Lib.hid (Y2.out.below hb2f)
    have N2f := Lib.hid (N2.out.below hb2f)
    have B2f : Hid (Below w.heap.size w w2f) := Lib.hid (B2.out.trans (hb2f.mono B2.out.size))
    have S2f := Lib.hid (S2.out.below hb2f)
    clear hb2f
    clear X2 Z2 Y2 N2 B2 S2
    cases hf : findFile nSnap D1.files with
    | none =>
      have hI : findI nSnap D1.files = -1 := findI_none.2 hf
      have HVE : Hid (sopenE ⟨room, L, false, -1, steps⟩ = 0) := Lib.hid (by unfold sopenE; rw [HGO2.out, if_neg (by simp), HGO.out, if_pos hf])
      have HVS : Hid (openS27 ⟨room, L, false, -1, steps⟩ = zeroS) := Lib.hid (by unfold openS27; rw [HVE.out, if_pos rfl]; unfold sopenS; rw [HGO.out, if_pos hf])
      rw [hI]
      clear hf hI
      obtain ⟨r0, r1, r2, r3, r4, f0, f1, f2, f3, f4⟩ := X2f.out
      obtain ⟨z0, z1, z2, z3, z4, g0, g1, g2, g3, g4⟩ := Z2f.out
      obtain ⟨y0, y1, y2, y3, e0, e1, e2, e3⟩ := Y2f.out
      obtain ⟨n0, n1, n2, n3, _, _, _, _⟩ := N2f.out
      have hlx := X2f.out.lt
      have hlz := Z2f.out.lt
      have hly := Y2f.out.lt
      have hln := N2f.out.lt
      have HBN : Hid (w.heap.size + 1 < (w.heap.size + 1 + 1 + 1)) := Lib.hid (by omega)
      have J1 : Hid (RD (set5D w2f (w.heap.size + 1) D1 (.slice a n c)) w.heap.size D1 (.slice a n c) ∧ SBlk (set5D w2f (w.heap.size + 1) D1 (.slice a n c)) (w.heap.size + 1 + 1 + 1) 0 0 (.slice none 0 0) (.slice none 0 0)) := Lib.hid ⟨X2f.out.kept (Kept.set5D w2f (w.heap.size + 1) D1 (.slice a n c)) (by omega), N2f.out.kept (Kept.set5D w2f (w.heap.size + 1) D1 (.slice a n c)) (by have := HBN.out; omega)⟩
      have J2 : Hid (RD (set5D w2f (w.heap.size + 1) D1 (.slice a n c)).drew w.heap.size D1 (.slice a n c) ∧ SBlk (set5D w2f (w.heap.size + 1) D1 (.slice a n c)).drew (w.heap.size + 1 + 1 + 1) 0 0 (.slice none 0 0) (.slice none 0 0)) := Lib.hid ⟨J1.out.1.below ((Below.refl _ _).drew), J1.out.2.below ((Below.refl _ _).drew)⟩
      unfold set5D at J1 J2
      go_wp2_with fail
      refine region_start [0, 0, 1, 7, 15] 4 (fun w' => RD w' w.heap.size D1 (.slice a n c) ∧ SBlk w' (w.heap.size + 1 + 1 + 1) 0 0 (.slice none 0 0) (.slice none 0 0)) (by kernel_rfl) ?_
      refine stage_heads [0, 1] (by kernel_rfl) (L := #[true, true, false, false, false]) (by kernel_rfl) (f' := 3) rfl (fun _ _ _ _ h => h) (fun w o h => ⟨h.1.below ((Below.refl _ _).alloc (Nat.le_refl _) o), h.2.below ((Below.refl _ _).alloc (Nat.le_refl _) o)⟩) (.inr (by first | exact ⟨X2f.out.below ((Below.refl _ _).drew), N2f.out.below ((Below.refl _ _).drew)⟩ | exact ⟨X2f.out, N2f.out⟩)) ?_
      simp only [List.flatMap_cons, List.flatMap_nil, List.drop_succ_cons, List.drop_zero, List.take_succ_cons, List.take_zero, List.cons_append, List.nil_append, List.append_nil]
      iterate 2 (first | (refine heads_load _ (by rfl) (fun w' hs => by obtain ⟨⟨r0, r1, r2, r3, r4, _⟩, b0, b1, b2, b3, _⟩ := hs; go_simp; try with_reducible rfl) rfl ?_; simp only [Act.put, List.setIfInBounds_toArray, List.set_cons_zero, List.set_cons_succ]) | (refine heads_pure _ (by rfl) (fun w' => by go_simp; try with_reducible rfl) ?_; simp only [Act.put, List.setIfInBounds_toArray, List.set_cons_zero, List.set_cons_succ]))
      refine heads_nil ?_
      refine stage_op 2 (by kernel_rfl) (L := #[true, true, true, false, false]) (by kernel_rfl) ?_
      simp only [List.drop_succ_cons, List.drop_zero, List.take_succ_cons, List.take_zero]
      go_wp2_with fail
      refine step_post (fun _ => (by first | exact J2.out | exact J1.out)) ?_
      refine stage_op 3 (by kernel_rfl) (L := #[true, true, true, true, false]) (by kernel_rfl) ?_
      simp only [List.drop_succ_cons, List.drop_zero, List.take_succ_cons, List.take_zero]
      go_wp2_with fail
      refine step_post nofun ?_
      refine stage_heads [4] (by kernel_rfl) (L := #[true, true, true, true, true]) (by kernel_rfl) (f' := 0) rfl (fun _ _ _ _ h => h) (fun w o h => ⟨h.1.below ((Below.refl _ _).alloc (Nat.le_refl _) o), h.2.below ((Below.refl _ _).alloc (Nat.le_refl _) o)⟩) (.inl (by kernel_rfl)) ?_
      simp only [List.flatMap_cons, List.flatMap_nil, List.drop_succ_cons, List.drop_zero, List.take_succ_cons, List.take_zero, List.append_nil]
      iterate 1 (refine heads_pure _ (by rfl) (fun w' => by go_simp; try with_reducible rfl) ?_; simp only [Act.put, List.setIfInBounds_toArray, List.set_cons_zero, List.set_cons_succ])
      refine heads_nil ?_
      refine stage_done (by kernel_rfl) ?_
      generalize hwz : World.drew _ = wz
      have W1 : wz = ((((((((((w2f.setCell ⟨w.heap.size + 1, 0, none⟩ (.int .i64 D1.room)).setCell ⟨w.heap.size + 1, 1, none⟩ (.slice a n c)).setCell ⟨w.heap.size + 1, 2, none⟩ (.bool D1.down)).setCell ⟨w.heap.size + 1, 3, none⟩ (.int .i64 D1.armed)).setCell ⟨w.heap.size + 1, 4, none⟩ (.int .u64 D1.steps))).setCell ⟨w.heap.size + 1 + 1, 0, none⟩ (.int .u64 0)).setCell ⟨w.heap.size + 1 + 1, 1, none⟩ (.int .u64 0)).setCell ⟨w.heap.size + 1 + 1, 2, none⟩ (.slice none 0 0)).setCell ⟨w.heap.size + 1 + 1, 3, none⟩ (.slice none 0 0)).drew := hwz.symm
      have KS := Kept.set5D w2f (w.heap.size + 1) D1 (.slice a n c)
      have RFF := (Z2f.out.set D1 (.slice a n c))
      have YS := Y2f.out.kept KS (by omega)
      have SS := S2f.out.setD Z2f.out (fun s e => by cases e) D1 (.slice a n c)
      have K4 := Kept.set4 (set5D w2f (w.heap.size + 1) D1 (.slice a n c)) (w.heap.size + 1 + 1) 0 0 (.slice none 0 0) (.slice none 0 0)
      have RFG0 := (RFF.kept K4 (by omega)).below ((Below.refl _ _).drew)
      have RFY0 := (YS.set4 0 0 (.slice none 0 0) (.slice none 0 0)).below ((Below.refl _ _).drew)
      have SF0 := (SS.setSn (p := none) (q := none) YS 0 0 (.slice none 0 0) (.slice none 0 0)).below ((Below.refl _ _).drew)
      have BF0 := B2f.out.trans (KS.below B2f.out.size (fun k hk => by omega))
      have BF1 := (BF0.trans (K4.below BF0.size (fun k hk => by omega))).drew
      have KF0 : Kept w2f _ (fun k => k = w.heap.size + 1 ∨ k = w.heap.size + 1 + 1) := ((KS.mono (fun _ _ h => .inl h)).trans (K4.mono (fun _ _ h => .inr h))).trans (Kept.drew _ _)
      unfold set5D at RFG0 RFY0 SF0 BF1 KF0
      rw [← W1] at RFG0 RFY0 SF0 BF1 KF0
      have RFG := Lib.hid RFG0
      have RFY := Lib.hid RFY0
      have SF := Lib.hid SF0
      have BF := Lib.hid BF1
      have KF := Lib.hid KF0
      clear KS RFF YS SS K4 RFG0 RFY0 SF0 BF0 BF1 KF0 W1 hwz
      clear r0 r1 r2 r3 r4 f0 f1 f2 f3 f4 z0 z1 z2 z3 z4 g0 g1 g2 g3 g4 y0 y1 y2 y3 e0 e1 e2 e3 n0 n1 n2 n3 hlx hlz hly hln
      obtain ⟨q0, q1, q2, q3, q4, _⟩ := RFG.out
      obtain ⟨u0, u1, u2, u3, _⟩ := RFY.out
      go_wp2_with fail
      refine bodyPost_ret (v := .tuple #[.agg #[.int .i64 D1.room, .slice a n c, .bool D1.down, .int .i64 D1.armed, .int .u64 D1.steps], .agg #[.int .u64 0, .int .u64 0, (.slice none 0 0), (.slice none 0 0)], .int .i64 0]) (by simp [results, Tryz.results13, go_sem, q0, q1, q2, q3, q4, u0, u1, u2, u3]) rfl ?_
      unfold ROpen27
      rw [HGO.out, HVE.out, HVS.out]
      exact ⟨_, _, _, _, _, rfl, RIs.new HN2.out SF.out, zero_is _, BF.out, FOW.out, _, _, _, _, rfl, nofun, nofun⟩
    | some f =>
      obtain ⟨i, hI, hLi⟩ := findI_some hf
      rw [hI]
      have hi0 : ¬ (i : Int) < 0 := by omega
      have hsm := G1.out.small f (List.mem_of_getElem? hLi)
      have h8 := B81.out f (List.mem_of_getElem? hLi)
      have HGF := Lib.hid (getF_some hf)
      have HFF := Lib.hid hf
      obtain ⟨b, o, rfl, hbl, k0, k1, k2⟩ := S2f.out.file hLi
      have him : (i : Int) < (n : Int) := by have h1 := (List.getElem?_eq_some_iff.1 hLi).1; have h2 := HN2.out; omega
      have HTB : Hid (natsOf (strN f.all) = f.all) := Lib.hid (natsOf_strN h8)
      have HSZ : Hid ((strN f.all).size ≤ 2097152) := Lib.hid (by rw [size_strN]; omega)
      clear hf hI hLi h8
      obtain ⟨r0, r1, r2, r3, r4, f0, f1, f2, f3, f4⟩ := X2f.out
      obtain ⟨z0, z1, z2, z3, z4, g0, g1, g2, g3, g4⟩ := Z2f.out
      obtain ⟨y0, y1, y2, y3, e0, e1, e2, e3⟩ := Y2f.out
      obtain ⟨n0, n1, n2, n3, _, _, _, _⟩ := N2f.out
      have hlx := X2f.out.lt
      have hlz := Z2f.out.lt
      have hly := Y2f.out.lt
      have hln := N2f.out.lt
      go_wp2_with (refine wpList_to_bytes rfl 9 22 5 _ rfl Tryz.underlying9 Tryz.underlying22 Tryz.underlying5 _ rfl HSZ.out ?_; intro bv w5 hB5 hb5 hob5; rw [HTB.out] at hB5; obtain ⟨ab, cb, rfl, _⟩ := hB5.shape; have HB5 := Lib.hid hB5; have HB45 := Lib.hid hb5; clear hB5 hb5 hob5)
      have X5 := Lib.hid (X2f.out.below HB45.out)
      have Z5 := Lib.hid (Z2f.out.below HB45.out)
      have Y5 := Lib.hid (Y2f.out.below HB45.out)
      have N5 := Lib.hid (N2f.out.below HB45.out)
      have B5 : Hid (Below w.heap.size w w5) := Lib.hid (B2f.out.trans (HB45.out.mono B2f.out.size))
      have S5 := Lib.hid (S2f.out.below HB45.out)
      clear k0 k1 k2 hbl
      clear r0 r1 r2 r3 r4 f0 f1 f2 f3 f4 z0 z1 z2 z3 z4 g0 g1 g2 g3 g4 y0 y1 y2 y3 e0 e1 e2 e3 n0 n1 n2 n3 hlx hlz hly hln
      cases hrb : readB 6 f.all
      · have HRB := Lib.hid hrb
        refine (rread_any _ f.all w5 HB5.out).mono ?_
        rintro e w6 ⟨v6, rfl, hs6, hb6⟩
        have hz := hs6
        rw [readS_no HRB.out] at hz
        obtain ⟨mv, dv, rfl, hm, hd⟩ := hs6
        obtain ⟨am, cm, rfl, _⟩ := hm.shape
        obtain ⟨ad, cd, rfl, _⟩ := hd.shape
        rw [HRB.out]
        have HVE : Hid (sopenE ⟨room, L, false, -1, steps⟩ = 20) := Lib.hid (by unfold sopenE; rw [HGO2.out, if_neg (by simp), HGO.out, if_neg (by rw [HFF.out]; simp), HGF.out, ← readB67, HRB.out]; rfl)
        have HVS : Hid (openS27 ⟨room, L, false, -1, steps⟩ = zeroS) := Lib.hid (by unfold openS27; rw [HVE.out]; exact if_neg (by decide))
        have X6 := Lib.hid (X5.out.below hb6)
        have Z6 := Lib.hid (Z5.out.below hb6)
        have Y6 := Lib.hid (Y5.out.below hb6)
        have N6 := Lib.hid (N5.out.below hb6)
        have B6 : Hid (Below w.heap.size w w6) := Lib.hid (B5.out.trans (hb6.mono B5.out.size))
        have S6 := Lib.hid (S5.out.below hb6)
        clear hb6 hm hd hz hrb
        obtain ⟨r0, r1, r2, r3, r4, f0, f1, f2, f3, f4⟩ := X6.out
        obtain ⟨z0, z1, z2, z3, z4, g0, g1, g2, g3, g4⟩ := Z6.out
        obtain ⟨y0, y1, y2, y3, e0, e1, e2, e3⟩ := Y6.out
        obtain ⟨n0, n1, n2, n3, _, _, _, _⟩ := N6.out
        have hlx := X6.out.lt
        have hlz := Z6.out.lt
        have hly := Y6.out.lt
        have hln := N6.out.lt
        go_wp2_with fail
        have AL : Below w6.heap.size w6 (w6.alloc (.cells #[.int .u64 (readS 6 f.all).i, .int .u64 (readS 6 f.all).t, .slice am (readS 6 f.all).ms.length cm, .slice ad (readS 6 f.all).d.length cd] 40)) := (Below.refl _ _).alloc (Nat.le_refl _) _
        have X7 := Lib.hid (X6.out.below AL)
        have Z7 := Lib.hid (Z6.out.below AL)
        have Y7 := Lib.hid (Y6.out.below AL)
        have N7 := Lib.hid (N6.out.below AL)
        have B7 : Hid (Below w.heap.size w (w6.alloc (.cells #[.int .u64 (readS 6 f.all).i, .int .u64 (readS 6 f.all).t, .slice am (readS 6 f.all).ms.length cm, .slice ad (readS 6 f.all).d.length cd] 40))) := Lib.hid (B6.out.trans (AL.mono B6.out.size))
        have S7 := Lib.hid (S6.out.below AL)
        clear AL
        clear r0 r1 r2 r3 r4 f0 f1 f2 f3 f4 z0 z1 z2 z3 z4 g0 g1 g2 g3 g4 y0 y1 y2 y3 e0 e1 e2 e3 n0 n1 n2 n3 hlx hlz hly hln
        generalize World.alloc w6 _ = w7 at *
        obtain ⟨r0, r1, r2, r3, r4, f0, f1, f2, f3, f4⟩ := X7.out
        obtain ⟨z0, z1, z2, z3, z4, g0, g1, g2, g3, g4⟩ := Z7.out
        obtain ⟨y0, y1, y2, y3, e0, e1, e2, e3⟩ := Y7.out
        obtain ⟨n0, n1, n2, n3, _, _, _, _⟩ := N7.out
        have hlx := X7.out.lt
        have hlz := Z7.out.lt
        have hly := Y7.out.lt
        have hln := N7.out.lt
        have HBN : Hid (w.heap.size + 1 < (w.heap.size + 1 + 1 + 1)) := Lib.hid (by omega)
        have J1 : Hid (RD (set5D w7 (w.heap.size + 1) D1 (.slice (some ⟨b, o, none⟩) n c)) w.heap.size D1 (.slice (some ⟨b, o, none⟩) n c) ∧ SBlk (set5D w7 (w.heap.size + 1) D1 (.slice (some ⟨b, o, none⟩) n c)) (w.heap.size + 1 + 1 + 1) 0 0 (.slice none 0 0) (.slice none 0 0)) := Lib.hid ⟨X7.out.kept (Kept.set5D w7 (w.heap.size + 1) D1 (.slice (some ⟨b, o, none⟩) n c)) (by omega), N7.out.kept (Kept.set5D w7 (w.heap.size + 1) D1 (.slice (some ⟨b, o, none⟩) n c)) (by have := HBN.out; omega)⟩
        have J2 : Hid (RD (set5D w7 (w.heap.size + 1) D1 (.slice (some ⟨b, o, none⟩) n c)).drew w.heap.size D1 (.slice (some ⟨b, o, none⟩) n c) ∧ SBlk (set5D w7 (w.heap.size + 1) D1 (.slice (some ⟨b, o, none⟩) n c)).drew (w.heap.size + 1 + 1 + 1) 0 0 (.slice none 0 0) (.slice none 0 0)) := Lib.hid ⟨J1.out.1.below ((Below.refl _ _).drew), J1.out.2.below ((Below.refl _ _).drew)⟩
        unfold set5D at J1 J2
        refine region_start [0, 0, 1, 7, 15] 4 (fun w' => RD w' w.heap.size D1 (.slice (some ⟨b, o, none⟩) n c) ∧ SBlk w' (w.heap.size + 1 + 1 + 1) 0 0 (.slice none 0 0) (.slice none 0 0)) (by kernel_rfl) ?_
        refine stage_heads [0, 1] (by kernel_rfl) (L := #[true, true, false, false, false]) (by kernel_rfl) (f' := 3) rfl (fun _ _ _ _ h => h) (fun w o h => ⟨h.1.below ((Below.refl _ _).alloc (Nat.le_refl _) o), h.2.below ((Below.refl _ _).alloc (Nat.le_refl _) o)⟩) (.inr (by first | exact ⟨X7.out.below ((Below.refl _ _).drew), N7.out.below ((Below.refl _ _).drew)⟩ | exact ⟨X7.out, N7.out⟩)) ?_
        simp only [List.flatMap_cons, List.flatMap_nil, List.drop_succ_cons, List.drop_zero, List.take_succ_cons, List.take_zero, List.cons_append, List.nil_append, List.append_nil]
        iterate 2 (first | (refine heads_load _ (by rfl) (fun w' hs => by obtain ⟨⟨r0, r1, r2, r3, r4, _⟩, b0, b1, b2, b3, _⟩ := hs; go_simp; try with_reducible rfl) rfl ?_; simp only [Act.put, List.setIfInBounds_toArray, List.set_cons_zero, List.set_cons_succ]) | (refine heads_pure _ (by rfl) (fun w' => by go_simp; try with_reducible rfl) ?_; simp only [Act.put, List.setIfInBounds_toArray, List.set_cons_zero, List.set_cons_succ]))
        refine heads_nil ?_
        refine stage_op 2 (by kernel_rfl) (L := #[true, true, true, false, false]) (by kernel_rfl) ?_
        simp only [List.drop_succ_cons, List.drop_zero, List.take_succ_cons, List.take_zero]
        go_wp2_with fail
        refine step_post (fun _ => (by first | exact J2.out | exact J1.out)) ?_
        refine stage_op 3 (by kernel_rfl) (L := #[true, true, true, true, false]) (by kernel_rfl) ?_
        simp only [List.drop_succ_cons, List.drop_zero, List.take_succ_cons, List.take_zero]
        go_wp2_with fail
        refine step_post nofun ?_
        refine stage_heads [4] (by kernel_rfl) (L := #[true, true, true, true, true]) (by kernel_rfl) (f' := 0) rfl (fun _ _ _ _ h => h) (fun w o h => ⟨h.1.below ((Below.refl _ _).alloc (Nat.le_refl _) o), h.2.below ((Below.refl _ _).alloc (Nat.le_refl _) o)⟩) (.inl (by kernel_rfl)) ?_
        simp only [List.flatMap_cons, List.flatMap_nil, List.drop_succ_cons, List.drop_zero, List.take_succ_cons, List.take_zero, List.append_nil]
        iterate 1 (refine heads_pure _ (by rfl) (fun w' => by go_simp; try with_reducible rfl) ?_; simp only [Act.put, List.setIfInBounds_toArray, List.set_cons_zero, List.set_cons_succ])
        refine heads_nil ?_
        refine stage_done (by kernel_rfl) ?_
        generalize hwz : World.drew _ = wz
        have W1 : wz = ((((((((((w7.setCell ⟨w.heap.size + 1, 0, none⟩ (.int .i64 D1.room)).setCell ⟨w.heap.size + 1, 1, none⟩ (.slice (some ⟨b, o, none⟩) n c)).setCell ⟨w.heap.size + 1, 2, none⟩ (.bool D1.down)).setCell ⟨w.heap.size + 1, 3, none⟩ (.int .i64 D1.armed)).setCell ⟨w.heap.size + 1, 4, none⟩ (.int .u64 D1.steps))).setCell ⟨w.heap.size + 1 + 1, 0, none⟩ (.int .u64 0)).setCell ⟨w.heap.size + 1 + 1, 1, none⟩ (.int .u64 0)).setCell ⟨w.heap.size + 1 + 1, 2, none⟩ (.slice none 0 0)).setCell ⟨w.heap.size + 1 + 1, 3, none⟩ (.slice none 0 0)).drew := hwz.symm
        have KS := Kept.set5D w7 (w.heap.size + 1) D1 (.slice (some ⟨b, o, none⟩) n c)
        have RFF := (Z7.out.set D1 (.slice (some ⟨b, o, none⟩) n c))
        have YS := Y7.out.kept KS (by omega)
        have SS := S7.out.setD Z7.out (fun s e => by cases e) D1 (.slice (some ⟨b, o, none⟩) n c)
        have K4 := Kept.set4 (set5D w7 (w.heap.size + 1) D1 (.slice (some ⟨b, o, none⟩) n c)) (w.heap.size + 1 + 1) 0 0 (.slice none 0 0) (.slice none 0 0)
        have RFG0 := (RFF.kept K4 (by omega)).below ((Below.refl _ _).drew)
        have RFY0 := (YS.set4 0 0 (.slice none 0 0) (.slice none 0 0)).below ((Below.refl _ _).drew)
        have SF0 := (SS.setSn (p := none) (q := none) YS 0 0 (.slice none 0 0) (.slice none 0 0)).below ((Below.refl _ _).drew)
        have BF0 := B7.out.trans (KS.below B7.out.size (fun k hk => by omega))
        have BF1 := (BF0.trans (K4.below BF0.size (fun k hk => by omega))).drew
        have KF0 : Kept w7 _ (fun k => k = w.heap.size + 1 ∨ k = w.heap.size + 1 + 1) := ((KS.mono (fun _ _ h => .inl h)).trans (K4.mono (fun _ _ h => .inr h))).trans (Kept.drew _ _)
        unfold set5D at RFG0 RFY0 SF0 BF1 KF0
        rw [← W1] at RFG0 RFY0 SF0 BF1 KF0
        have RFG := Lib.hid RFG0
        have RFY := Lib.hid RFY0
        have SF := Lib.hid SF0
        have BF := Lib.hid BF1
        have KF := Lib.hid KF0
        clear KS RFF YS SS K4 RFG0 RFY0 SF0 BF0 BF1 KF0 W1 hwz
        clear r0 r1 r2 r3 r4 f0 f1 f2 f3 f4 z0 z1 z2 z3 z4 g0 g1 g2 g3 g4 y0 y1 y2 y3 e0 e1 e2 e3 n0 n1 n2 n3 hlx hlz hly hln
        obtain ⟨q0, q1, q2, q3, q4, _⟩ := RFG.out
        obtain ⟨u0, u1, u2, u3, _⟩ := RFY.out
        go_wp2_with fail
        refine bodyPost_ret (v := .tuple #[.agg #[.int .i64 D1.room, .slice (some ⟨b, o, none⟩) n c, .bool D1.down, .int .i64 D1.armed, .int .u64 D1.steps], .agg #[.int .u64 0, .int .u64 0, (.slice none 0 0), (.slice none 0 0)], .int .i64 20]) (by simp [results, Tryz.results13, go_sem, q0, q1, q2, q3, q4, u0, u1, u2, u3]) rfl ?_
        unfold ROpen27
        rw [HGO.out, HVE.out, HVS.out]
        exact ⟨_, _, _, _, _, rfl, RIs.new HN2.out SF.out, zero_is _, BF.out, FOW.out, _, _, _, _, rfl, nofun, nofun⟩
      · have HRB := Lib.hid hrb
        refine (rread_new _ f.all w5 HB5.out hrb).mono ?_
        rintro e w6 ⟨v6, rfl, hs6, hb6, hn6⟩
        have HSS : Hid (readS 6 f.all = sopenS ⟨room, L, false, -1, steps⟩) := Lib.hid (by unfold sopenS; rw [HGO.out, if_neg (by rw [HFF.out]; simp), HGF.out, readS67])
        rw [HSS.out] at hs6
        obtain ⟨mv, dv, rfl, hm, hd⟩ := hs6
        obtain ⟨_, _, _, _, he6, hn1, hn2⟩ := hn6
        simp only [Value.agg.injEq, Array.mk.injEq, List.cons.injEq, and_true] at he6
        obtain ⟨rfl, rfl, rfl, rfl⟩ := he6
        have HVE : Hid (sopenE ⟨room, L, false, -1, steps⟩ = 0) := Lib.hid (by unfold sopenE; rw [HGO2.out, if_neg (by simp), HGO.out, if_neg (by rw [HFF.out]; simp), HGF.out, ← readB67, HRB.out]; rfl)
        have HVS : Hid (openS27 ⟨room, L, false, -1, steps⟩ = sopenS ⟨room, L, false, -1, steps⟩) := Lib.hid (by unfold openS27; rw [HVE.out]; exact if_pos rfl)
        generalize sopenS ⟨room, L, false, -1, steps⟩ = ss at *
        obtain ⟨am, cm, rfl, _⟩ := hm.shape
        obtain ⟨ad, cd, rfl, _⟩ := hd.shape
        rw [HRB.out]
        have X6 := Lib.hid (X5.out.below hb6)
        have Z6 := Lib.hid (Z5.out.below hb6)
        have Y6 := Lib.hid (Y5.out.below hb6)
        have N6 := Lib.hid (N5.out.below hb6)
        have B6 : Hid (Below w.heap.size w w6) := Lib.hid (B5.out.trans (hb6.mono B5.out.size))
        have S6 := Lib.hid (S5.out.below hb6)
        have HM6 := Lib.hid hm
        have HD6 := Lib.hid hd
        have HNM := Lib.hid hn1
        have HND := Lib.hid hn2
        have L56 : Hid (w.heap.size + 1 + 1 + 1 < w5.heap.size) := Lib.hid N5.out.lt
        clear hb6 hm hd hn1 hn2 hrb
        obtain ⟨r0, r1, r2, r3, r4, f0, f1, f2, f3, f4⟩ := X6.out
        obtain ⟨z0, z1, z2, z3, z4, g0, g1, g2, g3, g4⟩ := Z6.out
        obtain ⟨y0, y1, y2, y3, e0, e1, e2, e3⟩ := Y6.out
        obtain ⟨n0, n1, n2, n3, _, _, _, _⟩ := N6.out
        have hlx := X6.out.lt
        have hlz := Z6.out.lt
        have hly := Y6.out.lt
        have hln := N6.out.lt
        go_wp2_with fail
        have AL : Below w6.heap.size w6 (w6.alloc (.cells #[.int .u64 ss.i, .int .u64 ss.t, .slice am ss.ms.length cm, .slice ad ss.d.length cd] 40)) := (Below.refl _ _).alloc (Nat.le_refl _) _
        have T7 : Hid (SBlk (w6.alloc (.cells #[.int .u64 ss.i, .int .u64 ss.t, .slice am ss.ms.length cm, .slice ad ss.d.length cd] 40)) w6.heap.size ss.i ss.t (.slice am ss.ms.length cm) (.slice ad ss.d.length cd)) := Lib.hid ⟨by go_cell, by go_cell, by go_cell, by go_cell, by simp, by simp, by simp, by simp⟩
        have X7 := Lib.hid (X6.out.below AL)
        have Z7 := Lib.hid (Z6.out.below AL)
        have Y7 := Lib.hid (Y6.out.below AL)
        have N7 := Lib.hid (N6.out.below AL)
        have B7 : Hid (Below w.heap.size w (w6.alloc (.cells #[.int .u64 ss.i, .int .u64 ss.t, .slice am ss.ms.length cm, .slice ad ss.d.length cd] 40))) := Lib.hid (B6.out.trans (AL.mono B6.out.size))
        have S7 := Lib.hid (S6.out.below AL)
        have HM7 := Lib.hid (HM6.out.below AL)
        have HD7 := Lib.hid (HD6.out.below AL)
        clear AL
        clear r0 r1 r2 r3 r4 f0 f1 f2 f3 f4 z0 z1 z2 z3 z4 g0 g1 g2 g3 g4 y0 y1 y2 y3 e0 e1 e2 e3 n0 n1 n2 n3 hlx hlz hly hln
        have hbs : w.heap.size + 1 + 1 + 1 < w6.heap.size := N6.out.lt
        generalize World.alloc w6 _ = w7 at *
        generalize w6.heap.size = bs at *
        obtain ⟨r0, r1, r2, r3, r4, f0, f1, f2, f3, f4⟩ := X7.out
        obtain ⟨z0, z1, z2, z3, z4, g0, g1, g2, g3, g4⟩ := Z7.out
        obtain ⟨y0, y1, y2, y3, e0, e1, e2, e3⟩ := Y7.out
        obtain ⟨n0, n1, n2, n3, _, _, _, _⟩ := N7.out
        have hlx := X7.out.lt
        have hlz := Z7.out.lt
        have hly := Y7.out.lt
        have hln := N7.out.lt
        have HBN : Hid (w.heap.size + 1 < bs) := Lib.hid (by omega)
        have J1 : Hid (RD (set5D w7 (w.heap.size + 1) D1 (.slice (some ⟨b, o, none⟩) n c)) w.heap.size D1 (.slice (some ⟨b, o, none⟩) n c) ∧ SBlk (set5D w7 (w.heap.size + 1) D1 (.slice (some ⟨b, o, none⟩) n c)) bs ss.i ss.t (.slice am ss.ms.length cm) (.slice ad ss.d.length cd)) := Lib.hid ⟨X7.out.kept (Kept.set5D w7 (w.heap.size + 1) D1 (.slice (some ⟨b, o, none⟩) n c)) (by omega), T7.out.kept (Kept.set5D w7 (w.heap.size + 1) D1 (.slice (some ⟨b, o, none⟩) n c)) (by have := HBN.out; omega)⟩
        have J2 : Hid (RD (set5D w7 (w.heap.size + 1) D1 (.slice (some ⟨b, o, none⟩) n c)).drew w.heap.size D1 (.slice (some ⟨b, o, none⟩) n c) ∧ SBlk (set5D w7 (w.heap.size + 1) D1 (.slice (some ⟨b, o, none⟩) n c)).drew bs ss.i ss.t (.slice am ss.ms.length cm) (.slice ad ss.d.length cd)) := Lib.hid ⟨J1.out.1.below ((Below.refl _ _).drew), J1.out.2.below ((Below.refl _ _).drew)⟩
        unfold set5D at J1 J2
        refine region_start [0, 0, 1, 7, 15] 4 (fun w' => RD w' w.heap.size D1 (.slice (some ⟨b, o, none⟩) n c) ∧ SBlk w' bs ss.i ss.t (.slice am ss.ms.length cm) (.slice ad ss.d.length cd)) (by kernel_rfl) ?_
        refine stage_heads [0, 1] (by kernel_rfl) (L := #[true, true, false, false, false]) (by kernel_rfl) (f' := 3) rfl (fun _ _ _ _ h => h) (fun w o h => ⟨h.1.below ((Below.refl _ _).alloc (Nat.le_refl _) o), h.2.below ((Below.refl _ _).alloc (Nat.le_refl _) o)⟩) (.inr (by first | exact ⟨X7.out.below ((Below.refl _ _).drew), T7.out.below ((Below.refl _ _).drew)⟩ | exact ⟨X7.out, T7.out⟩)) ?_
        simp only [List.flatMap_cons, List.flatMap_nil, List.drop_succ_cons, List.drop_zero, List.take_succ_cons, List.take_zero, List.cons_append, List.nil_append, List.append_nil]
        iterate 2 (first | (refine heads_load _ (by rfl) (fun w' hs => by obtain ⟨⟨r0, r1, r2, r3, r4, _⟩, b0, b1, b2, b3, _⟩ := hs; go_simp; try with_reducible rfl) rfl ?_; simp only [Act.put, List.setIfInBounds_toArray, List.set_cons_zero, List.set_cons_succ]) | (refine heads_pure _ (by rfl) (fun w' => by go_simp; try with_reducible rfl) ?_; simp only [Act.put, List.setIfInBounds_toArray, List.set_cons_zero, List.set_cons_succ]))
        refine heads_nil ?_
        refine stage_op 2 (by kernel_rfl) (L := #[true, true, true, false, false]) (by kernel_rfl) ?_
        simp only [List.drop_succ_cons, List.drop_zero, List.take_succ_cons, List.take_zero]
        go_wp2_with fail
        refine step_post (fun _ => (by first | exact J2.out | exact J1.out)) ?_
        refine stage_op 3 (by kernel_rfl) (L := #[true, true, true, true, false]) (by kernel_rfl) ?_
        simp only [List.drop_succ_cons, List.drop_zero, List.take_succ_cons, List.take_zero]
        go_wp2_with fail
        refine step_post nofun ?_
        refine stage_heads [4] (by kernel_rfl) (L := #[true, true, true, true, true]) (by kernel_rfl) (f' := 0) rfl (fun _ _ _ _ h => h) (fun w o h => ⟨h.1.below ((Below.refl _ _).alloc (Nat.le_refl _) o), h.2.below ((Below.refl _ _).alloc (Nat.le_refl _) o)⟩) (.inl (by kernel_rfl)) ?_
        simp only [List.flatMap_cons, List.flatMap_nil, List.drop_succ_cons, List.drop_zero, List.take_succ_cons, List.take_zero, List.append_nil]
        iterate 1 (refine heads_pure _ (by rfl) (fun w' => by go_simp; try with_reducible rfl) ?_; simp only [Act.put, List.setIfInBounds_toArray, List.set_cons_zero, List.set_cons_succ])
        refine heads_nil ?_
        refine stage_done (by kernel_rfl) ?_
        generalize hwz : World.drew _ = wz
        have W1 : wz = ((((((((((w7.setCell ⟨w.heap.size + 1, 0, none⟩ (.int .i64 D1.room)).setCell ⟨w.heap.size + 1, 1, none⟩ (.slice (some ⟨b, o, none⟩) n c)).setCell ⟨w.heap.size + 1, 2, none⟩ (.bool D1.down)).setCell ⟨w.heap.size + 1, 3, none⟩ (.int .i64 D1.armed)).setCell ⟨w.heap.size + 1, 4, none⟩ (.int .u64 D1.steps))).setCell ⟨w.heap.size + 1 + 1, 0, none⟩ (.int .u64 ss.i)).setCell ⟨w.heap.size + 1 + 1, 1, none⟩ (.int .u64 ss.t)).setCell ⟨w.heap.size + 1 + 1, 2, none⟩ (.slice am ss.ms.length cm)).setCell ⟨w.heap.size + 1 + 1, 3, none⟩ (.slice ad ss.d.length cd)).drew := hwz.symm
        have KS := Kept.set5D w7 (w.heap.size + 1) D1 (.slice (some ⟨b, o, none⟩) n c)
        have RFF := (Z7.out.set D1 (.slice (some ⟨b, o, none⟩) n c))
        have YS := Y7.out.kept KS (by omega)
        have SS := S7.out.setD Z7.out (fun s e => by cases e) D1 (.slice (some ⟨b, o, none⟩) n c)
        have K4 := Kept.set4 (set5D w7 (w.heap.size + 1) D1 (.slice (some ⟨b, o, none⟩) n c)) (w.heap.size + 1 + 1) ss.i ss.t (.slice am ss.ms.length cm) (.slice ad ss.d.length cd)
        have RFG0 := (RFF.kept K4 (by omega)).below ((Below.refl _ _).drew)
        have RFY0 := (YS.set4 ss.i ss.t (.slice am ss.ms.length cm) (.slice ad ss.d.length cd)).below ((Below.refl _ _).drew)
        have SF0 := (SS.setSn (p := none) (q := none) YS ss.i ss.t (.slice am ss.ms.length cm) (.slice ad ss.d.length cd)).below ((Below.refl _ _).drew)
        have BF0 := B7.out.trans (KS.below B7.out.size (fun k hk => by omega))
        have BF1 := (BF0.trans (K4.below BF0.size (fun k hk => by omega))).drew
        have KF0 : Kept w7 _ (fun k => k = w.heap.size + 1 ∨ k = w.heap.size + 1 + 1) := ((KS.mono (fun _ _ h => .inl h)).trans (K4.mono (fun _ _ h => .inr h))).trans (Kept.drew _ _)
        unfold set5D at RFG0 RFY0 SF0 BF1 KF0
        rw [← W1] at RFG0 RFY0 SF0 BF1 KF0
        have RFG := Lib.hid RFG0
        have RFY := Lib.hid RFY0
        have SF := Lib.hid SF0
        have BF := Lib.hid BF1
        have KF := Lib.hid KF0
        clear KS RFF YS SS K4 RFG0 RFY0 SF0 BF0 BF1 KF0 W1 hwz
        clear r0 r1 r2 r3 r4 f0 f1 f2 f3 f4 z0 z1 z2 z3 z4 g0 g1 g2 g3 g4 y0 y1 y2 y3 e0 e1 e2 e3 n0 n1 n2 n3 hlx hlz hly hln
        obtain ⟨q0, q1, q2, q3, q4, _⟩ := RFG.out
        obtain ⟨u0, u1, u2, u3, _⟩ := RFY.out
        go_wp2_with fail
        refine bodyPost_ret (v := .tuple #[.agg #[.int .i64 D1.room, .slice (some ⟨b, o, none⟩) n c, .bool D1.down, .int .i64 D1.armed, .int .u64 D1.steps], .agg #[.int .u64 ss.i, .int .u64 ss.t, (.slice am ss.ms.length cm), (.slice ad ss.d.length cd)], .int .i64 0]) (by simp [results, Tryz.results13, go_sem, q0, q1, q2, q3, q4, u0, u1, u2, u3]) rfl ?_
        unfold ROpen27
        rw [HGO.out, HVE.out, HVS.out]
        exact ⟨_, _, _, _, _, rfl, RIs.new HN2.out SF.out, ⟨_, _, rfl, HM7.out.kept KF.out (fun g hg h => by have h1 := HNM.out g hg; have h2 := L56.out; omega), HD7.out.kept KF.out (fun g hg h => by have h1 := HND.out g hg; have h2 := L56.out; omega)⟩, BF.out, FOW.out, _, _, _, _, rfl, fun g hg => by have h1 := HNM.out g hg; have h2 := L56.out; omega, fun g hg => by have h1 := HND.out g hg; have h2 := L56.out; omega⟩
  | some f0 =>
    have X2 := Lib.hid (X1.out.below hb2)
    have Z2 := Lib.hid (Z1.out.below hb2)
    have Y2 := Lib.hid (Y1.out.below hb2)
    have N2 := Lib.hid (N1.out.below hb2)
    have B2 : Hid (Below w.heap.size w w2) := Lib.hid (B1.out.trans (hb2.mono B1.out.size))
    obtain ⟨i0, hI, hLi⟩ := findI_some hf
    rw [hI]
    have hi0 : ¬ (i0 : Int) < 0 := by omega
    have HGO0 : goneD ⟨room, L, false, -1, steps⟩ = removeD ⟨room, L, false, -1, steps⟩ nOther := by
      unfold goneD
      rw [if_neg]
      unfold removeD
      rw [show findFile nOther (⟨room, L, false, -1, steps⟩ : DiskS).files = some f0 from hf]
      simp only
      rw [if_neg (by simp), if_neg (by decide)]
      simp
    clear hf hI hLi hb2 X1 Z1 Y1 N1 B1
    obtain ⟨r0, r1, r2, r3, r4, f0, f1, f2, f3, f4⟩ := X2.out
    obtain ⟨z0, z1, z2, z3, z4, g0, g1, g2, g3, g4⟩ := Z2.out
    obtain ⟨y0, y1, y2, y3, e0, e1, e2, e3⟩ := Y2.out
    obtain ⟨n0, n1, n2, n3, _, _, _, _⟩ := N2.out
    have hlx := X2.out.lt
    have hlz := Z2.out.lt
    have hly := Y2.out.lt
    have hln := N2.out.lt
    go_wp2_with fail
    clear r0 r1 r2 r3 r4 f0 f1 f2 f3 f4 z0 z1 z2 z3 z4 g0 g1 g2 g3 g4 y0 y1 y2 y3 e0 e1 e2 e3 n0 n1 n2 n3 hlx hlz hly hln
    refine (rremove_new _ ⟨room, L, false, -1, steps⟩ nOther w2 (RIs.new (D := ⟨room, L, false, -1, steps⟩) HN.out (HR.out.below B2.out)) HG.out).mono ?_
    rintro e w3 ⟨v3, rfl, hr3, hb3, hf3⟩
    have GC := gone27_calm (D := ⟨room, L, false, -1, steps⟩) ⟨rfl, rfl⟩
    have GG := goneD_good HG.out (by have := HS.out; simp only at this ⊢; omega)
    have GB : Byt8 (removeD ⟨room, L, false, -1, steps⟩ nOther).1.files := Byt8.remove (D := ⟨room, L, false, -1, steps⟩) HB8.out nOther
    rw [HGO0] at GC GG
    have HGX := Lib.hid HGO0
    obtain ⟨r, hr⟩ : ∃ r, removeD ⟨room, L, false, -1, steps⟩ nOther = r := ⟨_, rfl⟩
    have HGY := Lib.hid hr
    rw [hr] at hr3 GC GG GB ⊢
    obtain ⟨D1, e1⟩ := r
    obtain rfl : e1 = 0 := GC.1
    have G1 := Lib.hid GG.1
    have B81 := Lib.hid GB
    have HGO : Hid ((goneD ⟨room, L, false, -1, steps⟩).1 = D1) := Lib.hid (by rw [HGX.out, HGY.out])
    have HGO2 : Hid ((goneD ⟨room, L, false, -1, steps⟩).2 = 0) := Lib.hid (by rw [HGX.out, HGY.out])
    have X3 := Lib.hid (X2.out.below hb3)
    have Z3 := Lib.hid (Z2.out.below hb3)
    have Y3 := Lib.hid (Y2.out.below hb3)
    have N3 := Lib.hid (N2.out.below hb3)
    have B3 : Hid (Below w.heap.size w w3) := Lib.hid (B2.out.trans (hb3.mono B2.out.size))
    obtain ⟨a3, c3, rfl, hs3⟩ := hr3
    obtain ⟨m3, hm3⟩ : ∃ k, D1.files.length = k := ⟨_, rfl⟩
    have HN3 := Lib.hid hm3
    have S3 := Lib.hid hs3
    have FOW : Hid (∀ g, fsOwn (.agg #[.int .i64 D1.room, .slice a3 m3 c3, .bool D1.down, .int .i64 D1.armed, .int .u64 D1.steps]) = some g → fsOwn (.agg #[.int .i64 room, .slice a n c, .bool false, .int .i64 (-1), .int .u64 steps]) = some g ∨ w.heap.size ≤ g) := Lib.hid (fun g hg => by
      simp only at hf3
      rw [hm3] at hf3
      exact (hf3 g hg).imp id (fun h => Nat.le_trans B2.out.size h))
    simp only at S3 ⊢
    rw [hm3] at S3 ⊢
    clear hr hs3 hm3 hb3 hf3 GC GG GB HGO0
    obtain ⟨r0, r1, r2, r3, r4, f0, f1, f2, f3, f4⟩ := X3.out
    obtain ⟨z0, z1, z2, z3, z4, g0, g1, g2, g3, g4⟩ := Z3.out
    obtain ⟨y0, y1, y2, y3, e0, e1, e2, e3⟩ := Y3.out
    obtain ⟨n0, n1, n2, n3, _, _, _, _⟩ := N3.out
    have hlx := X3.out.lt
    have hlz := Z3.out.lt
    have hly := Y3.out.lt
    have hln := N3.out.lt
    have KS := Kept.set5D w3 w.heap.size D1 (.slice a3 m3 c3)
    have AL : Below (set5D w3 w.heap.size D1 (.slice a3 m3 c3)).heap.size (set5D w3 w.heap.size D1 (.slice a3 m3 c3)) ((set5D w3 w.heap.size D1 (.slice a3 m3 c3)).alloc (.cells #[.int .i64 D1.room, .slice a3 m3 c3, .bool D1.down, .int .i64 D1.armed, .int .u64 D1.steps] 29)) := (Below.refl _ _).alloc (Nat.le_refl _) _
    have S4a := (S3.out.setD X3.out (fun s e => by cases e) D1 (.slice a3 m3 c3)).below AL
    have X4a := (X3.out.set D1 (.slice a3 m3 c3)).below AL
    have Z4a := (Z3.out.kept KS (by omega)).below AL
    have Y4a := (Y3.out.kept KS (by omega)).below AL
    have N4a := (N3.out.kept KS (by omega)).below AL
    have B4b := B3.out.trans (KS.below B3.out.size (fun k hk => by omega))
    have B4a := B4b.trans (AL.mono B4b.size)
    unfold set5D at S4a X4a Z4a Y4a N4a B4a
    have S4 := Lib.hid S4a
    have X4 := Lib.hid X4a
    have Z4 := Lib.hid Z4a
    have Y4 := Lib.hid Y4a
    have N4 := Lib.hid N4a
    have B4 := Lib.hid B4a
    clear AL KS S4a X4a Z4a Y4a N4a B4a B4b
    go_wp2_with fail
    generalize World.alloc (World.setCell _ _ _) _ = w4 at *
    clear r0 r1 r2 r3 r4 f0 f1 f2 f3 f4 z0 z1 z2 z3 z4 g0 g1 g2 g3 g4 y0 y1 y2 y3 e0 e1 e2 e3 n0 n1 n2 n3 hlx hlz hly hln
    have HF1 : Hid (D1.files.length ≤ 1000) := Lib.hid (by have h := G1.out.few; omega)
    refine (rfind_any _ D1 nSnap w4 (RIs.new HN3.out S4.out) HF1.out).mono ?_
    rintro e w4f ⟨rfl, hb4f⟩
    have X4f := Lib.hid (X4.out.below hb4f)
    have Z4f := Lib.hid (Z4.out.below hb4f)
    have Y4f := Lib.hid (Y4.out.below hb4f)
    have N4f := Lib.hid (N4.out.below hb4f)
    have B4f : Hid (Below w.heap.size w w4f) := Lib.hid (B4.out.trans (hb4f.mono B4.out.size))
    have S4f := Lib.hid (S4.out.below hb4f)
    clear hb4f
    clear X4 Z4 Y4 N4 B4 S4
    cases hf : findFile nSnap D1.files with
    | none =>
      have hI : findI nSnap D1.files = -1 := findI_none.2 hf
      have HVE : Hid (sopenE ⟨room, L, false, -1, steps⟩ = 0) := Lib.hid (by unfold sopenE; rw [HGO2.out, if_neg (by simp), HGO.out, if_pos hf])
      have HVS : Hid (openS27 ⟨room, L, false, -1, steps⟩ = zeroS) := Lib.hid (by unfold openS27; rw [HVE.out, if_pos rfl]; unfold sopenS; rw [HGO.out, if_pos hf])
      rw [hI]
      clear hf hI
      obtain ⟨r0, r1, r2, r3, r4, f0, f1, f2, f3, f4⟩ := X4f.out
      obtain ⟨z0, z1, z2, z3, z4, g0, g1, g2, g3, g4⟩ := Z4f.out
      obtain ⟨y0, y1, y2, y3, e0, e1, e2, e3⟩ := Y4f.out
      obtain ⟨n0, n1, n2, n3, _, _, _, _⟩ := N4f.out
      have hlx := X4f.out.lt
      have hlz := Z4f.out.lt
      have hly := Y4f.out.lt
      have hln := N4f.out.lt
      have HBN : Hid (w.heap.size + 1 < (w.heap.size + 1 + 1 + 1)) := Lib.hid (by omega)
      have J1 : Hid (RD (set5D w4f (w.heap.size + 1) D1 (.slice a3 m3 c3)) w.heap.size D1 (.slice a3 m3 c3) ∧ SBlk (set5D w4f (w.heap.size + 1) D1 (.slice a3 m3 c3)) (w.heap.size + 1 + 1 + 1) 0 0 (.slice none 0 0) (.slice none 0 0)) := Lib.hid ⟨X4f.out.kept (Kept.set5D w4f (w.heap.size + 1) D1 (.slice a3 m3 c3)) (by omega), N4f.out.kept (Kept.set5D w4f (w.heap.size + 1) D1 (.slice a3 m3 c3)) (by have := HBN.out; omega)⟩
      have J2 : Hid (RD (set5D w4f (w.heap.size + 1) D1 (.slice a3 m3 c3)).drew w.heap.size D1 (.slice a3 m3 c3) ∧ SBlk (set5D w4f (w.heap.size + 1) D1 (.slice a3 m3 c3)).drew (w.heap.size + 1 + 1 + 1) 0 0 (.slice none 0 0) (.slice none 0 0)) := Lib.hid ⟨J1.out.1.below ((Below.refl _ _).drew), J1.out.2.below ((Below.refl _ _).drew)⟩
      unfold set5D at J1 J2
      go_wp2_with fail
      refine region_start [0, 0, 1, 7, 15] 4 (fun w' => RD w' w.heap.size D1 (.slice a3 m3 c3) ∧ SBlk w' (w.heap.size + 1 + 1 + 1) 0 0 (.slice none 0 0) (.slice none 0 0)) (by kernel_rfl) ?_
      refine stage_heads [0, 1] (by kernel_rfl) (L := #[true, true, false, false, false]) (by kernel_rfl) (f' := 3) rfl (fun _ _ _ _ h => h) (fun w o h => ⟨h.1.below ((Below.refl _ _).alloc (Nat.le_refl _) o), h.2.below ((Below.refl _ _).alloc (Nat.le_refl _) o)⟩) (.inr (by first | exact ⟨X4f.out.below ((Below.refl _ _).drew), N4f.out.below ((Below.refl _ _).drew)⟩ | exact ⟨X4f.out, N4f.out⟩)) ?_
      simp only [List.flatMap_cons, List.flatMap_nil, List.drop_succ_cons, List.drop_zero, List.take_succ_cons, List.take_zero, List.cons_append, List.nil_append, List.append_nil]
      iterate 2 (first | (refine heads_load _ (by rfl) (fun w' hs => by obtain ⟨⟨r0, r1, r2, r3, r4, _⟩, b0, b1, b2, b3, _⟩ := hs; go_simp; try with_reducible rfl) rfl ?_; simp only [Act.put, List.setIfInBounds_toArray, List.set_cons_zero, List.set_cons_succ]) | (refine heads_pure _ (by rfl) (fun w' => by go_simp; try with_reducible rfl) ?_; simp only [Act.put, List.setIfInBounds_toArray, List.set_cons_zero, List.set_cons_succ]))
      refine heads_nil ?_
      refine stage_op 2 (by kernel_rfl) (L := #[true, true, true, false, false]) (by kernel_rfl) ?_
      simp only [List.drop_succ_cons, List.drop_zero, List.take_succ_cons, List.take_zero]
      go_wp2_with fail
      refine step_post (fun _ => (by first | exact J2.out | exact J1.out)) ?_
      refine stage_op 3 (by kernel_rfl) (L := #[true, true, true, true, false]) (by kernel_rfl) ?_
      simp only [List.drop_succ_cons, List.drop_zero, List.take_succ_cons, List.take_zero]
      go_wp2_with fail
      refine step_post nofun ?_
      refine stage_heads [4] (by kernel_rfl) (L := #[true, true, true, true, true]) (by kernel_rfl) (f' := 0) rfl (fun _ _ _ _ h => h) (fun w o h => ⟨h.1.below ((Below.refl _ _).alloc (Nat.le_refl _) o), h.2.below ((Below.refl _ _).alloc (Nat.le_refl _) o)⟩) (.inl (by kernel_rfl)) ?_
      simp only [List.flatMap_cons, List.flatMap_nil, List.drop_succ_cons, List.drop_zero, List.take_succ_cons, List.take_zero, List.append_nil]
      iterate 1 (refine heads_pure _ (by rfl) (fun w' => by go_simp; try with_reducible rfl) ?_; simp only [Act.put, List.setIfInBounds_toArray, List.set_cons_zero, List.set_cons_succ])
      refine heads_nil ?_
      refine stage_done (by kernel_rfl) ?_
      generalize hwz : World.drew _ = wz
      have W1 : wz = ((((((((((w4f.setCell ⟨w.heap.size + 1, 0, none⟩ (.int .i64 D1.room)).setCell ⟨w.heap.size + 1, 1, none⟩ (.slice a3 m3 c3)).setCell ⟨w.heap.size + 1, 2, none⟩ (.bool D1.down)).setCell ⟨w.heap.size + 1, 3, none⟩ (.int .i64 D1.armed)).setCell ⟨w.heap.size + 1, 4, none⟩ (.int .u64 D1.steps))).setCell ⟨w.heap.size + 1 + 1, 0, none⟩ (.int .u64 0)).setCell ⟨w.heap.size + 1 + 1, 1, none⟩ (.int .u64 0)).setCell ⟨w.heap.size + 1 + 1, 2, none⟩ (.slice none 0 0)).setCell ⟨w.heap.size + 1 + 1, 3, none⟩ (.slice none 0 0)).drew := hwz.symm
      have KS := Kept.set5D w4f (w.heap.size + 1) D1 (.slice a3 m3 c3)
      have RFF := (Z4f.out.set D1 (.slice a3 m3 c3))
      have YS := Y4f.out.kept KS (by omega)
      have SS := S4f.out.setD Z4f.out (fun s e => by cases e) D1 (.slice a3 m3 c3)
      have K4 := Kept.set4 (set5D w4f (w.heap.size + 1) D1 (.slice a3 m3 c3)) (w.heap.size + 1 + 1) 0 0 (.slice none 0 0) (.slice none 0 0)
      have RFG0 := (RFF.kept K4 (by omega)).below ((Below.refl _ _).drew)
      have RFY0 := (YS.set4 0 0 (.slice none 0 0) (.slice none 0 0)).below ((Below.refl _ _).drew)
      have SF0 := (SS.setSn (p := none) (q := none) YS 0 0 (.slice none 0 0) (.slice none 0 0)).below ((Below.refl _ _).drew)
      have BF0 := B4f.out.trans (KS.below B4f.out.size (fun k hk => by omega))
      have BF1 := (BF0.trans (K4.below BF0.size (fun k hk => by omega))).drew
      have KF0 : Kept w4f _ (fun k => k = w.heap.size + 1 ∨ k = w.heap.size + 1 + 1) := ((KS.mono (fun _ _ h => .inl h)).trans (K4.mono (fun _ _ h => .inr h))).trans (Kept.drew _ _)
      unfold set5D at RFG0 RFY0 SF0 BF1 KF0
      rw [← W1] at RFG0 RFY0 SF0 BF1 KF0
      have RFG := Lib.hid RFG0
      have RFY := Lib.hid RFY0
      have SF := Lib.hid SF0
      have BF := Lib.hid BF1
      have KF := Lib.hid KF0
      clear KS RFF YS SS K4 RFG0 RFY0 SF0 BF0 BF1 KF0 W1 hwz
      clear r0 r1 r2 r3 r4 f0 f1 f2 f3 f4 z0 z1 z2 z3 z4 g0 g1 g2 g3 g4 y0 y1 y2 y3 e0 e1 e2 e3 n0 n1 n2 n3 hlx hlz hly hln
      obtain ⟨q0, q1, q2, q3, q4, _⟩ := RFG.out
      obtain ⟨u0, u1, u2, u3, _⟩ := RFY.out
      go_wp2_with fail
      refine bodyPost_ret (v := .tuple #[.agg #[.int .i64 D1.room, .slice a3 m3 c3, .bool D1.down, .int .i64 D1.armed, .int .u64 D1.steps], .agg #[.int .u64 0, .int .u64 0, (.slice none 0 0), (.slice none 0 0)], .int .i64 0]) (by simp [results, Tryz.results13, go_sem, q0, q1, q2, q3, q4, u0, u1, u2, u3]) rfl ?_
      unfold ROpen27
      rw [HGO.out, HVE.out, HVS.out]
      exact ⟨_, _, _, _, _, rfl, RIs.new HN3.out SF.out, zero_is _, BF.out, FOW.out, _, _, _, _, rfl, nofun, nofun⟩
    | some f =>
      obtain ⟨i, hI, hLi⟩ := findI_some hf
      rw [hI]
      have hi0 : ¬ (i : Int) < 0 := by omega
      have hsm := G1.out.small f (List.mem_of_getElem? hLi)
      have h8 := B81.out f (List.mem_of_getElem? hLi)
      have HGF := Lib.hid (getF_some hf)
      have HFF := Lib.hid hf
      obtain ⟨b, o, rfl, hbl, k0, k1, k2⟩ := S4f.out.file hLi
      have him : (i : Int) < (m3 : Int) := by have h1 := (List.getElem?_eq_some_iff.1 hLi).1; have h2 := HN3.out; omega
      have HTB : Hid (natsOf (strN f.all) = f.all) := Lib.hid (natsOf_strN h8)
      have HSZ : Hid ((strN f.all).size ≤ 2097152) := Lib.hid (by rw [size_strN]; omega)
      clear hf hI hLi h8
      obtain ⟨r0, r1, r2, r3, r4, f0, f1, f2, f3, f4⟩ := X4f.out
      obtain ⟨z0, z1, z2, z3, z4, g0, g1, g2, g3, g4⟩ := Z4f.out
      obtain ⟨y0, y1, y2, y3, e0, e1, e2, e3⟩ := Y4f.out
      obtain ⟨n0, n1, n2, n3, _, _, _, _⟩ := N4f.out
      have hlx := X4f.out.lt
      have hlz := Z4f.out.lt
      have hly := Y4f.out.lt
      have hln := N4f.out.lt
      go_wp2_with (refine wpList_to_bytes rfl 9 22 5 _ rfl Tryz.underlying9 Tryz.underlying22 Tryz.underlying5 _ rfl HSZ.out ?_; intro bv w5 hB5 hb5 hob5; rw [HTB.out] at hB5; obtain ⟨ab, cb, rfl, _⟩ := hB5.shape; have HB5 := Lib.hid hB5; have HB45 := Lib.hid hb5; clear hB5 hb5 hob5)
      have X5 := Lib.hid (X4f.out.below HB45.out)
      have Z5 := Lib.hid (Z4f.out.below HB45.out)
      have Y5 := Lib.hid (Y4f.out.below HB45.out)
      have N5 := Lib.hid (N4f.out.below HB45.out)
      have B5 : Hid (Below w.heap.size w w5) := Lib.hid (B4f.out.trans (HB45.out.mono B4f.out.size))
      have S5 := Lib.hid (S4f.out.below HB45.out)
      clear k0 k1 k2 hbl
      clear r0 r1 r2 r3 r4 f0 f1 f2 f3 f4 z0 z1 z2 z3 z4 g0 g1 g2 g3 g4 y0 y1 y2 y3 e0 e1 e2 e3 n0 n1 n2 n3 hlx hlz hly hln
      cases hrb : readB 6 f.all
      · have HRB := Lib.hid hrb
        refine (rread_any _ f.all w5 HB5.out).mono ?_
        rintro e w6 ⟨v6, rfl, hs6, hb6⟩
        have hz := hs6
        rw [readS_no HRB.out] at hz
        obtain ⟨mv, dv, rfl, hm, hd⟩ := hs6
        obtain ⟨am, cm, rfl, _⟩ := hm.shape
        obtain ⟨ad, cd, rfl, _⟩ := hd.shape
        rw [HRB.out]
        have HVE : Hid (sopenE ⟨room, L, false, -1, steps⟩ = 20) := Lib.hid (by unfold sopenE; rw [HGO2.out, if_neg (by simp), HGO.out, if_neg (by rw [HFF.out]; simp), HGF.out, ← readB67, HRB.out]; rfl)
        have HVS : Hid (openS27 ⟨room, L, false, -1, steps⟩ = zeroS) := Lib.hid (by unfold openS27; rw [HVE.out]; exact if_neg (by decide))
        have X6 := Lib.hid (X5.out.below hb6)
        have Z6 := Lib.hid (Z5.out.below hb6)
        have Y6 := Lib.hid (Y5.out.below hb6)
        have N6 := Lib.hid (N5.out.below hb6)
        have B6 : Hid (Below w.heap.size w w6) := Lib.hid (B5.out.trans (hb6.mono B5.out.size))
        have S6 := Lib.hid (S5.out.below hb6)
        clear hb6 hm hd hz hrb
        obtain ⟨r0, r1, r2, r3, r4, f0, f1, f2, f3, f4⟩ := X6.out
        obtain ⟨z0, z1, z2, z3, z4, g0, g1, g2, g3, g4⟩ := Z6.out
        obtain ⟨y0, y1, y2, y3, e0, e1, e2, e3⟩ := Y6.out
        obtain ⟨n0, n1, n2, n3, _, _, _, _⟩ := N6.out
        have hlx := X6.out.lt
        have hlz := Z6.out.lt
        have hly := Y6.out.lt
        have hln := N6.out.lt
        go_wp2_with fail
        have AL : Below w6.heap.size w6 (w6.alloc (.cells #[.int .u64 (readS 6 f.all).i, .int .u64 (readS 6 f.all).t, .slice am (readS 6 f.all).ms.length cm, .slice ad (readS 6 f.all).d.length cd] 40)) := (Below.refl _ _).alloc (Nat.le_refl _) _
        have X7 := Lib.hid (X6.out.below AL)
        have Z7 := Lib.hid (Z6.out.below AL)
        have Y7 := Lib.hid (Y6.out.below AL)
        have N7 := Lib.hid (N6.out.below AL)
        have B7 : Hid (Below w.heap.size w (w6.alloc (.cells #[.int .u64 (readS 6 f.all).i, .int .u64 (readS 6 f.all).t, .slice am (readS 6 f.all).ms.length cm, .slice ad (readS 6 f.all).d.length cd] 40))) := Lib.hid (B6.out.trans (AL.mono B6.out.size))
        have S7 := Lib.hid (S6.out.below AL)
        clear AL
        clear r0 r1 r2 r3 r4 f0 f1 f2 f3 f4 z0 z1 z2 z3 z4 g0 g1 g2 g3 g4 y0 y1 y2 y3 e0 e1 e2 e3 n0 n1 n2 n3 hlx hlz hly hln
        generalize World.alloc w6 _ = w7 at *
        obtain ⟨r0, r1, r2, r3, r4, f0, f1, f2, f3, f4⟩ := X7.out
        obtain ⟨z0, z1, z2, z3, z4, g0, g1, g2, g3, g4⟩ := Z7.out
        obtain ⟨y0, y1, y2, y3, e0, e1, e2, e3⟩ := Y7.out
        obtain ⟨n0, n1, n2, n3, _, _, _, _⟩ := N7.out
        have hlx := X7.out.lt
        have hlz := Z7.out.lt
        have hly := Y7.out.lt
        have hln := N7.out.lt
        have HBN : Hid (w.heap.size + 1 < (w.heap.size + 1 + 1 + 1)) := Lib.hid (by omega)
        have J1 : Hid (RD (set5D w7 (w.heap.size + 1) D1 (.slice (some ⟨b, o, none⟩) m3 c3)) w.heap.size D1 (.slice (some ⟨b, o, none⟩) m3 c3) ∧ SBlk (set5D w7 (w.heap.size + 1) D1 (.slice (some ⟨b, o, none⟩) m3 c3)) (w.heap.size + 1 + 1 + 1) 0 0 (.slice none 0 0) (.slice none 0 0)) := Lib.hid ⟨X7.out.kept (Kept.set5D w7 (w.heap.size + 1) D1 (.slice (some ⟨b, o, none⟩) m3 c3)) (by omega), N7.out.kept (Kept.set5D w7 (w.heap.size + 1) D1 (.slice (some ⟨b, o, none⟩) m3 c3)) (by have := HBN.out; omega)⟩
        have J2 : Hid (RD (set5D w7 (w.heap.size + 1) D1 (.slice (some ⟨b, o, none⟩) m3 c3)).drew w.heap.size D1 (.slice (some ⟨b, o, none⟩) m3 c3) ∧ SBlk (set5D w7 (w.heap.size + 1) D1 (.slice (some ⟨b, o, none⟩) m3 c3)).drew (w.heap.size + 1 + 1 + 1) 0 0 (.slice none 0 0) (.slice none 0 0)) := Lib.hid ⟨J1.out.1.below ((Below.refl _ _).drew), J1.out.2.below ((Below.refl _ _).drew)⟩
        unfold set5D at J1 J2
        refine region_start [0, 0, 1, 7, 15] 4 (fun w' => RD w' w.heap.size D1 (.slice (some ⟨b, o, none⟩) m3 c3) ∧ SBlk w' (w.heap.size + 1 + 1 + 1) 0 0 (.slice none 0 0) (.slice none 0 0)) (by kernel_rfl) ?_
        refine stage_heads [0, 1] (by kernel_rfl) (L := #[true, true, false, false, false]) (by kernel_rfl) (f' := 3) rfl (fun _ _ _ _ h => h) (fun w o h => ⟨h.1.below ((Below.refl _ _).alloc (Nat.le_refl _) o), h.2.below ((Below.refl _ _).alloc (Nat.le_refl _) o)⟩) (.inr (by first | exact ⟨X7.out.below ((Below.refl _ _).drew), N7.out.below ((Below.refl _ _).drew)⟩ | exact ⟨X7.out, N7.out⟩)) ?_
        simp only [List.flatMap_cons, List.flatMap_nil, List.drop_succ_cons, List.drop_zero, List.take_succ_cons, List.take_zero, List.cons_append, List.nil_append, List.append_nil]
        iterate 2 (first | (refine heads_load _ (by rfl) (fun w' hs => by obtain ⟨⟨r0, r1, r2, r3, r4, _⟩, b0, b1, b2, b3, _⟩ := hs; go_simp; try with_reducible rfl) rfl ?_; simp only [Act.put, List.setIfInBounds_toArray, List.set_cons_zero, List.set_cons_succ]) | (refine heads_pure _ (by rfl) (fun w' => by go_simp; try with_reducible rfl) ?_; simp only [Act.put, List.setIfInBounds_toArray, List.set_cons_zero, List.set_cons_succ]))
        refine heads_nil ?_
        refine stage_op 2 (by kernel_rfl) (L := #[true, true, true, false, false]) (by kernel_rfl) ?_
        simp only [List.drop_succ_cons, List.drop_zero, List.take_succ_cons, List.take_zero]
        go_wp2_with fail
        refine step_post (fun _ => (by first | exact J2.out | exact J1.out)) ?_
        refine stage_op 3 (by kernel_rfl) (L := #[true, true, true, true, false]) (by kernel_rfl) ?_
        simp only [List.drop_succ_cons, List.drop_zero, List.take_succ_cons, List.take_zero]
        go_wp2_with fail
        refine step_post nofun ?_
        refine stage_heads [4] (by kernel_rfl) (L := #[true, true, true, true, true]) (by kernel_rfl) (f' := 0) rfl (fun _ _ _ _ h => h) (fun w o h => ⟨h.1.below ((Below.refl _ _).alloc (Nat.le_refl _) o), h.2.below ((Below.refl _ _).alloc (Nat.le_refl _) o)⟩) (.inl (by kernel_rfl)) ?_
        simp only [List.flatMap_cons, List.flatMap_nil, List.drop_succ_cons, List.drop_zero, List.take_succ_cons, List.take_zero, List.append_nil]
        iterate 1 (refine heads_pure _ (by rfl) (fun w' => by go_simp; try with_reducible rfl) ?_; simp only [Act.put, List.setIfInBounds_toArray, List.set_cons_zero, List.set_cons_succ])
        refine heads_nil ?_
        refine stage_done (by kernel_rfl) ?_
        generalize hwz : World.drew _ = wz
        have W1 : wz = ((((((((((w7.setCell ⟨w.heap.size + 1, 0, none⟩ (.int .i64 D1.room)).setCell ⟨w.heap.size + 1, 1, none⟩ (.slice (some ⟨b, o, none⟩) m3 c3)).setCell ⟨w.heap.size + 1, 2, none⟩ (.bool D1.down)).setCell ⟨w.heap.size + 1, 3, none⟩ (.int .i64 D1.armed)).setCell ⟨w.heap.size + 1, 4, none⟩ (.int .u64 D1.steps))).setCell ⟨w.heap.size + 1 + 1, 0, none⟩ (.int .u64 0)).setCell ⟨w.heap.size + 1 + 1, 1, none⟩ (.int .u64 0)).setCell ⟨w.heap.size + 1 + 1, 2, none⟩ (.slice none 0 0)).setCell ⟨w.heap.size + 1 + 1, 3, none⟩ (.slice none 0 0)).drew := hwz.symm
        have KS := Kept.set5D w7 (w.heap.size + 1) D1 (.slice (some ⟨b, o, none⟩) m3 c3)
        have RFF := (Z7.out.set D1 (.slice (some ⟨b, o, none⟩) m3 c3))
        have YS := Y7.out.kept KS (by omega)
        have SS := S7.out.setD Z7.out (fun s e => by cases e) D1 (.slice (some ⟨b, o, none⟩) m3 c3)
        have K4 := Kept.set4 (set5D w7 (w.heap.size + 1) D1 (.slice (some ⟨b, o, none⟩) m3 c3)) (w.heap.size + 1 + 1) 0 0 (.slice none 0 0) (.slice none 0 0)
        have RFG0 := (RFF.kept K4 (by omega)).below ((Below.refl _ _).drew)
        have RFY0 := (YS.set4 0 0 (.slice none 0 0) (.slice none 0 0)).below ((Below.refl _ _).drew)
        have SF0 := (SS.setSn (p := none) (q := none) YS 0 0 (.slice none 0 0) (.slice none 0 0)).below ((Below.refl _ _).drew)
        have BF0 := B7.out.trans (KS.below B7.out.size (fun k hk => by omega))
        have BF1 := (BF0.trans (K4.below BF0.size (fun k hk => by omega))).drew
        have KF0 : Kept w7 _ (fun k => k = w.heap.size + 1 ∨ k = w.heap.size + 1 + 1) := ((KS.mono (fun _ _ h => .inl h)).trans (K4.mono (fun _ _ h => .inr h))).trans (Kept.drew _ _)
        unfold set5D at RFG0 RFY0 SF0 BF1 KF0
        rw [← W1] at RFG0 RFY0 SF0 BF1 KF0
        have RFG := Lib.hid RFG0
        have RFY := Lib.hid RFY0
        have SF := Lib.hid SF0
        have BF := Lib.hid BF1
        have KF := Lib.hid KF0
        clear KS RFF YS SS K4 RFG0 RFY0 SF0 BF0 BF1 KF0 W1 hwz
        clear r0 r1 r2 r3 r4 f0 f1 f2 f3 f4 z0 z1 z2 z3 z4 g0 g1 g2 g3 g4 y0 y1 y2 y3 e0 e1 e2 e3 n0 n1 n2 n3 hlx hlz hly hln
        obtain ⟨q0, q1, q2, q3, q4, _⟩ := RFG.out
        obtain ⟨u0, u1, u2, u3, _⟩ := RFY.out
        go_wp2_with fail
        refine bodyPost_ret (v := .tuple #[.agg #[.int .i64 D1.room, .slice (some ⟨b, o, none⟩) m3 c3, .bool D1.down, .int .i64 D1.armed, .int .u64 D1.steps], .agg #[.int .u64 0, .int .u64 0, (.slice none 0 0), (.slice none 0 0)], .int .i64 20]) (by simp [results, Tryz.results13, go_sem, q0, q1, q2, q3, q4, u0, u1, u2, u3]) rfl ?_
        unfold ROpen27
        rw [HGO.out, HVE.out, HVS.out]
        exact ⟨_, _, _, _, _, rfl, RIs.new HN3.out SF.out, zero_is _, BF.out, FOW.out, _, _, _, _, rfl, nofun, nofun⟩
      · have HRB := Lib.hid hrb
        refine (rread_new _ f.all w5 HB5.out hrb).mono ?_
        rintro e w6 ⟨v6, rfl, hs6, hb6, hn6⟩
        have HSS : Hid (readS 6 f.all = sopenS ⟨room, L, false, -1, steps⟩) := Lib.hid (by unfold sopenS; rw [HGO.out, if_neg (by rw [HFF.out]; simp), HGF.out, readS67])
        rw [HSS.out] at hs6
        obtain ⟨mv, dv, rfl, hm, hd⟩ := hs6
        obtain ⟨_, _, _, _, he6, hn1, hn2⟩ := hn6
        simp only [Value.agg.injEq, Array.mk.injEq, List.cons.injEq, and_true] at he6
        obtain ⟨rfl, rfl, rfl, rfl⟩ := he6
        have HVE : Hid (sopenE ⟨room, L, false, -1, steps⟩ = 0) := Lib.hid (by unfold sopenE; rw [HGO2.out, if_neg (by simp), HGO.out, if_neg (by rw [HFF.out]; simp), HGF.out, ← readB67, HRB.out]; rfl)
        have HVS : Hid (openS27 ⟨room, L, false, -1, steps⟩ = sopenS ⟨room, L, false, -1, steps⟩) := Lib.hid (by unfold openS27; rw [HVE.out]; exact if_pos rfl)
        generalize sopenS ⟨room, L, false, -1, steps⟩ = ss at *
        obtain ⟨am, cm, rfl, _⟩ := hm.shape
        obtain ⟨ad, cd, rfl, _⟩ := hd.shape
        rw [HRB.out]
        have X6 := Lib.hid (X5.out.below hb6)
        have Z6 := Lib.hid (Z5.out.below hb6)
        have Y6 := Lib.hid (Y5.out.below hb6)
        have N6 := Lib.hid (N5.out.below hb6)
        have B6 : Hid (Below w.heap.size w w6) := Lib.hid (B5.out.trans (hb6.mono B5.out.size))
        have S6 := Lib.hid (S5.out.below hb6)
        have HM6 := Lib.hid hm
        have HD6 := Lib.hid hd
        have HNM := Lib.hid hn1
        have HND := Lib.hid hn2
        have L56 : Hid (w.heap.size + 1 + 1 + 1 < w5.heap.size) := Lib.hid N5.out.lt
        clear hb6 hm hd hn1 hn2 hrb
        obtain ⟨r0, r1, r2, r3, r4, f0, f1, f2, f3, f4⟩ := X6.out
        obtain ⟨z0, z1, z2, z3, z4, g0, g1, g2, g3, g4⟩ := Z6.out
        obtain ⟨y0, y1, y2, y3, e0, e1, e2, e3⟩ := Y6.out
        obtain ⟨n0, n1, n2, n3, _, _, _, _⟩ := N6.out
        have hlx := X6.out.lt
        have hlz := Z6.out.lt
        have hly := Y6.out.lt
        have hln := N6.out.lt
        go_wp2_with fail
        have AL : Below w6.heap.size w6 (w6.alloc (.cells #[.int .u64 ss.i, .int .u64 ss.t, .slice am ss.ms.length cm, .slice ad ss.d.length cd] 40)) := (Below.refl _ _).alloc (Nat.le_refl _) _
        have T7 : Hid (SBlk (w6.alloc (.cells #[.int .u64 ss.i, .int .u64 ss.t, .slice am ss.ms.length cm, .slice ad ss.d.length cd] 40)) w6.heap.size ss.i ss.t (.slice am ss.ms.length cm) (.slice ad ss.d.length cd)) := Lib.hid ⟨by go_cell, by go_cell, by go_cell, by go_cell, by simp, by simp, by simp, by simp⟩
        have X7 := Lib.hid (X6.out.below AL)
        have Z7 := Lib.hid (Z6.out.below AL)
        have Y7 := Lib.hid (Y6.out.below AL)
        have N7 := Lib.hid (N6.out.below AL)
        have B7 : Hid (Below w.heap.size w (w6.alloc (.cells #[.int .u64 ss.i, .int .u64 ss.t, .slice am ss.ms.length cm, .slice ad ss.d.length cd] 40))) := Lib.hid (B6.out.trans (AL.mono B6.out.size))
        have S7 := Lib.hid (S6.out.below AL)
        have HM7 := Lib.hid (HM6.out.below AL)
        have HD7 := Lib.hid (HD6.out.below AL)
        clear AL
        clear r0 r1 r2 r3 r4 f0 f1 f2 f3 f4 z0 z1 z2 z3 z4 g0 g1 g2 g3 g4 y0 y1 y2 y3 e0 e1 e2 e3 n0 n1 n2 n3 hlx hlz hly hln
        have hbs : w.heap.size + 1 + 1 + 1 < w6.heap.size := N6.out.lt
        generalize World.alloc w6 _ = w7 at *
        generalize w6.heap.size = bs at *
        obtain ⟨r0, r1, r2, r3, r4, f0, f1, f2, f3, f4⟩ := X7.out
        obtain ⟨z0, z1, z2, z3, z4, g0, g1, g2, g3, g4⟩ := Z7.out
        obtain ⟨y0, y1, y2, y3, e0, e1, e2, e3⟩ := Y7.out
        obtain ⟨n0, n1, n2, n3, _, _, _, _⟩ := N7.out
        have hlx := X7.out.lt
        have hlz := Z7.out.lt
        have hly := Y7.out.lt
        have hln := N7.out.lt
        have HBN : Hid (w.heap.size + 1 < bs) := Lib.hid (by omega)
        have J1 : Hid (RD (set5D w7 (w.heap.size + 1) D1 (.slice (some ⟨b, o, none⟩) m3 c3)) w.heap.size D1 (.slice (some ⟨b, o, none⟩) m3 c3) ∧ SBlk (set5D w7 (w.heap.size + 1) D1 (.slice (some ⟨b, o, none⟩) m3 c3)) bs ss.i ss.t (.slice am ss.ms.length cm) (.slice ad ss.d.length cd)) := Lib.hid ⟨X7.out.kept (Kept.set5D w7 (w.heap.size + 1) D1 (.slice (some ⟨b, o, none⟩) m3 c3)) (by omega), T7.out.kept (Kept.set5D w7 (w.heap.size + 1) D1 (.slice (some ⟨b, o, none⟩) m3 c3)) (by have := HBN.out; omega)⟩
        have J2 : Hid (RD (set5D w7 (w.heap.size + 1) D1 (.slice (some ⟨b, o, none⟩) m3 c3)).drew w.heap.size D1 (.slice (some ⟨b, o, none⟩) m3 c3) ∧ SBlk (set5D w7 (w.heap.size + 1) D1 (.slice (some ⟨b, o, none⟩) m3 c3)).drew bs ss.i ss.t (.slice am ss.ms.length cm) (.slice ad ss.d.length cd)) := Lib.hid ⟨J1.out.1.below ((Below.refl _ _).drew), J1.out.2.below ((Below.refl _ _).drew)⟩
        unfold set5D at J1 J2
        refine region_start [0, 0, 1, 7, 15] 4 (fun w' => RD w' w.heap.size D1 (.slice (some ⟨b, o, none⟩) m3 c3) ∧ SBlk w' bs ss.i ss.t (.slice am ss.ms.length cm) (.slice ad ss.d.length cd)) (by kernel_rfl) ?_
        refine stage_heads [0, 1] (by kernel_rfl) (L := #[true, true, false, false, false]) (by kernel_rfl) (f' := 3) rfl (fun _ _ _ _ h => h) (fun w o h => ⟨h.1.below ((Below.refl _ _).alloc (Nat.le_refl _) o), h.2.below ((Below.refl _ _).alloc (Nat.le_refl _) o)⟩) (.inr (by first | exact ⟨X7.out.below ((Below.refl _ _).drew), T7.out.below ((Below.refl _ _).drew)⟩ | exact ⟨X7.out, T7.out⟩)) ?_
        simp only [List.flatMap_cons, List.flatMap_nil, List.drop_succ_cons, List.drop_zero, List.take_succ_cons, List.take_zero, List.cons_append, List.nil_append, List.append_nil]
        iterate 2 (first | (refine heads_load _ (by rfl) (fun w' hs => by obtain ⟨⟨r0, r1, r2, r3, r4, _⟩, b0, b1, b2, b3, _⟩ := hs; go_simp; try with_reducible rfl) rfl ?_; simp only [Act.put, List.setIfInBounds_toArray, List.set_cons_zero, List.set_cons_succ]) | (refine heads_pure _ (by rfl) (fun w' => by go_simp; try with_reducible rfl) ?_; simp only [Act.put, List.setIfInBounds_toArray, List.set_cons_zero, List.set_cons_succ]))
        refine heads_nil ?_
        refine stage_op 2 (by kernel_rfl) (L := #[true, true, true, false, false]) (by kernel_rfl) ?_
        simp only [List.drop_succ_cons, List.drop_zero, List.take_succ_cons, List.take_zero]
        go_wp2_with fail
        refine step_post (fun _ => (by first | exact J2.out | exact J1.out)) ?_
        refine stage_op 3 (by kernel_rfl) (L := #[true, true, true, true, false]) (by kernel_rfl) ?_
        simp only [List.drop_succ_cons, List.drop_zero, List.take_succ_cons, List.take_zero]
        go_wp2_with fail
        refine step_post nofun ?_
        refine stage_heads [4] (by kernel_rfl) (L := #[true, true, true, true, true]) (by kernel_rfl) (f' := 0) rfl (fun _ _ _ _ h => h) (fun w o h => ⟨h.1.below ((Below.refl _ _).alloc (Nat.le_refl _) o), h.2.below ((Below.refl _ _).alloc (Nat.le_refl _) o)⟩) (.inl (by kernel_rfl)) ?_
        simp only [List.flatMap_cons, List.flatMap_nil, List.drop_succ_cons, List.drop_zero, List.take_succ_cons, List.take_zero, List.append_nil]
        iterate 1 (refine heads_pure _ (by rfl) (fun w' => by go_simp; try with_reducible rfl) ?_; simp only [Act.put, List.setIfInBounds_toArray, List.set_cons_zero, List.set_cons_succ])
        refine heads_nil ?_
        refine stage_done (by kernel_rfl) ?_
        generalize hwz : World.drew _ = wz
        have W1 : wz = ((((((((((w7.setCell ⟨w.heap.size + 1, 0, none⟩ (.int .i64 D1.room)).setCell ⟨w.heap.size + 1, 1, none⟩ (.slice (some ⟨b, o, none⟩) m3 c3)).setCell ⟨w.heap.size + 1, 2, none⟩ (.bool D1.down)).setCell ⟨w.heap.size + 1, 3, none⟩ (.int .i64 D1.armed)).setCell ⟨w.heap.size + 1, 4, none⟩ (.int .u64 D1.steps))).setCell ⟨w.heap.size + 1 + 1, 0, none⟩ (.int .u64 ss.i)).setCell ⟨w.heap.size + 1 + 1, 1, none⟩ (.int .u64 ss.t)).setCell ⟨w.heap.size + 1 + 1, 2, none⟩ (.slice am ss.ms.length cm)).setCell ⟨w.heap.size + 1 + 1, 3, none⟩ (.slice ad ss.d.length cd)).drew := hwz.symm
        have KS := Kept.set5D w7 (w.heap.size + 1) D1 (.slice (some ⟨b, o, none⟩) m3 c3)
        have RFF := (Z7.out.set D1 (.slice (some ⟨b, o, none⟩) m3 c3))
        have YS := Y7.out.kept KS (by omega)
        have SS := S7.out.setD Z7.out (fun s e => by cases e) D1 (.slice (some ⟨b, o, none⟩) m3 c3)
        have K4 := Kept.set4 (set5D w7 (w.heap.size + 1) D1 (.slice (some ⟨b, o, none⟩) m3 c3)) (w.heap.size + 1 + 1) ss.i ss.t (.slice am ss.ms.length cm) (.slice ad ss.d.length cd)
        have RFG0 := (RFF.kept K4 (by omega)).below ((Below.refl _ _).drew)
        have RFY0 := (YS.set4 ss.i ss.t (.slice am ss.ms.length cm) (.slice ad ss.d.length cd)).below ((Below.refl _ _).drew)
        have SF0 := (SS.setSn (p := none) (q := none) YS ss.i ss.t (.slice am ss.ms.length cm) (.slice ad ss.d.length cd)).below ((Below.refl _ _).drew)
        have BF0 := B7.out.trans (KS.below B7.out.size (fun k hk => by omega))
        have BF1 := (BF0.trans (K4.below BF0.size (fun k hk => by omega))).drew
        have KF0 : Kept w7 _ (fun k => k = w.heap.size + 1 ∨ k = w.heap.size + 1 + 1) := ((KS.mono (fun _ _ h => .inl h)).trans (K4.mono (fun _ _ h => .inr h))).trans (Kept.drew _ _)
        unfold set5D at RFG0 RFY0 SF0 BF1 KF0
        rw [← W1] at RFG0 RFY0 SF0 BF1 KF0
        have RFG := Lib.hid RFG0
        have RFY := Lib.hid RFY0
        have SF := Lib.hid SF0
        have BF := Lib.hid BF1
        have KF := Lib.hid KF0
        clear KS RFF YS SS K4 RFG0 RFY0 SF0 BF0 BF1 KF0 W1 hwz
        clear r0 r1 r2 r3 r4 f0 f1 f2 f3 f4 z0 z1 z2 z3 z4 g0 g1 g2 g3 g4 y0 y1 y2 y3 e0 e1 e2 e3 n0 n1 n2 n3 hlx hlz hly hln
        obtain ⟨q0, q1, q2, q3, q4, _⟩ := RFG.out
        obtain ⟨u0, u1, u2, u3, _⟩ := RFY.out
        go_wp2_with fail
        refine bodyPost_ret (v := .tuple #[.agg #[.int .i64 D1.room, .slice (some ⟨b, o, none⟩) m3 c3, .bool D1.down, .int .i64 D1.armed, .int .u64 D1.steps], .agg #[.int .u64 ss.i, .int .u64 ss.t, (.slice am ss.ms.length cm), (.slice ad ss.d.length cd)], .int .i64 0]) (by simp [results, Tryz.results13, go_sem, q0, q1, q2, q3, q4, u0, u1, u2, u3]) rfl ?_
        unfold ROpen27
        rw [HGO.out, HVE.out, HVS.out]
        exact ⟨_, _, _, _, _, rfl, RIs.new HN3.out SF.out, ⟨_, _, rfl, HM7.out.kept KF.out (fun g hg h => by have h1 := HNM.out g hg; have h2 := L56.out; omega), HD7.out.kept KF.out (fun g hg h => by have h1 := HND.out g hg; have h2 := L56.out; omega)⟩, BF.out, FOW.out, _, _, _, _, rfl, fun g hg => by have h1 := HNM.out g hg; have h2 := L56.out; omega, fun g hg => by have h1 := HND.out g hg; have h2 := L56.out; omega⟩
end Go.Proofs.YtofhccpagnkalaaGreat
