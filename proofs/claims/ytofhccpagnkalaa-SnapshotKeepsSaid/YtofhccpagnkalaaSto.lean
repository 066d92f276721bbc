/- Contracts of the store of a snapshot: none, gone, Open, Get; no conditions but the ranges. -/
import Derived.Test.YtofhccpagnkalaaDany
import Derived.Test.YtofhccpagnkalaaPread
namespace Go.Proofs.Ytofhccpagnkalaa
open Go.RowKit Go.Maps Go.Proofs.Own

abbrev nSnap : ByteArray := ⟨#[115, 110, 97, 112]⟩
abbrev nOther : ByteArray := ⟨#[115, 110, 97, 112, 46, 110, 101, 119]⟩
/-- Block sb is a store's five cells. -/
structure SBlk5 (w : World) (sb db : Nat) (i t : Int) (mv dv : Value) : Prop where
  c0 : w.cell? ⟨sb, 0, none⟩ = some (.pointer (some ⟨db, 0, none⟩))
  c1 : w.cell? ⟨sb, 1, none⟩ = some (.int .u64 i)
  c2 : w.cell? ⟨sb, 2, none⟩ = some (.int .u64 t)
  c3 : w.cell? ⟨sb, 3, none⟩ = some mv
  c4 : w.cell? ⟨sb, 4, none⟩ = some dv
  f1 : w.frozen? ⟨sb, 1, none⟩ = false
  f2 : w.frozen? ⟨sb, 2, none⟩ = false
  f3 : w.frozen? ⟨sb, 3, none⟩ = false
  f4 : w.frozen? ⟨sb, 4, none⟩ = false
theorem SBlk5.lt {w : World} {sb db : Nat} {i t : Int} {mv dv : Value} (h : SBlk5 w sb db i t mv dv) : sb < w.heap.size := World.block_lt_of_cell? _ _ h.c0
theorem SBlk5.kept {w w' : World} {sb db : Nat} {i t : Int} {mv dv : Value} {S : Nat → Prop} (h : SBlk5 w sb db i t mv dv) (hk : Kept w w' S) (hs : ¬ S sb) : SBlk5 w' sb db i t mv dv :=
  ⟨hk.cell h.c0 hs, hk.cell h.c1 hs, hk.cell h.c2 hs, hk.cell h.c3 hs, hk.cell h.c4 hs, (hk.frozen (a := ⟨sb, 1, none⟩) h.lt hs).trans h.f1,
   (hk.frozen (a := ⟨sb, 2, none⟩) h.lt hs).trans h.f2, (hk.frozen (a := ⟨sb, 3, none⟩) h.lt hs).trans h.f3, (hk.frozen (a := ⟨sb, 4, none⟩) h.lt hs).trans h.f4⟩
/-- Block sb is the store of the snapshot s, upon the disk db, mb, tb. -/
def StoreIs (w : World) (sb db mb tb : Nat) (s : SnapS) : Prop :=
  ∃ mv dv, SBlk5 w sb db s.i s.t mv dv ∧ Ints w mv s.ms ∧ Bytes w dv s.d ∧ (∀ b, mv.ownBlock = some b → ¬ Own3 db mb tb b ∧ b ≠ sb) ∧ (∀ b, dv.ownBlock = some b → ¬ Own3 db mb tb b ∧ b ≠ sb) ∧ ¬ Own3 db mb tb sb
theorem StoreIs.kept {w w' : World} {sb db mb tb : Nat} {s : SnapS} (h : StoreIs w sb db mb tb s) (hk : Kept w w' (Own3 db mb tb)) : StoreIs w' sb db mb tb s := by
  obtain ⟨mv, dv, h1, h2, h3, h4, h5, h6⟩ := h
  exact ⟨mv, dv, h1.kept hk h6, h2.kept hk fun b hb => (h4 b hb).1, h3.kept hk fun b hb => (h5 b hb).1, h4, h5, h6⟩
theorem StoreIs.below {w w' : World} {sb db mb tb : Nat} {s : SnapS} (h : StoreIs w sb db mb tb s) (hb : Below w.heap.size w w') : StoreIs w' sb db mb tb s := h.kept (Kept.below3 hb)
theorem StoreIs.lt {w : World} {sb db mb tb : Nat} {s : SnapS} (h : StoreIs w sb db mb tb s) : sb < w.heap.size := let ⟨_, _, h1, _⟩ := h; h1.lt

set_option maxHeartbeats 1000000 in
theorem snone (sb db mb tb : Nat) (s : SnapS) (w : World) (h : StoreIs w sb db mb tb s) : Calls Try.prog 70 #[.pointer (some ⟨sb, 0, none⟩)] w fun e w' => e = .returned (.bool false) ∧ w = w' := by
  obtain ⟨mv, dv, h1, _⟩ := h
  have c0 := h1.c0
  clear h1
  go_enter Try.func70, Try.ntmps70
  go_wp2_with fail
  go_ret
  exact ⟨rfl, rfl⟩

def goneD (D : DiskS) : DiskS × Nat := ((removeD D nOther).1, if (removeD D nOther).2 = 31 then 0 else (removeD D nOther).2)
set_option maxHeartbeats 1000000 in
theorem sgone_any (sb db mb tb : Nat) (D : DiskS) (w : World) (hc : w.cell? ⟨sb, 0, none⟩ = some (.pointer (some ⟨db, 0, none⟩))) (hd : DiskIs w db mb tb D) (hw : DGood D) :
    Calls Try.prog 71 #[.pointer (some ⟨sb, 0, none⟩)] w (OpPost db mb tb (goneD D) w) := by
  have HD := Lib.hid hd
  have HW := Lib.hid hw
  clear hd hw
  unfold goneD
  by_cases hk : (removeD D nOther).2 = 31
  all_goals
    have HK := Lib.hid hk
    first | rw [if_pos hk] | rw [if_neg hk]
    clear hk
    go_enter Try.func71, Try.ntmps71
    go_wp2_with fail
    refine (dremove_any db mb tb D nOther w HD.out HW.out.wf (by decide)).mono ?_
    rintro e w1 ⟨rfl, hd1, hk1⟩
    have D1 := Lib.hid hd1
    have K1 := Lib.hid hk1
    clear hd1 hk1
    generalize (removeD D nOther).1 = D' at *
    generalize (removeD D nOther).2 = k at *
  · have hk := HK.out
    subst hk
    go_wp2_with fail
    go_ret
    exact ⟨rfl, D1.out, K1.out⟩
  · have hki : ((k : Int) != 31) = true := by have := HK.out; simp; omega
    go_wp2_with fail
    go_ret
    exact ⟨rfl, D1.out, K1.out⟩
theorem goneD_good {D : DiskS} (h : DGood D) (hs : D.steps + 1 ≤ 1000000000) : DGood (goneD D).1 ∧ (goneD D).1.steps ≤ D.steps + 1 := h.remove nOther hs

set_option maxHeartbeats 1000000 in
set_option maxRecDepth 20000 in
theorem sopen_new (db mb tb : Nat) (D : DiskS) (w : World) (hd : DiskIs w db mb tb D) (hw : DGood D) (hg : (goneD D).2 = 0) (hf : fileE (goneD D).1 nSnap = 31) :
    Calls Try.prog 34 #[.pointer (some ⟨db, 0, none⟩)] w fun e w' => ∃ sb, e = .returned (.tuple #[.pointer (some ⟨sb, 0, none⟩), .int .i64 0]) ∧ DiskIs w' db mb tb (goneD D).1 ∧ StoreIs w' sb db mb tb zeroS ∧ Kept w w' (Own3 db mb tb) ∧ w.heap.size ≤ sb := by
  have HD := Lib.hid hd
  have HW := Lib.hid hw
  have HG := Lib.hid hg
  have HF := Lib.hid hf
  have H3 := Lib.hid hd.lt3
  clear hd hw hg hf
  go_enter Try.func34, Try.ntmps34
  go_wp2_with fail
  generalize hw1 : World.alloc w _ = w1
  have B1 : Hid (Below w.heap.size w w1) := Lib.hid (by subst hw1; exact (Below.refl _ _).alloc (Nat.le_refl _) _)
  have S1 : Hid (StoreIs w1 w.heap.size db mb tb zeroS) := Lib.hid (by
    subst hw1
    refine ⟨.slice none 0 0, .slice none 0 0, (show SBlk5 _ _ _ 0 0 _ _ from ⟨by go_cell, by go_cell, by go_cell, by go_cell, by go_cell, by simp, by simp, by simp, by simp⟩), Ints.nil _, Bytes.nil _, fun b hb => (by cases hb), fun b hb => (by cases hb), fun e => ?_⟩
    have := H3.out _ e
    omega)
  clear hw1
  refine (sgone_any w.heap.size db mb tb D w1 (by obtain ⟨_, _, h, _⟩ := S1.out; exact h.c0) (HD.out.below B1.out) HW.out).mono ?_
  rintro e w2 ⟨rfl, hd2, hk2⟩
  have D2 := Lib.hid hd2
  have K2 : Hid (Kept w w2 (Own3 db mb tb)) := Lib.hid ((Kept.below3 B1.out).trans hk2)
  have S2 := Lib.hid (S1.out.kept hk2)
  clear hd2 hk2
  rw [HG.out]
  go_wp2_with fail
  refine (dread_err db mb tb _ nSnap w2 D2.out (by decide) (by rw [HF.out]; decide)).mono ?_
  rintro e w3 ⟨rfl, hb3⟩
  have B3 := Lib.hid hb3
  clear hb3
  rw [HF.out]
  go_wp2_with fail
  go_ret2
  exact ⟨_, rfl, D2.out.below B3.out, S2.out.below B3.out, K2.out.trans (Kept.below3 B3.out), Nat.le_refl _⟩

set_option maxHeartbeats 1000000 in
set_option maxRecDepth 20000 in
theorem sget_any (sb db mb tb : Nat) (s : SnapS) (w : World) (h : StoreIs w sb db mb tb s) (hi : s.i ≠ 0) :
    Calls Try.prog 32 #[.pointer (some ⟨sb, 0, none⟩)] w fun e w' => ∃ v', e = .returned (.tuple #[v', .bool true]) ∧ SnapNew w' w.heap.size v' s ∧ Below w.heap.size w w' := by
  have H := Lib.hid h
  obtain ⟨mv, dv, h1, h2, h3, _⟩ := h
  have HS := Lib.hid h1
  have HM := Lib.hid h2
  have HB := Lib.hid h3
  have hsl := h1.lt
  obtain ⟨a, c, rfl, _⟩ := h3.shape
  obtain ⟨am, cm, rfl, _⟩ := h2.shape
  obtain ⟨i, t, ms, d⟩ := s
  simp only at *
  have hib : (i == 0) = false := by simpa using hi
  clear h1 h2 h3 hi
  go_enter Try.func32, Try.ntmps32
  go_wp2_with fail
  have R1 : Hid (SBlk (w.alloc (.cells #[.int .u64 0, .int .u64 0, .slice none 0 0, .slice none 0 0] 27)) w.heap.size 0 0 (.slice none 0 0) (.slice none 0 0)) := Lib.hid (SBlk.new w)
  have B1 : Hid (Below w.heap.size w (w.alloc (.cells #[.int .u64 0, .int .u64 0, .slice none 0 0, .slice none 0 0] 27))) := Lib.hid ((Below.refl _ _).alloc (Nat.le_refl _) _)
  generalize World.alloc w _ = w1 at *
  refine (snone sb db mb tb _ w1 (H.out.below B1.out)).mono ?_
  rintro e w1' ⟨rfl, rfl⟩
  have S1 : Hid (SBlk5 w1 sb db i t (.slice am ms.length cm) (.slice a d.length c)) := Lib.hid (HS.out.kept (Kept.of_below B1.out (S := fun _ => False) fun k h1 h2 => by omega) fun h => h)
  obtain ⟨r0, r1, r2, r3, r4, _, _, _, _⟩ := S1.out
  go_wp2_with fail
  refine (scopy_any _ ⟨i, t, ms, d⟩ w1 ⟨_, _, rfl, HM.out.below B1.out, HB.out.below B1.out⟩).mono ?_
  rintro e w2 ⟨v2, rfl, ⟨mv2, dv2, rfl, om, od⟩, hb2⟩
  obtain ⟨am2, cm2, rfl⟩ := om.shape
  obtain ⟨ad2, cd2, rfl⟩ := od.shape
  have R2 : Hid (SBlk w2 w.heap.size 0 0 (.slice none 0 0) (.slice none 0 0)) := Lib.hid (R1.out.below hb2)
  have OM := Lib.hid om
  have OD := Lib.hid od
  have B2 : Hid (Below w.heap.size w w2) := Lib.hid (B1.out.trans (hb2.mono B1.out.size))
  have hl1 := R1.out.lt
  clear om od hb2 r0 r1 r2 r3 r4
  obtain ⟨q0, q1, q2, q3, g0, g1, g2, g3⟩ := R2.out
  go_wp2_with fail
  generalize hwF : World.setCell _ _ _ = wF
  have KF : Hid (Kept w2 wF (fun k => k = w.heap.size)) := Lib.hid (by subst hwF; exact Kept.set4 _ _ _ _ _ _)
  have RF : Hid (SBlk wF w.heap.size i t (.slice am2 ms.length cm2) (.slice ad2 (ints d).length cd2)) := Lib.hid (by subst hwF; exact R2.out.set4 i t _ _)
  clear hwF q0 q1 q2 q3 g0 g1 g2 g3
  obtain ⟨q0, q1, q2, q3, _, _, _, _⟩ := RF.out
  refine bodyPost_ret (v := .tuple #[.agg #[.int .u64 i, .int .u64 t, .slice am2 ms.length cm2, .slice ad2 (ints d).length cd2], .bool true]) (by simp [results, Try.results32, go_sem, q0, q1, q2, q3]) rfl ?_
  refine ⟨_, rfl, ⟨_, _, rfl, (OM.out.kept KF.out fun b hb => by have := (OM.out.lt b hb).1; omega).lower fun b hb => by have := (OM.out.lt b hb).1; omega, (OD.out.kept KF.out fun b hb => by have := (OD.out.lt b hb).1; omega).lower fun b hb => by have := (OD.out.lt b hb).1; omega⟩, B2.out.trans (KF.out.below B2.out.size (fun k hk => by omega))⟩
end Go.Proofs.Ytofhccpagnkalaa
