/- Several texts in one: Pla, Liv0, Liv. What each proves stands ahead of it; together they serve splays_law_holds. No conditions but those stated. -/
import Derived.Lib.SlBytesConst
import Derived.Test.YtofhccpagnkalaaGreatSpb18
/- The law's plain snapshot; no conditions. -/
namespace Go.Proofs.YtofhccpagnkalaaGreat
open Go.RowKit Go.Maps Go.Proofs.Own

def plainS (i : Int) : SnapS := ⟨i, 1, [0], [97]⟩
/-- The value v is the snapshot s, its rows in blocks from B on. -/
def SnapOff (w : World) (B : Nat) (v : Value) (s : SnapS) : Prop :=
  ∃ mv dv, v = .agg #[.int .u64 s.i, .int .u64 s.t, mv, dv] ∧ Ints w mv s.ms ∧ Bytes w dv s.d ∧ (∀ b, mv.ownBlock = some b → B ≤ b) ∧ (∀ b, dv.ownBlock = some b → B ≤ b)
theorem SnapOff.is {w : World} {B : Nat} {v : Value} {s : SnapS} (h : SnapOff w B v s) : SnapIs w v s := by
  obtain ⟨mv, dv, e, hm, hd, _⟩ := h
  exact ⟨mv, dv, e, hm, hd⟩
theorem SnapOff.kept {w w' : World} {B : Nat} {v : Value} {s : SnapS} {S : Nat → Prop} (h : SnapOff w B v s) (hk : Kept w w' S) (hs : ∀ k, B ≤ k → ¬ S k) : SnapOff w' B v s := by
  obtain ⟨mv, dv, e, hm, hd, h1, h2⟩ := h
  exact ⟨mv, dv, e, hm.kept hk fun b hb => hs b (h1 b hb), hd.kept hk fun b hb => hs b (h2 b hb), h1, h2⟩
theorem SnapOff.below {w w' : World} {B : Nat} {v : Value} {s : SnapS} (h : SnapOff w B v s) (hb : Below w.heap.size w w') : SnapOff w' B v s :=
  h.kept (Kept.of_below hb (S := fun _ => False) fun k h1 h2 => by omega) fun _ _ h => h

set_option maxHeartbeats 1000000 in
set_option maxRecDepth 20000 in
theorem plain_any (i : Int) (w : World) : Calls Tryz.prog 30 #[.int .u64 i] w fun e w' => ∃ v, e = .returned v ∧ SnapOff w' w.heap.size v (plainS i) ∧ Below w.heap.size w w' := by
  have kc := fun (w : World) (C : Array Value) (n c : Nat) => Lib.run_convert_bytes_const (P := Tryz.prog) w 22 5 C n c Tryz.underlying22 Tryz.underlying5
  have kc2 := kc ((w.alloc (.cells #[.int .u64 0, .int .u64 0, .slice none 0 0, .slice none 0 0] 40)).alloc (.cells #[.int .i64 0] 3)) #[.int .u8 97] 1 1
  simp at kc2
  clear kc
  go_enter Tryz.func30, Tryz.ntmps30
  go_wp2_with fail
  clear kc2
  have hb : Below w.heap.size w (((w.alloc (.cells #[.int .u64 i, .int .u64 1, .slice (some ⟨w.heap.size + 1, 0, none⟩) 1 1, .slice (some ⟨w.heap.size + 1 + 1, 0, none⟩) 1 1] 40)).alloc (.cells #[.int .i64 0] 3)).alloc (.cells #[.int .u8 97] 5 (1, 2))) :=
    (((Below.refl _ _).alloc (Nat.le_refl _) _).alloc (by simp) _).alloc (by simp; omega) _
  have hI : Ints (((w.alloc (.cells #[.int .u64 i, .int .u64 1, .slice (some ⟨w.heap.size + 1, 0, none⟩) 1 1, .slice (some ⟨w.heap.size + 1 + 1, 0, none⟩) 1 1] 40)).alloc (.cells #[.int .i64 0] 3)).alloc (.cells #[.int .u8 97] 5 (1, 2))) (.slice (some ⟨w.heap.size + 1, 0, none⟩) 1 1) [0] := by
    have h := (Reads.one (w.alloc (.cells #[.int .u64 i, .int .u64 1, .slice (some ⟨w.heap.size + 1, 0, none⟩) 1 1, .slice (some ⟨w.heap.size + 1 + 1, 0, none⟩) 1 1] 40)) .i64 0 3).alloc (.cells #[.int .u8 97] 5 (1, 2))
    exact ⟨⟨_, _, rfl, Nat.le_refl _⟩, by simpa using h, by simp⟩
  have hB : Bytes (((w.alloc (.cells #[.int .u64 i, .int .u64 1, .slice (some ⟨w.heap.size + 1, 0, none⟩) 1 1, .slice (some ⟨w.heap.size + 1 + 1, 0, none⟩) 1 1] 40)).alloc (.cells #[.int .i64 0] 3)).alloc (.cells #[.int .u8 97] 5 (1, 2))) (.slice (some ⟨w.heap.size + 1 + 1, 0, none⟩) 1 1) [97] := by
    have h := heap_alloc_new ((w.alloc (.cells #[.int .u64 i, .int .u64 1, .slice (some ⟨w.heap.size + 1, 0, none⟩) 1 1, .slice (some ⟨w.heap.size + 1 + 1, 0, none⟩) 1 1] 40)).alloc (.cells #[.int .i64 0] 3)) (.cells #[.int .u8 97] 5 (1, 2))
    have h2 : ((w.alloc (.cells #[.int .u64 i, .int .u64 1, .slice (some ⟨w.heap.size + 1, 0, none⟩) 1 1, .slice (some ⟨w.heap.size + 1 + 1, 0, none⟩) 1 1] 40)).alloc (.cells #[.int .i64 0] 3)).heap.size = w.heap.size + 1 + 1 := by simp
    rw [h2] at h
    exact Bytes.of_cells (l := [97]) (c := 1) h (fun j hj => by simp at hj; subst hj; rfl) (by simp) (by simp) (by simp)
  have hS := ((SBlk.box w i 1 (.slice (some ⟨w.heap.size + 1, 0, none⟩) 1 1) (.slice (some ⟨w.heap.size + 1 + 1, 0, none⟩) 1 1)).below ((Below.refl _ _).alloc (Nat.le_refl _) (.cells #[.int .i64 0] 3))).below ((Below.refl _ _).alloc (Nat.le_refl _) (.cells #[.int .u8 97] 5 (1, 2)))
  generalize World.alloc _ _ = wF at *
  obtain ⟨q0, q1, q2, q3, _, _, _, _⟩ := hS
  refine bodyPost_ret (v := .agg #[.int .u64 i, .int .u64 1, .slice (some ⟨w.heap.size + 1, 0, none⟩) 1 1, .slice (some ⟨w.heap.size + 1 + 1, 0, none⟩) 1 1]) (by simp [results, Tryz.results30, go_sem, q0, q1, q2, q3]) rfl ?_
  refine ⟨_, rfl, ⟨_, _, rfl, hI, hB, fun b e => ?_, fun b e => ?_⟩, hb⟩
  · simp only [Value.ownBlock] at e; obtain rfl := Option.some.inj e; omega
  · simp only [Value.ownBlock] at e; obtain rfl := Option.some.inj e; omega
end Go.Proofs.YtofhccpagnkalaaGreat

/- The disks of the chapter's example; no conditions. -/
namespace Go.Proofs.YtofhccpagnkalaaGreat
open Go.RowKit Go.Maps Go.Proofs.Own

def lvD (f : List FileS) (n : Int) : DiskS := ⟨1000, f, false, -1, n⟩
theorem lv_step (f : List FileS) (n : Int) : stepD (lvD f n) = lvD f (n + 1) := rfl
theorem lv_good0 : DGood (lvD [] 0) := ⟨⟨by decide, by decide, by decide, by decide, by decide, by decide, by decide, fun f h => by cases h⟩, by decide, by decide⟩
theorem lv_gone : goneD (lvD [] 0) = (lvD [] 0, 0) := rfl
theorem lv_none : fileE (lvD [] 0) nSnap = 31 := rfl
theorem lv_app (b : List Nat) (h : b.length ≤ 1000) : appendD (lvD [] 0) nOther b = (lvD [⟨nOther, b, 0⟩] 1, 0) := by
  have he : appE (lvD [] 0) nOther b = 0 := by
    unfold appE
    rw [if_neg (by decide), if_neg (by decide), if_neg]
    rintro (h1 | h1)
    · exact absurd h1.2 (by decide)
    · have : freeD (lvD [] 0) = 1000 := by decide
      rw [this] at h1; omega
  unfold appendD
  rw [he]
  rfl
theorem lv_find (n : ByteArray) (b : List Nat) (k : Nat) : findFile n [(⟨n, b, k⟩ : FileS)] = some ⟨n, b, k⟩ := by simp [findFile]
theorem lv_sync (b : List Nat) : syncD (lvD [⟨nOther, b, 0⟩] 1) nOther = (lvD [⟨nOther, b, b.length⟩] 2, 0) := by
  unfold syncD
  rw [show (lvD [⟨nOther, b, 0⟩] 1).files = [⟨nOther, b, 0⟩] from rfl, lv_find]
  simp only
  rw [if_neg (by show ¬ (false = true); decide), if_neg (by show ¬ ((-1 : Int) = 0); decide), lv_step]
  simp [putFile, delFile, insFile, lvD]
theorem lv_move (b : List Nat) : moveD (lvD [⟨nOther, b, b.length⟩] 2) nOther nSnap = (lvD [⟨nSnap, b, b.length⟩] 3, 0) := by
  unfold moveD
  rw [show (lvD [⟨nOther, b, b.length⟩] 2).files = [⟨nOther, b, b.length⟩] from rfl, lv_find]
  simp only
  rw [if_neg (by show ¬ (false = true); decide), if_neg (by decide), if_neg (by show ¬ ((-1 : Int) = 0); decide), lv_step]
  simp [putFile, delFile, insFile, lvD]
theorem lv_ok : (plainS 5).ok := by decide
theorem lv_len : (frP 4 (snapW (plainS 5))).length ≤ 1000 := by
  have h1 := headW_len (n := 5) (k := 1) (by decide) (by decide) [0] (by decide)
  have h2 := memsW_len (ms := [0]) (by decide) 1
  have h3 := numW_len (n := 1) (by decide)
  have e : snapW (plainS 5) = numsW [5, 1, ([0] : List Int).length] ++ numsW ((([0] : List Int).take 1).map Int.toNat) ++ (numW 1 ++ [97]) := rfl
  rw [e]
  unfold frP
  rw [length_sealP]
  simp only [List.length_append, List.length_cons, List.length_nil] at *
  omega
end Go.Proofs.YtofhccpagnkalaaGreat

/- The chapter's example of snapshot; no conditions. -/
namespace Go.Proofs.YtofhccpagnkalaaGreat
open Go.RowKit Go.Maps Go.Proofs.Own

set_option maxHeartbeats 4000000 in
set_option maxRecDepth 20000 in
theorem lives_any (w : World) : Calls Tryz.prog 7 #[] w fun e w' => e = .returned (.bool true) ∧ Below w.heap.size w w' := by
  have HSB : Hid ((plainS 5).sameB (plainS 5) = true) := Lib.hid (by decide)
  go_enter Tryz.func7, Tryz.ntmps7
  go_wp2_with fail
  refine (dnew 1000 w (by decide) (by decide)).mono ?_
  rintro e w1 ⟨db, mb, tb, rfl, hd1, hb1, h1, h2, h3⟩
  have D1 : Hid (DiskIs w1 db mb tb (lvD [] 0)) := Lib.hid hd1
  have B1 := Lib.hid hb1
  have HO : Hid (∀ k, Own3 db mb tb k → w.heap.size ≤ k) := Lib.hid (by rintro k (rfl | rfl | rfl) <;> assumption)
  have L1 := hb1.size
  clear hd1 hb1 h1 h2 h3
  go_wp2_with fail
  refine (sopen_new db mb tb (lvD [] 0) w1 D1.out lv_good0 (by rw [lv_gone]) (by rw [lv_gone]; exact lv_none)).mono ?_
  rintro e w2 ⟨sb, rfl, hd2, hs2, hk2, hsb⟩
  rw [lv_gone] at hd2
  have D2 := Lib.hid hd2
  have S2 := Lib.hid hs2
  have B2 : Hid (Below w.heap.size w w2) := Lib.hid (B1.out.trans (hk2.below L1 HO.out))
  have hsw : w.heap.size ≤ sb := Nat.le_trans L1 hsb
  clear hd2 hs2 hk2 hsb
  go_wp2_with fail
  refine (plain_any 5 w2).mono ?_
  rintro e w3 ⟨v3, rfl, hs3, hb3⟩
  have P3 := Lib.hid hs3
  have D3 := Lib.hid (D2.out.below hb3)
  have S3 := Lib.hid (S2.out.below hb3)
  have B3 : Hid (Below w.heap.size w w3) := Lib.hid (B2.out.trans (hb3.mono B2.out.size))
  have L3 := hb3.size
  clear hs3 hb3
  go_wp2_with fail
  have g1 := lv_good0.append nOther (frP 4 (snapW (plainS 5))) (by decide)
  rw [lv_app _ lv_len] at g1
  have g2 := g1.1.sync nOther (by show (1 : Int) + 1 ≤ 1000000000; decide)
  rw [lv_sync] at g2
  refine (ssave_ok sb db mb tb zeroS (plainS 5) (lvD [] 0) (lvD [] 0) _ _ _ v3 w3 S3.out P3.out.is (fun w' hk => (P3.out.kept hk fun k hk hn => by have := D2.out.lt3 _ hn; omega).is) lv_ok (by decide) D3.out lv_good0 lv_good0 g1.1 g2.1 lv_gone (lv_app _ lv_len) (lv_sync _) (lv_move _)).mono ?_
  rintro e w4 ⟨rfl, hd4, hs4, hk4⟩
  have S4 := Lib.hid hs4
  have B4 : Hid (Below w.heap.size w w4) := Lib.hid (B3.out.trans (hk4.below B3.out.size (fun k hk => hk.elim (HO.out k) (fun e => e ▸ hsw))))
  clear g1 g2 hd4 hs4 hk4
  go_wp2_with fail
  refine (plain_any 5 w4).mono ?_
  rintro e w5 ⟨v5, rfl, hs5, hb5⟩
  have P5 := Lib.hid hs5
  have S5 := Lib.hid (S4.out.below hb5)
  have B5 : Hid (Below w.heap.size w w5) := Lib.hid (B4.out.trans (hb5.mono B4.out.size))
  clear hs5 hb5
  go_wp2_with fail
  refine (ssave_old sb db mb tb (plainS 5) (plainS 5) v5 w5 S5.out P5.out.is lv_ok (by decide)).mono ?_
  rintro e w6 ⟨rfl, hb6⟩
  have S6 := Lib.hid (S5.out.below hb6)
  have B6 : Hid (Below w.heap.size w w6) := Lib.hid (B5.out.trans (hb6.mono B5.out.size))
  clear hb6
  go_wp2_with fail
  refine (sget_any sb db mb tb (plainS 5) w6 S6.out (by decide)).mono ?_
  rintro e wx ⟨vx, rfl, ⟨mvx, dvx, rfl, om, od⟩, hbx⟩
  obtain ⟨amx, cmx, rfl⟩ := om.shape
  obtain ⟨adx, cdx, rfl⟩ := od.shape
  have HI := Lib.hid (Ints.of_owns om (by decide))
  have HB := Lib.hid (Bytes.of_owns od (by decide) (by decide))
  have BX : Hid (Below w.heap.size w wx) := Lib.hid (B6.out.trans (hbx.mono B6.out.size))
  clear om od hbx
  go_wp2_with fail
  have SG0 := SBlk.box wx (plainS 5).i (plainS 5).t (.slice amx (plainS 5).ms.length cmx) (.slice adx (ints (plainS 5).d).length cdx)
  have hbg : Below wx.heap.size wx (wx.alloc (.cells #[.int .u64 (plainS 5).i, .int .u64 (plainS 5).t, .slice amx (plainS 5).ms.length cmx, .slice adx (ints (plainS 5).d).length cdx] 40)) := (Below.refl _ _).alloc (Nat.le_refl _) _
  generalize World.alloc wx _ = wg at *
  have SG := Lib.hid SG0
  have SN : Hid (SnapIs wg (.agg #[.int .u64 (plainS 5).i, .int .u64 (plainS 5).t, .slice amx (plainS 5).ms.length cmx, .slice adx (ints (plainS 5).d).length cdx]) (plainS 5)) := Lib.hid ⟨_, _, rfl, HI.out.below hbg, HB.out.below hbg⟩
  have BG : Hid (Below w.heap.size w wg) := Lib.hid (BX.out.trans (hbg.mono BX.out.size))
  have ST := Stable.from wg
  clear SG0 hbg
  refine region_start [0, 1, 3, 7, 15, 31, 63, 127, 255, 511, 1023, 2047, 4095, 8191, 16383, 16383, 65535, 131071, 262143, 524287, 1048575] 32768 (fun w' => Below wg.heap.size wg w') (by kernel_rfl) ?_
  refine stage_heads [0, 1, 2, 3, 4, 5, 6, 7, 8, 9, 10, 11, 12, 13, 14] (by kernel_rfl) (L := #[true, true, true, true, true, true, true, true, true, true, true, true, true, true, true, false, false, false, false, false, false]) (by kernel_rfl) (f' := 6) rfl (fun _ _ _ _ h => h) (fun w o h => ST.alloc h o) (.inr (by first | exact Below.refl _ _ | exact (Below.refl _ _).drew)) ?_
  simp only [List.flatMap_cons, List.flatMap_nil, List.drop_succ_cons, List.drop_zero, List.take_succ_cons, List.take_zero, List.cons_append, List.nil_append, List.append_nil]
  iterate 15 (first | (refine heads_load _ (by rfl) (fun w' hs => by have y0 := SG.out.below hs; obtain ⟨r0, r1, r2, r3, _, _, _, _⟩ := y0; go_simp; try with_reducible rfl) rfl ?_; simp only [Act.put, List.setIfInBounds_toArray, List.set_cons_zero, List.set_cons_succ]) | (refine heads_pure _ (by rfl) (fun w' => by go_simp; try with_reducible rfl) ?_; simp only [Act.put, List.setIfInBounds_toArray, List.set_cons_zero, List.set_cons_succ]))
  refine heads_nil ?_
  refine stage_op 15 (by kernel_rfl) (L := #[true, true, true, true, true, true, true, true, true, true, true, true, true, true, true, true, false, false, false, false, false]) (by kernel_rfl) ?_
  simp only [List.drop_succ_cons, List.drop_zero, List.take_succ_cons, List.take_zero]
  go_wp2_with fail; refine (plain_any 5 _).mono ?_; rintro e w7 ⟨v7, rfl, hs7, hb7⟩; have HS7 := Lib.hid hs7.is; have I7 : Hid (Below wg.heap.size wg w7) := Lib.hid (by first | exact hb7 | exact ((Below.refl _ _).drew).trans hb7); clear hs7 hb7; go_wp2_with fail
  refine step_post (fun _ => I7.out) ?_
  refine stage_op 16 (by kernel_rfl) (L := #[true, true, true, true, true, true, true, true, true, true, true, true, true, true, true, true, true, false, false, false, false]) (by kernel_rfl) ?_
  simp only [List.drop_succ_cons, List.drop_zero, List.take_succ_cons, List.take_zero]
  go_wp2_with fail; refine (rsame_any _ _ (plainS 5) (plainS 5) _ (by first | exact SN.out.below I7.out | exact (SN.out.below I7.out).below ((Below.refl _ _).drew)) (by first | exact HS7.out | exact HS7.out.below ((Below.refl _ _).drew))).mono ?_; rintro e w8 ⟨rfl, hb8⟩; have I8 : Hid (Below wg.heap.size wg w8) := Lib.hid (by first | exact I7.out.trans (hb8.mono I7.out.size) | exact I7.out.trans (((Below.refl _ _).drew.trans hb8).mono I7.out.size)); clear hb8; rw [HSB.out]; go_wp2_with fail
  refine step_post nofun ?_
  refine stage_heads [17, 18, 19, 20] (by kernel_rfl) (L := #[true, true, true, true, true, true, true, true, true, true, true, true, true, true, true, true, true, true, true, true, true]) (by kernel_rfl) (f' := 0) rfl (fun _ _ _ _ h => h) (fun w o h => ST.alloc h o) (.inl (by kernel_rfl)) ?_
  simp only [List.flatMap_cons, List.flatMap_nil, List.drop_succ_cons, List.drop_zero, List.take_succ_cons, List.take_zero, List.cons_append, List.nil_append, List.append_nil]
  iterate 4 (refine heads_pure _ (by rfl) (fun w' => by go_simp; try with_reducible rfl) ?_; simp only [Act.put, List.setIfInBounds_toArray, List.set_cons_zero, List.set_cons_succ])
  refine heads_nil ?_
  refine stage_done (by kernel_rfl) ?_
  go_wp2_with fail
  go_ret
  exact ⟨rfl, BG.out.trans (I8.out.mono BG.out.size)⟩
end Go.Proofs.YtofhccpagnkalaaGreat
