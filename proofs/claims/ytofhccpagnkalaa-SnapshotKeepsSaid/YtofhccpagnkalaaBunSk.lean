/- Several texts in one: Nod, Liv, Sav, Sk, Sop, Lgt, Ske, SkeH. What each proves stands ahead of it. -/
import Derived.Test.YtofhccpagnkalaaSto
import Derived.Test.YtofhccpagnkalaaLiv0
import Derived.Test.YtofhccpagnkalaaSave2
import Derived.Test.YtofhccpagnkalaaBunVp
import Derived.Test.YtofhccpagnkalaaSb
import Derived.Test.YtofhccpagnkalaaBunNe
/- A disk that is none: what its calls, and a snapshot's store that is none, tell; no conditions. -/
namespace Go.Proofs.Ytofhccpagnkalaa
open Go.RowKit Go.Maps Go.Proofs.Own

/-- p is nil, or a disk that no call made. -/
def NoDisk (w : World) (p : Option Addr) : Prop := p = none ∨ ∃ b, p = some ⟨b, 0, none⟩ ∧ w.cell? ⟨b, 0, none⟩ = some (.map none)
theorem NoDisk.below {w w' : World} {p : Option Addr} (h : NoDisk w p) (hb : Below w.heap.size w w') : NoDisk w' p := by
  rcases h with h | ⟨b, h, c⟩
  · exact .inl h
  · exact .inr ⟨b, h, Below.at hb c (World.block_lt_of_cell? _ _ c)⟩

set_option maxHeartbeats 1000000 in
theorem nod_none (p : Option Addr) (w : World) (h : NoDisk w p) : Calls Try.prog 66 #[.pointer p] w fun e w' => e = .returned (.bool true) ∧ w = w' := by
  have hm := fun w => run_eql_map_nil (P := Try.prog) w 55 9 120 none Try.underlying55
  rcases h with rfl | ⟨b, rfl, c0⟩
  all_goals
    go_enter Try.func66, Try.ntmps66
    go_wp2_with fail
    go_ret
    exact ⟨rfl, rfl⟩
set_option maxHeartbeats 1000000 in
theorem nod_up (p : Option Addr) (w : World) (h : NoDisk w p) : Calls Try.prog 79 #[.pointer p] w fun e w' => e = .returned (.int .i64 1) ∧ w = w' := by
  have H := Lib.hid h
  clear h
  go_enter Try.func79, Try.ntmps79
  go_wp2_with fail
  refine (nod_none p _ H.out).mono ?_
  rintro e w1 ⟨rfl, rfl⟩
  go_wp2_with fail
  go_ret
  exact ⟨rfl, rfl⟩
set_option maxHeartbeats 1000000 in
theorem nod_file (p : Option Addr) (n : ByteArray) (w : World) (h : NoDisk w p) : Calls Try.prog 98 #[.pointer p, .string n] w fun e w' => e = .returned (.tuple #[.agg #[.slice none 0 0, .int .i64 0], .int .i64 1]) ∧ Below w.heap.size w w' := by
  have H := Lib.hid h
  clear h
  go_enter Try.func98, Try.ntmps98
  go_wp2_with fail
  refine (nod_up p _ (H.out.below ((Below.refl _ _).alloc (Nat.le_refl _) _))).mono ?_
  rintro e w1 ⟨rfl, rfl⟩
  go_wp2_with fail
  refine bodyPost_ret (v := .tuple #[.agg #[.slice none 0 0, .int .i64 0], .int .i64 1]) (by simp [results, Try.results98, go_sem]) rfl ?_
  exact ⟨rfl, (Below.refl _ _).alloc (Nat.le_refl _) _⟩
set_option maxHeartbeats 1000000 in
theorem nod_remove (p : Option Addr) (n : ByteArray) (w : World) (h : NoDisk w p) : Calls Try.prog 93 #[.pointer p, .string n] w fun e w' => e = .returned (.int .i64 1) ∧ Below w.heap.size w w' := by
  have H := Lib.hid h
  clear h
  go_enter Try.func93, Try.ntmps93
  go_wp2_with fail
  refine (nod_file p n _ H.out).mono ?_
  rintro e w1 ⟨rfl, hb1⟩
  have B1 := Lib.hid hb1
  have L1 := hb1.size
  clear hb1
  go_wp2_with fail
  go_ret
  exact ⟨rfl, B1.out.alloc L1 (.cells #[.slice none 0 0, .int .i64 0] 120)⟩

/-- p is nil, or a store that no call made. -/
def NoStore (w : World) (p : Option Addr) : Prop := p = none ∨ ∃ b, p = some ⟨b, 0, none⟩ ∧ w.cell? ⟨b, 0, none⟩ = some (.pointer none)
theorem NoStore.below {w w' : World} {p : Option Addr} (h : NoStore w p) (hb : Below w.heap.size w w') : NoStore w' p := by
  rcases h with h | ⟨b, h, c⟩
  · exact .inl h
  · exact .inr ⟨b, h, Below.at hb c (World.block_lt_of_cell? _ _ c)⟩
set_option maxHeartbeats 1000000 in
theorem nos_none (p : Option Addr) (w : World) (h : NoStore w p) : Calls Try.prog 70 #[.pointer p] w fun e w' => e = .returned (.bool true) ∧ w = w' := by
  rcases h with rfl | ⟨b, rfl, c0⟩
  all_goals
    go_enter Try.func70, Try.ntmps70
    go_wp2_with fail
    go_ret
    exact ⟨rfl, rfl⟩
set_option maxHeartbeats 1000000 in
set_option maxRecDepth 20000 in
theorem nos_get (p : Option Addr) (w : World) (h : NoStore w p) : Calls Try.prog 32 #[.pointer p] w fun e w' => e = .returned (.tuple #[.agg #[.int .u64 0, .int .u64 0, .slice none 0 0, .slice none 0 0], .bool false]) ∧ Below w.heap.size w w' := by
  have H := Lib.hid h
  clear h
  go_enter Try.func32, Try.ntmps32
  go_wp2_with fail
  have R1 : Hid (SBlk (w.alloc (.cells #[.int .u64 0, .int .u64 0, .slice none 0 0, .slice none 0 0] 27)) w.heap.size 0 0 (.slice none 0 0) (.slice none 0 0)) := Lib.hid (SBlk.new w)
  have B1 : Hid (Below w.heap.size w (w.alloc (.cells #[.int .u64 0, .int .u64 0, .slice none 0 0, .slice none 0 0] 27))) := Lib.hid ((Below.refl _ _).alloc (Nat.le_refl _) _)
  generalize World.alloc w _ = w1 at *
  refine (nos_none p w1 (H.out.below B1.out)).mono ?_
  rintro e w2 ⟨rfl, rfl⟩
  obtain ⟨q0, q1, q2, q3, g0, g1, g2, g3⟩ := R1.out
  go_wp2_with fail
  generalize hwF : World.setCell _ _ _ = wF
  have KF : Hid (Kept w1 wF (fun k => k = w.heap.size)) := Lib.hid (by subst hwF; exact Kept.set4 _ _ _ _ _ _)
  have RF : Hid (SBlk wF w.heap.size 0 0 (.slice none 0 0) (.slice none 0 0)) := Lib.hid (by subst hwF; exact R1.out.set4 0 0 _ _)
  clear hwF q0 q1 q2 q3 g0 g1 g2 g3
  obtain ⟨q0, q1, q2, q3, _, _, _, _⟩ := RF.out
  refine bodyPost_ret (v := .tuple #[.agg #[.int .u64 0, .int .u64 0, .slice none 0 0, .slice none 0 0], .bool false]) (by simp [results, Try.results32, go_sem, q0, q1, q2, q3]) rfl ?_
  exact ⟨rfl, B1.out.trans (KF.out.below B1.out.size (fun k hk => by omega))⟩
set_option maxHeartbeats 1000000 in
set_option maxRecDepth 20000 in
theorem nos_save (p : Option Addr) (i t : Int) (am ad : Option Addr) (nm cm nd cd : Nat) (w : World) (h : NoStore w p) : Calls Try.prog 33 #[.pointer p, .agg #[.int .u64 i, .int .u64 t, .slice am nm cm, .slice ad nd cd]] w fun e w' => e = .returned (.int .i64 1) ∧ Below w.heap.size w w' := by
  have H := Lib.hid h
  clear h
  go_enter Try.func33, Try.ntmps33
  go_wp2_with fail
  have B1 : Hid (Below w.heap.size w ((w.alloc (.cells #[.pointer p] 61)).alloc (.cells #[.int .u64 i, .int .u64 t, .slice am nm cm, .slice ad nd cd] 27))) := Lib.hid (((Below.refl _ _).alloc (Nat.le_refl _) _).alloc (by simp) _)
  refine (nos_none p _ (H.out.below B1.out)).mono ?_
  rintro e w2 ⟨rfl, rfl⟩
  go_wp2_with fail
  go_ret
  exact ⟨rfl, B1.out⟩
set_option maxHeartbeats 1000000 in
set_option maxRecDepth 20000 in
/-- The snapshot's Open of a disk that is none. -/
theorem nos_open (p : Option Addr) (w : World) (h : NoDisk w p) : Calls Try.prog 34 #[.pointer p] w fun e w' => e = .returned (.tuple #[.pointer none, .int .i64 1]) ∧ Below w.heap.size w w' := by
  have H := Lib.hid h
  clear h
  go_enter Try.func34, Try.ntmps34
  go_wp2_with fail
  have B1 : Hid (Below w.heap.size w (w.alloc (.cells #[.pointer p, .int .u64 0, .int .u64 0, .slice none 0 0, .slice none 0 0] 63))) := Lib.hid ((Below.refl _ _).alloc (Nat.le_refl _) _)
  have C1 : Hid ((w.alloc (.cells #[.pointer p, .int .u64 0, .int .u64 0, .slice none 0 0, .slice none 0 0] 63)).cell? ⟨w.heap.size, 0, none⟩ = some (.pointer p)) := Lib.hid (by go_cell)
  generalize World.alloc w _ = w1 at *
  have G : Calls Try.prog 71 #[.pointer (some ⟨w.heap.size, 0, none⟩)] w1 fun e w' => e = .returned (.int .i64 1) ∧ Below w1.heap.size w1 w' := by
    have c1 := C1.out
    go_enter Try.func71, Try.ntmps71
    go_wp2_with fail
    refine (nod_remove p _ w1 (H.out.below B1.out)).mono ?_
    rintro e w2 ⟨rfl, hb2⟩
    have B2 := Lib.hid hb2
    clear hb2
    go_wp2_with fail
    go_ret
    exact ⟨rfl, B2.out⟩
  refine G.mono ?_
  rintro e w2 ⟨rfl, hb2⟩
  have B2 : Hid (Below w.heap.size w w2) := Lib.hid (B1.out.trans (hb2.mono B1.out.size))
  clear hb2 G
  go_wp2_with fail
  go_ret2
  exact ⟨rfl, B2.out⟩
set_option maxHeartbeats 1000000 in
set_option maxRecDepth 20000 in
/-- .. and of one from which the file beside cannot go. -/
theorem sopen_err (db mb tb : Nat) (D : DiskS) (w : World) (hd : DiskIs w db mb tb D) (hw : DGood D) (hg : (goneD D).2 ≠ 0) :
    Calls Try.prog 34 #[.pointer (some ⟨db, 0, none⟩)] w fun e w' => e = .returned (.tuple #[.pointer none, .int .i64 (goneD D).2]) ∧ DiskIs w' db mb tb (goneD D).1 ∧ Kept w w' (Own3 db mb tb) := by
  have HD := Lib.hid hd
  have HW := Lib.hid hw
  obtain ⟨r, hr⟩ : ∃ r, goneD D = r := ⟨_, rfl⟩
  obtain ⟨D1, e1⟩ := r
  have HR := Lib.hid hr
  rw [hr] at hg ⊢
  have hgb : ((e1 : Int) != 0) = true := by simp; simp at hg; omega
  clear hd hw hg hr
  go_enter Try.func34, Try.ntmps34
  go_wp2_with fail
  have B1 : Hid (Below w.heap.size w (w.alloc (.cells #[.pointer (some ⟨db, 0, none⟩), .int .u64 0, .int .u64 0, .slice none 0 0, .slice none 0 0] 63))) := Lib.hid ((Below.refl _ _).alloc (Nat.le_refl _) _)
  have C1 : Hid ((w.alloc (.cells #[.pointer (some ⟨db, 0, none⟩), .int .u64 0, .int .u64 0, .slice none 0 0, .slice none 0 0] 63)).cell? ⟨w.heap.size, 0, none⟩ = some (.pointer (some ⟨db, 0, none⟩))) := Lib.hid (by go_cell)
  generalize World.alloc w _ = w1 at *
  refine (sgone_any w.heap.size db mb tb D w1 C1.out (HD.out.below B1.out) HW.out).mono ?_
  rintro e w2 ⟨rfl, hd2, hk2⟩
  rw [HR.out] at hd2 ⊢
  have D2 := Lib.hid hd2
  have K2 : Hid (Kept w w2 (Own3 db mb tb)) := Lib.hid ((Kept.below3 B1.out).trans hk2)
  clear hd2 hk2
  go_wp2_with fail
  go_ret2
  exact ⟨rfl, D2.out, K2.out⟩
end Go.Proofs.Ytofhccpagnkalaa

/- The chapter's example of snapshot; no conditions. -/
namespace Go.Proofs.Ytofhccpagnkalaa
open Go.RowKit Go.Maps Go.Proofs.Own

set_option maxHeartbeats 4000000 in
set_option maxRecDepth 20000 in
theorem lives_any (w : World) : Calls Try.prog 11 #[] w fun e w' => e = .returned (.bool true) ∧ Below w.heap.size w w' := by
  have HSB : Hid ((plainS 5).sameB (plainS 5) = true) := Lib.hid (by decide)
  go_enter Try.func11, Try.ntmps11
  go_wp2_with fail
  refine (dnew 1000 w (by decide) (by decide)).mono ?_
  rintro e w1 ⟨db, mb, tb, rfl, hd1, hb1, h1, h2, h3⟩
  have D1 : Hid (DiskIs w1 db mb tb (lvD [] 0)) := Lib.hid hd1
  have B1 := Lib.hid hb1
  have HO : Hid (∀ k, Own3 db mb tb k → w.heap.size ≤ k) := Lib.hid (by rintro k (rfl | rfl | rfl) <;> assumption)
  have L1 := hb1.size
  clear hd1 hb1 h1 h2 h3
  go_wp2_with fail
  refine (sopen_new db mb tb (lvD [] 0) w1 D1.out lv_good0 (by rw [lv_gone]) (by rw [lv_gone]; exact lv_none)).mono ?_
  rintro e w2 ⟨sb, rfl, hd2, hs2, hk2, hsb⟩
  rw [lv_gone] at hd2
  have D2 := Lib.hid hd2
  have S2 := Lib.hid hs2
  have B2 : Hid (Below w.heap.size w w2) := Lib.hid (B1.out.trans (hk2.below L1 HO.out))
  have hsw : w.heap.size ≤ sb := Nat.le_trans L1 hsb
  clear hd2 hs2 hk2 hsb
  go_wp2_with fail
  refine (plain_any 5 w2).mono ?_
  rintro e w3 ⟨v3, rfl, hs3, hb3⟩
  have P3 := Lib.hid hs3
  have D3 := Lib.hid (D2.out.below hb3)
  have S3 := Lib.hid (S2.out.below hb3)
  have B3 : Hid (Below w.heap.size w w3) := Lib.hid (B2.out.trans (hb3.mono B2.out.size))
  have L3 := hb3.size
  clear hs3 hb3
  go_wp2_with fail
  have g1 := lv_good0.append nOther (frP 4 (snapW (plainS 5))) (by decide)
  rw [lv_app _ lv_len] at g1
  have g2 := g1.1.sync nOther (by show (1 : Int) + 1 ≤ 1000000000; decide)
  rw [lv_sync] at g2
  refine (ssave_ok sb db mb tb zeroS (plainS 5) (lvD [] 0) (lvD [] 0) _ _ _ v3 w3 S3.out P3.out.is (fun w' hk => (P3.out.kept hk fun k hk hn => by have := D2.out.lt3 _ hn; omega).is) lv_ok (by decide) D3.out lv_good0 lv_good0 g1.1 g2.1 lv_gone (lv_app _ lv_len) (lv_sync _) (lv_move _)).mono ?_
  rintro e w4 ⟨rfl, hd4, hs4, hk4⟩
  have S4 := Lib.hid hs4
  have B4 : Hid (Below w.heap.size w w4) := Lib.hid (B3.out.trans (hk4.below B3.out.size (fun k hk => hk.elim (HO.out k) (fun e => e ▸ hsw))))
  clear g1 g2 hd4 hs4 hk4
  go_wp2_with fail
  refine (plain_any 5 w4).mono ?_
  rintro e w5 ⟨v5, rfl, hs5, hb5⟩
  have P5 := Lib.hid hs5
  have S5 := Lib.hid (S4.out.below hb5)
  have B5 : Hid (Below w.heap.size w w5) := Lib.hid (B4.out.trans (hb5.mono B4.out.size))
  clear hs5 hb5
  go_wp2_with fail
  refine (ssave_old sb db mb tb (plainS 5) (plainS 5) v5 w5 S5.out P5.out.is lv_ok (by decide)).mono ?_
  rintro e w6 ⟨rfl, hb6⟩
  have S6 := Lib.hid (S5.out.below hb6)
  have B6 : Hid (Below w.heap.size w w6) := Lib.hid (B5.out.trans (hb6.mono B5.out.size))
  clear hb6
  go_wp2_with fail
  refine (sget_any sb db mb tb (plainS 5) w6 S6.out (by decide)).mono ?_
  rintro e wx ⟨vx, rfl, ⟨mvx, dvx, rfl, om, od⟩, hbx⟩
  obtain ⟨amx, cmx, rfl⟩ := om.shape
  obtain ⟨adx, cdx, rfl⟩ := od.shape
  have HI := Lib.hid (Ints.of_owns om (by decide))
  have HB := Lib.hid (Bytes.of_owns od (by decide) (by decide))
  have BX : Hid (Below w.heap.size w wx) := Lib.hid (B6.out.trans (hbx.mono B6.out.size))
  clear om od hbx
  go_wp2_with fail
  have SG0 := SBlk.box wx (plainS 5).i (plainS 5).t (.slice amx (plainS 5).ms.length cmx) (.slice adx (ints (plainS 5).d).length cdx)
  have hbg : Below wx.heap.size wx (wx.alloc (.cells #[.int .u64 (plainS 5).i, .int .u64 (plainS 5).t, .slice amx (plainS 5).ms.length cmx, .slice adx (ints (plainS 5).d).length cdx] 27)) := (Below.refl _ _).alloc (Nat.le_refl _) _
  generalize World.alloc wx _ = wg at *
  have SG := Lib.hid SG0
  have SN : Hid (SnapIs wg (.agg #[.int .u64 (plainS 5).i, .int .u64 (plainS 5).t, .slice amx (plainS 5).ms.length cmx, .slice adx (ints (plainS 5).d).length cdx]) (plainS 5)) := Lib.hid ⟨_, _, rfl, HI.out.below hbg, HB.out.below hbg⟩
  have BG : Hid (Below w.heap.size w wg) := Lib.hid (BX.out.trans (hbg.mono BX.out.size))
  have ST := Stable.from wg
  clear SG0 hbg
  refine region_start [0, 1, 3, 7, 15, 31, 63, 127, 255, 511, 1023, 2047, 4095, 8191, 16383, 16383, 65535, 131071, 262143, 524287, 1048575] 32768 (fun w' => Below wg.heap.size wg w') (by kernel_rfl) ?_
  refine stage_heads [0, 1, 2, 3, 4, 5, 6, 7, 8, 9, 10, 11, 12, 13, 14] (by kernel_rfl) (L := #[true, true, true, true, true, true, true, true, true, true, true, true, true, true, true, false, false, false, false, false, false]) (by kernel_rfl) (f' := 6) rfl (fun _ _ _ _ h => h) (fun w o h => ST.alloc h o) (.inr (by first | exact Below.refl _ _ | exact (Below.refl _ _).drew)) ?_
  simp only [List.flatMap_cons, List.flatMap_nil, List.drop_succ_cons, List.drop_zero, List.take_succ_cons, List.take_zero, List.cons_append, List.nil_append, List.append_nil]
  iterate 15 (first | (refine heads_load _ (by rfl) (fun w' hs => by have y0 := SG.out.below hs; obtain ⟨r0, r1, r2, r3, _, _, _, _⟩ := y0; go_simp; try with_reducible rfl) rfl ?_; simp only [Act.put, List.setIfInBounds_toArray, List.set_cons_zero, List.set_cons_succ]) | (refine heads_pure _ (by rfl) (fun w' => by go_simp; try with_reducible rfl) ?_; simp only [Act.put, List.setIfInBounds_toArray, List.set_cons_zero, List.set_cons_succ]))
  refine heads_nil ?_
  refine stage_op 15 (by kernel_rfl) (L := #[true, true, true, true, true, true, true, true, true, true, true, true, true, true, true, true, false, false, false, false, false]) (by kernel_rfl) ?_
  simp only [List.drop_succ_cons, List.drop_zero, List.take_succ_cons, List.take_zero]
  go_wp2_with fail; refine (plain_any 5 _).mono ?_; rintro e w7 ⟨v7, rfl, hs7, hb7⟩; have HS7 := Lib.hid hs7.is; have I7 : Hid (Below wg.heap.size wg w7) := Lib.hid (by first | exact hb7 | exact ((Below.refl _ _).drew).trans hb7); clear hs7 hb7; go_wp2_with fail
  refine step_post (fun _ => I7.out) ?_
  refine stage_op 16 (by kernel_rfl) (L := #[true, true, true, true, true, true, true, true, true, true, true, true, true, true, true, true, true, false, false, false, false]) (by kernel_rfl) ?_
  simp only [List.drop_succ_cons, List.drop_zero, List.take_succ_cons, List.take_zero]
  go_wp2_with fail; refine (rsame_any _ _ (plainS 5) (plainS 5) _ (by first | exact SN.out.below I7.out | exact (SN.out.below I7.out).below ((Below.refl _ _).drew)) (by first | exact HS7.out | exact HS7.out.below ((Below.refl _ _).drew))).mono ?_; rintro e w8 ⟨rfl, hb8⟩; have I8 : Hid (Below wg.heap.size wg w8) := Lib.hid (by first | exact I7.out.trans (hb8.mono I7.out.size) | exact I7.out.trans (((Below.refl _ _).drew.trans hb8).mono I7.out.size)); clear hb8; rw [HSB.out]; go_wp2_with fail
  refine step_post nofun ?_
  refine stage_heads [17, 18, 19, 20] (by kernel_rfl) (L := #[true, true, true, true, true, true, true, true, true, true, true, true, true, true, true, true, true, true, true, true, true]) (by kernel_rfl) (f' := 0) rfl (fun _ _ _ _ h => h) (fun w o h => ST.alloc h o) (.inl (by kernel_rfl)) ?_
  simp only [List.flatMap_cons, List.flatMap_nil, List.drop_succ_cons, List.drop_zero, List.take_succ_cons, List.take_zero, List.cons_append, List.nil_append, List.append_nil]
  iterate 4 (refine heads_pure _ (by rfl) (fun w' => by go_simp; try with_reducible rfl) ?_; simp only [Act.put, List.setIfInBounds_toArray, List.set_cons_zero, List.set_cons_succ])
  refine heads_nil ?_
  refine stage_done (by kernel_rfl) ?_
  go_wp2_with fail
  go_ret
  exact ⟨rfl, BG.out.trans (I8.out.mono BG.out.size)⟩
end Go.Proofs.Ytofhccpagnkalaa

/- The store's Save, every way; no conditions but the ranges. -/
namespace Go.Proofs.Ytofhccpagnkalaa
open Go.RowKit Go.Maps Go.Proofs.Own

/-- The four steps of a Save of the bytes b. -/
def save4 (D : DiskS) (b : List Nat) : DiskS × Nat :=
  if (goneD D).2 ≠ 0 then goneD D else if (appendD (goneD D).1 nOther b).2 ≠ 0 then appendD (goneD D).1 nOther b
  else if (syncD (appendD (goneD D).1 nOther b).1 nOther).2 ≠ 0 then syncD (appendD (goneD D).1 nOther b).1 nOther
  else moveD (syncD (appendD (goneD D).1 nOther b).1 nOther).1 nOther nSnap
def saveD (D : DiskS) (s x : SnapS) : DiskS × Nat := if ¬ x.ok then (D, 2) else if x.i ≤ s.i then (D, 34) else save4 D (frP 4 (snapW x))
theorem save4_good {D : DiskS} (b : List Nat) (h : DGood D) (hs : D.steps + 4 ≤ 1000000000) : DGood (save4 D b).1 ∧ (save4 D b).1.steps ≤ D.steps + 4 := by
  have h1 := goneD_good h (by omega)
  have h2 := h1.1.append nOther b (by omega)
  have h3 := h2.1.sync nOther (by omega)
  have h4 := h3.1.move nOther nSnap (by omega)
  unfold save4
  split
  · exact ⟨h1.1, by omega⟩
  · split
    · exact ⟨h2.1, by omega⟩
    · split
      · exact ⟨h3.1, by omega⟩
      · exact ⟨h4.1, by omega⟩
theorem saveD_good {D : DiskS} (s x : SnapS) (h : DGood D) (hs : D.steps + 4 ≤ 1000000000) : DGood (saveD D s x).1 ∧ (saveD D s x).1.steps ≤ D.steps + 4 := by
  unfold saveD
  split
  · exact ⟨h, by simp only; omega⟩
  · split
    · exact ⟨h, by simp only; omega⟩
    · exact save4_good _ h hs
def SavePost (sb db mb tb : Nat) (R : DiskS × Nat) (s x : SnapS) (w : World) : Ending → World → Prop := fun e w' =>
  e = .returned (.int .i64 R.2) ∧ DiskIs w' db mb tb R.1 ∧ StoreIs w' sb db mb tb (if R.2 = 0 then x else s) ∧ Kept w w' (fun k => Own3 db mb tb k ∨ k = sb)

set_option maxHeartbeats 1600000 in
set_option maxRecDepth 20000 in
theorem ssave_bad (sb db mb tb : Nat) (s x : SnapS) (v : Value) (w : World) (h : StoreIs w sb db mb tb s) (hx : SnapIs w v x) (hok : ¬ x.ok) :
    Calls Try.prog 33 #[.pointer (some ⟨sb, 0, none⟩), v] w fun e w' => e = .returned (.int .i64 2) ∧ Below w.heap.size w w' := by
  have H := Lib.hid h
  have HX := Lib.hid hx
  have HOK := Lib.hid hok
  obtain ⟨mv, dv, rfl, hm, hd⟩ := hx
  obtain ⟨a, c, rfl, _⟩ := hd.shape
  obtain ⟨am, cm, rfl, _⟩ := hm.shape
  have hsl := h.lt
  clear h hm hd hok
  go_enter Try.func33, Try.ntmps33
  go_wp2_with fail
  generalize hw2 : World.alloc (World.alloc w _) _ = w2
  have B2 : Hid (Below w.heap.size w w2) := Lib.hid (by subst hw2; exact ((Below.refl _ _).alloc (Nat.le_refl _) _).alloc (by simp) _)
  have c2 : w2.cell? ⟨w.heap.size, 0, none⟩ = some (.pointer (some ⟨sb, 0, none⟩)) := by subst hw2; go_cell
  have S2 : Hid (SBlk w2 (w.heap.size + 1) x.i x.t (.slice am x.ms.length cm) (.slice a x.d.length c)) := Lib.hid (by
    subst hw2
    have k := SBlk.box (w.alloc (.cells #[.pointer (some ⟨sb, 0, none⟩)] 61)) x.i x.t (.slice am x.ms.length cm) (.slice a x.d.length c)
    simpa using k)
  have l2 : w.heap.size + 1 < w2.heap.size := S2.out.lt
  clear hw2
  refine (snone sb db mb tb s w2 (H.out.below B2.out)).mono ?_
  rintro e w2' ⟨rfl, rfl⟩
  obtain ⟨r0, r1, r2, r3, _, _, _, _⟩ := S2.out
  go_wp2_with fail
  refine (sbytes_no _ x w2 (HX.out.below B2.out) HOK.out).mono ?_
  rintro e w3 ⟨rfl, hb3⟩
  have B3 : Hid (Below w.heap.size w w3) := Lib.hid (B2.out.trans (hb3.mono B2.out.size))
  have c3 := Below.at hb3 c2 (by show w.heap.size < w2.heap.size; omega)
  have r3' := Below.at hb3 r0 l2
  have l3 := hb3.size
  clear hb3 r0 r1 r2 r3 c2
  go_wp2_with fail
  go_ret
  exact ⟨rfl, B3.out.alloc (by have := B3.out.size; omega) _⟩

set_option maxHeartbeats 4000000 in
set_option maxRecDepth 20000 in
theorem ssave_go (sb db mb tb : Nat) (s x : SnapS) (D D1 D2 D3 D4 : DiskS) (n1 n2 n3 n4 : Nat) (R : DiskS × Nat) (v : Value) (w : World) (h : StoreIs w sb db mb tb s) (hx : SnapIs w v x) (hxk : ∀ w', Kept w w' (Own3 db mb tb) → SnapIs w' v x) (hok : x.ok) (hgt : s.i < x.i) (hd0 : DiskIs w db mb tb D)
    (g0 : DGood D) (g1 : DGood D1) (g2 : DGood D2) (g3 : DGood D3) (e1 : goneD D = (D1, n1)) (e2 : appendD D1 nOther (frP 4 (snapW x)) = (D2, n2)) (e3 : syncD D2 nOther = (D3, n3)) (e4 : moveD D3 nOther nSnap = (D4, n4)) (hv : R = if n1 ≠ 0 then (D1, n1) else if n2 ≠ 0 then (D2, n2) else if n3 ≠ 0 then (D3, n3) else (D4, n4)) :
    Calls Try.prog 33 #[.pointer (some ⟨sb, 0, none⟩), v] w (SavePost sb db mb tb R s x w) := by
  have H := Lib.hid h
  have HX := Lib.hid hx
  have HXK := Lib.hid hxk
  have HOK := Lib.hid hok
  have D0 := Lib.hid hd0
  have G0 := Lib.hid g0
  have G1 := Lib.hid g1
  have G2 := Lib.hid g2
  have G3 := Lib.hid g3
  have E1 := Lib.hid e1
  have E2 := Lib.hid e2
  have E3 := Lib.hid e3
  have E4 := Lib.hid e4
  have HV := Lib.hid hv
  have hgt' : ¬ x.i ≤ s.i := by omega
  obtain ⟨mv, dv, rfl, hm, hd⟩ := hx
  obtain ⟨a, c, rfl, _⟩ := hd.shape
  obtain ⟨am, cm, rfl, _⟩ := hm.shape
  have hsl := h.lt
  clear h hm hd hok hd0 g0 g1 g2 g3 e1 e2 e3 e4 hxk hv
  go_enter Try.func33, Try.ntmps33
  go_wp2_with fail
  generalize hw2 : World.alloc (World.alloc w _) _ = w2
  have B2 : Hid (Below w.heap.size w w2) := Lib.hid (by subst hw2; exact ((Below.refl _ _).alloc (Nat.le_refl _) _).alloc (by simp) _)
  have c2 : w2.cell? ⟨w.heap.size, 0, none⟩ = some (.pointer (some ⟨sb, 0, none⟩)) := by subst hw2; go_cell
  have S2 : Hid (SBlk w2 (w.heap.size + 1) x.i x.t (.slice am x.ms.length cm) (.slice a x.d.length c)) := Lib.hid (by
    subst hw2
    have k := SBlk.box (w.alloc (.cells #[.pointer (some ⟨sb, 0, none⟩)] 61)) x.i x.t (.slice am x.ms.length cm) (.slice a x.d.length c)
    simpa using k)
  have l2 : w.heap.size + 1 < w2.heap.size := S2.out.lt
  clear hw2
  refine (snone sb db mb tb s w2 (H.out.below B2.out)).mono ?_
  rintro e w2' ⟨rfl, rfl⟩
  obtain ⟨r0, r1, r2, r3, _, _, _, _⟩ := S2.out
  go_wp2_with fail
  refine (sbytes_yes _ x w2 (HX.out.below B2.out) HOK.out).mono ?_
  rintro e w3 ⟨bv, rfl, hB3, hb3, ho3⟩
  obtain ⟨ab, cb, rfl, _⟩ := hB3.shape
  have HO3 := Lib.hid ho3
  have HB3 := Lib.hid hB3
  have B3 := Lib.hid hb3
  have c3 := Below.at hb3 c2 (by show w.heap.size < w2.heap.size; omega)
  have r3' := Below.at hb3 r0 l2
  have l3 := hb3.size
  have H3 : Hid (StoreIs w3 sb db mb tb s) := Lib.hid ((H.out.below B2.out).below hb3)
  clear hB3 hb3 ho3 r0 r1 r2 r3 c2
  generalize hnb : (frP 4 (snapW x)).length = nb at HB3 HO3
  go_wp2_with fail
  have S3 := H3.out
  obtain ⟨mv3, dv3, hS3, _⟩ := S3
  have y0 := cell_alloc c3 (.cells #[.slice ab nb cb] 22)
  have y1 := cell_alloc r3' (.cells #[.slice ab nb cb] 22)
  have y2 := cell_alloc hS3.c1 (.cells #[.slice ab nb cb] 22)
  have B4 : Hid (Below w.heap.size w (w3.alloc (.cells #[.slice ab nb cb] 22))) := Lib.hid ((B2.out.trans (B3.out.mono B2.out.size)).alloc (by have := B2.out.size; omega) _)
  have Y3 : Hid ((w3.alloc (.cells #[.slice ab nb cb] 22)).cell? ⟨w3.heap.size, 0, none⟩ = some (.slice ab nb cb)) := Lib.hid (by go_cell)
  have X4 : Hid (SBlk (w3.alloc (.cells #[.slice ab nb cb] 22)) (w.heap.size + 1) x.i x.t (.slice am x.ms.length cm) (.slice a x.d.length c)) := Lib.hid ((S2.out.kept (Kept.of_below B3.out (S := fun _ => False) fun k h1 h2 => by omega) (fun h => h)).kept (Kept.alloc _ _ (fun _ => False)) (fun h => h))
  clear hS3 c3 r3'
  have hbc : w3.heap.size < (w3.alloc (.cells #[.slice ab nb cb] 22)).heap.size := by simp
  have HB4 : Hid (Bytes (w3.alloc (.cells #[.slice ab nb cb] 22)) (.slice ab nb cb) (frP 4 (snapW x))) := Lib.hid (HB3.out.alloc _)
  generalize w3.heap.size = bc at *
  generalize World.alloc w3 _ = w4 at *
  go_quiet (fail)
  have IQ : Hid (Below w.heap.size w (w4.drewN nq)) := Lib.hid (below_drewN B4.out nq)
  have YQ : Hid ((w4.drewN nq).cell? ⟨w.heap.size, 0, none⟩ = some (.pointer (some ⟨sb, 0, none⟩)) ∧ (w4.drewN nq).cell? ⟨bc, 0, none⟩ = some (.slice ab nb cb) ∧ SBlk (w4.drewN nq) (w.heap.size + 1) x.i x.t (.slice am x.ms.length cm) (.slice a x.d.length c) ∧ Bytes (w4.drewN nq) (.slice ab nb cb) (frP 4 (snapW x)) ∧ bc < (w4.drewN nq).heap.size) := by
    have k := below_drewN (Below.refl w4.heap.size w4) nq
    exact Lib.hid ⟨Below.at k y0 (World.block_lt_of_cell? _ _ y0), Below.at k Y3.out hbc, X4.out.below k, HB4.out.below k, Nat.lt_of_lt_of_le hbc k.size⟩
  clear y0 y1 y2 hbc
  generalize w4.drewN nq = wq at IQ YQ ⊢
  have z0 := YQ.out.1
  have hmf : ∀ (fn : Fn) (first cap : Array Value) (w : World), (Instr.makeFunc fn first cap).run Try.prog w = .ok (.func fn first cap) w := fun _ _ _ _ => rfl
  go_wp2_with fail
  have l3' : w2.heap.size ≤ bc := l3
  have hW0s : wq.heap.size ≤ (World.alloc wq (.cells #[.func (Fn.func 71) #[.pointer (some ⟨sb, 0, none⟩)] #[], .func (Fn.func 72) #[] #[.pointer (some ⟨w.heap.size, 0, none⟩), .pointer (some ⟨bc, 0, none⟩)], .func (Fn.func 74) #[] #[.pointer (some ⟨w.heap.size, 0, none⟩)], .func (Fn.func 76) #[] #[.pointer (some ⟨w.heap.size, 0, none⟩)]] 125)).heap.size := by simp
  clear hW0s
  generalize hW0 : World.alloc wq _ = W0
  have BW0 : Below wq.heap.size wq W0 := by subst hW0; exact (Below.refl _ _).alloc (Nat.le_refl _) _
  clear hW0
  have T0 : Hid (W0.cell? ⟨w.heap.size, 0, none⟩ = some (.pointer (some ⟨sb, 0, none⟩)) ∧ W0.cell? ⟨bc, 0, none⟩ = some (.slice ab nb cb) ∧ SBlk W0 (w.heap.size + 1) x.i x.t (.slice am x.ms.length cm) (.slice a x.d.length c) ∧ Bytes W0 (.slice ab nb cb) (frP 4 (snapW x))) :=
    Lib.hid ⟨Below.at BW0 YQ.out.1 (World.block_lt_of_cell? _ _ YQ.out.1), Below.at BW0 YQ.out.2.1 YQ.out.2.2.2.2, YQ.out.2.2.1.below BW0, YQ.out.2.2.2.1.below BW0⟩
  have IW : Hid (Below w.heap.size w W0) := Lib.hid (IQ.out.trans (BW0.mono IQ.out.size))
  have DW := Lib.hid (D0.out.below IW.out)
  have HW := Lib.hid (H.out.below IW.out)
  have N3 : Hid (¬ Own3 db mb tb w.heap.size ∧ ¬ Own3 db mb tb (w.heap.size + 1) ∧ ¬ Own3 db mb tb bc ∧ ∀ g, (Value.slice ab nb cb).ownBlock = some g → ¬ Own3 db mb tb g) := Lib.hid ⟨fun e => by have := D0.out.lt3 _ e; omega, fun e => by have := D0.out.lt3 _ e; omega, fun e => by have := D0.out.lt3 _ e; omega, fun g hg e => by have := D0.out.lt3 _ e; have := HO3.out g hg; omega⟩
  clear BW0 z0 YQ IQ B4 X4 Y3 HB4 S2 B2 B3 H3 HB3 HO3 l2 l3 l3' hnb
  go_loopw [38] (fun i wr => ∃ (j : Nat) (Dc : DiskS), i = .int .i64 j ∧ ((j = 0 ∧ Dc = D) ∨ (j = 1 ∧ Dc = D1 ∧ n1 = 0) ∨ (j = 2 ∧ Dc = D2 ∧ n1 = 0 ∧ n2 = 0) ∨ (j = 3 ∧ Dc = D3 ∧ n1 = 0 ∧ n2 = 0 ∧ n3 = 0) ∨ (j = 4 ∧ Dc = D4 ∧ n1 = 0 ∧ n2 = 0 ∧ n3 = 0 ∧ n4 = 0)) ∧ DiskIs wr db mb tb Dc ∧ Kept W0 wr (Own3 db mb tb)) (fun i _ => 4 - (intOf i).toNat)
  case atStart => exact ⟨0, D, rfl, .inl ⟨rfl, rfl⟩, DW.out, Kept.refl _ _⟩
  case round =>
    obtain ⟨j, Dc, rfl, hc, hdr, hkr⟩ := hrel
    have DR := Lib.hid hdr
    have KR := Lib.hid hkr
    have HR : Hid (StoreIs wr sb db mb tb s) := Lib.hid (HW.out.kept hkr)
    have TR : Hid (wr.cell? ⟨w.heap.size, 0, none⟩ = some (.pointer (some ⟨sb, 0, none⟩)) ∧ wr.cell? ⟨bc, 0, none⟩ = some (.slice ab nb cb) ∧ SBlk wr (w.heap.size + 1) x.i x.t (.slice am x.ms.length cm) (.slice a x.d.length c) ∧ Bytes wr (.slice ab nb cb) (frP 4 (snapW x))) :=
      Lib.hid ⟨hkr.cell T0.out.1 N3.out.1, hkr.cell T0.out.2.1 N3.out.2.2.1, T0.out.2.2.1.kept hkr N3.out.2.1, T0.out.2.2.2.kept hkr N3.out.2.2.2⟩
    have HC : Hid (wr.cell? ⟨sb, 0, none⟩ = some (.pointer (some ⟨db, 0, none⟩))) := Lib.hid (by obtain ⟨_, _, h, _⟩ := HR.out; exact h.c0)
    clear hdr hkr
    rcases hc with ⟨rfl, rfl⟩ | ⟨rfl, rfl, rfl⟩ | ⟨rfl, rfl, rfl, rfl⟩ | ⟨rfl, rfl, rfl, rfl, rfl⟩ | ⟨rfl, rfl, rfl, rfl, rfl, rfl⟩
    · rw [show ((0 : Nat) : Int) = 0 from rfl]
      have hix := fun w0 => idx_fn (.func (Fn.func 71) #[.pointer (some ⟨sb, 0, none⟩)] #[]) (.func (Fn.func 72) #[] #[.pointer (some ⟨w.heap.size, 0, none⟩), .pointer (some ⟨bc, 0, none⟩)]) (.func (Fn.func 74) #[] #[.pointer (some ⟨w.heap.size, 0, none⟩)]) (.func (Fn.func 76) #[] #[.pointer (some ⟨w.heap.size, 0, none⟩)]) _ 0 w0 rfl
      rw [show ((0 : Nat) : Int) = 0 from rfl] at hix
      go_wp2_with fail
      refine (sgone_any sb db mb tb _ wr HC.out DR.out G0.out).mono ?_
      rintro e w5 ⟨rfl, hd5, hk5⟩
      rw [E1.out] at hd5 ⊢
      have D5 := Lib.hid hd5
      have K5 := Lib.hid (KR.out.trans hk5)
      clear hd5 hk5 hix
      by_cases hn : n1 = 0
      · subst hn
        rw [show ((0 : Nat) : Int) = 0 from rfl]
        go_wp2_with fail
        go_roundw
        case rel => exact ⟨1, D1, by first | rfl | go_num, by simp, D5.out, K5.out⟩
        all_goals (show 4 - ((1 : Int)).toNat < 4 - ((0 : Int)).toNat; decide)
      · have hkb : ((n1 : Int) != 0) = true := by simp; omega
        go_wp2_with fail
        go_ret
        have hR : R = (D1, n1) := by rw [HV.out]; simp [hn]
        rw [hR]
        refine ⟨rfl, D5.out, ?_, ?_⟩
        · rw [if_neg hn]
          exact HW.out.kept K5.out
        · exact ((Kept.below3 IW.out).trans K5.out).mono fun k _ h => .inl h
    · rw [show ((1 : Nat) : Int) = 1 from rfl]
      have hix := fun w0 => idx_fn (.func (Fn.func 71) #[.pointer (some ⟨sb, 0, none⟩)] #[]) (.func (Fn.func 72) #[] #[.pointer (some ⟨w.heap.size, 0, none⟩), .pointer (some ⟨bc, 0, none⟩)]) (.func (Fn.func 74) #[] #[.pointer (some ⟨w.heap.size, 0, none⟩)]) (.func (Fn.func 76) #[] #[.pointer (some ⟨w.heap.size, 0, none⟩)]) _ 1 w0 rfl
      rw [show ((1 : Nat) : Int) = 1 from rfl] at hix
      go_wp2_with fail
      refine (save1_any w.heap.size bc sb db mb tb _ ab nb cb _ wr TR.out.1 TR.out.2.1 HC.out DR.out G1.out TR.out.2.2.2).mono ?_
      rintro e w5 ⟨rfl, hd5, hk5⟩
      rw [E2.out] at hd5 ⊢
      have D5 := Lib.hid hd5
      have K5 := Lib.hid (KR.out.trans hk5)
      clear hd5 hk5 hix
      by_cases hn : n2 = 0
      · subst hn
        rw [show ((0 : Nat) : Int) = 0 from rfl]
        go_wp2_with fail
        go_roundw
        case rel => exact ⟨2, D2, by first | rfl | go_num, by simp, D5.out, K5.out⟩
        all_goals (show 4 - ((2 : Int)).toNat < 4 - ((1 : Int)).toNat; decide)
      · have hkb : ((n2 : Int) != 0) = true := by simp; omega
        go_wp2_with fail
        go_ret
        have hR : R = (D2, n2) := by rw [HV.out]; simp [hn]
        rw [hR]
        refine ⟨rfl, D5.out, ?_, ?_⟩
        · rw [if_neg hn]
          exact HW.out.kept K5.out
        · exact ((Kept.below3 IW.out).trans K5.out).mono fun k _ h => .inl h
    · rw [show ((2 : Nat) : Int) = 2 from rfl]
      have hix := fun w0 => idx_fn (.func (Fn.func 71) #[.pointer (some ⟨sb, 0, none⟩)] #[]) (.func (Fn.func 72) #[] #[.pointer (some ⟨w.heap.size, 0, none⟩), .pointer (some ⟨bc, 0, none⟩)]) (.func (Fn.func 74) #[] #[.pointer (some ⟨w.heap.size, 0, none⟩)]) (.func (Fn.func 76) #[] #[.pointer (some ⟨w.heap.size, 0, none⟩)]) _ 2 w0 rfl
      rw [show ((2 : Nat) : Int) = 2 from rfl] at hix
      go_wp2_with fail
      refine (save2_any w.heap.size sb db mb tb _ wr TR.out.1 HC.out DR.out G2.out).mono ?_
      rintro e w5 ⟨rfl, hd5, hk5⟩
      rw [E3.out] at hd5 ⊢
      have D5 := Lib.hid hd5
      have K5 := Lib.hid (KR.out.trans hk5)
      clear hd5 hk5 hix
      by_cases hn : n3 = 0
      · subst hn
        rw [show ((0 : Nat) : Int) = 0 from rfl]
        go_wp2_with fail
        go_roundw
        case rel => exact ⟨3, D3, by first | rfl | go_num, by simp, D5.out, K5.out⟩
        all_goals (show 4 - ((3 : Int)).toNat < 4 - ((2 : Int)).toNat; decide)
      · have hkb : ((n3 : Int) != 0) = true := by simp; omega
        go_wp2_with fail
        go_ret
        have hR : R = (D3, n3) := by rw [HV.out]; simp [hn]
        rw [hR]
        refine ⟨rfl, D5.out, ?_, ?_⟩
        · rw [if_neg hn]
          exact HW.out.kept K5.out
        · exact ((Kept.below3 IW.out).trans K5.out).mono fun k _ h => .inl h
    · rw [show ((3 : Nat) : Int) = 3 from rfl]
      have hix := fun w0 => idx_fn (.func (Fn.func 71) #[.pointer (some ⟨sb, 0, none⟩)] #[]) (.func (Fn.func 72) #[] #[.pointer (some ⟨w.heap.size, 0, none⟩), .pointer (some ⟨bc, 0, none⟩)]) (.func (Fn.func 74) #[] #[.pointer (some ⟨w.heap.size, 0, none⟩)]) (.func (Fn.func 76) #[] #[.pointer (some ⟨w.heap.size, 0, none⟩)]) _ 3 w0 rfl
      rw [show ((3 : Nat) : Int) = 3 from rfl] at hix
      go_wp2_with fail
      refine (save3_any w.heap.size sb db mb tb _ wr TR.out.1 HC.out DR.out G3.out).mono ?_
      rintro e w5 ⟨rfl, hd5, hk5⟩
      rw [E4.out] at hd5 ⊢
      have D5 := Lib.hid hd5
      have K5 := Lib.hid (KR.out.trans hk5)
      clear hd5 hk5 hix
      by_cases hn : n4 = 0
      · subst hn
        rw [show ((0 : Nat) : Int) = 0 from rfl]
        go_wp2_with fail
        go_roundw
        case rel => exact ⟨4, D4, by first | rfl | go_num, by simp, D5.out, K5.out⟩
        all_goals (show 4 - ((4 : Int)).toNat < 4 - ((3 : Int)).toNat; decide)
      · have hkb : ((n4 : Int) != 0) = true := by simp; omega
        go_wp2_with fail
        go_ret
        have hR : R = (D4, n4) := by rw [HV.out]; simp
        rw [hR]
        refine ⟨rfl, D5.out, ?_, ?_⟩
        · rw [if_neg hn]
          exact HW.out.kept K5.out
        · exact ((Kept.below3 IW.out).trans K5.out).mono fun k _ h => .inl h
    · rw [show ((4 : Nat) : Int) = 4 from rfl]
      go_wp2_with fail
      obtain ⟨mvs, dvs, hS5, hms, hds, _, _, hno⟩ := HR.out
      have HS5 := Lib.hid hS5
      have HNO := Lib.hid hno
      have HMV : Hid (∀ x, mvs ≠ .int .u8 x) := Lib.hid (by obtain ⟨_, _, e, _⟩ := hms.shape; rw [e]; exact fun x h => by cases h)
      have HDV : Hid (∀ x, dvs ≠ .int .u8 x) := Lib.hid (by obtain ⟨_, _, e, _⟩ := hds.shape; rw [e]; exact fun x h => by cases h)
      have hlw : w.heap.size < wr.heap.size := World.block_lt_of_cell? _ _ TR.out.1
      have ST := Stable.from wr
      have KW : Hid (Kept w wr (Own3 db mb tb)) := Lib.hid ((Kept.below3 IW.out).trans KR.out)
      clear hS5 hno hms hds
      refine region_start [0, 0, 2, 7, 15, 31] 4 (fun w' => Below wr.heap.size wr w') (by kernel_rfl) ?_
      refine stage_heads [0, 1] (by kernel_rfl) (L := #[true, true, false, false, false, false]) (by kernel_rfl) (f' := 4) rfl (fun _ _ _ _ h => h) (fun w o h => ST.alloc h o) (.inr (by first | exact Below.refl _ _ | exact (Below.refl _ _).drew)) ?_
      simp only [List.flatMap_cons, List.flatMap_nil, List.drop_succ_cons, List.drop_zero, List.take_succ_cons, List.take_zero, List.cons_append, List.nil_append, List.append_nil]
      iterate 2 (first | (refine heads_load _ (by rfl) (fun w' hs => by have y0 := Below.at hs TR.out.1 hlw; obtain ⟨r0, r1, r2, r3, _, _, _, _⟩ := TR.out.2.2.1.below hs; go_simp; try with_reducible rfl) rfl ?_; simp only [Act.put, List.setIfInBounds_toArray, List.set_cons_zero, List.set_cons_succ]) | (refine heads_pure _ (by rfl) (fun w' => by go_simp; try with_reducible rfl) ?_; simp only [Act.put, List.setIfInBounds_toArray, List.set_cons_zero, List.set_cons_succ]))
      refine heads_nil ?_
      refine stage_op 2 (by kernel_rfl) (L := #[true, true, true, false, false, false]) (by kernel_rfl) ?_
      simp only [List.drop_succ_cons, List.drop_zero, List.take_succ_cons, List.take_zero]
      go_wp2_with fail; refine (scopy_any _ x _ ((HXK.out wr KW.out).below (by first | exact Below.refl _ _ | exact (Below.refl _ _).drew))).mono ?_; rintro e w6 ⟨v6, rfl, ⟨mv6, dv6, rfl, om, od⟩, hb6⟩; obtain ⟨am6, cm6, rfl⟩ := om.shape; obtain ⟨ad6, cd6, rfl⟩ := od.shape; have OM : Hid (Owns w6 wr.heap.size 3 .i64 (.slice am6 x.ms.length cm6) x.ms) := Lib.hid om; have OD : Hid (Owns w6 wr.heap.size 5 .u8 (.slice ad6 (ints x.d).length cd6) (ints x.d)) := Lib.hid od; have I6 : Hid (Below wr.heap.size wr w6) := Lib.hid (by first | exact hb6 | exact ((Below.refl _ _).drew).trans hb6); clear om od hb6; go_wp2_with fail
      refine step_post (fun _ => I6.out) ?_
      refine stage_heads [3, 4] (by kernel_rfl) (L := #[true, true, true, true, true, false]) (by kernel_rfl) (f' := 1) rfl (fun _ _ _ _ h => h) (fun w o h => ST.alloc h o) (.inl (by kernel_rfl)) ?_
      simp only [List.flatMap_cons, List.flatMap_nil, List.drop_succ_cons, List.drop_zero, List.take_succ_cons, List.take_zero, List.cons_append, List.nil_append, List.append_nil]
      iterate 2 (refine heads_pure _ (by rfl) (fun w' => by go_simp; try with_reducible rfl) ?_; simp only [Act.put, List.setIfInBounds_toArray, List.set_cons_zero, List.set_cons_succ])
      refine heads_nil ?_
      refine stage_op 5 (by kernel_rfl) (L := #[true, true, true, true, true, true]) (by kernel_rfl) ?_
      simp only [List.drop_succ_cons, List.drop_zero, List.take_succ_cons, List.take_zero]
      obtain ⟨_, k1, k2, k3, k4, f1, f2, f3, f4⟩ := HS5.out.kept (Kept.of_below I6.out (S := fun _ => False) fun k h1 h2 => by omega) (fun h => h); go_wp2_with fail
      refine step_post nofun ?_
      refine stage_done (by kernel_rfl) ?_
      generalize hwF : World.setCell _ _ _ = wF
      have S6 : Hid (SBlk5 w6 sb db s.i s.t mvs dvs) := Lib.hid (HS5.out.kept (Kept.of_below I6.out (S := fun _ => False) fun k h1 h2 => by omega) (fun h => h))
      have KF : Hid (Kept w6 wF (fun k => k = sb)) := Lib.hid (by subst hwF; exact Kept.set5 _ _ _ _ _ _)
      have SF : Hid (SBlk5 wF sb db x.i x.t (.slice am6 x.ms.length cm6) (.slice ad6 (ints x.d).length cd6)) := Lib.hid (by subst hwF; exact S6.out.set4 _ _ _ _)
      have DF : Hid (DiskIs wF db mb tb Dc) := Lib.hid (by subst hwF; exact (DR.out.below I6.out).set5 S6.out HNO.out HMV.out HDV.out _ _ _ _)
      have hsw := HS5.out.lt
      have NW : Hid (∀ g, wr.heap.size ≤ g → ¬ Own3 db mb tb g ∧ g ≠ sb) := Lib.hid fun g hg => ⟨fun e => by have := DR.out.lt3 _ e; omega, by omega⟩
      have HXD : Hid ((∀ c ∈ x.d, c < 256) ∧ x.d.length ≤ 2097152 ∧ x.ms.length ≤ 2097152) := Lib.hid (by obtain ⟨_, _, _, h1, h2⟩ := HX.out; exact ⟨h2.lt, h2.small, h1.small⟩)
      clear hwF k1 k2 k3 k4 f1 f2 f3 f4
      go_wp2_with fail
      go_ret
      have hR : R = (Dc, 0) := by rw [HV.out]; rfl
      rw [hR]
      refine ⟨rfl, DF.out, ⟨_, _, SF.out, Ints.of_owns (OM.out.kept KF.out fun g hg => (NW.out g (OM.out.lt g hg).1).2) HXD.out.2.2, Bytes.of_owns (OD.out.kept KF.out fun g hg => (NW.out g (OD.out.lt g hg).1).2) HXD.out.1 HXD.out.2.1, fun g hg => NW.out g (OM.out.lt g hg).1, fun g hg => NW.out g (OD.out.lt g hg).1, HNO.out⟩, ?_⟩
      refine (KW.out.mono fun k _ h => .inl h).trans (Kept.trans ?_ (KF.out.mono fun k _ h => .inr h))
      exact Kept.of_below I6.out fun k h1 h2 => by omega

theorem ssave_any (sb db mb tb : Nat) (s x : SnapS) (D : DiskS) (v : Value) (w : World) (h : StoreIs w sb db mb tb s) (hx : SnapIs w v x) (hxk : ∀ w', Kept w w' (Own3 db mb tb) → SnapIs w' v x) (hd : DiskIs w db mb tb D) (g : DGood D) (hs : D.steps + 4 ≤ 1000000000) :
    Calls Try.prog 33 #[.pointer (some ⟨sb, 0, none⟩), v] w (SavePost sb db mb tb (saveD D s x) s x w) := by
  unfold saveD
  by_cases hok : x.ok
  · rw [if_neg (not_not_intro hok)]
    by_cases hle : x.i ≤ s.i
    · rw [if_pos hle]
      exact (ssave_old sb db mb tb s x v w h hx hok hle).mono fun e w' ⟨he, hb⟩ => ⟨he, hd.below hb, h.below hb, (Kept.below3 hb).mono fun k _ h => .inl h⟩
    · rw [if_neg hle]
      have h1 := goneD_good g (by omega)
      have h2 := h1.1.append nOther (frP 4 (snapW x)) (by omega)
      have h3 := h2.1.sync nOther (by omega)
      exact ssave_go sb db mb tb s x D (goneD D).1 (appendD (goneD D).1 nOther (frP 4 (snapW x))).1 (syncD (appendD (goneD D).1 nOther (frP 4 (snapW x))).1 nOther).1 (moveD (syncD (appendD (goneD D).1 nOther (frP 4 (snapW x))).1 nOther).1 nOther nSnap).1
        (goneD D).2 (appendD (goneD D).1 nOther (frP 4 (snapW x))).2 (syncD (appendD (goneD D).1 nOther (frP 4 (snapW x))).1 nOther).2 (moveD (syncD (appendD (goneD D).1 nOther (frP 4 (snapW x))).1 nOther).1 nOther nSnap).2 _ v w h hx hxk hok (by omega) hd g h1.1 h2.1 h3.1 rfl rfl rfl rfl rfl
  · rw [if_pos hok]
    exact (ssave_bad sb db mb tb s x v w h hx hok).mono fun e w' ⟨he, hb⟩ => ⟨he, hd.below hb, h.below hb, (Kept.below3 hb).mono fun k _ h => .inl h⟩
end Go.Proofs.Ytofhccpagnkalaa

/- What a snapshot's Save, a crash and Open leave of its file; plain. -/
namespace Go.Proofs.Ytofhccpagnkalaa
open Go.RowKit Go.Maps Go.Proofs.Own

theorem remove_ap {D : DiskS} {n m : ByteArray} (h : ¬ n = m) : findFile m (removeD D n).1.files = findFile m D.files := by
  unfold removeD
  split
  · split
    · rfl
    · split
      · simp only [stepD_files]
      · exact find_del_ne h _
  · rfl
theorem append_ap {D : DiskS} {n m : ByteArray} (h : ¬ n = m) (b : List Nat) : findFile m (appendD D n b).1.files = findFile m D.files := by
  unfold appendD
  split
  · rfl
  · rw [stepD_files]
    unfold appD
    exact find_put_ne (by simp only; rw [getF_name]; exact h) D.files
theorem sync_ap {D : DiskS} {n m : ByteArray} (h : ¬ n = m) : findFile m (syncD D n).1.files = findFile m D.files := by
  unfold syncD
  cases e : findFile n D.files with
  | none => rfl
  | some f =>
    simp only
    split
    · rfl
    · split
      · simp only [stepD_files]
      · refine find_put_ne ?_ D.files
        simp only
        rw [(find_name e).1]
        exact h
theorem wrTo_ap {D : DiskS} {n m : ByteArray} (h : ¬ n = m) (b : List Nat) : findFile m (wrTo D n b).1.files = findFile m D.files := by
  unfold wrTo
  split
  · exact append_ap h b
  · rw [sync_ap h, append_ap h]
theorem gone_none {D : DiskS} (hd : D.down = false) {n : ByteArray} (he : (vgoneD D n).2 = 0) : (vgoneD D n).1.down = false ∧ findFile n (vgoneD D n).1.files = none := by
  refine ⟨(fell_gone hd n).up he, ?_⟩
  cases e : findFile n D.files with
  | none =>
    have hr : (removeD D n).1 = D := by unfold removeD; rw [e]
    show findFile n (removeD D n).1.files = none
    rw [hr]
    exact e
  | some f =>
    by_cases ha : D.armed = 0
    · have hr : removeD D n = (stepD D, 50) := by
        unfold removeD
        rw [e]
        simp only
        rw [if_neg (by rw [hd]; decide), if_pos ha]
      unfold vgoneD at he
      rw [hr] at he
      simp at he
    · have hr : removeD D n = ({ stepD D with files := delFile n D.files }, 0) := by
        unfold removeD
        rw [e]
        simp only
        rw [if_neg (by rw [hd]; decide), if_neg ha]
      unfold vgoneD
      rw [hr]
      exact find_del_eq _ _
/-- Bytes written into a new file that then takes another one's place. -/
def intoD (D : DiskS) (m n : ByteArray) (b : List Nat) : DiskS × Nat :=
  if (vgoneD D m).2 ≠ 0 then vgoneD D m else if (wrTo (vgoneD D m).1 m b).2 ≠ 0 then wrTo (vgoneD D m).1 m b else moveD (wrTo (vgoneD D m).1 m b).1 m n
theorem fell_into {D : DiskS} (hd : D.down = false) (m n : ByteArray) (b : List Nat) : Fell (intoD D m n b) := by
  unfold intoD
  have h := fell_gone hd m
  split
  · exact h
  · rename_i he
    have h2 := fell_wrTo (h.up (by simpa using he)) m b
    split
    · exact h2
    · rename_i he2
      exact fell_move (h2.up (by simpa using he2)) m n
theorem into_law {D : DiskS} (hd : D.down = false) {m n : ByteArray} (hne : ¬ m = n) (hn : 1 ≤ n.size ∧ n.size ≤ 16) {b : List Nat} (hb : b ≠ []) :
    ((intoD D m n b).2 = 0 → findFile n (intoD D m n b).1.files = some ⟨n, b, b.length⟩) ∧ ((intoD D m n b).2 ≠ 0 → findFile n (intoD D m n b).1.files = findFile n D.files) := by
  have g1 : findFile n (vgoneD D m).1.files = findFile n D.files := remove_ap hne
  unfold intoD
  by_cases he : (vgoneD D m).2 = 0
  · rw [if_neg (not_not_intro he)]
    obtain ⟨h1, h2⟩ := gone_none hd he
    generalize vgoneD D m = r at *
    have hs := wr_short (n := m) h1 (l := []) (getF_none h2) b
    have g2 : findFile n (wrTo r.1 m b).1.files = findFile n D.files := (wrTo_ap hne b).trans g1
    by_cases he2 : (wrTo r.1 m b).2 = 0
    · rw [if_neg (not_not_intro he2)]
      obtain ⟨k1, k2⟩ := hs.ok he2
      generalize wrTo r.1 m b = q at *
      rw [List.nil_append] at k2
      have k3 := find_of_getF k2 hb
      unfold moveD
      rw [k3]
      simp only
      rw [if_neg (by rw [k1]; decide), if_neg (not_not_intro hn)]
      by_cases ha : q.1.armed = 0
      · rw [if_pos ha]
        exact ⟨fun h => by simp at h, fun _ => by simp only [stepD_files]; exact g2⟩
      · rw [if_neg ha]
        exact ⟨fun _ => find_put_eq ⟨n, b, b.length⟩ _, fun h => absurd rfl h⟩
    · rw [if_pos he2]
      exact ⟨fun h => absurd h he2, fun _ => g2⟩
  · rw [if_pos he]
    exact ⟨fun h => absurd h he, fun _ => g1⟩
theorem save4_into (D : DiskS) (b : List Nat) : save4 D b = intoD D nOther nSnap b := by
  show save4 D b = if (goneD D).2 ≠ 0 then goneD D else if (wrTo (goneD D).1 nOther b).2 ≠ 0 then wrTo (goneD D).1 nOther b else moveD (wrTo (goneD D).1 nOther b).1 nOther nSnap
  unfold save4 wrTo
  by_cases h1 : (goneD D).2 = 0
  · rw [if_neg (not_not_intro h1), if_neg (not_not_intro h1)]
    by_cases h2 : (appendD (goneD D).1 nOther b).2 = 0
    · simp only [h2, ne_eq, not_true_eq_false, if_false]
    · simp only [h2, ne_eq, not_false_eq_true, if_true]
  · rw [if_pos h1, if_pos h1]

/-- The disk's snapshot is s: the file is its bytes, all kept; or there is none. -/
def SFile (D : DiskS) (s : SnapS) : Prop := (s = zeroS ∧ findFile nSnap D.files = none) ∨ (s.ok ∧ findFile nSnap D.files = some ⟨nSnap, frP 4 (snapW s), (frP 4 (snapW s)).length⟩)
theorem SFile.find {D D' : DiskS} {s : SnapS} (h : SFile D s) (he : findFile nSnap D'.files = findFile nSnap D.files) : SFile D' s := by
  unfold SFile
  rw [he]
  exact h
theorem frP_ne (k : Nat) (l : List Nat) : frP k l ≠ [] := fun h => by have := length_frP k l; rw [h] at this; simp at this
theorem nSnap_ne : ¬ nOther = nSnap := by decide
theorem fell_save {D : DiskS} (hd : D.down = false) (s x : SnapS) : Fell (saveD D s x) := by
  unfold saveD
  split
  · exact Fell.same hd _
  · split
    · exact Fell.same hd _
    · rw [save4_into]; exact fell_into hd _ _ _
theorem save_law {D : DiskS} (hd : D.down = false) {s : SnapS} (h : SFile D s) (x : SnapS) :
    SFile (saveD D s x).1 (if (saveD D s x).2 = 0 then x else s) ∧ ((saveD D s x).2 = 0 → s.i < x.i ∧ x.ok) := by
  unfold saveD
  by_cases hok : x.ok
  · rw [if_neg (not_not_intro hok)]
    by_cases hle : x.i ≤ s.i
    · rw [if_pos hle]
      exact ⟨by rw [if_neg (by simp)]; exact h, fun e => by simp at e⟩
    · rw [if_neg hle, save4_into]
      obtain ⟨h1, h2⟩ := into_law hd nSnap_ne (by decide) (frP_ne 4 (snapW x))
      refine ⟨?_, fun _ => ⟨by omega, hok⟩⟩
      by_cases he : (intoD D nOther nSnap (frP 4 (snapW x))).2 = 0
      · rw [if_pos he]; exact .inr ⟨hok, h1 he⟩
      · rw [if_neg he]; exact h.find (h2 he)
  · rw [if_pos hok]
    exact ⟨by rw [if_neg (by simp)]; exact h, fun e => by simp at e⟩
theorem SFile.crash {D : DiskS} {s : SnapS} (h : SFile D s) (hr : Rising D.files) (ts : List (Nat × Nat)) : SFile (crashD D ts) s := by
  obtain ⟨us, hu⟩ := find_crash nSnap D.files ts hr.apart
  have hu' : findFile nSnap (crashD D ts).files = (findFile nSnap D.files).bind fun f => (crash1 f us).head? := hu
  rcases h with ⟨h1, h2⟩ | ⟨h1, h2⟩
  · rw [h2] at hu'
    exact .inl ⟨h1, hu'⟩
  · rw [h2] at hu'
    refine .inr ⟨h1, hu'.trans ?_⟩
    simp only [Option.bind_some]
    unfold crash1
    rw [if_neg (Nat.lt_irrefl _), if_neg (frP_ne 4 (snapW s))]
    rfl
/-- The snapshot's Open: what it tells. -/
def sopenE (D : DiskS) : Nat := if (goneD D).2 ≠ 0 then (goneD D).2 else if findFile nSnap (goneD D).1.files = none then 0 else if readB 7 (getF (goneD D).1 nSnap).all = true then 0 else 20
def sopenS (D : DiskS) : SnapS := if findFile nSnap (goneD D).1.files = none then zeroS else readS 7 (getF (goneD D).1 nSnap).all
theorem sopen_law {D : DiskS} (hc : Calm D) {s : SnapS} (h : SFile D s) : sopenE D = 0 ∧ sopenS D = s ∧ Calm (goneD D).1 ∧ SFile (goneD D).1 s := by
  have hg : (goneD D).2 = 0 ∧ Calm (goneD D).1 := by
    show (vgoneD D nOther).2 = 0 ∧ Calm (vgoneD D nOther).1
    cases e : findFile nOther D.files with
    | none =>
      have h31 : fileE D nOther = 31 := by unfold fileE; rw [if_neg (by rw [hc.1]; decide), if_pos e]
      have hr : removeD D nOther = (D, 31) := by unfold removeD; rw [e]; simp only; rw [h31]
      unfold vgoneD
      rw [hr]
      exact ⟨rfl, hc⟩
    | some f =>
      have hr : removeD D nOther = ({ stepD D with files := delFile nOther D.files }, 0) := by
        unfold removeD
        rw [e]
        simp only
        rw [if_neg (by rw [hc.1]; decide), if_neg (by rw [hc.2]; decide)]
      unfold vgoneD
      rw [hr]
      exact ⟨rfl, hc.step _⟩
  have hf : SFile (goneD D).1 s := h.find (remove_ap nSnap_ne)
  refine ⟨?_, ?_, hg.2, hf⟩
  · unfold sopenE
    rw [if_neg (not_not_intro hg.1)]
    rcases hf with ⟨_, h2⟩ | ⟨h1, h2⟩
    · rw [if_pos h2]
    · rw [if_neg (by rw [h2]; simp), getF_some h2]
      simp only
      rw [(read_round 7 (by decide) (by decide) s h1).1, if_pos rfl]
  · unfold sopenS
    rcases hf with ⟨h1, h2⟩ | ⟨h1, h2⟩
    · rw [if_pos h2, h1]
    · rw [if_neg (by rw [h2]; simp), getF_some h2]
      exact (read_round 7 (by decide) (by decide) s h1).2
end Go.Proofs.Ytofhccpagnkalaa

/- The snapshot's Open, every way; no conditions but the ranges. -/
namespace Go.Proofs.Ytofhccpagnkalaa
open Go.RowKit Go.Maps Go.Proofs.Own

def SOpenPost (db mb tb : Nat) (D : DiskS) (w : World) : Ending → World → Prop := fun e w' =>
  (sopenE D ≠ 0 → e = .returned (.tuple #[.pointer none, .int .i64 (sopenE D)])) ∧
  (sopenE D = 0 → ∃ sb, e = .returned (.tuple #[.pointer (some ⟨sb, 0, none⟩), .int .i64 0]) ∧ StoreIs w' sb db mb tb (sopenS D) ∧ w.heap.size ≤ sb) ∧
  DiskIs w' db mb tb (goneD D).1 ∧ Kept w w' (Own3 db mb tb)
theorem gone_up {D : DiskS} (hg : (goneD D).2 = 0) : (goneD D).1.down = false := by
  cases hd : D.down with
  | false => exact (fell_gone hd nOther).up hg
  | true =>
    exfalso
    unfold goneD removeD at hg
    split at hg
    · rw [if_pos hd] at hg; simp at hg
    · simp only [fileE, if_pos hd] at hg; simp at hg

set_option maxHeartbeats 1600000 in
set_option maxRecDepth 20000 in
theorem sopen_file (db mb tb : Nat) (D : DiskS) (f : FileS) (w : World) (hd : DiskIs w db mb tb D) (hw : DGood D) (hg : (goneD D).2 = 0) (hf : findFile nSnap (goneD D).1.files = some f) :
    Calls Try.prog 34 #[.pointer (some ⟨db, 0, none⟩)] w (SOpenPost db mb tb D w) := by
  have HD := Lib.hid hd
  have HW := Lib.hid hw
  have HG := Lib.hid hg
  have HF := Lib.hid hf
  have HUP := Lib.hid (gone_up hg)
  have H3 := Lib.hid hd.lt3
  have HE : Hid (sopenE D = if readB 7 f.all = true then 0 else 20) := Lib.hid (by unfold sopenE; rw [if_neg (not_not_intro hg), if_neg (by rw [hf]; simp), getF_some hf])
  have HSS : Hid (sopenS D = readS 7 f.all) := Lib.hid (by unfold sopenS; rw [if_neg (by rw [hf]; simp), getF_some hf])
  clear hd hw hg hf
  go_enter Try.func34, Try.ntmps34
  go_wp2_with fail
  generalize hw1 : World.alloc w _ = w1
  have B1 : Hid (Below w.heap.size w w1) := Lib.hid (by subst hw1; exact (Below.refl _ _).alloc (Nat.le_refl _) _)
  have S1 : Hid (SBlk5 w1 w.heap.size db 0 0 (.slice none 0 0) (.slice none 0 0)) := Lib.hid (by
    subst hw1
    exact ⟨by go_cell, by go_cell, by go_cell, by go_cell, by go_cell, by simp, by simp, by simp, by simp⟩)
  clear hw1
  have N1 : Hid (¬ Own3 db mb tb w.heap.size) := Lib.hid fun e => by have := H3.out _ e; omega
  refine (sgone_any w.heap.size db mb tb D w1 S1.out.c0 (HD.out.below B1.out) HW.out).mono ?_
  rintro e w2 ⟨rfl, hd2, hk2⟩
  have D2 := Lib.hid hd2
  have K2 : Hid (Kept w w2 (Own3 db mb tb)) := Lib.hid ((Kept.below3 B1.out).trans hk2)
  have S2 := Lib.hid (S1.out.kept hk2 N1.out)
  clear hd2 hk2
  rw [HG.out]
  generalize hDD : (goneD D).1 = D' at *
  have HDD := Lib.hid hDD
  clear hDD
  go_wp2_with fail
  refine (dread_ok db mb tb D' nSnap f w2 D2.out HUP.out (by decide) HF.out).mono ?_
  rintro e w3 ⟨v3, rfl, hB3, hb3⟩
  obtain ⟨a3, c3, rfl, _⟩ := hB3.shape
  have HB3 := Lib.hid hB3
  have D3 := Lib.hid (D2.out.below hb3)
  have K3 : Hid (Kept w w3 (Own3 db mb tb)) := Lib.hid (K2.out.trans (Kept.below3 hb3))
  have S3 : Hid (SBlk5 w3 w.heap.size db 0 0 (.slice none 0 0) (.slice none 0 0)) := Lib.hid (S2.out.kept (Kept.of_below hb3 (S := fun _ => False) fun k h1 h2 => by omega) fun h => h)
  clear hB3 hb3
  generalize hfl : f.all.length = n at HB3 ⊢
  cases hr : readB 7 f.all
  · have HR := Lib.hid hr
    have HV : Hid (sopenE D = 20) := Lib.hid (by rw [HE.out, hr]; rfl)
    clear hr
    go_wp2_with fail
    refine (pread_any _ f.all w3 HB3.out).mono ?_
    rintro e w4 ⟨v4, rfl, hs4, hb4⟩
    obtain ⟨mv, dv, rfl, hm4, hd4⟩ := hs4
    obtain ⟨am, cm, rfl, _⟩ := hm4.shape
    obtain ⟨ad, cd, rfl, _⟩ := hd4.shape
    rw [HR.out]
    have D4 := Lib.hid (D3.out.below hb4)
    have K4 : Hid (Kept w w4 (Own3 db mb tb)) := Lib.hid (K3.out.trans (Kept.below3 hb4))
    clear hm4 hd4 hb4
    go_wp2_with fail
    go_ret2
    unfold SOpenPost
    rw [HV.out, HDD.out]
    refine ⟨fun _ => rfl, fun h => absurd h (by decide), D4.out.below ((Below.refl _ _).alloc (Nat.le_refl _) _), K4.out.trans (Kept.below3 ((Below.refl _ _).alloc (Nat.le_refl _) _))⟩
  · have HR := Lib.hid hr
    have HV : Hid (sopenE D = 0) := Lib.hid (by rw [HE.out, hr]; rfl)
    clear hr
    go_wp2_with fail
    refine (pread_new _ f.all w3 HB3.out HR.out).mono ?_
    rintro e w4 ⟨v4, rfl, hs4, hb4, hn4⟩
    obtain ⟨mv, dv, rfl, hm4, hd4⟩ := hs4
    obtain ⟨_, _, _, _, he4, hn1, hn2⟩ := hn4
    simp only [Value.agg.injEq, Array.mk.injEq, List.cons.injEq, and_true] at he4
    obtain ⟨rfl, rfl, rfl, rfl⟩ := he4
    generalize hs : readS 7 f.all = s at *
    obtain ⟨am, cm, rfl, _⟩ := hm4.shape
    obtain ⟨ad, cd, rfl, _⟩ := hd4.shape
    rw [HR.out]
    have HM4 := Lib.hid hm4
    have HD4 := Lib.hid hd4
    have HN1 := Lib.hid hn1
    have HN2 := Lib.hid hn2
    have D4 := Lib.hid (D3.out.below hb4)
    have K4 : Hid (Kept w w4 (Own3 db mb tb)) := Lib.hid (K3.out.trans (Kept.below3 hb4))
    have S4 : Hid (SBlk5 w4 w.heap.size db 0 0 (.slice none 0 0) (.slice none 0 0)) := Lib.hid (S3.out.kept (Kept.of_below hb4 (S := fun _ => False) fun k h1 h2 => by omega) fun h => h)
    have L34 : w3.heap.size ≤ w4.heap.size := hb4.size
    have L3 := S3.out.lt
    have L4 := S4.out.lt
    clear hm4 hd4 hb4 hn1 hn2 hs
    obtain ⟨_, k1, k2, k3, k4, f1, f2, f3, f4⟩ := S4.out
    have SF := Lib.hid ((S4.out.set4 s.i s.t (.slice am s.ms.length cm) (.slice ad s.d.length cd)).kept (Kept.alloc _ (.cells #[.int .u64 s.i, .int .u64 s.t, .slice am s.ms.length cm, .slice ad s.d.length cd] 27) (fun _ => False)) (fun h => h))
    have KX : Kept w4 ((((((w4.setCell ⟨w.heap.size, 1, none⟩ (.int .u64 s.i)).setCell ⟨w.heap.size, 2, none⟩ (.int .u64 s.t)).setCell ⟨w.heap.size, 3, none⟩ (.slice am s.ms.length cm)).setCell ⟨w.heap.size, 4, none⟩ (.slice ad s.d.length cd)).alloc (.cells #[.int .u64 s.i, .int .u64 s.t, .slice am s.ms.length cm, .slice ad s.d.length cd] 27))) (fun k => k = w.heap.size) := (Kept.set5 w4 w.heap.size _ _ _ _).trans (Kept.alloc _ _ _)
    have DF := Lib.hid ((D4.out.set5 S4.out N1.out (fun _ h => by cases h) (fun _ h => by cases h) (.int .u64 s.i) (.int .u64 s.t) (.slice am s.ms.length cm) (.slice ad s.d.length cd)).below ((Below.refl _ _).alloc (Nat.le_refl _) (.cells #[.int .u64 s.i, .int .u64 s.t, .slice am s.ms.length cm, .slice ad s.d.length cd] 27)))
    have HMF := Lib.hid (HM4.out.kept KX fun g hg h => by have := HN1.out g hg; omega)
    have HBF := Lib.hid (HD4.out.kept KX fun g hg h => by have := HN2.out g hg; omega)
    have KF : Hid (Kept w ((((((w4.setCell ⟨w.heap.size, 1, none⟩ (.int .u64 s.i)).setCell ⟨w.heap.size, 2, none⟩ (.int .u64 s.t)).setCell ⟨w.heap.size, 3, none⟩ (.slice am s.ms.length cm)).setCell ⟨w.heap.size, 4, none⟩ (.slice ad s.d.length cd)).alloc (.cells #[.int .u64 s.i, .int .u64 s.t, .slice am s.ms.length cm, .slice ad s.d.length cd] 27))) (Own3 db mb tb)) := Lib.hid (K4.out.andThen KX fun k h1 h2 => h2.elim id fun e => by omega)
    have NR : Hid (∀ g, w3.heap.size ≤ g → ¬ Own3 db mb tb g ∧ g ≠ w.heap.size) := Lib.hid fun g hg => ⟨fun e => by have := D3.out.lt3 _ e; omega, by omega⟩
    clear KX
    go_wp2_with fail
    generalize World.alloc _ _ = wF at *
    clear k1 k2 k3 k4 f1 f2 f3 f4
    go_ret2
    unfold SOpenPost
    rw [HV.out, HDD.out, HSS.out]
    exact ⟨fun h => absurd rfl h, fun _ => ⟨_, rfl, ⟨_, _, SF.out, HMF.out, HBF.out, fun g hg => NR.out g (HN1.out g hg), fun g hg => NR.out g (HN2.out g hg), N1.out⟩, Nat.le_refl _⟩, DF.out, KF.out⟩
theorem sopen_any (db mb tb : Nat) (D : DiskS) (w : World) (hd : DiskIs w db mb tb D) (hw : DGood D) : Calls Try.prog 34 #[.pointer (some ⟨db, 0, none⟩)] w (SOpenPost db mb tb D w) := by
  by_cases hg : (goneD D).2 = 0
  · cases hf : findFile nSnap (goneD D).1.files with
    | none =>
      have he : fileE (goneD D).1 nSnap = 31 := by unfold fileE; rw [if_neg (by rw [gone_up hg]; decide), if_pos hf]
      have hE : sopenE D = 0 := by unfold sopenE; rw [if_neg (not_not_intro hg), if_pos hf]
      have hS : sopenS D = zeroS := by unfold sopenS; rw [if_pos hf]
      refine (sopen_new db mb tb D w hd hw hg he).mono ?_
      rintro e w' ⟨sb, rfl, h1, h2, h3, h4⟩
      exact ⟨fun h => absurd hE h, fun _ => ⟨sb, rfl, by rw [hS]; exact h2, h4⟩, h1, h3⟩
    | some f => exact sopen_file db mb tb D f w hd hw hg hf
  · have hE : sopenE D = (goneD D).2 := by unfold sopenE; rw [if_pos hg]
    refine (sopen_err db mb tb D w hd hw hg).mono ?_
    rintro e w' ⟨rfl, h1, h2⟩
    exact ⟨fun _ => by rw [hE], fun h => absurd (hE.symm.trans h) hg, h1, h2⟩
end Go.Proofs.Ytofhccpagnkalaa

/- Is a snapshot not more than is looked at: both answers; no conditions. -/
namespace Go.Proofs.Ytofhccpagnkalaa
open Go.RowKit Go.Maps Go.Proofs.Own

set_option maxHeartbeats 1000000 in
theorem light1_yes (i t : Int) (am ad : Option Addr) (nm cm nd cd : Nat) (w : World) (h1 : nm ≤ 30) (h2 : nd ≤ 33000) :
    Calls Try.prog 15 #[.agg #[.int .u64 i, .int .u64 t, .slice am nm cm, .slice ad nd cd]] w fun e w' => e = .returned (.bool true) ∧ Below w.heap.size w w' := by
  have b1 : (nm : Int) ≤ 30 := by omega
  have b2 : (nd : Int) ≤ 33000 := by omega
  go_enter Try.func15, Try.ntmps15
  go_wp2_with fail
  go_ret
  exact ⟨rfl, (Below.refl _ _).alloc (Nat.le_refl _) _⟩
set_option maxHeartbeats 1000000 in
theorem light1_no (i t : Int) (am ad : Option Addr) (nm cm nd cd : Nat) (w : World) (h : ¬ (nm ≤ 30 ∧ nd ≤ 33000)) :
    Calls Try.prog 15 #[.agg #[.int .u64 i, .int .u64 t, .slice am nm cm, .slice ad nd cd]] w fun e w' => e = .returned (.bool false) ∧ Below w.heap.size w w' := by
  by_cases h1 : nm ≤ 30
  · have b1 : (nm : Int) ≤ 30 := by omega
    have b2 : ¬ (nd : Int) ≤ 33000 := by omega
    clear h h1
    go_enter Try.func15, Try.ntmps15
    go_wp2_with fail
    go_ret
    exact ⟨rfl, (Below.refl _ _).alloc (Nat.le_refl _) _⟩
  · have b1 : ¬ (nm : Int) ≤ 30 := by omega
    clear h h1
    go_enter Try.func15, Try.ntmps15
    go_wp2_with fail
    go_ret
    exact ⟨rfl, (Below.refl _ _).alloc (Nat.le_refl _) _⟩

end Go.Proofs.Ytofhccpagnkalaa

/- The law SnapshotKeeps, walked; no conditions. -/
namespace Go.Proofs.Ytofhccpagnkalaa
open Go.ChangeShapes Go.WideShapes Go.ChangeAt Go.RowKit Go.Maps Go.Deep Go.Proofs.Own

/-- A snapshot's cells. -/
structure SR where
  i : Int
  t : Int
  am : Option Addr
  nm : Nat
  cm : Nat
  ad : Option Addr
  nd : Nat
  cd : Nat
def snV (r : SR) : List Value := [.int .u64 r.i, .int .u64 r.t, .slice r.am r.nm r.cm, .slice r.ad r.nd r.cd]
def SROk (W : World) (r : SR) : Prop := SnapArg W (.agg #[.int .u64 r.i, .int .u64 r.t, .slice r.am r.nm r.cm, .slice r.ad r.nd r.cd])
/-- v: the snapshots rs. -/
def SnapsIs (w : World) (v : Value) (rs : List SR) : Prop := SRow w 4 v (rs.map snV) ∧ (∀ r ∈ rs, SROk w r) ∧ rs.length ≤ maxLen
theorem cellsSnap : Try.prog.cellsOf 27 = 4 := by kernel_rfl
theorem cellsInts : Try.prog.cellsOf 25 = 1 := by kernel_rfl
theorem cellsBytes : Try.prog.cellsOf 22 = 1 := by kernel_rfl
set_option maxRecDepth 100000 in
theorem open_snap1 {H : Type} {enc : TypeId × Value → H} {W : World} {n : Nat} {cs : List Value} {y : DataW H × List MemPlace} (h : DataW.trod enc Try.prog W 0 (fun _ => true) true n 27 cs = some y) : ∃ r : SR, cs = snV r ∧ SROk W r := by
  obtain ⟨xs, k, _, _, hl, hxl, hg⟩ := DataW.trod_struct Try.underlying27 h
  rw [cellsSnap] at hl
  match cs, hl with
  | [c0, c1, c2, c3], _ =>
    match xs, hxl with
    | [y0, y1, y2, y3], _ =>
      have g0 := hg 0 _ rfl
      have g1 := hg 1 _ rfl
      have g2 := hg 2 _ rfl
      have g3 := hg 3 _ rfl
      simp only [List.getElem_toArray, List.getElem_cons_zero, List.getElem_cons_succ] at g0 g1 g2 g3
      rw [cellsU64] at g0 g1
      rw [cellsInts] at g2
      rw [cellsBytes] at g3
      simp only [List.drop_zero, List.drop_succ_cons, List.take_succ_cons, List.take_zero, List.getElem?_cons_zero, List.getElem?_cons_succ] at g0 g1 g2 g3
      obtain ⟨z0, e0, _, w0⟩ := DataW.trod_int Try.underlying24 g0
      obtain rfl : c0 = .int .u64 z0 := by simpa using e0
      obtain ⟨z1, e1, _, w1⟩ := DataW.trod_int Try.underlying24 g1
      obtain rfl : c1 = .int .u64 z1 := by simpa using e1
      obtain ⟨am, nm, cm, rfl, hm⟩ := open_ints1 g2
      obtain ⟨ad, nd, cd, rfl, hd⟩ := open_bytes1 g3
      exact ⟨⟨z0, z1, am, nm, cm, ad, nd, cd⟩, rfl, z0, z1, am, nm, cm, ad, nd, cd, rfl, hm, hd⟩
set_option maxRecDepth 100000 in
theorem open_snaps {H : Type} {enc : TypeId × Value → H} {W : World} {fuel : Nat} {v : Value} {x : DataW H × List MemPlace} (hf : DataW.trod enc Try.prog W 0 (fun _ => true) true fuel 79 [v] = some x) : ∃ rs, SnapsIs W v rs := by
  obtain ⟨rs, h1, h2⟩ := open_rows (val := snV) (Ok := SROk W) Try.underlying79 cellsSnap (by decide) (fun n cs y h => open_snap1 h) hf
  exact ⟨rs, h1, h2⟩
theorem SnapsIs.at {w w' : World} {a : Option Addr} {n c : Nat} {rs : List SR} (h : SnapsIs w (.slice a n c) rs) (hb : Below w.heap.size w w') {j : Nat} {r : SR} (hj : rs[j]? = some r) :
    ∃ b o, a = some ⟨b, o, none⟩ ∧ b < w'.heap.size ∧ w'.cell? ⟨b, o + j * 4, none⟩ = some (.int .u64 r.i) ∧ w'.cell? ⟨b, o + j * 4 + 1, none⟩ = some (.int .u64 r.t) ∧ w'.cell? ⟨b, o + j * 4 + 2, none⟩ = some (.slice r.am r.nm r.cm) ∧ w'.cell? ⟨b, o + j * 4 + 3, none⟩ = some (.slice r.ad r.nd r.cd) := by
  obtain ⟨hl, he⟩ := List.getElem?_eq_some_iff.1 hj
  obtain ⟨b, o, h1, h2, h3⟩ := (h.1.below hb).at (j := j) (by rw [List.length_map]; exact hl)
  rw [List.getElem_map, he] at h3
  exact ⟨b, o, h1, h2, by have := h3 0 _ rfl; rwa [Nat.add_zero] at this, h3 1 _ rfl, h3 2 _ rfl, h3 3 _ rfl⟩
theorem Reads.sblk {w : World} {b : Nat} {i t : Int} {mv dv : Value} (k : SBlk w b i t mv dv) {q : IntKind} {v : Value} {zs : List Int} (h : Reads w q v zs) (hq : q ≠ .u64) (hm : ∀ x, mv ≠ .int q x) (hd : ∀ x, dv ≠ .int q x) (i' t' : Int) (mv' dv' : Value) :
    Reads ((((w.setCell ⟨b, 0, none⟩ (.int .u64 i')).setCell ⟨b, 1, none⟩ (.int .u64 t')).setCell ⟨b, 2, none⟩ mv').setCell ⟨b, 3, none⟩ dv') q v zs := by
  refine Reads.setNe (Reads.setNe (Reads.setNe (Reads.setNe h _ ?_) _ ?_) _ ?_) _ ?_
  · intro x e; rw [k.c0] at e; cases e; exact hq rfl
  · intro x e; rw [World.cell?_setCell_other _ _ _ _ (by simp), k.c1] at e; cases e; exact hq rfl
  · intro x e; rw [World.cell?_setCell_other _ _ _ _ (by simp), World.cell?_setCell_other _ _ _ _ (by simp), k.c2] at e; exact hm x (Option.some.inj e)
  · intro x e; rw [World.cell?_setCell_other _ _ _ _ (by simp), World.cell?_setCell_other _ _ _ _ (by simp), World.cell?_setCell_other _ _ _ _ (by simp), k.c3] at e; exact hd x (Option.some.inj e)
theorem DiskIs.sblk {w : World} {b db mb tb : Nat} {D : DiskS} {i t : Int} {mv dv : Value} (h : DiskIs w db mb tb D) (s : SBlk w b i t mv dv) (hn : ¬ Own3 db mb tb b) (hm : ∀ q x, mv ≠ .int q x) (hd : ∀ q x, dv ≠ .int q x) (i' t' : Int) (mv' dv' : Value) :
    DiskIs ((((w.setCell ⟨b, 0, none⟩ (.int .u64 i')).setCell ⟨b, 1, none⟩ (.int .u64 t')).setCell ⟨b, 2, none⟩ mv').setCell ⟨b, 3, none⟩ dv') db mb tb D := by
  refine DiskIs.setOther (DiskIs.setOther (DiskIs.setOther (DiskIs.setOther h _ hn ?_) _ hn ?_) _ hn ?_) _ hn ?_
  · intro x e; rw [s.c0] at e; cases e
  · intro x e; rw [World.cell?_setCell_other _ _ _ _ (by simp), s.c1] at e; cases e
  · intro x e; rw [World.cell?_setCell_other _ _ _ _ (by simp), World.cell?_setCell_other _ _ _ _ (by simp), s.c2] at e; exact hm _ x (Option.some.inj e)
  · intro x e; rw [World.cell?_setCell_other _ _ _ _ (by simp), World.cell?_setCell_other _ _ _ _ (by simp), World.cell?_setCell_other _ _ _ _ (by simp), s.c3] at e; exact hd _ x (Option.some.inj e)
theorem Kept.set4v (w : World) (b : Nat) (i t : Int) (m d : Value) : Kept w ((((w.setCell ⟨b, 0, none⟩ (.int .u64 i)).setCell ⟨b, 1, none⟩ (.int .u64 t)).setCell ⟨b, 2, none⟩ m).setCell ⟨b, 3, none⟩ d) (fun k => k = b) := Kept.set4 w b i t m d
theorem StoreIs.sblk {w : World} {b sb db mb tb : Nat} {s : SnapS} {i t : Int} {mv dv : Value} (h : StoreIs w sb db mb tb s) (k : SBlk w b i t mv dv) (hn : sb ≠ b) (hm : ∀ q x, mv ≠ .int q x) (hd : ∀ q x, dv ≠ .int q x) (i' t' : Int) (mv' dv' : Value) :
    StoreIs ((((w.setCell ⟨b, 0, none⟩ (.int .u64 i')).setCell ⟨b, 1, none⟩ (.int .u64 t')).setCell ⟨b, 2, none⟩ mv').setCell ⟨b, 3, none⟩ dv') sb db mb tb s := by
  obtain ⟨m, d, h1, h2, h3, h4, h5, h6⟩ := h
  exact ⟨m, d, h1.kept (Kept.set4 _ _ _ _ _ _) hn, ⟨h2.shape, Reads.sblk k h2.rd (by decide) (hm _) (hd _) _ _ _ _, h2.small⟩, ⟨h3.shape, Reads.sblk k h3.rd (by decide) (hm _) (hd _) _ _ _ _, h3.lt, h3.small⟩, h4, h5, h6⟩

set_option maxHeartbeats 1600000 in
set_option maxRecDepth 20000 in
theorem sget_zero (sb db mb tb : Nat) (s : SnapS) (w : World) (h : StoreIs w sb db mb tb s) (hi : s.i = 0) :
    Calls Try.prog 32 #[.pointer (some ⟨sb, 0, none⟩)] w fun e w' => e = .returned (.tuple #[.agg #[.int .u64 0, .int .u64 0, .slice none 0 0, .slice none 0 0], .bool false]) ∧ Below w.heap.size w w' := by
  have H := Lib.hid h
  obtain ⟨mv, dv, h1, _, _, _⟩ := h
  rw [hi] at h1
  have HS := Lib.hid h1
  have hsl := h1.lt
  clear h1
  go_enter Try.func32, Try.ntmps32
  go_wp2_with fail
  have R1 : Hid (SBlk (w.alloc (.cells #[.int .u64 0, .int .u64 0, .slice none 0 0, .slice none 0 0] 27)) w.heap.size 0 0 (.slice none 0 0) (.slice none 0 0)) := Lib.hid (SBlk.new w)
  have B1 : Hid (Below w.heap.size w (w.alloc (.cells #[.int .u64 0, .int .u64 0, .slice none 0 0, .slice none 0 0] 27))) := Lib.hid ((Below.refl _ _).alloc (Nat.le_refl _) _)
  generalize World.alloc w _ = w1 at *
  refine (snone sb db mb tb s w1 (H.out.below B1.out)).mono ?_
  rintro e w1' ⟨rfl, rfl⟩
  obtain ⟨r0, r1, _, _, _, _, _, _, _⟩ := HS.out.kept (Kept.of_below B1.out (S := fun _ => False) fun k h1 h2 => by omega) (fun h => h)
  obtain ⟨q0, q1, q2, q3, g0, g1, g2, g3⟩ := R1.out
  have hl1 := R1.out.lt
  go_wp2_with fail
  generalize hwF : World.setCell _ _ _ = wF
  have RF : Hid (SBlk wF w.heap.size 0 0 (.slice none 0 0) (.slice none 0 0)) := Lib.hid (by subst hwF; exact R1.out.set4 0 0 _ _)
  have BF : Hid (Below w.heap.size w wF) := Lib.hid (by subst hwF; exact B1.out.trans ((Kept.set4 w1 w.heap.size 0 0 _ _).below B1.out.size (fun k hk => by omega)))
  clear hwF q0 q1 q2 q3 g0 g1 g2 g3 r0 r1
  obtain ⟨q0, q1, q2, q3, _, _, _, _⟩ := RF.out
  refine bodyPost_ret (v := .tuple #[.agg #[.int .u64 0, .int .u64 0, .slice none 0 0, .slice none 0 0], .bool false]) (by simp [results, Try.results32, go_sem, q0, q1, q2, q3]) rfl ?_
  exact ⟨rfl, BF.out⟩

set_option maxHeartbeats 1600000 in
set_option maxRecDepth 20000 in
theorem skeeps_big (la ta : Option Addr) (n lc m tc k : Nat) (w : World) (h : ¬ (n ≤ 40 ∧ m ≤ 40)) : Calls Try.prog 10 #[.slice la n lc, .int .u8 k, .slice ta m tc] w fun e w' => e = .returned (.bool true) ∧ Below w.heap.size w w' := by
  by_cases h1 : n ≤ 40
  · have b1 : (n : Int) ≤ 40 := by omega
    have b2 : ¬ (m : Int) ≤ 40 := by omega
    clear h h1
    go_enter Try.func10, Try.ntmps10
    go_wp2_with fail
    refine (lives_any _).mono ?_
    rintro e w1 ⟨rfl, hb1⟩
    have B1 := Lib.hid hb1
    clear hb1
    go_wp2_with fail
    go_ret
    exact ⟨rfl, B1.out⟩
  · have b1 : ¬ (n : Int) ≤ 40 := by omega
    clear h h1
    go_enter Try.func10, Try.ntmps10
    go_wp2_with fail
    refine (lives_any _).mono ?_
    rintro e w1 ⟨rfl, hb1⟩
    have B1 := Lib.hid hb1
    clear hb1
    go_wp2_with fail
    go_ret
    exact ⟨rfl, B1.out⟩

/-- A row's value, which is no integer. -/
def Slc (v : Value) : Prop := ∃ a n c, v = .slice a n c
theorem Slc.ne {v : Value} (h : Slc v) : ∀ q x, v ≠ .int q x := by obtain ⟨a, n, c, rfl⟩ := h; exact fun q x e => by cases e
theorem SnapIs.slc {w : World} {i t : Int} {mv dv : Value} {s : SnapS} (h : SnapIs w (.agg #[.int .u64 i, .int .u64 t, mv, dv]) s) : i = s.i ∧ t = s.t ∧ Slc mv ∧ Slc dv := by
  obtain ⟨m, d, e, h1, h2⟩ := h
  simp only [Value.agg.injEq, Array.mk.injEq, List.cons.injEq, Value.int.injEq, true_and, and_true] at e
  obtain ⟨e1, e2, rfl, rfl⟩ := e
  obtain ⟨a, c, e3, _⟩ := h1.shape
  obtain ⟨a', c', e4, _⟩ := h2.shape
  exact ⟨e1, e2, ⟨_, _, _, e3⟩, ⟨_, _, _, e4⟩⟩
theorem SFile.empty {D : DiskS} (h : D.files = []) : SFile D zeroS := .inl ⟨rfl, by rw [h]; rfl⟩
theorem dMax_sopen : sopenE dMax = 0 ∧ sopenS dMax = zeroS ∧ (goneD dMax).1 = dMax := ⟨rfl, rfl, rfl⟩

set_option maxHeartbeats 8000000 in
set_option maxRecDepth 20000 in
theorem skeeps_small (rs : List SR) (ts : List (Nat × Nat)) (la ta : Option Addr) (lc tc k : Nat) (w : World) (hl : SnapsIs w (.slice la rs.length lc) rs) (ht : TearsIs w (.slice ta ts.length tc) ts) (hk : k < 256) (h1 : rs.length ≤ 40) (h2 : ts.length ≤ 40) :
    Calls Try.prog 10 #[.slice la rs.length lc, .int .u8 k, .slice ta ts.length tc] w fun e w' => e = .returned (.bool true) ∧ Below w.heap.size w w' := by
  have HL := Lib.hid hl
  have HT := Lib.hid ht
  have b1 : (rs.length : Int) ≤ 40 := by omega
  have b2 : (ts.length : Int) ≤ 40 := by omega
  obtain ⟨n, hn⟩ : ∃ n, rs.length = n := ⟨_, rfl⟩
  obtain ⟨m, hm⟩ : ∃ m, ts.length = m := ⟨_, rfl⟩
  have HN := Lib.hid hn
  rw [hn] at HL b1 ⊢
  rw [hm] at HT b2 ⊢
  clear hl ht h1 h2 hn hm
  go_enter Try.func10, Try.ntmps10
  go_wp2_with fail
  refine (dnew 1048576 w (by decide) (by decide)).mono ?_
  rintro e w1 ⟨db, mb, tb, rfl, hd1, hb1, h1, h2, h3⟩
  have D1 : Hid (DiskIs w1 db mb tb dMax) := Lib.hid hd1
  have B1 := Lib.hid hb1
  have HO : Hid (∀ k, Own3 db mb tb k → w.heap.size ≤ k) := Lib.hid (by rintro k (rfl | rfl | rfl) <;> assumption)
  have TA := Lib.hid (HT.out.apart HO.out)
  have L1 := hb1.size
  clear hd1 hb1 h1 h2 h3
  go_wp2_with fail
  refine (sopen_any db mb tb dMax w1 D1.out dMax_good).mono ?_
  rintro e w2 ⟨-, hok, hd2, hk2⟩
  rw [dMax_sopen.2.2] at hd2
  obtain ⟨sb, rfl, hst, hsb⟩ := hok dMax_sopen.1
  rw [dMax_sopen.2.1] at hst
  have D2 := Lib.hid hd2
  have S2 := Lib.hid hst
  have B2 : Hid (Below w.heap.size w w2) := Lib.hid (B1.out.trans (hk2.below L1 HO.out))
  have HSB : Hid (w.heap.size ≤ sb) := Lib.hid (Nat.le_trans L1 hsb)
  clear hok hd2 hk2 hst hsb
  go_wp2_with fail
  refine (darm_any db mb tb dMax k w2 D2.out).mono ?_
  rintro e w3 ⟨rfl, hd3, hk3⟩
  have HA : Hid (armD dMax k = (⟨1048576, [], false, k, 0⟩, 0)) := Lib.hid (by unfold armD; rw [if_neg (by decide), if_neg (by omega)]; rfl)
  rw [HA.out] at hd3 ⊢
  have GA : Hid (DGood ⟨1048576, [], false, k, 0⟩) := Lib.hid (by have h := dMax_good.arm k (by omega); rw [HA.out] at h; exact h)
  have D3 := Lib.hid hd3
  have S3 := Lib.hid (S2.out.kept hk3)
  have B3 : Hid (Below w.heap.size w w3) := Lib.hid (B2.out.trans (hk3.below B2.out.size HO.out))
  have L3 := S3.out.lt
  clear hd3 hk3
  go_wp2_with fail
  have AA : Below w3.heap.size w3 ((w3.alloc (.cells #[.int .u64 0, .int .u64 0, .slice none 0 0, .slice none 0 0] 27)).alloc (.cells #[.int .u64 0, .int .u64 0, .slice none 0 0, .slice none 0 0] 27)) := ((Below.refl _ _).alloc (Nat.le_refl _) _).alloc (by simp) _
  have SA0 : SBlk ((w3.alloc (.cells #[.int .u64 0, .int .u64 0, .slice none 0 0, .slice none 0 0] 27)).alloc (.cells #[.int .u64 0, .int .u64 0, .slice none 0 0, .slice none 0 0] 27)) w3.heap.size 0 0 (.slice none 0 0) (.slice none 0 0) := (SBlk.new w3).below ((Below.refl _ _).alloc (Nat.le_refl _) _)
  have SA1 : SBlk ((w3.alloc (.cells #[.int .u64 0, .int .u64 0, .slice none 0 0, .slice none 0 0] 27)).alloc (.cells #[.int .u64 0, .int .u64 0, .slice none 0 0, .slice none 0 0] 27)) (w3.heap.size + 1) 0 0 (.slice none 0 0) (.slice none 0 0) := by
    have h := SBlk.new (w3.alloc (.cells #[.int .u64 0, .int .u64 0, .slice none 0 0, .slice none 0 0] 27))
    simpa using h
  generalize World.alloc (World.alloc w3 _) _ = w0 at *
  have D0 := Lib.hid (D3.out.below AA)
  have S0 := Lib.hid (S3.out.below AA)
  have B0 : Hid (Below w.heap.size w w0) := Lib.hid (B3.out.trans (AA.mono B3.out.size))
  have W0 := Lib.hid SA0
  have X0 := Lib.hid SA1
  have NW : Hid (¬ Own3 db mb tb w3.heap.size) := Lib.hid (fun h => by have := D3.out.lt3 _ h; omega)
  have NG : Hid (¬ Own3 db mb tb (w3.heap.size + 1)) := Lib.hid (fun h => by have := D3.out.lt3 _ h; omega)
  have NSB : Hid (sb ≠ w3.heap.size ∧ sb ≠ w3.heap.size + 1 ∧ w.heap.size ≤ w3.heap.size) := Lib.hid ⟨by omega, by omega, B3.out.size⟩
  generalize w3.heap.size = bw at *
  clear SA0 SA1 AA D1 B1 L1 D2 S2 B2 HA D3 S3 B3 L3
  have EZ : Hid (SnapIs w (.agg #[.int .u64 zeroS.i, .int .u64 zeroS.t, .slice none 0 0, .slice none 0 0]) zeroS) := Lib.hid ⟨_, _, rfl, Ints.nil w, Bytes.nil w⟩
  go_loopw [48] (fun i wr => ∃ (j : Nat) (s g : SnapS) (ms ds mg dg : Value) (D : DiskS), i = .int .i64 j ∧ j ≤ n ∧ D.steps ≤ 4 * j ∧ DGood D ∧ D.down = false ∧ SFile D s ∧ DiskIs wr db mb tb D ∧ StoreIs wr sb db mb tb s ∧ SBlk wr bw s.i s.t ms ds ∧ SBlk wr (bw + 1) g.i g.t mg dg ∧ SnapIs w (.agg #[.int .u64 s.i, .int .u64 s.t, ms, ds]) s ∧ SnapIs w (.agg #[.int .u64 g.i, .int .u64 g.t, mg, dg]) g ∧ Below w.heap.size w wr) (fun i _ => n - (intOf i).toNat)
  case atStart => exact ⟨0, zeroS, zeroS, .slice none 0 0, .slice none 0 0, .slice none 0 0, .slice none 0 0, _, rfl, by omega, by show (0 : Int) ≤ _; omega, GA.out, rfl, SFile.empty rfl, D0.out, S0.out, W0.out, X0.out, EZ.out, EZ.out, B0.out⟩
  case round =>
    obtain ⟨j, s, g, ms, ds, mg, dg, D, rfl, hj, hst, hg, hdn, hvf, hd, hss, hw0, hx0, hes, heg, hbl⟩ := hrel
    have SZ0 := Lib.hid hst
    have GR := Lib.hid hg
    have HDN := Lib.hid hdn
    have VF := Lib.hid hvf
    have DR := Lib.hid hd
    have SR := Lib.hid hss
    have WR := Lib.hid hw0
    have XR := Lib.hid hx0
    have ES := Lib.hid hes
    have EG := Lib.hid heg
    have BR := Lib.hid hbl
    have ESM : Hid (s.ms.length ≤ 2097152 ∧ (∀ c ∈ s.d, c < 256) ∧ s.d.length ≤ 2097152) := Lib.hid (by obtain ⟨_, _, _, h1, h2⟩ := hes; exact ⟨h1.small, h2.lt, h2.small⟩)
    obtain ⟨-, -, h1, h2⟩ := hes.slc
    obtain ⟨-, -, h3, h4⟩ := heg.slc
    have LW : Hid (Slc ms ∧ Slc ds) := Lib.hid ⟨h1, h2⟩
    have LX : Hid (Slc mg ∧ Slc dg) := Lib.hid ⟨h3, h4⟩
    obtain ⟨a1, a2, a3, rfl⟩ := h1
    obtain ⟨a4, a5, a6, rfl⟩ := h2
    obtain ⟨c1, c2, c3, rfl⟩ := h3
    obtain ⟨c4, c5, c6, rfl⟩ := h4
    clear hst hg hdn hvf hd hss hw0 hx0 hes heg hbl
    clear D0 S0 W0 X0 B0 EZ
    by_cases hlt : j < n
    · obtain ⟨r, hr, hmem⟩ := getAt (l := rs) (j := j) (by rw [HN.out]; exact hlt)
      obtain ⟨b, o, rfl, hbw, y0, y1, y2, y3⟩ := HL.out.at BR.out hr
      have OKR := Lib.hid (HL.out.2.1 r hmem)
      obtain ⟨ri, rt, ram, rnm, rcm, rad, rnd, rcd⟩ := r
      unfold SROk at OKR
      simp only at y0 y1 y2 y3 OKR
      clear hr hmem
      have SX0 := SBlk.box wr ri rt (.slice ram rnm rcm) (.slice rad rnd rcd)
      have AX : Below wr.heap.size wr (wr.alloc (.cells #[.int .u64 ri, .int .u64 rt, .slice ram rnm rcm, .slice rad rnd rcd] 27)) := (Below.refl _ _).alloc (Nat.le_refl _) _
      have NX : Hid (¬ Own3 db mb tb wr.heap.size ∧ wr.heap.size ≠ sb ∧ wr.heap.size ≠ bw ∧ wr.heap.size ≠ bw + 1) := Lib.hid ⟨fun h => by have := DR.out.lt3 _ h; omega, by have := SR.out.lt; omega, by have := WR.out.lt; omega, by have := XR.out.lt; omega⟩
      go_wp2_with fail
      generalize World.alloc wr _ = wx at *
      have DX := Lib.hid (DR.out.below AX)
      have SX := Lib.hid (SR.out.below AX)
      have WX := Lib.hid (WR.out.below AX)
      have XX := Lib.hid (XR.out.below AX)
      have SSX := Lib.hid SX0
      have BX : Hid (Below w.heap.size w wx) := Lib.hid (BR.out.trans (AX.mono BR.out.size))
      generalize wr.heap.size = bs at *
      clear AX SX0 DR SR WR XR BR hbw y0 y1 y2 y3
      by_cases hlg : rnm ≤ 30 ∧ rnd ≤ 33000
      · obtain ⟨xms, xd, l1, l2, hxs⟩ := OKR.out.is (by omega) (by omega)
        have EX := Lib.hid hxs
        clear l1 l2 hxs
        refine (light1_yes _ _ _ _ _ _ _ _ wx hlg.1 hlg.2).mono ?_
        rintro e wy ⟨rfl, hby⟩
        have DY := Lib.hid (DX.out.below hby)
        have SY := Lib.hid (SX.out.below hby)
        have WY := Lib.hid (WX.out.below hby)
        have XY := Lib.hid (XX.out.below hby)
        have SSY := Lib.hid (SSX.out.below hby)
        have BY : Hid (Below w.heap.size w wy) := Lib.hid (BX.out.trans (hby.mono BX.out.size))
        clear hby hlg DX SX WX XX SSX BX
        obtain ⟨x0, x1, x2, x3, _, _, _, _⟩ := SSY.out
        go_wp2_with fail
        refine (ssave_any sb db mb tb s (⟨ri, rt, xms, xd⟩ : SnapS) D _ wy SY.out (EX.out.below BY.out) (fun w' hk => EX.out.below (BY.out.trans (hk.below BY.out.size HO.out))) DY.out GR.out (by have := SZ0.out; omega)).mono ?_
        rintro e wk ⟨rfl, hdk, hsk, hkk⟩
        have KL := save_law HDN.out VF.out (⟨ri, rt, xms, xd⟩ : SnapS)
        have FL := fell_save HDN.out s (⟨ri, rt, xms, xd⟩ : SnapS)
        have GL := saveD_good s (⟨ri, rt, xms, xd⟩ : SnapS) GR.out (by have := SZ0.out; omega)
        obtain ⟨kr, hr⟩ : ∃ kr, saveD D s (⟨ri, rt, xms, xd⟩ : SnapS) = kr := ⟨_, rfl⟩
        rw [hr] at hdk hsk KL FL GL ⊢
        obtain ⟨Dk, ek⟩ := kr
        have DK := Lib.hid hdk
        have SK := Lib.hid hsk
        have KL' := Lib.hid KL
        have FL' := Lib.hid FL
        have GK := Lib.hid GL.1
        have SZK : Hid (Dk.steps ≤ 4 * ((j + 1 : Nat) : Int)) := Lib.hid (by have h1 := GL.2; have h2 := SZ0.out; simp only at h1; omega)
        have WK := Lib.hid (WY.out.kept hkk (fun h => h.elim NW.out (fun h => NSB.out.1 h.symm)))
        have XK := Lib.hid (XY.out.kept hkk (fun h => h.elim NG.out (fun h => NSB.out.2.1 h.symm)))
        have SSK := Lib.hid (SSY.out.kept hkk (fun h => h.elim NX.out.1 NX.out.2.1))
        have BK : Hid (Below w.heap.size w wk) := Lib.hid (BY.out.trans (hkk.below BY.out.size (fun k hk => hk.elim (HO.out k) (fun e => e ▸ HSB.out))))
        clear KL FL GL hkk hdk hsk hr DY SY WY XY SSY BY x0 x1 x2 x3
        obtain ⟨x0, x1, x2, x3, _, _, _, _⟩ := SSK.out
        by_cases h0 : ek = 0
        · subst h0
          have SKO : Hid (StoreIs wk sb db mb tb (⟨ri, rt, xms, xd⟩ : SnapS)) := Lib.hid (by have h := SK.out; rw [if_pos rfl] at h; exact h)
          have FKO : Hid (SFile Dk (⟨ri, rt, xms, xd⟩ : SnapS)) := Lib.hid (by have h := KL'.out.1; rw [if_pos rfl] at h; exact h)
          have HLT := (KL'.out.2 (by first | trivial | rfl)).1
          simp only at HLT
          have HDK : Hid (Dk.down = false) := Lib.hid (FL'.out.up (by first | trivial | rfl))
          obtain ⟨p0, p1, p2, p3, p4, p5, p6, p7⟩ := WK.out
          obtain ⟨z0, z1, z2, z3, z4, z5, z6, z7⟩ := XK.out
          have hle : ¬ ri ≤ s.i := by omega
          clear SK KL'
          go_wp2_with fail
          refine region_start [0, 0, 1, 7] 4 (fun w' => SBlk w' bs ri rt (.slice ram rnm rcm) (.slice rad rnd rcd)) (by kernel_rfl) ?_
          refine stage_heads [0, 1] (by kernel_rfl) (L := #[true, true, false, false]) (by kernel_rfl) (f' := 2) rfl (fun _ _ _ _ h => h) (fun w o h => h.below ((Below.refl _ _).alloc (Nat.le_refl _) o)) (.inr (by first | exact SSK.out | exact SSK.out.below ((Below.refl _ _).drew))) ?_
          simp only [List.flatMap_cons, List.flatMap_nil, List.drop_succ_cons, List.drop_zero, List.take_succ_cons, List.take_zero, List.cons_append, List.nil_append, List.append_nil]
          iterate 2 (first | (refine heads_load _ (by rfl) (fun w' hs => by obtain ⟨q0, q1, q2, q3, _, _, _, _⟩ := hs; go_simp; try with_reducible rfl) rfl ?_; simp only [Act.put, List.setIfInBounds_toArray, List.set_cons_zero, List.set_cons_succ]) | (refine heads_pure _ (by rfl) (fun w' => by go_simp; try with_reducible rfl) ?_; simp only [Act.put, List.setIfInBounds_toArray, List.set_cons_zero, List.set_cons_succ]))
          refine heads_nil ?_
          refine stage_op 2 (by kernel_rfl) (L := #[true, true, true, false]) (by kernel_rfl) ?_
          simp only [List.drop_succ_cons, List.drop_zero, List.take_succ_cons, List.take_zero]
          go_wp2_with fail
          refine step_post (fun _ => (by first | exact SSK.out.kept (Kept.set4 _ _ _ _ _ _) NX.out.2.2.1 | exact (SSK.out.below ((Below.refl _ _).drew)).kept (Kept.set4 _ _ _ _ _ _) NX.out.2.2.1)) ?_
          refine stage_op 3 (by kernel_rfl) (L := #[true, true, true, true]) (by kernel_rfl) ?_
          simp only [List.drop_succ_cons, List.drop_zero, List.take_succ_cons, List.take_zero]
          go_wp2_with fail
          refine step_post nofun ?_
          refine stage_done (by kernel_rfl) ?_
          generalize hwz : World.drew _ = wz
          have W1 : Hid (∃ wd, Below wk.heap.size wk wd ∧ wz = (((((((((wd.setCell ⟨bw, 0, none⟩ (.int .u64 ri)).setCell ⟨bw, 1, none⟩ (.int .u64 rt)).setCell ⟨bw, 2, none⟩ (.slice ram rnm rcm)).setCell ⟨bw, 3, none⟩ (.slice rad rnd rcd)).setCell ⟨bw + 1, 0, none⟩ (.int .u64 ri)).setCell ⟨bw + 1, 1, none⟩ (.int .u64 rt)).setCell ⟨bw + 1, 2, none⟩ (.slice ram rnm rcm)).setCell ⟨bw + 1, 3, none⟩ (.slice rad rnd rcd))).drew) := Lib.hid ⟨wk, Below.refl _ _, hwz.symm⟩
          clear hwz p0 p1 p2 p3 p4 p5 p6 p7 z0 z1 z2 z3 z4 z5 z6 z7 x0 x1 x2 x3
          obtain ⟨wd, hwd, hwz⟩ := W1.out
          have DZ : Hid (DiskIs wz db mb tb Dk) := Lib.hid (by
            subst hwz
            have h := (DK.out.below hwd).sblk (WK.out.below hwd) NW.out LW.out.1.ne LW.out.2.ne ri rt (.slice ram rnm rcm) (.slice rad rnd rcd)
            exact (h.sblk ((XK.out.below hwd).kept (Kept.set4 _ _ _ _ _ _) (by omega)) NG.out LX.out.1.ne LX.out.2.ne ri rt (.slice ram rnm rcm) (.slice rad rnd rcd)).below ((Below.refl _ _).drew))
          have SZ' : Hid (StoreIs wz sb db mb tb (⟨ri, rt, xms, xd⟩ : SnapS)) := Lib.hid (by
            subst hwz
            have h := (SKO.out.below hwd).sblk (WK.out.below hwd) NSB.out.1 LW.out.1.ne LW.out.2.ne ri rt (.slice ram rnm rcm) (.slice rad rnd rcd)
            exact (h.sblk ((XK.out.below hwd).kept (Kept.set4 _ _ _ _ _ _) (by omega)) NSB.out.2.1 LX.out.1.ne LX.out.2.ne ri rt (.slice ram rnm rcm) (.slice rad rnd rcd)).below ((Below.refl _ _).drew))
          have WZ : Hid (SBlk wz bw ri rt (.slice ram rnm rcm) (.slice rad rnd rcd)) := Lib.hid (by
            subst hwz
            exact (((WK.out.below hwd).set4 ri rt (.slice ram rnm rcm) (.slice rad rnd rcd)).kept (Kept.set4 _ _ _ _ _ _) (by omega)).below ((Below.refl _ _).drew))
          have XZ : Hid (SBlk wz (bw + 1) ri rt (.slice ram rnm rcm) (.slice rad rnd rcd)) := Lib.hid (by
            subst hwz
            exact (((XK.out.below hwd).kept (Kept.set4 _ _ _ _ _ _) (by omega)).set4 ri rt (.slice ram rnm rcm) (.slice rad rnd rcd)).below ((Below.refl _ _).drew))
          have BZ : Hid (Below w.heap.size w wz) := Lib.hid (by
            have h3 := NSB.out.2.2
            have h1 : Below w.heap.size w wd := BK.out.trans (hwd.mono BK.out.size)
            have h2 := h1.trans ((Kept.set4 wd bw ri rt (.slice ram rnm rcm) (.slice rad rnd rcd)).below h1.size (fun k hk => by omega))
            have h4 := h2.trans ((Kept.set4 _ (bw + 1) ri rt (.slice ram rnm rcm) (.slice rad rnd rcd)).below h2.size (fun k hk => by omega))
            rw [hwz]
            exact h4.drew)
          clear hwz hwd DK SKO WK XK SSK BK
          go_wp2_with fail
          go_roundw
          case rel => exact ⟨j + 1, (⟨ri, rt, xms, xd⟩ : SnapS), (⟨ri, rt, xms, xd⟩ : SnapS), _, _, _, _, Dk, by first | rfl | go_num, by omega, SZK.out, GK.out, HDK.out, FKO.out, DZ.out, SZ'.out, WZ.out, XZ.out, EX.out, EX.out, BZ.out⟩
          all_goals (show n - ((j : Int) + 1).toNat < n - ((j : Int)).toNat; omega)
        · have hek : ((ek : Int) == 0) = false := by simp; omega
          have SKO : Hid (StoreIs wk sb db mb tb s) := Lib.hid (by have h := SK.out; simp only at h; rw [if_neg h0] at h; exact h)
          have FKO : Hid (SFile Dk s) := Lib.hid (by have h := KL'.out.1; simp only at h; rw [if_neg h0] at h; exact h)
          have E0 := Lib.hid h0
          clear h0 SK KL'
          by_cases h5 : ek = 50
          · subst h5
            obtain ⟨z0, z1, z2, z3, z4, z5, z6, z7⟩ := XK.out
            go_wp2_with fail
            have LC := FKO
            have DC := Lib.hid (DK.out.sblk XK.out NG.out LX.out.1.ne LX.out.2.ne ri rt (.slice ram rnm rcm) (.slice rad rnd rcd))
            have WC := Lib.hid (WK.out.kept (Kept.set4 wk (bw + 1) ri rt (.slice ram rnm rcm) (.slice rad rnd rcd)) (by omega))
            have XC := Lib.hid (XK.out.set4 ri rt (.slice ram rnm rcm) (.slice rad rnd rcd))
            have BC : Hid (Below w.heap.size w ((((wk.setCell ⟨bw + 1, 0, none⟩ (.int .u64 ri)).setCell ⟨bw + 1, 1, none⟩ (.int .u64 rt)).setCell ⟨bw + 1, 2, none⟩ (.slice ram rnm rcm)).setCell ⟨bw + 1, 3, none⟩ (.slice rad rnd rcd))) := Lib.hid (BK.out.trans ((Kept.set4 wk (bw + 1) ri rt (.slice ram rnm rcm) (.slice rad rnd rcd)).below BK.out.size (fun k hk => by have := NSB.out.2.2; omega)))
            have GC := GK
            generalize World.setCell _ _ _ = wc at *
            clear z0 z1 z2 z3 z4 z5 z6 z7 x0 x1 x2 x3 DK WK XK SSK BK GK SZK
            refine (dcrash_any db mb tb Dk _ ts wc DC.out GC.out (HT.out.below BC.out) TA.out).mono ?_
            rintro e w4 ⟨rfl, hd4, hk4⟩
            have D4 := Lib.hid hd4
            have RI : Hid (Rising Dk.files) := Lib.hid (by obtain ⟨_, h, _⟩ := DC.out.fs; exact h.rising)
            have G4 := Lib.hid (GC.out.crash ts)
            have W4 := Lib.hid (WC.out.kept hk4 NW.out)
            have X4 := Lib.hid (XC.out.kept hk4 NG.out)
            have B4 : Hid (Below w.heap.size w w4) := Lib.hid (BC.out.trans (hk4.below BC.out.size HO.out))
            clear hd4 hk4
            go_wp2_with fail
            refine (dboot_any db mb tb _ w4 D4.out).mono ?_
            rintro e w5 ⟨rfl, hd5, hk5⟩
            have D5 : Hid (DiskIs w5 db mb tb (bootD (crashD Dk ts))) := Lib.hid hd5
            have G5 := Lib.hid G4.out.boot
            have W5 := Lib.hid (W4.out.kept hk5 NW.out)
            have X5 := Lib.hid (X4.out.kept hk5 NG.out)
            have B5 : Hid (Below w.heap.size w w5) := Lib.hid (B4.out.trans (hk5.below B4.out.size HO.out))
            clear hd5 hk5
            have CL := sopen_law (D := bootD (crashD Dk ts)) ⟨rfl, rfl⟩ (s := s) (LC.out.crash RI.out ts)
            generalize bootD (crashD Dk ts) = D' at *
            obtain ⟨c1, c2, c3, c4⟩ := CL
            have HC1 := Lib.hid c1
            have HC2 := Lib.hid c2
            have HZ : Hid (s.i = 0 → s = zeroS) := Lib.hid (fun h => by
              rcases c4 with ⟨h1, _⟩ | ⟨h1, _⟩
              · exact h1
              · have := h1.1; omega)
            clear c1 c2 c3 c4
            go_wp2_with fail
            refine (sopen_any db mb tb D' w5 D5.out G5.out).mono ?_
            rintro e w6 ⟨-, hok, -, hk6⟩
            obtain ⟨sc, rfl, hst, hsb⟩ := hok HC1.out
            rw [HC2.out] at hst
            have S6 := Lib.hid hst
            have W6 := Lib.hid (W5.out.kept hk6 NW.out)
            have X6 := Lib.hid (X5.out.kept hk6 NG.out)
            have B6 : Hid (Below w.heap.size w w6) := Lib.hid (B5.out.trans (hk6.below B5.out.size HO.out))
            clear hok hk6 hst hsb
            by_cases hz : s.i = 0
            · obtain rfl : s = zeroS := HZ.out hz
              clear hz
              go_wp2_with fail
              refine (sget_zero sc db mb tb zeroS w6 S6.out rfl).mono ?_
              rintro e w7 ⟨rfl, hb7⟩
              have B7 := Lib.hid hb7
              have SV : Hid (SnapIs w7 (.agg #[.int .u64 0, .int .u64 0, .slice none 0 0, .slice none 0 0]) zeroS) := Lib.hid ⟨_, _, rfl, Ints.nil w7, Bytes.nil w7⟩
              clear hb7
              have A7 : Below w6.heap.size w6 (w7.alloc (.cells #[.int .u64 0, .int .u64 0, .slice none 0 0, .slice none 0 0] 27)) := B7.out.alloc B7.out.size _
              have S7 := SBlk.box w7 0 0 (.slice none 0 0) (.slice none 0 0)
              have W8 := W6.out.below A7
              have SV8 := Lib.hid (SV.out.below (w' := w7.alloc (.cells #[.int .u64 0, .int .u64 0, .slice none 0 0, .slice none 0 0] 27)) ((Below.refl _ _).alloc (Nat.le_refl _) _))
              have B8 : Hid (Below w.heap.size w (w7.alloc (.cells #[.int .u64 0, .int .u64 0, .slice none 0 0, .slice none 0 0] 27))) := Lib.hid (B6.out.trans (A7.mono B6.out.size))
              have EW8 := Lib.hid (ES.out.below B8.out)
              obtain ⟨q0, q1, q2, q3, _, _, _, _⟩ := S7
              obtain ⟨p0, p1, p2, p3, _, _, _, _⟩ := W8
              obtain ⟨r0, r1, r2, r3, _, _, _, _⟩ := W6.out.below B7.out
              have h7w : bw < w7.heap.size := by have h1 := W6.out.lt; have h2 := B7.out.size; omega
              clear A7
              go_wp2_with fail
              refine (rsame_any _ _ _ _ _ SV8.out EW8.out).mono ?_
              rintro e w9 ⟨rfl, hb9⟩
              rw [SnapS.sameB_refl]
              have B9 : Hid (Below w.heap.size w w9) := Lib.hid (B8.out.trans (hb9.mono B8.out.size))
              clear hb9 q0 q1 q2 q3 p0 p1 p2 p3 r0 r1 r2 r3 h7w
              go_wp2_with fail
              refine (lives_any _).mono ?_
              rintro e wz ⟨rfl, hbz⟩
              have BZ : Hid (Below w.heap.size w wz) := Lib.hid (B9.out.trans (hbz.mono B9.out.size))
              clear hbz
              go_wp2_with fail
              go_ret
              exact ⟨rfl, BZ.out⟩
            · have HI := Lib.hid hz
              clear hz
              go_wp2_with fail
              refine (sget_any sc db mb tb s w6 S6.out HI.out).mono ?_
              rintro e w7 ⟨v7, rfl, ⟨mv7, dv7, rfl, om, od⟩, hb7⟩
              obtain ⟨am7, cm7, rfl⟩ := om.shape
              obtain ⟨ad7, cd7, rfl⟩ := od.shape
              have B7 := Lib.hid hb7
              have SV : Hid (SnapIs w7 (.agg #[.int .u64 s.i, .int .u64 s.t, .slice am7 s.ms.length cm7, .slice ad7 (ints s.d).length cd7]) s) := Lib.hid ⟨_, _, rfl, Ints.of_owns om ESM.out.1, Bytes.of_owns od ESM.out.2.1 ESM.out.2.2⟩
              clear hb7 om od
              have A7 : Below w6.heap.size w6 (w7.alloc (.cells #[.int .u64 s.i, .int .u64 s.t, .slice am7 s.ms.length cm7, .slice ad7 (ints s.d).length cd7] 27)) := B7.out.alloc B7.out.size _
              have S7 := SBlk.box w7 s.i s.t (.slice am7 s.ms.length cm7) (.slice ad7 (ints s.d).length cd7)
              have W8 := W6.out.below A7
              have SV8 := Lib.hid (SV.out.below (w' := w7.alloc (.cells #[.int .u64 s.i, .int .u64 s.t, .slice am7 s.ms.length cm7, .slice ad7 (ints s.d).length cd7] 27)) ((Below.refl _ _).alloc (Nat.le_refl _) _))
              have B8 : Hid (Below w.heap.size w (w7.alloc (.cells #[.int .u64 s.i, .int .u64 s.t, .slice am7 s.ms.length cm7, .slice ad7 (ints s.d).length cd7] 27))) := Lib.hid (B6.out.trans (A7.mono B6.out.size))
              have EW8 := Lib.hid (ES.out.below B8.out)
              obtain ⟨q0, q1, q2, q3, _, _, _, _⟩ := S7
              obtain ⟨p0, p1, p2, p3, _, _, _, _⟩ := W8
              obtain ⟨r0, r1, r2, r3, _, _, _, _⟩ := W6.out.below B7.out
              have h7w : bw < w7.heap.size := by have h1 := W6.out.lt; have h2 := B7.out.size; omega
              clear A7
              go_wp2_with fail
              refine (rsame_any _ _ _ _ _ SV8.out EW8.out).mono ?_
              rintro e w9 ⟨rfl, hb9⟩
              rw [SnapS.sameB_refl]
              have B9 : Hid (Below w.heap.size w w9) := Lib.hid (B8.out.trans (hb9.mono B8.out.size))
              clear hb9 q0 q1 q2 q3 p0 p1 p2 p3 r0 r1 r2 r3 h7w
              go_wp2_with fail
              refine (lives_any _).mono ?_
              rintro e wz ⟨rfl, hbz⟩
              have BZ : Hid (Below w.heap.size w wz) := Lib.hid (B9.out.trans (hbz.mono B9.out.size))
              clear hbz
              go_wp2_with fail
              go_ret
              exact ⟨rfl, BZ.out⟩
          · have h5' : ((ek : Int) == 50) = false := by simp; omega
            have HDK : Hid (Dk.down = false) := Lib.hid (by
              cases hdn : Dk.down with
              | false => rfl
              | true => exact absurd (FL'.out hdn) h5)
            go_wp2_with fail
            go_roundw
            case rel => exact ⟨j + 1, s, g, _, _, _, _, Dk, by first | rfl | go_num, by omega, SZK.out, GK.out, HDK.out, FKO.out, DK.out, SKO.out, WK.out, XK.out, ES.out, EG.out, BK.out⟩
            all_goals (show n - ((j : Int) + 1).toNat < n - ((j : Int)).toNat; omega)
      · refine (light1_no _ _ _ _ _ _ _ _ wx hlg).mono ?_
        rintro e wy ⟨rfl, hby⟩
        have BY : Hid (Below w.heap.size w wy) := Lib.hid (BX.out.trans (hby.mono BX.out.size))
        clear hby hlg DX SX WX XX SSX BX
        go_wp2_with fail
        refine (lives_any _).mono ?_
        rintro e wz ⟨rfl, hbz⟩
        have BZ : Hid (Below w.heap.size w wz) := Lib.hid (BY.out.trans (hbz.mono BY.out.size))
        clear hbz
        go_wp2_with fail
        go_ret
        exact ⟨rfl, BZ.out⟩
    · have hlt' : ¬ (j : Int) < (n : Int) := by omega
      go_wp2_with fail
      have DC := DR
      have GC := GR
      have LC := VF
      have WC := WR
      have XC := XR
      have BC := BR
      generalize wr = wc at *
      refine (dcrash_any db mb tb D _ ts wc DC.out GC.out (HT.out.below BC.out) TA.out).mono ?_
      rintro e w4 ⟨rfl, hd4, hk4⟩
      have D4 := Lib.hid hd4
      have RI : Hid (Rising D.files) := Lib.hid (by obtain ⟨_, h, _⟩ := DC.out.fs; exact h.rising)
      have G4 := Lib.hid (GC.out.crash ts)
      have W4 := Lib.hid (WC.out.kept hk4 NW.out)
      have X4 := Lib.hid (XC.out.kept hk4 NG.out)
      have B4 : Hid (Below w.heap.size w w4) := Lib.hid (BC.out.trans (hk4.below BC.out.size HO.out))
      clear hd4 hk4
      go_wp2_with fail
      refine (dboot_any db mb tb _ w4 D4.out).mono ?_
      rintro e w5 ⟨rfl, hd5, hk5⟩
      have D5 : Hid (DiskIs w5 db mb tb (bootD (crashD D ts))) := Lib.hid hd5
      have G5 := Lib.hid G4.out.boot
      have W5 := Lib.hid (W4.out.kept hk5 NW.out)
      have X5 := Lib.hid (X4.out.kept hk5 NG.out)
      have B5 : Hid (Below w.heap.size w w5) := Lib.hid (B4.out.trans (hk5.below B4.out.size HO.out))
      clear hd5 hk5
      have CL := sopen_law (D := bootD (crashD D ts)) ⟨rfl, rfl⟩ (s := s) (LC.out.crash RI.out ts)
      generalize bootD (crashD D ts) = D' at *
      obtain ⟨c1, c2, c3, c4⟩ := CL
      have HC1 := Lib.hid c1
      have HC2 := Lib.hid c2
      have HZ : Hid (s.i = 0 → s = zeroS) := Lib.hid (fun h => by
        rcases c4 with ⟨h1, _⟩ | ⟨h1, _⟩
        · exact h1
        · have := h1.1; omega)
      clear c1 c2 c3 c4
      go_wp2_with fail
      refine (sopen_any db mb tb D' w5 D5.out G5.out).mono ?_
      rintro e w6 ⟨-, hok, -, hk6⟩
      obtain ⟨sc, rfl, hst, hsb⟩ := hok HC1.out
      rw [HC2.out] at hst
      have S6 := Lib.hid hst
      have W6 := Lib.hid (W5.out.kept hk6 NW.out)
      have X6 := Lib.hid (X5.out.kept hk6 NG.out)
      have B6 : Hid (Below w.heap.size w w6) := Lib.hid (B5.out.trans (hk6.below B5.out.size HO.out))
      clear hok hk6 hst hsb
      by_cases hz : s.i = 0
      · obtain rfl : s = zeroS := HZ.out hz
        clear hz
        go_wp2_with fail
        refine (sget_zero sc db mb tb zeroS w6 S6.out rfl).mono ?_
        rintro e w7 ⟨rfl, hb7⟩
        have B7 := Lib.hid hb7
        have SV : Hid (SnapIs w7 (.agg #[.int .u64 0, .int .u64 0, .slice none 0 0, .slice none 0 0]) zeroS) := Lib.hid ⟨_, _, rfl, Ints.nil w7, Bytes.nil w7⟩
        clear hb7
        have A7 : Below w6.heap.size w6 (w7.alloc (.cells #[.int .u64 0, .int .u64 0, .slice none 0 0, .slice none 0 0] 27)) := B7.out.alloc B7.out.size _
        have S7 := SBlk.box w7 0 0 (.slice none 0 0) (.slice none 0 0)
        have W8 := W6.out.below A7
        have SV8 := Lib.hid (SV.out.below (w' := w7.alloc (.cells #[.int .u64 0, .int .u64 0, .slice none 0 0, .slice none 0 0] 27)) ((Below.refl _ _).alloc (Nat.le_refl _) _))
        have B8 : Hid (Below w.heap.size w (w7.alloc (.cells #[.int .u64 0, .int .u64 0, .slice none 0 0, .slice none 0 0] 27))) := Lib.hid (B6.out.trans (A7.mono B6.out.size))
        have EW8 := Lib.hid (ES.out.below B8.out)
        obtain ⟨q0, q1, q2, q3, _, _, _, _⟩ := S7
        obtain ⟨p0, p1, p2, p3, _, _, _, _⟩ := W8
        obtain ⟨r0, r1, r2, r3, _, _, _, _⟩ := W6.out.below B7.out
        have h7w : bw < w7.heap.size := by have h1 := W6.out.lt; have h2 := B7.out.size; omega
        clear A7
        go_wp2_with fail
        refine (rsame_any _ _ _ _ _ SV8.out EW8.out).mono ?_
        rintro e w9 ⟨rfl, hb9⟩
        rw [SnapS.sameB_refl]
        have B9 : Hid (Below w.heap.size w w9) := Lib.hid (B8.out.trans (hb9.mono B8.out.size))
        clear hb9 q0 q1 q2 q3 p0 p1 p2 p3 r0 r1 r2 r3 h7w
        go_wp2_with fail
        refine (lives_any _).mono ?_
        rintro e wz ⟨rfl, hbz⟩
        have BZ : Hid (Below w.heap.size w wz) := Lib.hid (B9.out.trans (hbz.mono B9.out.size))
        clear hbz
        go_wp2_with fail
        go_ret
        exact ⟨rfl, BZ.out⟩
      · have HI := Lib.hid hz
        clear hz
        go_wp2_with fail
        refine (sget_any sc db mb tb s w6 S6.out HI.out).mono ?_
        rintro e w7 ⟨v7, rfl, ⟨mv7, dv7, rfl, om, od⟩, hb7⟩
        obtain ⟨am7, cm7, rfl⟩ := om.shape
        obtain ⟨ad7, cd7, rfl⟩ := od.shape
        have B7 := Lib.hid hb7
        have SV : Hid (SnapIs w7 (.agg #[.int .u64 s.i, .int .u64 s.t, .slice am7 s.ms.length cm7, .slice ad7 (ints s.d).length cd7]) s) := Lib.hid ⟨_, _, rfl, Ints.of_owns om ESM.out.1, Bytes.of_owns od ESM.out.2.1 ESM.out.2.2⟩
        clear hb7 om od
        have A7 : Below w6.heap.size w6 (w7.alloc (.cells #[.int .u64 s.i, .int .u64 s.t, .slice am7 s.ms.length cm7, .slice ad7 (ints s.d).length cd7] 27)) := B7.out.alloc B7.out.size _
        have S7 := SBlk.box w7 s.i s.t (.slice am7 s.ms.length cm7) (.slice ad7 (ints s.d).length cd7)
        have W8 := W6.out.below A7
        have SV8 := Lib.hid (SV.out.below (w' := w7.alloc (.cells #[.int .u64 s.i, .int .u64 s.t, .slice am7 s.ms.length cm7, .slice ad7 (ints s.d).length cd7] 27)) ((Below.refl _ _).alloc (Nat.le_refl _) _))
        have B8 : Hid (Below w.heap.size w (w7.alloc (.cells #[.int .u64 s.i, .int .u64 s.t, .slice am7 s.ms.length cm7, .slice ad7 (ints s.d).length cd7] 27))) := Lib.hid (B6.out.trans (A7.mono B6.out.size))
        have EW8 := Lib.hid (ES.out.below B8.out)
        obtain ⟨q0, q1, q2, q3, _, _, _, _⟩ := S7
        obtain ⟨p0, p1, p2, p3, _, _, _, _⟩ := W8
        obtain ⟨r0, r1, r2, r3, _, _, _, _⟩ := W6.out.below B7.out
        have h7w : bw < w7.heap.size := by have h1 := W6.out.lt; have h2 := B7.out.size; omega
        clear A7
        go_wp2_with fail
        refine (rsame_any _ _ _ _ _ SV8.out EW8.out).mono ?_
        rintro e w9 ⟨rfl, hb9⟩
        rw [SnapS.sameB_refl]
        have B9 : Hid (Below w.heap.size w w9) := Lib.hid (B8.out.trans (hb9.mono B8.out.size))
        clear hb9 q0 q1 q2 q3 p0 p1 p2 p3 r0 r1 r2 r3 h7w
        go_wp2_with fail
        refine (lives_any _).mono ?_
        rintro e wz ⟨rfl, hbz⟩
        have BZ : Hid (Below w.heap.size w wz) := Lib.hid (B9.out.trans (hbz.mono B9.out.size))
        clear hbz
        go_wp2_with fail
        go_ret
        exact ⟨rfl, BZ.out⟩

theorem skeeps_any (W : World) (lv tv : Value) (k : Nat) (rs : List SR) (ts : List (Nat × Nat)) (hl : SnapsIs W lv rs) (ht : TearsIs W tv ts) (hk : k < 256) :
    Calls Try.prog 10 #[lv, .int .u8 k, tv] W fun e w' => e = .returned (.bool true) ∧ Below W.heap.size W w' := by
  obtain ⟨la, lc, rfl, _⟩ := hl.1.shape
  obtain ⟨ta, tc, rfl, _⟩ := ht.1.shape
  rw [List.length_map] at hl ht ⊢
  rw [List.length_map]
  by_cases h : rs.length ≤ 40 ∧ ts.length ≤ 40
  · exact skeeps_small rs ts la ta lc tc k W hl ht hk h.1 h.2
  · exact skeeps_big la ta _ lc _ tc k W h
end Go.Proofs.Ytofhccpagnkalaa

/- THE STATEMENT SnapshotKeeps: behind any crash the snapshot that is opened anew is the one saved last or the one being saved. For every input; no conditions. -/
namespace Go.Proofs.Ytofhccpagnkalaa
open Go.ChangeShapes Go.WideShapes Go.ChangeAt Go.RowKit Go.Deep Go.Proofs.Own


set_option maxRecDepth 100000 in
theorem skeeps_law_lifted (os : Os) (started : os.Started) (H : Type) (enc : TypeId × Value → H) :
    ReturnsInHanded {} Try.checked os 10 .any (Rows.snapshotKeepsSpec.pre6 enc Try.prog Try.f10 Rows.snapshotKeepsRow.domain false) (Rows.snapshotKeepsSpec.post enc Try.prog Try.f10 false true false false) := by
  refine returnsInHanded_of_change (C := Try.checked) own started (by kernel_rfl) Try.func10
    (ChangeSpec.witness6 (enc := enc) (C := Try.checked) false ⟨#[], #[.slice none 0 0, .int .u8 0, .slice none 0 0], []⟩ 8 (by kernel_rfl) (by kernel_rfl) (by kernel_rfl) (by kernel_rfl)) ?_
  intro W base args ds gs before hval0 hW hcnd _
  have hval : ∀ (j : Nat) t v, Try.f10.params[j]? = some t → args[j]? = some v → Value.okWide Try.prog W .any base t v := hval0
  have hW' := hW
  obtain ⟨p, q, hA0, hV, _, hfz, hnd⟩ := hW
  have hA : DataW.TrodAll enc Try.prog W 0 (fun _ => true) true Try.f10.params.toList args.toList ds p := hA0
  rw [Try.params10] at hA hval
  obtain ⟨v0, v1, v2, d0, d1, d2, p0, p1, p2, rfl, rfl, rfl, h0, h1, h2⟩ := trodAll_three hA
  obtain ⟨q0, n0, c0, rfl⟩ := okWide_slice Try.underlying79 (hval 0 79 v0 rfl rfl); obtain ⟨f0, g0⟩ := h0; obtain ⟨rs, b0⟩ := open_snaps (v := .slice q0 n0 c0) g0
  obtain ⟨k1, rfl, b1⟩ := open_u8 (hval 1 5 v1 rfl rfl) h1
  obtain ⟨q2, n2, c2, rfl⟩ := okWide_slice Try.underlying70 (hval 2 70 v2 rfl rfl); obtain ⟨f2, g2⟩ := h2; obtain ⟨ts, b2⟩ := open_tears (v := .slice q2 n2 c2) g2
  refine (skeeps_any W _ _ k1 rs ts b0 b2 b1).mono fun e W' ⟨he, hb⟩ => ?_
  exact ⟨_, he, law_post laid (by kernel_rfl) ⟨4, rfl, Try.underlying4⟩ rfl (fun ds hds => by
    match ds, hds with
    | [x0, x1, x2], _ => rfl) hW' hb⟩

theorem skeeps_law_holds : Rows.SnapshotKeepsSaid :=
  OpenClaim.holds_of_wide 10 Try.f10 rfl rfl rfl rfl rfl rfl rfl ⟨rfl, rfl, rfl, rfl, rfl⟩ rfl rfl rfl rfl rfl (by kernel_rfl) Try.func10 (by kernel_rfl)
    (of_decide_eq_true (by kernel_rfl)) (by unfold Func.isWrapper; first | (rw [if_pos (by decide +kernel)]; kernel_rfl) | (rw [if_neg (by decide +kernel)]; exact ⟨rfl, rfl⟩))
    (fun os started H enc _ => skeeps_law_lifted os started H enc)
#print axioms skeeps_law_holds
end Go.Proofs.Ytofhccpagnkalaa
