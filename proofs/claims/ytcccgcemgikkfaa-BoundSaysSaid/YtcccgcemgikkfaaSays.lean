/- The law BoundSays: its walk; for every config; no conditions. -/
import Derived.Test.YtcccgcemgikkfaaBnd
import Derived.Test.YtcccgcemgikkfaaPlan
import Derived.OpenShut
namespace Go.Proofs.Ytcccgcemgikkfaa
open Go.RowKit Go.Maps Go.Proofs.Own

set_option maxHeartbeats 2000000 in
theorem blives (w : World) : Calls Try.prog 25 #[] w fun e w' => e = .returned (.bool true) ∧ Below w.heap.size w w' := by
  have hcs : CS 3 3 3 1 4 9 := by decide
  have v1 : (if CS 3 3 3 1 4 9 then (3 : Int) + 2 * 3 else 0) = 9 := by rw [if_pos hcs]; rfl
  have v2 : (if CS 3 3 3 1 4 9 then 8 * ((3 : Int) + 2 * 3) + 4 * 3 else 0) = 84 := by rw [if_pos hcs]; rfl
  have v3 : (if CS 3 3 3 1 4 9 then (8 * ((3 : Int) + 2 * 3) + 4 * 3) + 2 * 3 + 8 else 0) = 98 := by rw [if_pos hcs]; rfl
  have v4 : (if CS 3 3 3 1 4 9 then (24 : Int) else 0) = 24 := if_pos hcs
  have V1 := Lib.hid v1
  have V2 := Lib.hid v2
  have V3 := Lib.hid v3
  have V4 := Lib.hid v4
  clear v1 v2 v3 v4 hcs
  go_enter Try.func25, Try.ntmps25
  go_wp2_with fail
  refine (bpat 3 3 3 1 4 9 _).mono ?_
  rintro e w1 ⟨he, hb1⟩
  rw [V1.out] at he
  subst he
  have hs1 := hb1.size
  simp only [World.size_alloc] at hs1
  have a10 : w1.cell? ⟨w.heap.size, 0, none⟩ = some (.int .i64 3) := Below.at hb1 (by go_cell) (by simp)
  have a11 : w1.cell? ⟨w.heap.size, 1, none⟩ = some (.int .i64 3) := Below.at hb1 (by go_cell) (by simp)
  have a12 : w1.cell? ⟨w.heap.size, 2, none⟩ = some (.int .i64 3) := Below.at hb1 (by go_cell) (by simp)
  have a13 : w1.cell? ⟨w.heap.size, 3, none⟩ = some (.int .i64 1) := Below.at hb1 (by go_cell) (by simp)
  have a14 : w1.cell? ⟨w.heap.size, 4, none⟩ = some (.int .i64 4) := Below.at hb1 (by go_cell) (by simp)
  have a15 : w1.cell? ⟨w.heap.size, 5, none⟩ = some (.int .i64 9) := Below.at hb1 (by go_cell) (by simp)
  have B1 : Hid (Below w.heap.size w w1) := Lib.hid (((Below.refl _ _).alloc (Nat.le_refl _) _).trans (hb1.mono (by simp)))
  have L1 : w.heap.size < w1.heap.size := by omega
  clear hb1
  go_wp2_with fail
  refine (bset 3 3 3 1 4 9 _).mono ?_
  rintro e w2 ⟨he, hb2⟩
  rw [V2.out] at he
  subst he
  have a20 := Below.at hb2 a10 (show w.heap.size < w1.heap.size by omega)
  have a21 := Below.at hb2 a11 (show w.heap.size < w1.heap.size by omega)
  have a22 := Below.at hb2 a12 (show w.heap.size < w1.heap.size by omega)
  have a23 := Below.at hb2 a13 (show w.heap.size < w1.heap.size by omega)
  have a24 := Below.at hb2 a14 (show w.heap.size < w1.heap.size by omega)
  have a25 := Below.at hb2 a15 (show w.heap.size < w1.heap.size by omega)
  have hs2 := hb2.size
  have B2 : Hid (Below w.heap.size w w2) := Lib.hid (B1.out.trans (hb2.mono B1.out.size))
  have L2 : w.heap.size < w2.heap.size := by omega
  clear hb2 a10 a11 a12 a13 a14 a15
  go_wp2_with fail
  refine (bsrv 3 3 3 1 4 9 _).mono ?_
  rintro e w3 ⟨he, hb3⟩
  rw [V3.out] at he
  subst he
  have a30 := Below.at hb3 a20 (show w.heap.size < w2.heap.size by omega)
  have a31 := Below.at hb3 a21 (show w.heap.size < w2.heap.size by omega)
  have a32 := Below.at hb3 a22 (show w.heap.size < w2.heap.size by omega)
  have a33 := Below.at hb3 a23 (show w.heap.size < w2.heap.size by omega)
  have a34 := Below.at hb3 a24 (show w.heap.size < w2.heap.size by omega)
  have a35 := Below.at hb3 a25 (show w.heap.size < w2.heap.size by omega)
  have hs3 := hb3.size
  have B3 : Hid (Below w.heap.size w w3) := Lib.hid (B2.out.trans (hb3.mono B2.out.size))
  have L3 : w.heap.size < w3.heap.size := by omega
  clear hb3 a20 a21 a22 a23 a24 a25
  go_wp2_with fail
  refine (bdrn 3 3 3 1 4 9 _).mono ?_
  rintro e w4 ⟨he, hb4⟩
  rw [V4.out] at he
  subst he
  have a40 := Below.at hb4 a30 (show w.heap.size < w3.heap.size by omega)
  have a41 := Below.at hb4 a31 (show w.heap.size < w3.heap.size by omega)
  have a42 := Below.at hb4 a32 (show w.heap.size < w3.heap.size by omega)
  have a43 := Below.at hb4 a33 (show w.heap.size < w3.heap.size by omega)
  have a44 := Below.at hb4 a34 (show w.heap.size < w3.heap.size by omega)
  have a45 := Below.at hb4 a35 (show w.heap.size < w3.heap.size by omega)
  have hs4 := hb4.size
  have B4 : Hid (Below w.heap.size w w4) := Lib.hid (B3.out.trans (hb4.mono B3.out.size))
  have L4 : w.heap.size < w4.heap.size := by omega
  clear hb4 a30 a31 a32 a33 a34 a35
  go_wp2_with fail
  go_ret
  exact ⟨rfl, B4.out⟩

/-- What holds while the law's one sentence is told: both configs lie. -/
structure Inv (W w' : World) (S M el bt ev rm : Int) : Prop where
  c : w'.cell? ⟨W.heap.size, 0, none⟩ = some (.int .i64 S) ∧ w'.cell? ⟨W.heap.size, 1, none⟩ = some (.int .i64 M) ∧ w'.cell? ⟨W.heap.size, 2, none⟩ = some (.int .i64 el) ∧ w'.cell? ⟨W.heap.size, 3, none⟩ = some (.int .i64 bt) ∧ w'.cell? ⟨W.heap.size, 4, none⟩ = some (.int .i64 ev) ∧ w'.cell? ⟨W.heap.size, 5, none⟩ = some (.int .i64 rm) ∧ w'.cell? ⟨W.heap.size + 1, 0, none⟩ = some (.int .i64 S) ∧ w'.cell? ⟨W.heap.size + 1, 1, none⟩ = some (.int .i64 M) ∧ w'.cell? ⟨W.heap.size + 1, 2, none⟩ = some (.int .i64 el) ∧ w'.cell? ⟨W.heap.size + 1, 3, none⟩ = some (.int .i64 bt) ∧ w'.cell? ⟨W.heap.size + 1, 4, none⟩ = some (.int .i64 ev) ∧ w'.cell? ⟨W.heap.size + 1, 5, none⟩ = some (.int .i64 rm)
  b : Below W.heap.size W w'
theorem Inv.next {W u u' : World} {S M el bt ev rm : Int} (h : Inv W u S M el bt ev rm) (hb : Below u.heap.size u u') : Inv W u' S M el bt ev rm := by
  obtain ⟨⟨y0, y1, y2, y3, y4, y5, y6, y7, y8, y9, y10, y11⟩, yb⟩ := h
  have l0 : W.heap.size < u.heap.size := World.block_lt_of_cell? _ _ y0
  have l1 : W.heap.size + 1 < u.heap.size := World.block_lt_of_cell? _ _ y6
  exact ⟨⟨Below.at hb y0 l0, Below.at hb y1 l0, Below.at hb y2 l0, Below.at hb y3 l0, Below.at hb y4 l0, Below.at hb y5 l0, Below.at hb y6 l1, Below.at hb y7 l1, Below.at hb y8 l1, Below.at hb y9 l1, Below.at hb y10 l1, Below.at hb y11 l1⟩, yb.trans (hb.mono yb.size)⟩
theorem Inv.drew {W u : World} {S M el bt ev rm : Int} (h : Inv W u S M el bt ev rm) : Inv W u.drew S M el bt ev rm := h.next ((Below.refl _ _).drew)
theorem Inv.next' {W u u' : World} {S M el bt ev rm : Int} (h : Inv W u S M el bt ev rm) (hb : Below u.drew.heap.size u.drew u') : Inv W u' S M el bt ev rm := h.drew.next hb
theorem Inv.alloc {W u : World} {S M el bt ev rm : Int} (h : Inv W u S M el bt ev rm) (o : Obj) : Inv W (u.alloc o) S M el bt ev rm := h.next ((Below.refl _ _).alloc (Nat.le_refl _) o)

set_option maxHeartbeats 8000000 in
theorem says_walk (S M el bt ev rm : Int) (w : World) :
    Calls Try.prog 6 #[.agg #[.int .i64 S, .int .i64 M, .int .i64 el, .int .i64 bt, .int .i64 ev, .int .i64 rm]] w fun e w' => e = .returned (.bool true) ∧ Below w.heap.size w w' := by
  obtain ⟨t1, hT1b⟩ : ∃ t : Int, (if CS S M el bt ev rm then el + 2 * S else 0) = t := ⟨_, rfl⟩
  have hT1r := hT1b
  obtain ⟨t2, hT2b⟩ : ∃ t : Int, (if CS S M el bt ev rm then 8 * (el + 2 * S) + 4 * el else 0) = t := ⟨_, rfl⟩
  have hT2r := hT2b
  obtain ⟨t3, hT3b⟩ : ∃ t : Int, (if CS S M el bt ev rm then (8 * (el + 2 * S) + 4 * el) + 2 * S + 8 else 0) = t := ⟨_, rfl⟩
  have hT3r : (if CS S M el bt ev rm then 12 * el + 18 * S + 8 else 0) = t3 := by
    rw [← hT3b, show 12 * el + 18 * S + 8 = (8 * (el + 2 * S) + 4 * el) + 2 * S + 8 by omega]
  obtain ⟨t4, hT4b⟩ : ∃ t : Int, (if CS S M el bt ev rm then (24 : Int) else 0) = t := ⟨_, rfl⟩
  have hT4r := hT4b
  replace hT1b := Lib.hid hT1b
  replace hT1r := Lib.hid hT1r
  replace hT2b := Lib.hid hT2b
  replace hT2r := Lib.hid hT2r
  replace hT3b := Lib.hid hT3b
  replace hT3r := Lib.hid hT3r
  replace hT4b := Lib.hid hT4b
  replace hT4r := Lib.hid hT4r
  go_enter Try.func6, Try.ntmps6
  go_wp2_with fail
  generalize hu0 : World.alloc (World.alloc _ _) _ = u0
  have I0 : Hid (Inv w u0 S M el bt ev rm) := Lib.hid (by subst hu0; exact ⟨⟨by go_cell, by go_cell, by go_cell, by go_cell, by go_cell, by go_cell, by go_cell, by go_cell, by go_cell, by go_cell, by go_cell, by go_cell⟩, ((Below.refl _ _).alloc (Nat.le_refl _) _).alloc (by simp) _⟩)
  clear hu0
  refine region_start [0, 1, 0, 7, 15, 31, 63, 127, 63, 511, 1023, 2047, 4095, 8191, 16383, 8191, 65535, 131071, 262143, 524287, 1048575, 2097151, 1048575, 8388607, 16777215, 33554431, 67108863, 134217727, 268435455, 536870911] 7397826 (fun w' => Inv w w' S M el bt ev rm) (by kernel_rfl) ?_
  refine stage_heads [0, 2] (by kernel_rfl) (L := #[true, false, true, false, false, false, false, false, false, false, false, false, false, false, false, false, false, false, false, false, false, false, false, false, false, false, false, false, false, false]) (by kernel_rfl) (f' := 28) rfl (fun _ _ _ _ h => h) (fun w o h => h.alloc o) (.inr (by first | exact I0.out | exact I0.out.drew)) ?_   -- 0:load 2:load
  simp only [List.flatMap_cons, List.flatMap_nil, List.drop_succ_cons, List.drop_zero, List.take_succ_cons, List.take_zero, List.cons_append, List.nil_append, List.append_nil]
  iterate 2 (first | (refine heads_load _ (by rfl) (fun w' hs => by obtain ⟨⟨y0, y1, y2, y3, y4, y5, y6, y7, y8, y9, y10, y11⟩, yb⟩ := hs; go_simp; try with_reducible rfl) rfl ?_; simp only [Act.put, List.setIfInBounds_toArray, List.set_cons_zero, List.set_cons_succ]) | (refine heads_pure _ (by rfl) (fun w' => by go_simp; try with_reducible rfl) ?_; simp only [Act.put, List.setIfInBounds_toArray, List.set_cons_zero, List.set_cons_succ]))
  refine heads_nil ?_
  refine stage_op 1 (by kernel_rfl) (L := #[true, true, true, false, false, false, false, false, false, false, false, false, false, false, false, false, false, false, false, false, false, false, false, false, false, false, false, false, false, false]) (by kernel_rfl) ?_   -- call:go  S ANEW
  simp only [List.drop_succ_cons, List.drop_zero, List.take_succ_cons, List.take_zero]
  go_wp2_with fail; refine (bpat S M el bt ev rm _).mono ?_; rintro e u1 ⟨he, hb⟩; rw [hT1b.out] at he; subst he; have I1 : Hid (Inv w u1 S M el bt ev rm) := Lib.hid (by first | exact I0.out.next hb | exact I0.out.next' hb); clear hb; go_wp2_with fail
  refine step_post (fun _ => (by first | exact I1.out | exact I1.out.drew)) ?_
  refine stage_op 3 (by kernel_rfl) (L := #[true, true, true, true, false, false, false, false, false, false, false, false, false, false, false, false, false, false, false, false, false, false, false, false, false, false, false, false, false, false]) (by kernel_rfl) ?_   -- call:go
  simp only [List.drop_succ_cons, List.drop_zero, List.take_succ_cons, List.take_zero]
  go_wp2_with fail; refine (rpat S M el bt ev rm _).mono ?_; rintro e u3 ⟨he, hb⟩; rw [hT1r.out] at he; subst he; have I3 : Hid (Inv w u3 S M el bt ev rm) := Lib.hid (by first | exact I1.out.next hb | exact I1.out.next' hb); clear hb; go_wp2_with fail
  refine step_post nofun ?_
  refine stage_heads [4, 5, 6, 8] (by kernel_rfl) (L := #[true, true, true, true, true, true, true, false, true, false, false, false, false, false, false, false, false, false, false, false, false, false, false, false, false, false, false, false, false, false]) (by kernel_rfl) (f' := 22) rfl (fun _ _ _ _ h => h) (fun w o h => h.alloc o) (.inr (by first | exact I3.out | exact I3.out.drew)) ?_   -- 4:binOp 5:move 6:load 8:load
  simp only [List.flatMap_cons, List.flatMap_nil, List.drop_succ_cons, List.drop_zero, List.take_succ_cons, List.take_zero, List.cons_append, List.nil_append, List.append_nil]
  iterate 4 (first | (refine heads_load _ (by rfl) (fun w' hs => by obtain ⟨⟨y0, y1, y2, y3, y4, y5, y6, y7, y8, y9, y10, y11⟩, yb⟩ := hs; go_simp; try with_reducible rfl) rfl ?_; simp only [Act.put, List.setIfInBounds_toArray, List.set_cons_zero, List.set_cons_succ]) | (refine heads_pure _ (by rfl) (fun w' => by go_simp; try with_reducible rfl) ?_; simp only [Act.put, List.setIfInBounds_toArray, List.set_cons_zero, List.set_cons_succ]))
  refine heads_nil ?_
  refine stage_op 7 (by kernel_rfl) (L := #[true, true, true, true, true, true, true, true, true, false, false, false, false, false, false, false, false, false, false, false, false, false, false, false, false, false, false, false, false, false]) (by kernel_rfl) ?_   -- call:go  S ANEW
  simp only [List.drop_succ_cons, List.drop_zero, List.take_succ_cons, List.take_zero]
  go_wp2_with fail; refine (bset S M el bt ev rm _).mono ?_; rintro e u7 ⟨he, hb⟩; rw [hT2b.out] at he; subst he; have I7 : Hid (Inv w u7 S M el bt ev rm) := Lib.hid (by first | exact I3.out.next hb | exact I3.out.next' hb); clear hb; go_wp2_with fail
  refine step_post (fun _ => (by first | exact I7.out | exact I7.out.drew)) ?_
  refine stage_op 9 (by kernel_rfl) (L := #[true, true, true, true, true, true, true, true, true, true, false, false, false, false, false, false, false, false, false, false, false, false, false, false, false, false, false, false, false, false]) (by kernel_rfl) ?_   -- call:go
  simp only [List.drop_succ_cons, List.drop_zero, List.take_succ_cons, List.take_zero]
  go_wp2_with fail; refine (rset S M el bt ev rm _).mono ?_; rintro e u9 ⟨he, hb⟩; rw [hT2r.out] at he; subst he; have I9 : Hid (Inv w u9 S M el bt ev rm) := Lib.hid (by first | exact I7.out.next hb | exact I7.out.next' hb); clear hb; go_wp2_with fail
  refine step_post nofun ?_
  refine stage_heads [10, 11, 12, 13, 15] (by kernel_rfl) (L := #[true, true, true, true, true, true, true, true, true, true, true, true, true, true, false, true, false, false, false, false, false, false, false, false, false, false, false, false, false, false]) (by kernel_rfl) (f' := 15) rfl (fun _ _ _ _ h => h) (fun w o h => h.alloc o) (.inr (by first | exact I9.out | exact I9.out.drew)) ?_   -- 10:binOp 11:pick 12:move 13:load 15:load
  simp only [List.flatMap_cons, List.flatMap_nil, List.drop_succ_cons, List.drop_zero, List.take_succ_cons, List.take_zero, List.cons_append, List.nil_append, List.append_nil]
  iterate 5 (first | (refine heads_load _ (by rfl) (fun w' hs => by obtain ⟨⟨y0, y1, y2, y3, y4, y5, y6, y7, y8, y9, y10, y11⟩, yb⟩ := hs; go_simp; try with_reducible rfl) rfl ?_; simp only [Act.put, List.setIfInBounds_toArray, List.set_cons_zero, List.set_cons_succ]) | (refine heads_pure _ (by rfl) (fun w' => by go_simp; try with_reducible rfl) ?_; simp only [Act.put, List.setIfInBounds_toArray, List.set_cons_zero, List.set_cons_succ]))
  refine heads_nil ?_
  refine stage_op 14 (by kernel_rfl) (L := #[true, true, true, true, true, true, true, true, true, true, true, true, true, true, true, true, false, false, false, false, false, false, false, false, false, false, false, false, false, false]) (by kernel_rfl) ?_   -- call:go  S ANEW
  simp only [List.drop_succ_cons, List.drop_zero, List.take_succ_cons, List.take_zero]
  go_wp2_with fail; refine (bsrv S M el bt ev rm _).mono ?_; rintro e u14 ⟨he, hb⟩; rw [hT3b.out] at he; subst he; have I14 : Hid (Inv w u14 S M el bt ev rm) := Lib.hid (by first | exact I9.out.next hb | exact I9.out.next' hb); clear hb; go_wp2_with fail
  refine step_post (fun _ => (by first | exact I14.out | exact I14.out.drew)) ?_
  refine stage_op 16 (by kernel_rfl) (L := #[true, true, true, true, true, true, true, true, true, true, true, true, true, true, true, true, true, false, false, false, false, false, false, false, false, false, false, false, false, false]) (by kernel_rfl) ?_   -- call:go
  simp only [List.drop_succ_cons, List.drop_zero, List.take_succ_cons, List.take_zero]
  go_wp2_with fail; refine (rsrv S M el bt ev rm _).mono ?_; rintro e u16 ⟨he, hb⟩; rw [hT3r.out] at he; subst he; have I16 : Hid (Inv w u16 S M el bt ev rm) := Lib.hid (by first | exact I14.out.next hb | exact I14.out.next' hb); clear hb; go_wp2_with fail
  refine step_post nofun ?_
  refine stage_heads [17, 18, 19, 20, 22] (by kernel_rfl) (L := #[true, true, true, true, true, true, true, true, true, true, true, true, true, true, true, true, true, true, true, true, true, false, true, false, false, false, false, false, false, false]) (by kernel_rfl) (f' := 8) rfl (fun _ _ _ _ h => h) (fun w o h => h.alloc o) (.inr (by first | exact I16.out | exact I16.out.drew)) ?_   -- 17:binOp 18:pick 19:move 20:load 22:load
  simp only [List.flatMap_cons, List.flatMap_nil, List.drop_succ_cons, List.drop_zero, List.take_succ_cons, List.take_zero, List.cons_append, List.nil_append, List.append_nil]
  iterate 5 (first | (refine heads_load _ (by rfl) (fun w' hs => by obtain ⟨⟨y0, y1, y2, y3, y4, y5, y6, y7, y8, y9, y10, y11⟩, yb⟩ := hs; go_simp; try with_reducible rfl) rfl ?_; simp only [Act.put, List.setIfInBounds_toArray, List.set_cons_zero, List.set_cons_succ]) | (refine heads_pure _ (by rfl) (fun w' => by go_simp; try with_reducible rfl) ?_; simp only [Act.put, List.setIfInBounds_toArray, List.set_cons_zero, List.set_cons_succ]))
  refine heads_nil ?_
  refine stage_op 21 (by kernel_rfl) (L := #[true, true, true, true, true, true, true, true, true, true, true, true, true, true, true, true, true, true, true, true, true, true, true, false, false, false, false, false, false, false]) (by kernel_rfl) ?_   -- call:go  S ANEW
  simp only [List.drop_succ_cons, List.drop_zero, List.take_succ_cons, List.take_zero]
  go_wp2_with fail; refine (bdrn S M el bt ev rm _).mono ?_; rintro e u21 ⟨he, hb⟩; rw [hT4b.out] at he; subst he; have I21 : Hid (Inv w u21 S M el bt ev rm) := Lib.hid (by first | exact I16.out.next hb | exact I16.out.next' hb); clear hb; go_wp2_with fail
  refine step_post (fun _ => (by first | exact I21.out | exact I21.out.drew)) ?_
  refine stage_op 23 (by kernel_rfl) (L := #[true, true, true, true, true, true, true, true, true, true, true, true, true, true, true, true, true, true, true, true, true, true, true, true, false, false, false, false, false, false]) (by kernel_rfl) ?_   -- call:go
  simp only [List.drop_succ_cons, List.drop_zero, List.take_succ_cons, List.take_zero]
  go_wp2_with fail; refine (rdrn S M el bt ev rm _).mono ?_; rintro e u23 ⟨he, hb⟩; rw [hT4r.out] at he; subst he; have I23 : Hid (Inv w u23 S M el bt ev rm) := Lib.hid (by first | exact I21.out.next hb | exact I21.out.next' hb); clear hb; go_wp2_with fail
  refine step_post nofun ?_
  refine stage_heads [24, 25, 26] (by kernel_rfl) (L := #[true, true, true, true, true, true, true, true, true, true, true, true, true, true, true, true, true, true, true, true, true, true, true, true, true, true, true, false, false, false]) (by kernel_rfl) (f' := 3) rfl (fun _ _ _ _ h => h) (fun w o h => h.alloc o) (.inl (by kernel_rfl)) ?_   -- 24:binOp 25:pick 26:move
  simp only [List.flatMap_cons, List.flatMap_nil, List.drop_succ_cons, List.drop_zero, List.take_succ_cons, List.take_zero, List.cons_append, List.nil_append, List.append_nil]
  iterate 3 (refine heads_pure _ (by rfl) (fun w' => by go_simp; try with_reducible rfl) ?_; simp only [Act.put, List.setIfInBounds_toArray, List.set_cons_zero, List.set_cons_succ])
  refine heads_nil ?_
  refine stage_op 27 (by kernel_rfl) (L := #[true, true, true, true, true, true, true, true, true, true, true, true, true, true, true, true, true, true, true, true, true, true, true, true, true, true, true, true, false, false]) (by kernel_rfl) ?_   -- call:go
  simp only [List.drop_succ_cons, List.drop_zero, List.take_succ_cons, List.take_zero]
  go_wp2_with fail; refine (blives _).mono ?_; rintro e u27 ⟨rfl, hb⟩; have B27 : Hid (Below w.heap.size w u27) := Lib.hid (by first | exact (I23.out.next hb).b | exact (I23.out.next' hb).b); clear hb; go_wp2_with fail
  refine step_post nofun ?_
  refine stage_heads [28, 29] (by kernel_rfl) (L := #[true, true, true, true, true, true, true, true, true, true, true, true, true, true, true, true, true, true, true, true, true, true, true, true, true, true, true, true, true, true]) (by kernel_rfl) (f' := 0) rfl (fun _ _ _ _ h => h) (fun w o h => h.alloc o) (.inl (by kernel_rfl)) ?_   -- 28:pick 29:assign
  simp only [List.flatMap_cons, List.flatMap_nil, List.drop_succ_cons, List.drop_zero, List.take_succ_cons, List.take_zero, List.cons_append, List.nil_append, List.append_nil]
  iterate 2 (refine heads_pure _ (by rfl) (fun w' => by go_simp; try with_reducible rfl) ?_; simp only [Act.put, List.setIfInBounds_toArray, List.set_cons_zero, List.set_cons_succ])
  refine heads_nil ?_
  refine stage_done (by kernel_rfl) ?_
  go_wp2_with fail
  go_ret
  exact ⟨rfl, by first | exact B27.out | exact B27.out.trans ((Below.refl _ _).drew)⟩
end Go.Proofs.Ytcccgcemgikkfaa
