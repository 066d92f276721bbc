/- The law's own 'hear', as one contract; no conditions but the lengths. -/
import Derived.Test.YtcccgcemgikkfaaRef4
namespace Go.Proofs.Ytcccgcemgikkfaa
open Go.RowKit Go.Maps Go.Proofs.Own

set_option maxHeartbeats 4000000 in
theorem hear_any (b : Nat) (F : Nat → Prop) (num : Int) (l : List Int) (sv : Value) (id x1 x2 x3 x4 x5 x6 x7 x8 : Int) (w : World) (hp : PartyIs w b F num l) (hr : Reads w .u64 sv l) (hF : ∀ k, F k → k < w.heap.size) (hd : ∀ g, sv.ownBlock = some g → ¬ F g ∧ g < w.heap.size)
    (hid : (Lit.int .u64 id).wf = true) (hl : l.length ≤ 10000) :
    Calls Try.prog 9 #[.pointer (some ⟨b, 0, none⟩), .agg #[.int .i64 num, sv], .agg #[.int .u64 id, .int .u64 x1, .int .i64 x2, .int .i64 x3, .int .i64 x4, .int .i64 x5, .int .i64 x6, .int .i64 x7, .int .i64 x8]] w
      fun e w' => ∃ v F', e = .returned (.tuple #[.agg #[.int .i64 num, v], .bool true]) ∧ PartyIs w' b F' num (heard num l x3 id) ∧ Reads w' .u64 v (heard num l x3 id) ∧ (∀ k, F' k → (F k ∨ w.heap.size ≤ k) ∧ k < w'.heap.size) ∧ (∀ g, v.ownBlock = some g → ¬ F' g ∧ g < w'.heap.size ∧ (sv.ownBlock = some g ∨ w.heap.size ≤ g)) ∧ Kept w w' F := by
  have hr0 := Lib.hid hr
  have hp0 := Lib.hid hp
  have hF0 := Lib.hid hF
  have hd0 := Lib.hid hd
  have hbs : b < w.heap.size := by obtain ⟨_, _, _, _, q⟩ := hp; exact World.block_lt_of_cell? _ _ q.c0
  have hlh := length_heard num l x3 id
  have hdl : (dd (heard num l x3 id)).length ≤ 1000000 := by have := length_dd (heard num l x3 id); omega
  obtain ⟨a, c, rfl⟩ := hr.shape
  clear hr hp hF hd
  go_enter Try.func9, Try.ntmps9
  go_wp2_with fail
  refine (rhear num id x1 x2 x3 x4 x5 x6 x7 x8 _ l _ (((hr0.out.alloc _).alloc _).alloc _) (by omega) (fun g hg => by have := (hd0.out g hg).2; simp only [World.size_alloc]; omega)).mono ?_
  rintro e w1 ⟨v, rfl, hrv, hvb, hb1⟩
  obtain ⟨va, vc, rfl⟩ := hrv.shape
  have hs1 := hb1.size
  simp only [World.size_alloc] at hs1
  have d0 : w1.cell? ⟨w.heap.size + 1, 0, none⟩ = some (.int .u64 id) := Below.at hb1 (by go_cell) (by simp only [World.size_alloc]; omega)
  have d1 : w1.cell? ⟨w.heap.size + 1, 1, none⟩ = some (.int .u64 x1) := Below.at hb1 (by go_cell) (by simp only [World.size_alloc]; omega)
  have d2 : w1.cell? ⟨w.heap.size + 1, 2, none⟩ = some (.int .i64 x2) := Below.at hb1 (by go_cell) (by simp only [World.size_alloc]; omega)
  have d3 : w1.cell? ⟨w.heap.size + 1, 3, none⟩ = some (.int .i64 x3) := Below.at hb1 (by go_cell) (by simp only [World.size_alloc]; omega)
  have d4 : w1.cell? ⟨w.heap.size + 1, 4, none⟩ = some (.int .i64 x4) := Below.at hb1 (by go_cell) (by simp only [World.size_alloc]; omega)
  have d5 : w1.cell? ⟨w.heap.size + 1, 5, none⟩ = some (.int .i64 x5) := Below.at hb1 (by go_cell) (by simp only [World.size_alloc]; omega)
  have d6 : w1.cell? ⟨w.heap.size + 1, 6, none⟩ = some (.int .i64 x6) := Below.at hb1 (by go_cell) (by simp only [World.size_alloc]; omega)
  have d7 : w1.cell? ⟨w.heap.size + 1, 7, none⟩ = some (.int .i64 x7) := Below.at hb1 (by go_cell) (by simp only [World.size_alloc]; omega)
  have d8 : w1.cell? ⟨w.heap.size + 1, 8, none⟩ = some (.int .i64 x8) := Below.at hb1 (by go_cell) (by simp only [World.size_alloc]; omega)
  have d9 : w1.cell? ⟨w.heap.size + 1 + 1, 0, none⟩ = some (.int .i64 0) := Below.at hb1 (by go_cell) (by simp only [World.size_alloc]; omega)
  have da : w1.cell? ⟨w.heap.size + 1 + 1, 1, none⟩ = some (.slice none 0 0) := Below.at hb1 (by go_cell) (by simp only [World.size_alloc]; omega)
  have f9 : w1.frozen? ⟨w.heap.size + 1 + 1, 0, none⟩ = false := by rw [hb1.frozen (by simp only [World.size_alloc]; omega)]; simp [go_sem]
  have fa : w1.frozen? ⟨w.heap.size + 1 + 1, 1, none⟩ = false := by rw [hb1.frozen (by simp only [World.size_alloc]; omega)]; simp [go_sem]
  have hbw : Below w.heap.size w w1 := ((((Below.refl _ _).alloc (Nat.le_refl _) _).alloc (by simp) _).alloc (by simp; omega) _).trans (hb1.mono (by simp; omega))
  have HB1 := Lib.hid hbw
  have n5 : w.heap.size + 1 < w1.heap.size := by omega
  have HRV := Lib.hid hrv
  have HVB := Lib.hid hvb
  clear hb1 hrv hvb hbw
  go_wp2_with fail
  refine (phear b F num l id x1 x2 x3 x4 x5 x6 x7 x8 _ ((hp0.out.below HB1.out).below ((Below.refl _ _).alloc (Nat.le_refl _) _)) hid (by omega)).mono ?_
  rintro e w2 ⟨rfl, hp2, hk2⟩
  have hb2 : Hid (Kept w1 w2 F) := (Kept.alloc _ _ _).trans hk2
  have hnF : ∀ k, w.heap.size ≤ k → ¬ F k := fun k hk h => by have := hF0.out k h; omega
  have k1 : w2.cell? ⟨w1.heap.size, 0, none⟩ = some (.int .i64 num) := hk2.cell (by go_cell) (hnF _ (by show w.heap.size ≤ w1.heap.size; omega))
  have k2 : w2.cell? ⟨w1.heap.size, 1, none⟩ = some (.slice va (heard num l x3 id).length vc) := hk2.cell (by go_cell) (hnF _ (by show w.heap.size ≤ w1.heap.size; omega))
  have k3 : w2.cell? ⟨w.heap.size + 1, 0, none⟩ = some (.int .u64 id) := hb2.out.cell d0 (hnF _ (by show w.heap.size ≤ w.heap.size + 1; omega))
  have k4 : w2.cell? ⟨w.heap.size + 1 + 1, 0, none⟩ = some (.int .i64 0) := hb2.out.cell d9 (hnF _ (by show w.heap.size ≤ w.heap.size + 1 + 1; omega))
  have k5 : w2.cell? ⟨w.heap.size + 1 + 1, 1, none⟩ = some (.slice none 0 0) := hb2.out.cell da (hnF _ (by show w.heap.size ≤ w.heap.size + 1 + 1; omega))
  have g4 : w2.frozen? ⟨w.heap.size + 1 + 1, 0, none⟩ = false := by rw [hb2.out.frozen (World.block_lt_of_cell? _ _ d9) (hnF _ (by show w.heap.size ≤ w.heap.size + 1 + 1; omega))]; exact f9
  have g5 : w2.frozen? ⟨w.heap.size + 1 + 1, 1, none⟩ = false := by rw [hb2.out.frozen (World.block_lt_of_cell? _ _ da) (hnF _ (by show w.heap.size ≤ w.heap.size + 1 + 1; omega))]; exact fa
  have hs2 := hk2.size
  simp only [World.size_alloc] at hs2
  have q1 : w1.heap.size < w2.heap.size := by omega
  have q3 : w.heap.size + 1 < w2.heap.size := by omega
  have q4 : w.heap.size + 1 + 1 < w2.heap.size := by omega
  obtain ⟨F2, hF2⟩ : ∃ F2 : Nat → Prop, F2 = fun k => (F k ∨ (w1.alloc (.cells #[.int .i64 num, .slice va (heard num l x3 id).length vc] 29)).heap.size ≤ k) ∧ k < w2.heap.size := ⟨_, rfl⟩
  have HP2 : Hid (PartyIs w2 b F2 num (heard num l x3 id)) := by rw [hF2]; exact hp2.cap
  have HR2 : Hid (Reads w2 .u64 (.slice va (heard num l x3 id).length vc) (heard num l x3 id)) := HRV.out.kept hb2.out fun g hg => by
    rcases (HVB.out g hg).1 with h | h
    · exact (hd0.out g h).1
    · exact hnF g (by simp only [World.size_alloc] at h; omega)
  have HF2 := Lib.hid hF2
  have HK2 := Lib.hid hk2
  have hff : (fstB num l x3 id == fstB num l x3 id) = true := by simp
  have hee : (errI num x3 id == errI num x3 id) = true := by simp
  have hcc : ((((heard num l x3 id).count id : Nat) : Int) == (((heard num l x3 id).count id : Nat) : Int)) = true := by simp
  have hmm : (((most (heard num l x3 id) : Nat) : Int) == ((most (heard num l x3 id) : Nat) : Int)) = true := by simp
  have hdd : decide (dd (heard num l x3 id) = dd (heard num l x3 id)) = true := by simp
  clear hF2 hk2 hp2 hnF
  go_wp2_with fail
  refine region_start [0, 0, 0, 6, 14, 30, 30, 126, 254, 510, 1022, 1022, 3070, 8190, 1022, 1022, 33790, 131070, 262142, 524286, 1048574, 2097150, 4194302, 2097150, 16777214, 33554430, 67108862, 134217726, 268435454, 536870910, 268435454, 2147483646, 4294967294, 8589934590, 8589934591, 34359738367] 34359615488 (fun w' => w'.cell? ⟨w1.heap.size, 0, none⟩ = some (.int .i64 num) ∧ w'.cell? ⟨w1.heap.size, 1, none⟩ = some (.slice va (heard num l x3 id).length vc) ∧ w'.cell? ⟨w.heap.size + 1, 0, none⟩ = some (.int .u64 id)) (by kernel_rfl) ?_
  refine stage_heads [0, 1, 2, 3, 4, 5, 6, 7, 8, 9, 10, 11, 12, 14, 15, 16] (by kernel_rfl) (L := #[true, true, true, true, true, true, true, true, true, true, true, true, true, false, true, true, true, false, false, false, false, false, false, false, false, false, false, false, false, false, false, false, false, false, false, false]) (by kernel_rfl) (f' := 20) rfl (fun _ _ _ _ h => h) (fun w o ⟨y1, y2, y3⟩ => ⟨cell_alloc y1 o, cell_alloc y2 o, cell_alloc y3 o⟩) (.inr ⟨k1, k2, k3⟩) ?_   -- 0:load 1:move 2:move 3:binOp 4:move 5:move 6:move 7:binOp 8:pick 9:move 10:move 11:fieldAddr 12:load 14:load 15:fieldAddr 16:load
  simp only [List.flatMap_cons, List.flatMap_nil, List.drop_succ_cons, List.drop_zero, List.take_succ_cons, List.take_zero, List.cons_append, List.nil_append, List.append_nil]
  iterate 16 (first | (refine heads_load _ (by rfl) (fun w' hs => by obtain ⟨y1, y2, y3⟩ := hs; go_simp; try with_reducible rfl) rfl ?_; simp only [Act.put, List.setIfInBounds_toArray, List.set_cons_zero, List.set_cons_succ]) | (refine heads_pure _ (by rfl) (fun w' => by go_simp; try with_reducible rfl) ?_; simp only [Act.put, List.setIfInBounds_toArray, List.set_cons_zero, List.set_cons_succ]))
  refine heads_nil ?_
  refine stage_op 13 (by kernel_rfl) (L := #[true, true, true, true, true, true, true, true, true, true, true, true, true, true, true, true, true, false, false, false, false, false, false, false, false, false, false, false, false, false, false, false, false, false, false, false]) (by kernel_rfl) ?_   -- call:go  S ANEW
  simp only [List.drop_succ_cons, List.drop_zero, List.take_succ_cons, List.take_zero]
  go_wp2_with fail; refine (ptimes b F2 num id _ _ (HP2.out.below (below_drewN (Below.refl _ _) 1)) hid).mono ?_; rintro e w' ⟨rfl, rfl⟩; go_wp2_with fail
  refine step_post (fun _ => ⟨k1, k2, k3⟩) ?_
  refine stage_op 17 (by kernel_rfl) (L := #[true, true, true, true, true, true, true, true, true, true, true, true, true, true, true, true, true, true, false, false, false, false, false, false, false, false, false, false, false, false, false, false, false, false, false, false]) (by kernel_rfl) ?_   -- call:go  S ANEW
  simp only [List.drop_succ_cons, List.drop_zero, List.take_succ_cons, List.take_zero]
  go_wp2_with fail; refine (times_any num id _ _ _ HR2.out.drew (by omega)).mono ?_; rintro e w3 ⟨rfl, hb3⟩; have hc3 : Below w2.heap.size w2 w3 := (Below.drew (Below.refl _ _)).trans hb3; go_wp2_with fail
  refine step_post (fun _ => ⟨Below.at hc3 k1 q1, Below.at hc3 k2 q1, Below.at hc3 k3 q3⟩) ?_
  refine stage_heads [18, 19, 20, 21, 23] (by kernel_rfl) (L := #[true, true, true, true, true, true, true, true, true, true, true, true, true, true, true, true, true, true, true, true, true, true, false, true, false, false, false, false, false, false, false, false, false, false, false, false]) (by kernel_rfl) (f' := 13) rfl (fun _ _ _ _ h => h) (fun w o ⟨y1, y2, y3⟩ => ⟨cell_alloc y1 o, cell_alloc y2 o, cell_alloc y3 o⟩) (.inr ⟨Below.at hc3 k1 q1, Below.at hc3 k2 q1, Below.at hc3 k3 q3⟩) ?_   -- 18:binOp 19:pick 20:move 21:move 23:load
  simp only [List.flatMap_cons, List.flatMap_nil, List.drop_succ_cons, List.drop_zero, List.take_succ_cons, List.take_zero, List.cons_append, List.nil_append, List.append_nil]
  iterate 5 (first | (refine heads_load _ (by rfl) (fun w' hs => by obtain ⟨y1, y2, y3⟩ := hs; go_simp; try with_reducible rfl) rfl ?_; simp only [Act.put, List.setIfInBounds_toArray, List.set_cons_zero, List.set_cons_succ]) | (refine heads_pure _ (by rfl) (fun w' => by go_simp; try with_reducible rfl) ?_; simp only [Act.put, List.setIfInBounds_toArray, List.set_cons_zero, List.set_cons_succ]))
  refine heads_nil ?_
  refine stage_op 22 (by kernel_rfl) (L := #[true, true, true, true, true, true, true, true, true, true, true, true, true, true, true, true, true, true, true, true, true, true, true, true, false, false, false, false, false, false, false, false, false, false, false, false]) (by kernel_rfl) ?_   -- call:go  S ANEW
  simp only [List.drop_succ_cons, List.drop_zero, List.take_succ_cons, List.take_zero]
  go_wp2_with fail; refine (pmost b F2 num _ _ (HP2.out.below hc3) (by omega)).mono ?_; rintro e w4 ⟨rfl, hb4⟩; have hc4 : Below w2.heap.size w2 w4 := hc3.trans (hb4.mono hc3.size); go_wp2_with fail
  refine step_post (fun _ => ⟨Below.at hc4 k1 q1, Below.at hc4 k2 q1, Below.at hc4 k3 q3⟩) ?_
  refine stage_op 24 (by kernel_rfl) (L := #[true, true, true, true, true, true, true, true, true, true, true, true, true, true, true, true, true, true, true, true, true, true, true, true, true, false, false, false, false, false, false, false, false, false, false, false]) (by kernel_rfl) ?_   -- call:go  S ANEW
  simp only [List.drop_succ_cons, List.drop_zero, List.take_succ_cons, List.take_zero]
  go_wp2_with fail; refine (rmost_any num _ _ _ (HR2.out.below hc4) (by omega)).mono ?_; rintro e w5 ⟨rfl, hb5⟩; have hc5 : Below w2.heap.size w2 w5 := hc4.trans (hb5.mono hc4.size); go_wp2_with fail
  refine step_post (fun _ => ⟨Below.at hc5 k1 q1, Below.at hc5 k2 q1, Below.at hc5 k3 q3⟩) ?_
  refine stage_heads [25, 26, 27, 28, 30] (by kernel_rfl) (L := #[true, true, true, true, true, true, true, true, true, true, true, true, true, true, true, true, true, true, true, true, true, true, true, true, true, true, true, true, true, false, true, false, false, false, false, false]) (by kernel_rfl) (f' := 6) rfl (fun _ _ _ _ h => h) (fun w o ⟨y1, y2, y3⟩ => ⟨cell_alloc y1 o, cell_alloc y2 o, cell_alloc y3 o⟩) (.inr ⟨Below.at hc5 k1 q1, Below.at hc5 k2 q1, Below.at hc5 k3 q3⟩) ?_   -- 25:binOp 26:pick 27:move 28:move 30:load
  simp only [List.flatMap_cons, List.flatMap_nil, List.drop_succ_cons, List.drop_zero, List.take_succ_cons, List.take_zero, List.cons_append, List.nil_append, List.append_nil]
  iterate 5 (first | (refine heads_load _ (by rfl) (fun w' hs => by obtain ⟨y1, y2, y3⟩ := hs; go_simp; try with_reducible rfl) rfl ?_; simp only [Act.put, List.setIfInBounds_toArray, List.set_cons_zero, List.set_cons_succ]) | (refine heads_pure _ (by rfl) (fun w' => by go_simp; try with_reducible rfl) ?_; simp only [Act.put, List.setIfInBounds_toArray, List.set_cons_zero, List.set_cons_succ]))
  refine heads_nil ?_
  refine stage_op 29 (by kernel_rfl) (L := #[true, true, true, true, true, true, true, true, true, true, true, true, true, true, true, true, true, true, true, true, true, true, true, true, true, true, true, true, true, true, true, false, false, false, false, false]) (by kernel_rfl) ?_   -- call:go  S ANEW
  simp only [List.drop_succ_cons, List.drop_zero, List.take_succ_cons, List.take_zero]
  go_wp2_with fail; refine (pdid b F2 num _ _ (HP2.out.below hc5) (by omega)).mono ?_; rintro e w6 ⟨vp, rfl, hop, hb6⟩; have hc6 : Below w2.heap.size w2 w6 := hc5.trans (hb6.mono hc5.size); go_wp2_with fail
  refine step_post (fun _ => ⟨Below.at hc6 k1 q1, Below.at hc6 k2 q1, Below.at hc6 k3 q3⟩) ?_
  refine stage_op 31 (by kernel_rfl) (L := #[true, true, true, true, true, true, true, true, true, true, true, true, true, true, true, true, true, true, true, true, true, true, true, true, true, true, true, true, true, true, true, true, false, false, false, false]) (by kernel_rfl) ?_   -- call:go  S ANEW
  simp only [List.drop_succ_cons, List.drop_zero, List.take_succ_cons, List.take_zero]
  go_wp2_with fail; refine (rdid_any num _ _ _ (HR2.out.below hc6) (by omega)).mono ?_; rintro e w7 ⟨vr, rfl, hor, hb7⟩; have hc7 : Below w2.heap.size w2 w7 := hc6.trans (hb7.mono hc6.size); go_wp2_with fail
  refine step_post (fun _ => ⟨Below.at hc7 k1 q1, Below.at hc7 k2 q1, Below.at hc7 k3 q3⟩) ?_
  refine stage_op 32 (by kernel_rfl) (L := #[true, true, true, true, true, true, true, true, true, true, true, true, true, true, true, true, true, true, true, true, true, true, true, true, true, true, true, true, true, true, true, true, true, false, false, false]) (by kernel_rfl) ?_   -- call:go  S ANEW
  simp only [List.drop_succ_cons, List.drop_zero, List.take_succ_cons, List.take_zero]
  go_wp2_with fail; refine (same_any vp vr _ _ _ ((hop.below hb7).reads) hor.reads hdl hdl).mono ?_; rintro e w8 ⟨rfl, hb8⟩; have hc8 : Below w2.heap.size w2 w8 := hc7.trans (hb8.mono hc7.size); go_wp2_with fail
  refine step_post (fun _ => ⟨Below.at hc8 k1 q1, Below.at hc8 k2 q1, Below.at hc8 k3 q3⟩) ?_
  refine stage_heads [33] (by kernel_rfl) (L := #[true, true, true, true, true, true, true, true, true, true, true, true, true, true, true, true, true, true, true, true, true, true, true, true, true, true, true, true, true, true, true, true, true, true, false, false]) (by kernel_rfl) (f' := 2) rfl (fun _ _ _ _ h => h) (fun w o ⟨y1, y2, y3⟩ => ⟨cell_alloc y1 o, cell_alloc y2 o, cell_alloc y3 o⟩) (.inr ⟨Below.at hc8 k1 q1, Below.at hc8 k2 q1, Below.at hc8 k3 q3⟩) ?_   -- 33:pick
  simp only [List.flatMap_cons, List.flatMap_nil, List.drop_succ_cons, List.drop_zero, List.take_succ_cons, List.take_zero, List.cons_append, List.nil_append, List.append_nil]
  iterate 1 (refine heads_pure _ (by rfl) (fun w' => by go_simp; try with_reducible rfl) ?_; simp only [Act.put, List.setIfInBounds_toArray, List.set_cons_zero, List.set_cons_succ])
  refine heads_nil ?_
  refine stage_op 34 (by kernel_rfl) (L := #[true, true, true, true, true, true, true, true, true, true, true, true, true, true, true, true, true, true, true, true, true, true, true, true, true, true, true, true, true, true, true, true, true, true, true, false]) (by kernel_rfl) ?_   -- store  S ANEW
  simp only [List.drop_succ_cons, List.drop_zero, List.take_succ_cons, List.take_zero]
  have e4 := Below.at hc8 k4 q4; have e5 := Below.at hc8 k5 q4; have g4' : w8.frozen? ⟨w.heap.size + 1 + 1, 0, none⟩ = false := (by rw [hc8.frozen q4]; exact g4); have g5' : w8.frozen? ⟨w.heap.size + 1 + 1, 1, none⟩ = false := (by rw [hc8.frozen q4]; exact g5); go_wp2_with fail
  refine step_post (fun _ => ⟨(by rw [World.cell?_setCell_other _ _ _ _ (by first | (intro e; have := congrArg Addr.block e; simp at this; done) | (intro e; have := congrArg Addr.block e; simp at this; omega)), World.cell?_setCell_other _ _ _ _ (by first | (intro e; have := congrArg Addr.block e; simp at this; done) | (intro e; have := congrArg Addr.block e; simp at this; omega))]; exact Below.at hc8 k1 q1), (by rw [World.cell?_setCell_other _ _ _ _ (by first | (intro e; have := congrArg Addr.block e; simp at this; done) | (intro e; have := congrArg Addr.block e; simp at this; omega)), World.cell?_setCell_other _ _ _ _ (by first | (intro e; have := congrArg Addr.block e; simp at this; done) | (intro e; have := congrArg Addr.block e; simp at this; omega))]; exact Below.at hc8 k2 q1), (by rw [World.cell?_setCell_other _ _ _ _ (by first | (intro e; have := congrArg Addr.block e; simp at this; done) | (intro e; have := congrArg Addr.block e; simp at this; omega)), World.cell?_setCell_other _ _ _ _ (by first | (intro e; have := congrArg Addr.block e; simp at this; done) | (intro e; have := congrArg Addr.block e; simp at this; omega))]; exact Below.at hc8 k3 q3)⟩) ?_
  refine stage_heads [35] (by kernel_rfl) (L := #[true, true, true, true, true, true, true, true, true, true, true, true, true, true, true, true, true, true, true, true, true, true, true, true, true, true, true, true, true, true, true, true, true, true, true, true]) (by kernel_rfl) (f' := 0) rfl (fun _ _ _ _ h => h) (fun w o ⟨y1, y2, y3⟩ => ⟨cell_alloc y1 o, cell_alloc y2 o, cell_alloc y3 o⟩) (.inl (by kernel_rfl)) ?_   -- 35:assign
  simp only [List.flatMap_cons, List.flatMap_nil, List.drop_succ_cons, List.drop_zero, List.take_succ_cons, List.take_zero, List.cons_append, List.nil_append, List.append_nil]
  iterate 1 (refine heads_pure _ (by rfl) (fun w' => by go_simp; try with_reducible rfl) ?_; simp only [Act.put, List.setIfInBounds_toArray, List.set_cons_zero, List.set_cons_succ])
  refine heads_nil ?_
  refine stage_done (by kernel_rfl) ?_
  go_wp2_with fail
  generalize hw9 : World.setCell (World.setCell _ _ _) _ _ = w9
  have r0 : w9.cell? ⟨w.heap.size + 1 + 1, 0, none⟩ = some (.int .i64 num) := by
    rw [← hw9, World.cell?_setCell_other _ _ _ _ (by simp)]; exact World.cell?_setCell_same _ _ _ e4
  have r1 : w9.cell? ⟨w.heap.size + 1 + 1, 1, none⟩ = some (.slice va (heard num l x3 id).length vc) := by
    rw [← hw9]; exact World.cell?_setCell_same _ _ _ (u := .slice none 0 0) (by rw [World.cell?_setCell_other _ _ _ _ (by simp)]; exact e5)
  have hk9 : Kept w8 w9 (fun k => k = w.heap.size + 1 + 1) := by rw [← hw9]; exact (Kept.setCell _ ⟨w.heap.size + 1 + 1, 0, none⟩ _).trans (Kept.setCell _ ⟨w.heap.size + 1 + 1, 1, none⟩ _)
  have hs8 := hc8.size
  have hs9 := hk9.size
  have hF2 := HF2.out
  have hnF2 : ∀ k, F2 k → ¬ (k = w.heap.size + 1 + 1) := fun k h e => by
    rw [hF2] at h
    obtain ⟨h1, h2⟩ := h
    rcases h1 with h1 | h1
    · have := hF0.out k h1; omega
    · simp only [World.size_alloc] at h1; omega
  have hvb : ∀ g, (Value.slice va (heard num l x3 id).length vc).ownBlock = some g → (¬ F2 g ∧ g < w1.heap.size) ∧ g ≠ w.heap.size + 1 + 1 := fun g hg => by
    obtain ⟨h1, h2⟩ := HVB.out g hg
    refine ⟨⟨fun h => ?_, h2⟩, ?_⟩
    · rw [hF2] at h
      obtain ⟨h3, h4⟩ := h
      rcases h3 with h3 | h3
      · rcases h1 with h1 | h1
        · exact (hd0.out g h1).1 h3
        · have := hF0.out g h3; simp only [World.size_alloc] at h1; omega
      · simp only [World.size_alloc] at h3; omega
    · rcases h1 with h1 | h1
      · have := (hd0.out g h1).2; omega
      · simp only [World.size_alloc] at h1; omega
  refine bodyPost_ret (v := .tuple #[.agg #[.int .i64 num, .slice va (heard num l x3 id).length vc], .bool true]) ?_ rfl ⟨_, F2, rfl, (HP2.out.below hc8).kept hk9 hnF2, (HR2.out.below hc8).kept hk9 (fun g hg => (hvb g hg).2), fun k hk => ?_, fun g hg => ⟨(hvb g hg).1.1, by have := (hvb g hg).1.2; omega, (HVB.out g hg).1.imp (fun h => h) (fun h => by simp only [World.size_alloc] at h; omega)⟩, ?_⟩
  · simp [results, Try.results9, go_sem, r0, r1]
  · rw [hF2] at hk
    obtain ⟨h1, h2⟩ := hk
    refine ⟨h1.imp (fun h => h) (fun h => ?_), by omega⟩
    simp only [World.size_alloc] at h
    omega
  · have hA : Kept w w1 F := Kept.of_below HB1.out fun k h1 h2 => by omega
    have hC : Kept w2 w8 F := Kept.of_below hc8 fun k h1 h2 => by omega
    have hD : Kept w w8 F := (hA.trans hb2.out).trans hC
    exact hD.andThen hk9 fun k hk h => h.elim (fun h => h) (fun e => by omega)
end Go.Proofs.Ytcccgcemgikkfaa
