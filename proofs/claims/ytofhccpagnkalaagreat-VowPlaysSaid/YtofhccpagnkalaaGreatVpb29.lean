/- Several texts in one: Rvb. What each proves stands ahead of it; together they serve vplays_law_holds. No conditions but those stated. -/
import Derived.Test.YtofhccpagnkalaaGreatVpb15
import Derived.Test.YtofhccpagnkalaaGreatVpb28
/- The document's bytes of a vow's state; contract; no conditions but the ranges. -/
namespace Go.Proofs.YtofhccpagnkalaaGreat
open Go.RowKit Go.Maps Go.Proofs.Own

set_option maxHeartbeats 2000000 in
set_option maxRecDepth 20000 in
theorem rvbytes_any (t m : Nat) (w : World) (ht : (t : Int) ≤ 1152921504606846976) (hm : (m : Int) ≤ 7) :
    Calls Tryz.prog 107 #[.agg #[.int .u64 t, .int .i64 ((m : Int) - 1)]] w fun e w' => ∃ v', e = .returned v' ∧ Bytes w' v' (frP 3 (numsW [t, m])) ∧ Below w.heap.size w w' := by
  have HI : Hid ((t : Int) < 18446744073709551616) := Lib.hid (Int.lt_of_le_of_lt ht (by decide))
  have HT : Hid ((m : Int) < 18446744073709551616) := Lib.hid (Int.lt_of_le_of_lt hm (by decide))
  have HIA : Hid (ints (numW t) ++ ints (numW m) = ints (numsW [t, m])) := Lib.hid (by rw [ints_app]; simp [numsW])
  have HNK : Hid ((ints (numW t)).length + (ints (numW m)).length ≤ 4294967296) := Lib.hid (by
    have h1 := numW_len HI.out
    have h2 := numW_len HT.out
    rw [length_ints, length_ints]; omega)
  have HLT := Lib.hid (numsW_lt [t, m] (two_lt HI.out HT.out))
  have HL2 : Hid ((numsW [t, m]).length ≤ 2097152) := Lib.hid (by have := numsW_len [t, m] (two_lt HI.out HT.out); simp at this; omega)
  have HL3 : Hid ((numsW [t, m]).length ≤ 100000) := Lib.hid (by have := numsW_len [t, m] (two_lt HI.out HT.out); simp at this; omega)
  have e0 : IntKind.i64.wrap ((m : Int) - 1 + 1) = (m : Int) := by simp only [IntKind.wrap_i64]; omega
  have e2 : IntKind.i64.wrap (m : Int) = (m : Int) := by simp only [IntKind.wrap_i64]; omega
  have e1 : IntKind.u64.wrap (m : Int) = (m : Int) := by simp only [IntKind.wrap_u64]; omega
  clear ht hm
  go_enter Tryz.func107, Tryz.ntmps107
  go_wp2_with fail
  have SG1 := SC.box26 w t ((m : Int) - 1)
  have B1 : Hid (Below w.heap.size w (w.alloc (.cells #[.int .u64 t, .int .i64 ((m : Int) - 1)] 52))) := Lib.hid ((Below.refl _ _).alloc (Nat.le_refl _) _)
  generalize World.alloc w _ = w1 at *
  have S1 := Lib.hid SG1
  have ST := Stable.from w1
  have hlw := SG1.lt
  clear SG1
  refine region_start [0, 1, 3, 0, 8, 24, 56, 127, 255, 511, 1023] 4 (fun w' => Below w1.heap.size w1 w') (by kernel_rfl) ?_
  refine stage_heads [0, 1, 3, 4, 5, 6] (by kernel_rfl) (L := #[true, true, false, true, true, true, true, false, false, false, false]) (by kernel_rfl) (f' := 5) rfl (fun _ _ _ _ h => h) (fun w o h => ST.alloc h o) (.inr (by first | exact Below.refl _ _ | exact (Below.refl _ _).drew)) ?_
  simp only [List.flatMap_cons, List.flatMap_nil, List.drop_succ_cons, List.drop_zero, List.take_succ_cons, List.take_zero, List.cons_append, List.nil_append, List.append_nil]
  iterate 6 (first | (refine heads_load _ (by rfl) (fun w' hs => by obtain ⟨r0, r1, _, _⟩ := S1.out.below hs; go_simp; try with_reducible rfl) rfl ?_; simp only [Act.put, List.setIfInBounds_toArray, List.set_cons_zero, List.set_cons_succ]) | (refine heads_pure _ (by rfl) (fun w' => by go_simp; try with_reducible rfl) ?_; simp only [Act.put, List.setIfInBounds_toArray, List.set_cons_zero, List.set_cons_succ]))
  refine heads_nil ?_
  refine stage_op 2 (by kernel_rfl) (L := #[true, true, true, true, true, true, true, false, false, false, false]) (by kernel_rfl) ?_
  simp only [List.drop_succ_cons, List.drop_zero, List.take_succ_cons, List.take_zero]
  go_wp2_with fail; refine (rnumw_any t _ HI.out).mono ?_; rintro e u2 ⟨x2, rfl, ho2, hb2⟩; obtain ⟨p2, q2, k2, rfl⟩ := shape3 ho2; have O2 : Hid (Owns u2 w1.heap.size 5 .u8 (.slice p2 q2 k2) (ints (numW t))) := Lib.hid ho2; have I2 : Hid (Below w1.heap.size w1 u2) := Lib.hid (by first | exact hb2 | exact ((Below.refl _ _).drew).trans hb2); clear ho2 hb2; go_wp2_with fail
  refine step_post (fun _ => I2.out) ?_
  refine stage_op 7 (by kernel_rfl) (L := #[true, true, true, true, true, true, true, true, false, false, false]) (by kernel_rfl) ?_
  simp only [List.drop_succ_cons, List.drop_zero, List.take_succ_cons, List.take_zero]
  go_wp2_with fail; refine (rnumw_any m _ HT.out).mono ?_; rintro e u5 ⟨x5, rfl, ho5, hb5⟩; obtain ⟨p5, q5, k5, rfl⟩ := shape3 ho5; have R5 : Hid (Reads u5 .u8 (.slice p5 q5 k5) (ints (numW m))) := Lib.hid ho5.reads; have O5 : Hid (Owns u5 w1.heap.size 5 .u8 (.slice p2 q2 k2) (ints (numW t))) := Lib.hid (O2.out.below hb5); have I5 : Hid (Below w1.heap.size w1 u5) := Lib.hid (I2.out.trans (Below.mono hb5 I2.out.size)); clear ho5 hb5; go_wp2_with fail
  refine step_post nofun ?_
  refine stage_op 8 (by kernel_rfl) (L := #[true, true, true, true, true, true, true, true, true, false, false]) (by kernel_rfl) ?_
  simp only [List.drop_succ_cons, List.drop_zero, List.take_succ_cons, List.take_zero]
  refine wpList_append_ints Tryz.u8s _ _ rfl w1.heap.size _ _ (ints (numW t)) (ints (numW m)) rfl rfl O5.out R5.out (by decide) HNK.out I5.out.size rfl ?_; intro v6 w6 hown6 hgr6 hat6 hnil6 hbel6; obtain ⟨p6, q6, k6, rfl⟩ := shape3 hown6; rw [HIA.out] at hown6; have HO6 : Hid (Bytes w6 (.slice p6 q6 k6) (numsW [t, m])) := Lib.hid (Bytes.of_owns hown6 HLT.out HL2.out); have B6 : Hid (Below w1.heap.size w1 w6) := Lib.hid (I5.out.trans hbel6); clear hown6 hgr6 hat6 hnil6 hbel6; go_wp2_with fail
  refine step_post nofun ?_
  refine stage_op 9 (by kernel_rfl) (L := #[true, true, true, true, true, true, true, true, true, true, false]) (by kernel_rfl) ?_
  simp only [List.drop_succ_cons, List.drop_zero, List.take_succ_cons, List.take_zero]
  go_wp2_with fail; refine (rbytes_any 3 _ (numsW [t, m]) _ HO6.out (by decide) HL3.out).mono ?_; rintro e w7 ⟨v7, rfl, hB7, hb7⟩; have HB7 := Lib.hid hB7; have B7 : Hid (Below w1.heap.size w1 w7) := Lib.hid (B6.out.trans (hb7.mono B6.out.size)); clear hB7 hb7; go_wp2_with fail
  refine step_post nofun ?_
  refine stage_heads [10] (by kernel_rfl) (L := #[true, true, true, true, true, true, true, true, true, true, true]) (by kernel_rfl) (f' := 0) rfl (fun _ _ _ _ h => h) (fun w o h => ST.alloc h o) (.inl (by kernel_rfl)) ?_
  simp only [List.flatMap_cons, List.flatMap_nil, List.drop_succ_cons, List.drop_zero, List.take_succ_cons, List.take_zero, List.append_nil]
  iterate 1 (refine heads_pure _ (by rfl) (fun w' => by go_simp; try with_reducible rfl) ?_; simp only [Act.put, List.setIfInBounds_toArray, List.set_cons_zero, List.set_cons_succ])
  refine heads_nil ?_
  refine stage_done (by kernel_rfl) ?_
  go_wp2_with fail
  go_ret
  exact ⟨_, rfl, HB7.out, B1.out.trans (B7.out.mono B1.out.size)⟩
end Go.Proofs.YtofhccpagnkalaaGreat
