/- The closures of the store's Save; no conditions but the ranges. -/
import Derived.Test.YtofhccpagnkalaaSto
namespace Go.Proofs.Ytofhccpagnkalaa
open Go.RowKit Go.Maps Go.Proofs.Own

set_option maxHeartbeats 2000000 in
set_option maxRecDepth 20000 in
theorem save1_any (tc bc sb db mb tb : Nat) (D : DiskS) (a : Option Addr) (n c : Nat) (b : List Nat) (w : World) (h1 : w.cell? ⟨tc, 0, none⟩ = some (.pointer (some ⟨sb, 0, none⟩))) (h2 : w.cell? ⟨bc, 0, none⟩ = some (.slice a n c)) (h3 : w.cell? ⟨sb, 0, none⟩ = some (.pointer (some ⟨db, 0, none⟩)))
    (hd : DiskIs w db mb tb D) (hw : DGood D) (hB : Bytes w (.slice a n c) b) :
    Calls Try.prog 72 #[.pointer (some ⟨tc, 0, none⟩), .pointer (some ⟨bc, 0, none⟩)] w (OpPost db mb tb (appendD D nOther b) w) := by
  have HD := Lib.hid hd
  have HW := Lib.hid hw
  have HB := Lib.hid hB
  have XC := Lib.hid (And.intro h1 (And.intro h2 h3))
  clear hd hw hB h1 h2 h3
  go_enter Try.func72, Try.ntmps72
  go_wp2_with fail
  refine region_start [0, 1, 3, 7, 0, 31, 63] 0 (fun w' => w'.cell? ⟨tc, 0, none⟩ = some (.pointer (some ⟨sb, 0, none⟩)) ∧ w'.cell? ⟨bc, 0, none⟩ = some (.slice a n c) ∧ w'.cell? ⟨sb, 0, none⟩ = some (.pointer (some ⟨db, 0, none⟩))) (by kernel_rfl) ?_
  refine stage_heads [0, 1, 2, 3, 4] (by kernel_rfl) (L := #[true, true, true, true, true, false, false]) (by kernel_rfl) (f' := 2) rfl (fun _ _ _ _ h => h) (fun w o h => (((Stable.cell _ _).and ((Stable.cell _ _).and (Stable.cell _ _))).alloc h o)) (.inr XC.out) ?_
  simp only [List.flatMap_cons, List.flatMap_nil, List.drop_succ_cons, List.drop_zero, List.take_succ_cons, List.take_zero, List.cons_append, List.nil_append, List.append_nil]
  iterate 5 (first | (refine heads_load _ (by rfl) (fun w' hs => by obtain ⟨y0, y1, y2⟩ := hs; go_simp; try with_reducible rfl) rfl ?_; simp only [Act.put, List.setIfInBounds_toArray, List.set_cons_zero, List.set_cons_succ]) | (refine heads_pure _ (by rfl) (fun w' => by go_simp; try with_reducible rfl) ?_; simp only [Act.put, List.setIfInBounds_toArray, List.set_cons_zero, List.set_cons_succ]))
  refine heads_nil ?_
  refine stage_op 5 (by kernel_rfl) (L := #[true, true, true, true, true, true, false]) (by kernel_rfl) ?_
  simp only [List.drop_succ_cons, List.drop_zero, List.take_succ_cons, List.take_zero]
  go_wp2_with fail; refine (dapp_any db mb tb D nOther (.slice a n c) b _ (by first | exact HD.out | exact HD.out.below ((Below.refl _ _).drew)) HW.out (by first | exact HB.out | exact HB.out.below ((Below.refl _ _).drew)) (by decide)).mono ?_; rintro e w1 ⟨rfl, hd1, hk1⟩; have D1 := Lib.hid hd1; have K1 : Hid (Kept w w1 (Own3 db mb tb)) := Lib.hid (by first | exact hk1 | exact (Kept.drew _ _).trans hk1); clear hd1 hk1; go_wp2_with fail
  refine step_post nofun ?_
  refine stage_heads [6] (by kernel_rfl) (L := #[true, true, true, true, true, true, true]) (by kernel_rfl) (f' := 0) rfl (fun _ _ _ _ h => h) (fun w o h => (((Stable.cell _ _).and ((Stable.cell _ _).and (Stable.cell _ _))).alloc h o)) (.inl (by kernel_rfl)) ?_
  simp only [List.flatMap_cons, List.flatMap_nil, List.drop_succ_cons, List.drop_zero, List.take_succ_cons, List.take_zero, List.append_nil]
  iterate 1 (refine heads_pure _ (by rfl) (fun w' => by go_simp; try with_reducible rfl) ?_; simp only [Act.put, List.setIfInBounds_toArray, List.set_cons_zero, List.set_cons_succ])
  refine heads_nil ?_
  refine stage_done (by kernel_rfl) ?_
  go_wp2_with fail
  go_ret
  exact ⟨rfl, D1.out, K1.out⟩

set_option maxHeartbeats 1000000 in
theorem save2_any (tc sb db mb tb : Nat) (D : DiskS) (w : World) (h1 : w.cell? ⟨tc, 0, none⟩ = some (.pointer (some ⟨sb, 0, none⟩))) (h3 : w.cell? ⟨sb, 0, none⟩ = some (.pointer (some ⟨db, 0, none⟩)))
    (hd : DiskIs w db mb tb D) (hw : DGood D) :
    Calls Try.prog 74 #[.pointer (some ⟨tc, 0, none⟩)] w (OpPost db mb tb (syncD D nOther) w) := by
  have HD := Lib.hid hd
  have HW := Lib.hid hw
  clear hd hw
  go_enter Try.func74, Try.ntmps74
  go_wp2_with fail
  refine (dsync_any db mb tb D nOther w HD.out HW.out.wf (by decide)).mono ?_
  rintro e w1 ⟨rfl, hd1, hk1⟩
  have D1 := Lib.hid hd1
  have K1 := Lib.hid hk1
  clear hd1 hk1 h1 h3
  go_wp2_with fail
  go_ret
  exact ⟨rfl, D1.out, K1.out⟩

set_option maxHeartbeats 1000000 in
theorem save3_any (tc sb db mb tb : Nat) (D : DiskS) (w : World) (h1 : w.cell? ⟨tc, 0, none⟩ = some (.pointer (some ⟨sb, 0, none⟩))) (h3 : w.cell? ⟨sb, 0, none⟩ = some (.pointer (some ⟨db, 0, none⟩)))
    (hd : DiskIs w db mb tb D) (hw : DGood D) :
    Calls Try.prog 76 #[.pointer (some ⟨tc, 0, none⟩)] w (OpPost db mb tb (moveD D nOther nSnap) w) := by
  have HD := Lib.hid hd
  have HW := Lib.hid hw
  clear hd hw
  go_enter Try.func76, Try.ntmps76
  go_wp2_with fail
  refine (dmove_any db mb tb D nOther nSnap w HD.out HW.out.wf (by decide) (by decide)).mono ?_
  rintro e w1 ⟨rfl, hd1, hk1⟩
  have D1 := Lib.hid hd1
  have K1 := Lib.hid hk1
  clear hd1 hk1 h1 h3
  go_wp2_with fail
  go_ret
  exact ⟨rfl, D1.out, K1.out⟩
end Go.Proofs.Ytofhccpagnkalaa
