/- Several texts in one: Dst. What each proves stands ahead of it; together they serve vplays_law_holds. No conditions but those stated. -/
import Derived.Test.YtofhccpagnkalaaGreatVpb11
import Derived.Test.YtofhccpagnkalaaGreatVpb2
import Derived.Test.YtofhccpagnkalaaGreatVpb25
/- What a disk's steps count tells, and how a region's standing fact is changed on the way; no conditions. -/
namespace Go.Proofs.Own
open Go Go.RowKit

section
variable {P : Program} {ops : Array Oper} {Q : Exit → Act → World → Prop} {M : List Nat} {J : Nat}
theorem anyS_mono {S S' : World → Prop} (h : ∀ w, S' w → S w) : ∀ f listed a w, Own.wpAnyS P ops Q S' J f listed a w → Own.wpAnyS P ops Q S J f listed a w
  | 0, _, _, _, k => k
  | f + 1, _, _, _, k => ⟨k.1, fun i hi => wpOp_mono (fun a' w' h' => ⟨fun hj => h _ (h'.1 hj), anyS_mono h f _ a' w' h'.2⟩) (k.2 i hi)⟩
/-- The standing fact is changed for a stronger one. -/
theorem stage_switch {f : Nat} {listed : Array Bool} {a : Act} {w : World} {S : World → Prop} (S' : World → Prop) (h : ∀ w, S' w → S w) (k : Own.Rest P ops M J S' Q f listed a w) : Own.Rest P ops M J S Q f listed a w :=
  ⟨fun hc => anyS_mono h _ _ _ _ (k.out hc)⟩
end
end Go.Proofs.Own
namespace Go.Proofs.YtofhccpagnkalaaGreat
open Go.RowKit Go.Maps Go.Proofs.Own

theorem mget_any (b : Nat) (c : Int) (w : World) (h : MeterIs w b c) : Calls Tryz.prog 69 #[.pointer (some ⟨b, 0, none⟩), .int .i64 0] w fun e w' => e = .returned (.int .u64 c) ∧ w = w' := by
  have H := Lib.hid h
  clear h
  go_enter Tryz.func69, Tryz.ntmps69
  go_wp2_with fail
  refine (mat b c _ H.out).mono ?_
  rintro e w1 ⟨rfl, rfl⟩
  go_wp2_with fail
  refine (mload b c _ H.out).mono ?_
  rintro e w1 ⟨rfl, rfl⟩
  go_wp2_with fail
  go_ret
  exact ⟨rfl, rfl⟩
theorem dsteps_any (db mb tb : Nat) (D : DiskS) (w : World) (h : DiskIs w db mb tb D) : Calls Tryz.prog 25 #[.pointer (some ⟨db, 0, none⟩)] w fun e w' => e = .returned (.int .u64 D.steps) ∧ w = w' := by
  have H := Lib.hid h
  have c4 := h.c4
  clear h
  go_enter Tryz.func25, Tryz.ntmps25
  go_wp2_with fail
  refine (dnone db mb tb D _ H.out).mono ?_
  rintro e w1 ⟨rfl, rfl⟩
  go_wp2_with fail
  refine (mget_any tb D.steps _ H.out.mt).mono ?_
  rintro e w1 ⟨rfl, rfl⟩
  go_wp2_with fail
  go_ret
  exact ⟨rfl, rfl⟩
set_option maxHeartbeats 1000000 in
theorem rnew_at (room : Int) (w : World) : Calls Tryz.prog 9 #[.int .i64 room] w fun e w' => e = .returned (.agg #[.int .i64 room, .slice none 0 0, .bool false, .int .i64 (-1), .int .u64 0]) ∧ Below w.heap.size w w' := by
  go_enter Tryz.func9, Tryz.ntmps9
  go_wp2_with fail
  refine bodyPost_ret (v := .agg #[.int .i64 room, .slice none 0 0, .bool false, .int .i64 (-1), .int .u64 0]) (by simp [results, Tryz.results9, go_sem]) rfl ?_
  exact ⟨rfl, (Below.refl _ _).alloc (Nat.le_refl _) _⟩
end Go.Proofs.YtofhccpagnkalaaGreat
