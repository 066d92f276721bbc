/- Several texts in one: Vsy, VsyH. What each proves stands ahead of it. -/
import Derived.Test.YtofhccpagnkalaaBunVb
/- The law VowSays, walked; no conditions. -/
namespace Go.Proofs.Ytofhccpagnkalaa
open Go.RowKit Go.Maps Go.Proofs.Own Go.Shelf

set_option maxHeartbeats 4000000 in
set_option maxRecDepth 20000 in
theorem vsays_any (t v t' v' : Int) (w : World) : Calls Try.prog 5 #[.agg #[.int .u64 t, .int .i64 v], .agg #[.int .u64 t', .int .i64 v']] w fun e w' => e = .returned (.bool true) ∧ Below w.heap.size w w' := by
  obtain ⟨p, hp⟩ : ∃ p, vSnd t v = p := ⟨_, rfl⟩
  obtain ⟨q, hq⟩ : ∃ q, vMy t v t' v' = q := ⟨_, rfl⟩
  have HN := Lib.hid hp
  have HM := Lib.hid hq
  clear hp hq
  go_enter Try.func5, Try.ntmps5
  go_wp2_with fail
  have SA0 : SC ((w.alloc (.cells #[.int .u64 t, .int .i64 v] 40)).alloc (.cells #[.int .u64 t', .int .i64 v'] 40)) w.heap.size t v := (SC.box w t v).below ((Below.refl _ _).alloc (Nat.le_refl _) _)
  have SA1 : SC ((w.alloc (.cells #[.int .u64 t, .int .i64 v] 40)).alloc (.cells #[.int .u64 t', .int .i64 v'] 40)) (w.heap.size + 1) t' v' := by
    have h := SC.box (w.alloc (.cells #[.int .u64 t, .int .i64 v] 40)) t' v'
    simpa using h
  have BA0 : Below w.heap.size w ((w.alloc (.cells #[.int .u64 t, .int .i64 v] 40)).alloc (.cells #[.int .u64 t', .int .i64 v'] 40)) := ((Below.refl _ _).alloc (Nat.le_refl _) _).alloc (by simp) _
  generalize World.alloc (World.alloc w _) _ = wA at *
  have S0 := Lib.hid SA0
  have S1 := Lib.hid SA1
  have BA := Lib.hid BA0
  have ST := Stable.from wA
  clear SA0 SA1 BA0
  refine region_start [0, 1, 0, 7, 15, 31, 63, 63, 255, 63, 63, 2047, 4095, 8191, 16383, 32767, 65535, 131071] 1986 (fun w' => Below wA.heap.size wA w') (by kernel_rfl) ?_
  refine stage_heads [0, 2] (by kernel_rfl) (L := #[true, false, true, false, false, false, false, false, false, false, false, false, false, false, false, false, false, false]) (by kernel_rfl) (f' := 16) rfl (fun _ _ _ _ h => h) (fun w o h => ST.alloc h o) (.inr (by first | exact Below.refl _ _ | exact (Below.refl _ _).drew)) ?_
  simp only [List.flatMap_cons, List.flatMap_nil, List.drop_succ_cons, List.drop_zero, List.take_succ_cons, List.take_zero, List.cons_append, List.nil_append, List.append_nil]
  iterate 2 (first | (refine heads_load _ (by rfl) (fun w' hs => by obtain ⟨r0, r1, _, _⟩ := S0.out.below hs; obtain ⟨q0, q1, _, _⟩ := S1.out.below hs; go_simp; try with_reducible rfl) rfl ?_; simp only [Act.put, List.setIfInBounds_toArray, List.set_cons_zero, List.set_cons_succ]) | (refine heads_pure _ (by rfl) (fun w' => by go_simp; try with_reducible rfl) ?_; simp only [Act.put, List.setIfInBounds_toArray, List.set_cons_zero, List.set_cons_succ]))
  refine heads_nil ?_
  refine stage_op 1 (by kernel_rfl) (L := #[true, true, true, false, false, false, false, false, false, false, false, false, false, false, false, false, false, false]) (by kernel_rfl) ?_
  simp only [List.drop_succ_cons, List.drop_zero, List.take_succ_cons, List.take_zero]
  go_wp2_with fail; refine (vsound_any t v _).mono ?_; rintro e u1 ⟨rfl, hb1⟩; have I1 : Hid (Below wA.heap.size wA u1) := Lib.hid (by first | exact hb1 | exact ((Below.refl _ _).drew).trans hb1); clear hb1; rw [HN.out]; go_wp2_with fail
  refine step_post (fun _ => I1.out) ?_
  refine stage_op 3 (by kernel_rfl) (L := #[true, true, true, true, false, false, false, false, false, false, false, false, false, false, false, false, false, false]) (by kernel_rfl) ?_
  simp only [List.drop_succ_cons, List.drop_zero, List.take_succ_cons, List.take_zero]
  go_wp2_with fail; refine (vrsound_any t v _).mono ?_; rintro e u3 ⟨rfl, hb3⟩; have I3 : Hid (Below wA.heap.size wA u3) := Lib.hid (by first | exact I1.out.trans (hb3.mono I1.out.size) | exact I1.out.trans (((Below.refl _ _).drew.trans hb3).mono I1.out.size)); clear hb3; rw [HN.out]; go_wp2_with fail
  refine step_post nofun ?_
  refine stage_heads [4, 5, 6, 7, 9, 10] (by kernel_rfl) (L := #[true, true, true, true, true, true, true, true, false, true, true, false, false, false, false, false, false, false]) (by kernel_rfl) (f' := 8) rfl (fun _ _ _ _ h => h) (fun w o h => ST.alloc h o) (.inr (by first | exact I11.out | exact I8.out | exact I3.out | exact ST.drew I11.out | exact ST.drew I8.out | exact ST.drew I3.out)) ?_
  simp only [List.flatMap_cons, List.flatMap_nil, List.drop_succ_cons, List.drop_zero, List.take_succ_cons, List.take_zero, List.cons_append, List.nil_append, List.append_nil]
  iterate 6 (first | (refine heads_load _ (by rfl) (fun w' hs => by obtain ⟨r0, r1, _, _⟩ := S0.out.below hs; obtain ⟨q0, q1, _, _⟩ := S1.out.below hs; go_simp; try with_reducible rfl) rfl ?_; simp only [Act.put, List.setIfInBounds_toArray, List.set_cons_zero, List.set_cons_succ]) | (refine heads_pure _ (by rfl) (fun w' => by go_simp; try with_reducible rfl) ?_; simp only [Act.put, List.setIfInBounds_toArray, List.set_cons_zero, List.set_cons_succ]))
  refine heads_nil ?_
  refine stage_op 8 (by kernel_rfl) (L := #[true, true, true, true, true, true, true, true, true, true, true, false, false, false, false, false, false, false]) (by kernel_rfl) ?_
  simp only [List.drop_succ_cons, List.drop_zero, List.take_succ_cons, List.take_zero]
  go_wp2_with fail; refine (vmay_any t v t' v' _).mono ?_; rintro e u8 ⟨rfl, hb8⟩; have I8 : Hid (Below wA.heap.size wA u8) := Lib.hid (by first | exact I3.out.trans (hb8.mono I3.out.size) | exact I3.out.trans (((Below.refl _ _).drew.trans hb8).mono I3.out.size)); clear hb8; rw [HM.out]; go_wp2_with fail
  refine step_post (fun _ => I8.out) ?_
  refine stage_op 11 (by kernel_rfl) (L := #[true, true, true, true, true, true, true, true, true, true, true, true, false, false, false, false, false, false]) (by kernel_rfl) ?_
  simp only [List.drop_succ_cons, List.drop_zero, List.take_succ_cons, List.take_zero]
  go_wp2_with fail; refine (vrmay_any t v t' v' _).mono ?_; rintro e u11 ⟨rfl, hb11⟩; have I11 : Hid (Below wA.heap.size wA u11) := Lib.hid (by first | exact I8.out.trans (hb11.mono I8.out.size) | exact I8.out.trans (((Below.refl _ _).drew.trans hb11).mono I8.out.size)); clear hb11; rw [HM.out]; go_wp2_with fail
  refine step_post nofun ?_
  refine stage_heads [12, 13, 14] (by kernel_rfl) (L := #[true, true, true, true, true, true, true, true, true, true, true, true, true, true, true, false, false, false]) (by kernel_rfl) (f' := 3) rfl (fun _ _ _ _ h => h) (fun w o h => ST.alloc h o) (.inl (by kernel_rfl)) ?_
  simp only [List.flatMap_cons, List.flatMap_nil, List.drop_succ_cons, List.drop_zero, List.take_succ_cons, List.take_zero, List.cons_append, List.nil_append, List.append_nil]
  iterate 3 (refine heads_pure _ (by rfl) (fun w' => by go_simp; try with_reducible rfl) ?_; simp only [Act.put, List.setIfInBounds_toArray, List.set_cons_zero, List.set_cons_succ])
  refine heads_nil ?_
  refine stage_op 15 (by kernel_rfl) (L := #[true, true, true, true, true, true, true, true, true, true, true, true, true, true, true, true, false, false]) (by kernel_rfl) ?_
  simp only [List.drop_succ_cons, List.drop_zero, List.take_succ_cons, List.take_zero]
  go_wp2_with fail; refine (vlives_any _).mono ?_; rintro e uz ⟨rfl, hbz⟩; have IZ : Hid (Below wA.heap.size wA uz) := Lib.hid (by first | exact I11.out.trans (hbz.mono I11.out.size) | exact I11.out.trans (((Below.refl _ _).drew.trans hbz).mono I11.out.size)); clear hbz; go_wp2_with fail
  refine step_post nofun ?_
  refine stage_heads [16, 17] (by kernel_rfl) (L := #[true, true, true, true, true, true, true, true, true, true, true, true, true, true, true, true, true, true]) (by kernel_rfl) (f' := 0) rfl (fun _ _ _ _ h => h) (fun w o h => ST.alloc h o) (.inl (by kernel_rfl)) ?_
  simp only [List.flatMap_cons, List.flatMap_nil, List.drop_succ_cons, List.drop_zero, List.take_succ_cons, List.take_zero, List.cons_append, List.nil_append, List.append_nil]
  iterate 2 (refine heads_pure _ (by rfl) (fun w' => by go_simp; try with_reducible rfl) ?_; simp only [Act.put, List.setIfInBounds_toArray, List.set_cons_zero, List.set_cons_succ])
  refine heads_nil ?_
  refine stage_done (by kernel_rfl) ?_
  go_wp2_with fail
  go_ret
  exact ⟨rfl, BA.out.trans (IZ.out.mono BA.out.size)⟩
end Go.Proofs.Ytofhccpagnkalaa

/- THE STATEMENT VowSays: whether any state is sound, and whether one may follow another, is as the document says. For every input; no conditions. -/
namespace Go.Proofs.Ytofhccpagnkalaa
open Go.ChangeShapes Go.WideShapes Go.ChangeAt Go.RowKit Go.Deep Go.Proofs.Own


set_option maxRecDepth 100000 in
theorem vsays_law_lifted (os : Os) (started : os.Started) (H : Type) (enc : TypeId × Value → H) :
    ReturnsInHanded {} Try.checked os 5 .any (Rows.vowSaysSpec.pre6 enc Try.prog Try.f5 Rows.vowSaysRow.domain false) (Rows.vowSaysSpec.post enc Try.prog Try.f5 false true false false) := by
  refine returnsInHanded_of_change (C := Try.checked) own started (by kernel_rfl) Try.func5
    (ChangeSpec.witness6 (enc := enc) (C := Try.checked) false ⟨#[], #[.agg #[.int .u64 0, .int .i64 0], .agg #[.int .u64 0, .int .i64 0]], []⟩ 8 (by kernel_rfl) (by kernel_rfl) (by kernel_rfl) (by kernel_rfl)) ?_
  intro W base args ds gs before hval0 hW hcnd _
  have hval : ∀ (j : Nat) t v, Try.f5.params[j]? = some t → args[j]? = some v → Value.okWide Try.prog W .any base t v := hval0
  have hW' := hW
  obtain ⟨p, q, hA0, hV, _, hfz, hnd⟩ := hW
  have hA : DataW.TrodAll enc Try.prog W 0 (fun _ => true) true Try.f5.params.toList args.toList ds p := hA0
  rw [Try.params5] at hA hval
  obtain ⟨v0, v1, d0, d1, p0, p1, rfl, rfl, rfl, h0, h1⟩ := trodAll_two hA
  obtain ⟨t0, s0, rfl, n0⟩ := open_state (hval 0 40 v0 rfl rfl) h0
  obtain ⟨t1, s1, rfl, n1⟩ := open_state (hval 1 40 v1 rfl rfl) h1
  refine (vsays_any t0 s0 t1 s1 W).mono fun e W' ⟨he, hb⟩ => ?_
  exact ⟨_, he, law_post laid (by kernel_rfl) ⟨4, rfl, Try.underlying4⟩ rfl (fun ds hds => by
    match ds, hds with
    | [x0, x1], _ => rfl) hW' hb⟩

theorem vsays_law_holds : Rows.VowSaysSaid :=
  OpenClaim.holds_of_wide 5 Try.f5 rfl rfl rfl rfl rfl rfl rfl ⟨rfl, rfl, rfl, rfl, rfl⟩ rfl rfl rfl rfl rfl (by kernel_rfl) Try.func5 (by kernel_rfl)
    (of_decide_eq_true (by kernel_rfl)) (by unfold Func.isWrapper; first | (rw [if_pos (by decide +kernel)]; kernel_rfl) | (rw [if_neg (by decide +kernel)]; exact ⟨rfl, rfl⟩))
    (fun os started H enc _ => vsays_law_lifted os started H enc)
#print axioms vsays_law_holds
end Go.Proofs.Ytofhccpagnkalaa
