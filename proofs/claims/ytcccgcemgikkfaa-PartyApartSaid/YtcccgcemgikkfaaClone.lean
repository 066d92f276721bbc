/- The party's Clone, and what a party that is nil, or that no call made, tells. -/
import Derived.Test.YtcccgcemgikkfaaLives
import Derived.Shelf.SlMaps.Clone
namespace Go.Proofs.Ytcccgcemgikkfaa
open Go.RowKit Go.Maps Go.Proofs.Own

theorem ownsMap_below {w w' : World} {k : TypeId} {R : Value → Option (DataW Unit × List MemPlace)} {b n : Nat} {D : DataW Unit} (h : w.ownsMap Try.prog k R b n D) {B : Nat} (hb : Below B w w') (hB : b < B) : w'.ownsMap Try.prog k R b n D := by
  obtain ⟨es, clock, hh, r⟩ := h
  have := Kept.of_below hb (S := fun k => B ≤ k) fun k _ h => h
  exact ⟨es, clock, by rw [this.block b (Array.getElem?_eq_some_iff.1 hh).1 (by omega)]; exact hh, r⟩

set_option maxHeartbeats 2000000 in
theorem mclone (b n : Nat) (D : DataW Unit) (w : World) (hown : w.ownsMap Try.prog 23 (plainElem Try.prog 3) b n D) :
    Calls Try.prog 31 #[.map (some b)] w fun e w' => e = .returned (.map (some w.heap.size)) ∧ w'.ownsMap Try.prog 23 (plainElem Try.prog 3) w.heap.size n D ∧ Below w.heap.size w w' := by
  have hlt := hown.lt
  obtain ⟨es, clock, hb, hr⟩ := hown
  have hq := fun w => run_eql_map_nil_sl (P := Try.prog) w 44 _ _ (some b) Try.underlying44
  go_enter Try.func31, Try.ntmps31
  go_wp2
  rw [run_callFunc_extern Try.func38 (by kernel_rfl) (by kernel_rfl) (by kernel_rfl) (e := Extern.MapsClone.clone) (by kernel_rfl), run_maps_clone_sl w 44 hb]
  simp only [Result.andThen]
  rw [Oper.upon_value]
  go_wp2
  rw [run_typeAssert_map_sl _ 44 20 _ _ _ Try.underlying44]
  simp only [Result.andThen]
  rw [Oper.upon_value]
  go_wp2
  go_ret
  exact ⟨rfl, ⟨es, clock, (MapKept.heap_alloc w _).1, hr⟩, (Below.refl _ w).alloc (Nat.le_refl _) _⟩

set_option maxHeartbeats 2000000 in
theorem pclone (b : Nat) (F : Nat → Prop) (num : Int) (l : List Int) (w : World) (hp : PartyIs w b F num l) (hl : l.length ≤ 1000000) :
    Calls Try.prog 15 #[.pointer (some ⟨b, 0, none⟩)] w fun e w' => ∃ c, e = .returned (.pointer (some ⟨c, 0, none⟩)) ∧ PartyIs w' c (fun k => w.heap.size ≤ k) num l ∧ Below w.heap.size w w' := by
  have HPI := Lib.hid hp
  obtain ⟨bm, n, D, v, hp⟩ := hp
  have c0 := hp.c0
  have c1 := hp.c1
  have hbs := World.block_lt_of_cell? _ _ c0
  have hbs : b < w.heap.size := hbs
  have hPq := Lib.hid hp
  have hdl := length_dd l
  clear hp
  go_enter Try.func15, Try.ntmps15
  go_wp2_with (go_at_call 29; refine (none_ptr b (some bm) _ c1).mono ?_; rintro e w' ⟨rfl, rfl⟩)
  refine region_start [0, 1, 3, 7, 0, 16, 48, 112, 240, 0, 1008, 2047, 4095, 8191] 1280 (fun w' => w'.cell? ⟨b, 0, none⟩ = some (.int .i64 num) ∧ w'.cell? ⟨b, 1, none⟩ = some (.map (some bm))) (by kernel_rfl) ?_
  refine stage_heads [0, 1, 2, 3, 4, 5, 6, 7, 9] (by kernel_rfl) (L := #[true, true, true, true, true, true, true, true, false, true, false, false, false, false]) (by kernel_rfl) (f' := 5) rfl (fun _ _ _ _ h => h) (fun w o ⟨y1, y2⟩ => ⟨cell_alloc y1 o, cell_alloc y2 o⟩) (.inr ⟨c0, c1⟩) ?_   -- 0:move 1:nilCheck 2:fieldAddr 3:load 4:move 5:nilCheck 6:fieldAddr 7:load 9:move
  simp only [List.flatMap_cons, List.flatMap_nil, List.drop_succ_cons, List.drop_zero, List.take_succ_cons, List.take_zero, List.cons_append, List.nil_append, List.append_nil]
  iterate 9 (first | (refine heads_load _ (by rfl) (fun w' hs => by obtain ⟨y1, y2⟩ := hs; go_simp; try with_reducible rfl) rfl ?_; simp only [Act.put, List.setIfInBounds_toArray, List.set_cons_zero, List.set_cons_succ]) | (refine heads_pure _ (by rfl) (fun w' => by go_simp; try with_reducible rfl) ?_; simp only [Act.put, List.setIfInBounds_toArray, List.set_cons_zero, List.set_cons_succ]))
  refine heads_nil ?_
  refine stage_op 8 (by kernel_rfl) (L := #[true, true, true, true, true, true, true, true, true, true, false, false, false, false]) (by kernel_rfl) ?_   -- call:go  S ANEW
  simp only [List.drop_succ_cons, List.drop_zero, List.take_succ_cons, List.take_zero]
  go_wp2_with fail; refine (mclone bm n D w.drew (show w.drew.ownsMap Try.prog 23 (plainElem Try.prog 3) bm n D from hPq.out.map)).mono ?_; rintro e w1 ⟨rfl, hm1, hb1⟩; replace hm1 : w1.ownsMap Try.prog 23 (plainElem Try.prog 3) w.heap.size n D := hm1; replace hb1 : Below w.heap.size w w1 := ((Below.refl _ w).drew).trans hb1; have hlt1 : w.heap.size < w1.heap.size := hm1.lt; have HM1 := Lib.hid hm1; clear hm1; go_wp2_with fail
  refine step_post (fun _ => ⟨Below.at hb1 c0 hbs, Below.at hb1 c1 hbs⟩) ?_
  refine stage_op 10 (by kernel_rfl) (L := #[true, true, true, true, true, true, true, true, true, true, true, false, false, false]) (by kernel_rfl) ?_   -- call:go  S ANEW
  simp only [List.drop_succ_cons, List.drop_zero, List.take_succ_cons, List.take_zero]
  go_wp2_with fail; refine (pdid b F num l _ (HPI.out.below hb1) (by omega)).mono ?_; rintro e w2 ⟨v2, rfl, ho2, hb2⟩; have hs2 := hb2.size; obtain ⟨ra, rc, rfl⟩ := ho2.shape; have HO2 := Lib.hid ho2; clear ho2; go_wp2_with fail
  refine step_post (fun _ => ⟨Below.at hb2 (Below.at hb1 c0 hbs) (show b < w1.heap.size by have := hb1.size; omega), Below.at hb2 (Below.at hb1 c1 hbs) (show b < w1.heap.size by have := hb1.size; omega)⟩) ?_
  refine stage_heads [11] (by kernel_rfl) (L := #[true, true, true, true, true, true, true, true, true, true, true, true, false, false]) (by kernel_rfl) (f' := 2) rfl (fun _ _ _ _ h => h) (fun w o ⟨y1, y2⟩ => ⟨cell_alloc y1 o, cell_alloc y2 o⟩) (.inl (by kernel_rfl)) ?_   -- 11:build
  simp only [List.flatMap_cons, List.flatMap_nil, List.drop_succ_cons, List.drop_zero, List.take_succ_cons, List.take_zero, List.cons_append, List.nil_append, List.append_nil]
  iterate 1 (refine heads_pure _ (by rfl) (fun w' => by go_simp; try with_reducible rfl) ?_; simp only [Act.put, List.setIfInBounds_toArray, List.set_cons_zero, List.set_cons_succ])
  refine heads_nil ?_
  refine stage_op 12 (by kernel_rfl) (L := #[true, true, true, true, true, true, true, true, true, true, true, true, true, false]) (by kernel_rfl) ?_   -- box
  simp only [List.drop_succ_cons, List.drop_zero, List.take_succ_cons, List.take_zero]
  go_wp2_with fail
  refine step_post nofun ?_
  refine stage_heads [13] (by kernel_rfl) (L := #[true, true, true, true, true, true, true, true, true, true, true, true, true, true]) (by kernel_rfl) (f' := 0) rfl (fun _ _ _ _ h => h) (fun w o ⟨y1, y2⟩ => ⟨cell_alloc y1 o, cell_alloc y2 o⟩) (.inl (by kernel_rfl)) ?_   -- 13:assign
  simp only [List.flatMap_cons, List.flatMap_nil, List.drop_succ_cons, List.drop_zero, List.take_succ_cons, List.take_zero, List.cons_append, List.nil_append, List.append_nil]
  iterate 1 (refine heads_pure _ (by rfl) (fun w' => by go_simp; try with_reducible rfl) ?_; simp only [Act.put, List.setIfInBounds_toArray, List.set_cons_zero, List.set_cons_succ])
  refine heads_nil ?_
  refine stage_done (by kernel_rfl) ?_
  go_wp2_with fail
  go_ret
  have hb12 : Below w.heap.size w w2 := hb1.trans (hb2.mono (by omega))
  have ho3 := HO2.out
  have hB4 : ∀ o, Below w1.heap.size w1 (w2.alloc o) := fun o => hb2.trans ((Below.refl _ _).alloc hs2 _)
  refine ⟨w2.heap.size, rfl, ⟨w.heap.size, n, D, .slice ra (dd l).length rc, ?_, ?_, ?_, ?_, ownsMap_below HM1.out (hB4 _) hlt1, hPq.out.nl, hPq.out.look, (HO2.out.alloc _).lower (fun _ _ => Nat.zero_le _), hPq.out.wf, by omega, Nat.le_refl _, fun g hg => by have := (ho3.lt g hg).1; omega, by omega, fun g hg => by have := ho3.lt g hg; exact ⟨by omega, by omega⟩⟩, hb12.trans ((Below.refl _ _).alloc (by omega) _)⟩
  · simp
  · simp
  · simp
  · simp [go_sem]

/- What a nil party, or one that no call made, tells. -/
theorem pmost_nil (w : World) : Calls Try.prog 16 #[.pointer none] w fun e w' => e = .returned (.int .i64 0) ∧ w = w' := by
  go_enter Try.func16, Try.ntmps16
  go_wp2_with (go_at_call 14; refine (pdid_nil _).mono ?_; rintro e w' ⟨rfl, rfl⟩)
  go_loopw [2, 8] (fun m i wr => m = .int .i64 0 ∧ i = .int .i64 0 ∧ wr = w) (fun _ _ _ => 0)
  case atStart => exact ⟨rfl, rfl, rfl⟩
  case round =>
    obtain ⟨rfl, rfl, rfl⟩ := hrel
    go_wp2_with fail
    go_ret
    exact ⟨rfl, rfl⟩
theorem pmost_none (b : Nat) (w : World) (c1 : w.cell? ⟨b, 1, none⟩ = some (.map none)) : Calls Try.prog 16 #[.pointer (some ⟨b, 0, none⟩)] w fun e w' => e = .returned (.int .i64 0) ∧ w = w' := by
  go_enter Try.func16, Try.ntmps16
  go_wp2_with (go_at_call 14; refine (pdid_none b _ c1).mono ?_; rintro e w' ⟨rfl, rfl⟩)
  go_loopw [2, 8] (fun m i wr => m = .int .i64 0 ∧ i = .int .i64 0 ∧ wr = w) (fun _ _ _ => 0)
  case atStart => exact ⟨rfl, rfl, rfl⟩
  case round =>
    obtain ⟨rfl, rfl, rfl⟩ := hrel
    go_wp2_with fail
    go_ret
    exact ⟨rfl, rfl⟩
theorem pclone_nil (w : World) : Calls Try.prog 15 #[.pointer none] w fun e w' => e = .returned (.pointer (some ⟨w.heap.size, 0, none⟩)) ∧ w' = w.alloc (.cells #[.int .i64 0, .map none, .slice none 0 0] 46) := by
  go_enter Try.func15, Try.ntmps15
  go_wp2_with (go_at_call 29; refine (none_nil _).mono ?_; rintro e w' ⟨rfl, rfl⟩)
  go_ret
  exact ⟨rfl, rfl⟩
end Go.Proofs.Ytcccgcemgikkfaa
