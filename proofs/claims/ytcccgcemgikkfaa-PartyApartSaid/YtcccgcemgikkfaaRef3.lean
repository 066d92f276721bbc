/- Contract of the reference's Hear; no conditions but the lengths. -/
import Derived.Test.YtcccgcemgikkfaaRef2
import Derived.Test.YtcccgcemgikkfaaPlan
import Derived.Deep.DrawnRows
import Derived.Deep.DeepCutAuto
import Derived.Deep.RegionLaw
namespace Go.Proofs.Ytcccgcemgikkfaa
open Go.RowKit Go.Maps Go.Proofs.Own
attribute [local go_sem ↓] Go.wp_at_zero Go.wp_at_succ

set_option maxHeartbeats 2000000 in
theorem rhear_yes (num id x1 x2 x4 x5 x6 x7 x8 : Int) (sv : Value) (l : List Int) (w : World) (hr : Reads w .u64 sv l) (hl : l.length ≤ 1000000) (hid : (id == 0) = false) :
    Calls Try.prog 26 #[.agg #[.int .i64 num, sv], .agg #[.int .u64 id, .int .u64 x1, .int .i64 x2, .int .i64 num, .int .i64 x4, .int .i64 x5, .int .i64 x6, .int .i64 x7, .int .i64 x8]] w
      fun e w' => ∃ v, e = .returned (.tuple #[.agg #[.int .i64 num, v], .bool (((l.count id : Nat) : Int) == 0), .int .i64 0]) ∧ Owns w' w.heap.size 23 .u64 v (l ++ [id]) ∧ Below w.heap.size w w' := by
  have hr0 := Lib.hid hr
  obtain ⟨a, c, rfl, hc⟩ := hr
  have hnn : (num != num) = false := by simp
  go_enter Try.func26, Try.ntmps26
  go_wp2_with (go_at_call 11; refine (times_any _ _ _ _ _ (((hr0.out.alloc _).alloc _).alloc _) (by omega)).mono ?_; rintro e w1 ⟨rfl, hb1⟩)
  have hs1 := hb1.size
  simp only [World.size_alloc] at hs1
  have d0 : w1.cell? ⟨w.heap.size, 0, none⟩ = some (.int .i64 num) := Below.at hb1 (by go_cell) (by simp only [World.size_alloc]; omega)
  have d1 : w1.cell? ⟨w.heap.size, 1, none⟩ = some (.slice a l.length c) := Below.at hb1 (by go_cell) (by simp only [World.size_alloc]; omega)
  have d2 : w1.cell? ⟨w.heap.size + 1, 0, none⟩ = some (.int .u64 id) := Below.at hb1 (by go_cell) (by simp only [World.size_alloc]; omega)
  have d3 : w1.cell? ⟨w.heap.size + 1 + 1, 0, none⟩ = some (.int .i64 0) := Below.at hb1 (by go_cell) (by simp only [World.size_alloc]; omega)
  have d4 : w1.cell? ⟨w.heap.size + 1 + 1, 1, none⟩ = some (.slice none 0 0) := Below.at hb1 (by go_cell) (by simp only [World.size_alloc]; omega)
  have f1 : w1.frozen? ⟨w.heap.size, 1, none⟩ = false := by rw [hb1.frozen (by simp only [World.size_alloc]; omega)]; simp [go_sem]
  have f2 : w1.frozen? ⟨w.heap.size + 1 + 1, 1, none⟩ = false := by rw [hb1.frozen (by simp only [World.size_alloc]; omega)]; simp [go_sem]
  have f3 : w1.frozen? ⟨w.heap.size + 1 + 1, 0, none⟩ = false := by rw [hb1.frozen (by simp only [World.size_alloc]; omega)]; simp [go_sem]
  have hr1 : Reads w1 .u64 (.slice a l.length c) l := (((hr0.out.alloc _).alloc _).alloc _).below hb1
  have hbw : Below w.heap.size w w1 := ((((Below.refl _ _).alloc (Nat.le_refl _) _).alloc (by simp) _).alloc (by simp; omega) _).trans (hb1.mono (by simp; omega))
  have HB := Lib.hid hbw
  have HR1 := Lib.hid hr1
  clear hb1 hr1 hc hbw
  go_upto_region 4 with fail
  go_cut [4] (fun s4 wx => s4 = .pointer (some ⟨w.heap.size + 1 + 1, 0, none⟩) ∧ ∃ v, wx.cell? ⟨w.heap.size, 0, none⟩ = some (.int .i64 num) ∧ wx.cell? ⟨w.heap.size, 1, none⟩ = some v ∧ wx.cell? ⟨w.heap.size + 1 + 1, 0, none⟩ = some (.int .i64 0) ∧ wx.cell? ⟨w.heap.size + 1 + 1, 1, none⟩ = some (.slice none 0 0) ∧
    wx.frozen? ⟨w.heap.size + 1 + 1, 0, none⟩ = false ∧ wx.frozen? ⟨w.heap.size + 1 + 1, 1, none⟩ = false ∧ Owns wx (w.heap.size + 1 + 1 + 1) 23 .u64 v (l ++ [id]) ∧ Below w.heap.size w wx)
  case first =>
    refine region_start [0, 0, 2, 7, 0, 16, 48, 127, 255, 511] 8 (fun w' => w'.cell? ⟨w.heap.size, 1, none⟩ = some (.slice a l.length c) ∧ w'.cell? ⟨w.heap.size + 1, 0, none⟩ = some (.int .u64 id)) (by kernel_rfl) ?_
    refine stage_heads [1, 2, 4, 5] (by kernel_rfl) (L := #[false, true, true, false, true, true, false, false, false, false]) (by kernel_rfl) (f' := 6) rfl (fun _ _ _ _ h => h) (fun w o ⟨x1, x2⟩ => ⟨cell_alloc x1 o, cell_alloc x2 o⟩) (.inr ⟨d1, d2⟩) ?_   -- 1:fieldAddr 2:load 4:fieldAddr 5:load
    simp only [List.flatMap_cons, List.flatMap_nil, List.drop_succ_cons, List.drop_zero, List.take_succ_cons, List.take_zero, List.cons_append, List.nil_append, List.append_nil]
    refine heads_pure _ (by rfl) (fun w' => by go_simp; try with_reducible rfl) ?_
    simp only [Act.put, List.setIfInBounds_toArray, List.set_cons_zero, List.set_cons_succ]
    refine heads_load _ (by rfl) (fun w' hs => by obtain ⟨x1, x2⟩ := hs; go_simp; try with_reducible rfl) rfl ?_
    simp only [Act.put, List.setIfInBounds_toArray, List.set_cons_zero, List.set_cons_succ]
    refine heads_pure _ (by rfl) (fun w' => by go_simp; try with_reducible rfl) ?_
    simp only [Act.put, List.setIfInBounds_toArray, List.set_cons_zero, List.set_cons_succ]
    refine heads_load _ (by rfl) (fun w' hs => by obtain ⟨x1, x2⟩ := hs; go_simp; try with_reducible rfl) rfl ?_
    simp only [Act.put, List.setIfInBounds_toArray, List.set_cons_zero, List.set_cons_succ]
    refine heads_nil ?_
    refine stage_two 0 6 (by kernel_rfl) (Lj := #[true, true, true, false, true, true, false, false, false, false]) (Lk := #[false, true, true, false, true, true, true, false, false, false]) (by kernel_rfl) (by kernel_rfl) ?_ ?_   -- buildSlice, buildSlice
    · simp only [List.drop_succ_cons, List.drop_zero, List.take_succ_cons, List.take_zero]
      go_wp2   -- buildSlice
      refine step_post nofun ?_
      refine stage_two 3 6 (by kernel_rfl) (Lj := #[true, true, true, true, true, true, false, false, false, false]) (Lk := #[true, true, true, false, true, true, true, false, false, false]) (by kernel_rfl) (by kernel_rfl) ?_ ?_   -- call:append, buildSlice
      · simp only [List.drop_succ_cons, List.drop_zero, List.take_succ_cons, List.take_zero]
        go_wp2_with (at_builtin; refine wpList_append_ints Try.u64s _ _ rfl (w.heap.size + 1 + 1 + 1) (.slice (some ⟨w1.heap.size, 0, none⟩) 0 0) (.slice a l.length c) [] l rfl rfl (Owns.empty (heap_alloc_new _ _) (by omega)).drew (HR1.out.alloc _).drew (by decide) (by simp; omega) (by simp; omega) rfl ?_; intro v2 w2 hown2 hgr2 hat2 hnil2 hbel2); have hsz2 := hbel2.size; simp only [World.size_alloc, World.size_drew] at hsz2; rw [List.nil_append] at hown2; simp only [Value.ownBlock] at hgr2; have hb2 : Below (w.heap.size + 1 + 1 + 1) w1 w2 := (((Below.refl _ _).alloc (by omega) _).drew).trans hbel2
        refine step_post (fun _ => ⟨Below.at hb2 d1 (by simp; omega), Below.at hb2 d2 (by simp)⟩) ?_
        refine stage_op 6 (by kernel_rfl) (L := #[true, true, true, true, true, true, true, false, false, false]) (by kernel_rfl) ?_   -- buildSlice
        simp only [List.drop_succ_cons, List.drop_zero, List.take_succ_cons, List.take_zero]
        go_wp2
        refine step_post nofun ?_
        refine stage_op 7 (by kernel_rfl) (L := #[true, true, true, true, true, true, true, true, false, false]) (by kernel_rfl) ?_   -- call:append
        simp only [List.drop_succ_cons, List.drop_zero, List.take_succ_cons, List.take_zero]
        obtain ⟨va, vc, rfl⟩ := hown2.shape; go_wp2_with (at_builtin; refine wpList_append_ints Try.u64s _ _ rfl (w.heap.size + 1 + 1 + 1) (.slice va l.length vc) (.slice (some ⟨w2.heap.size, 0, none⟩) 1 1) l [id] rfl rfl (hown2.alloc _) (Reads.one _ _ _ _) (by decide) (by simp; omega) (by first | omega | (simp; omega)) rfl ?_; intro v3 w3 hown3 hgr3 hat3 hnil3 hbel3); obtain ⟨vb, vd, rfl⟩ := hown3.shape; have hb3 : Below (w.heap.size + 1 + 1 + 1) w1 w3 := hb2.trans (((Below.refl _ _).alloc (by omega) _).trans hbel3); have e1 := Below.at hb3 d1 (by simp; omega); have g1 : w3.frozen? ⟨w.heap.size, 1, none⟩ = false := by rw [hb3.frozen (by simp; omega)]; exact f1
        refine step_post nofun ?_
        refine stage_heads [8] (by kernel_rfl) (L := #[true, true, true, true, true, true, true, true, true, false]) (by kernel_rfl) (f' := 1) rfl (fun _ _ _ _ h => h) (fun w o ⟨x1, x2⟩ => ⟨cell_alloc x1 o, cell_alloc x2 o⟩) (.inl (by kernel_rfl)) ?_   -- 8:fieldAddr
        simp only [List.flatMap_cons, List.flatMap_nil, List.drop_succ_cons, List.drop_zero, List.take_succ_cons, List.take_zero, List.cons_append, List.nil_append, List.append_nil]
        refine heads_pure _ (by rfl) (fun w' => by go_simp; try with_reducible rfl) ?_
        simp only [Act.put, List.setIfInBounds_toArray, List.set_cons_zero, List.set_cons_succ]
        refine heads_nil ?_
        refine stage_op 9 (by kernel_rfl) (L := #[true, true, true, true, true, true, true, true, true, true]) (by kernel_rfl) ?_   -- store
        simp only [List.drop_succ_cons, List.drop_zero, List.take_succ_cons, List.take_zero]
        go_wp2
        refine step_post nofun ?_
        refine stage_done (by kernel_rfl) ?_
        go_wp2_with fail
        go_meet
        refine ⟨rfl, .slice vb (l.length + 1) vd, by go_simp; exact Below.at hb3 d0 (by simp; omega), by go_simp, by go_simp; exact Below.at hb3 d3 (by simp), by go_simp; exact Below.at hb3 d4 (by simp), by go_simp; rw [hb3.frozen (by simp)]; exact f3, by go_simp; rw [hb3.frozen (by simp)]; exact f2, ?_, ?_⟩
        · have q := hown3.kept_setCell (a := ⟨w.heap.size, 1, none⟩) (.slice vb (l.length + 1) vd) (show w.heap.size < _ by omega)
          simpa using q
        · exact (HB.out.trans (hb3.mono (by omega))).setCell (Nat.le_refl _) _
      · simp only [List.drop_succ_cons, List.drop_zero, List.take_succ_cons, List.take_zero]
        go_wp2   -- buildSlice
        refine step_post nofun ?_
        refine stage_op 3 (by kernel_rfl) (L := #[true, true, true, true, true, true, true, false, false, false]) (by kernel_rfl) ?_   -- call:append  S ANEW
        simp only [List.drop_succ_cons, List.drop_zero, List.take_succ_cons, List.take_zero]
        go_wp2_with (at_builtin; refine wpList_append_ints Try.u64s _ _ rfl (w.heap.size + 1 + 1 + 1) (.slice (some ⟨w1.heap.size, 0, none⟩) 0 0) (.slice a l.length c) [] l rfl rfl (Owns.empty (heap_old (heap_alloc_new _ _) _) (by omega)).drew ((HR1.out.alloc _).alloc _).drew (by decide) (by simp; omega) (by simp; omega) rfl ?_; intro v2 w2 hown2 hgr2 hat2 hnil2 hbel2); have hsz2 := hbel2.size; simp only [World.size_alloc, World.size_drew] at hsz2; rw [List.nil_append] at hown2; simp only [Value.ownBlock] at hgr2; have hb2 : Below (w.heap.size + 1 + 1 + 1) w1 w2 := ((((Below.refl _ _).alloc (by omega) _).alloc (by simp; omega) _).drew).trans hbel2
        refine step_post (fun _ => ⟨Below.at hb2 d1 (by simp; omega), Below.at hb2 d2 (by simp)⟩) ?_
        refine stage_op 7 (by kernel_rfl) (L := #[true, true, true, true, true, true, true, true, false, false]) (by kernel_rfl) ?_   -- call:append
        simp only [List.drop_succ_cons, List.drop_zero, List.take_succ_cons, List.take_zero]
        obtain ⟨va, vc, rfl⟩ := hown2.shape; go_wp2_with (at_builtin; refine wpList_append_ints Try.u64s _ _ rfl (w.heap.size + 1 + 1 + 1) (.slice va l.length vc) (.slice (some ⟨w1.heap.size + 1, 0, none⟩) 1 1) l [id] rfl rfl hown2 (Reads.block1 (heap_grown (heap_dr (heap_at (w := w1.alloc _) (by simp) _)) hgr2 (by simp))) (by decide) (by simp; omega) (by first | omega | (simp; omega)) rfl ?_; intro v3 w3 hown3 hgr3 hat3 hnil3 hbel3); obtain ⟨vb, vd, rfl⟩ := hown3.shape; have hb3 : Below (w.heap.size + 1 + 1 + 1) w1 w3 := hb2.trans ((Below.refl _ _).trans hbel3); have e1 := Below.at hb3 d1 (by simp; omega); have g1 : w3.frozen? ⟨w.heap.size, 1, none⟩ = false := by rw [hb3.frozen (by simp; omega)]; exact f1
        refine step_post nofun ?_
        refine stage_heads [8] (by kernel_rfl) (L := #[true, true, true, true, true, true, true, true, true, false]) (by kernel_rfl) (f' := 1) rfl (fun _ _ _ _ h => h) (fun w o ⟨x1, x2⟩ => ⟨cell_alloc x1 o, cell_alloc x2 o⟩) (.inl (by kernel_rfl)) ?_   -- 8:fieldAddr
        simp only [List.flatMap_cons, List.flatMap_nil, List.drop_succ_cons, List.drop_zero, List.take_succ_cons, List.take_zero, List.cons_append, List.nil_append, List.append_nil]
        refine heads_pure _ (by rfl) (fun w' => by go_simp; try with_reducible rfl) ?_
        simp only [Act.put, List.setIfInBounds_toArray, List.set_cons_zero, List.set_cons_succ]
        refine heads_nil ?_
        refine stage_op 9 (by kernel_rfl) (L := #[true, true, true, true, true, true, true, true, true, true]) (by kernel_rfl) ?_   -- store
        simp only [List.drop_succ_cons, List.drop_zero, List.take_succ_cons, List.take_zero]
        go_wp2
        refine step_post nofun ?_
        refine stage_done (by kernel_rfl) ?_
        go_wp2_with fail
        go_meet
        refine ⟨rfl, .slice vb (l.length + 1) vd, by go_simp; exact Below.at hb3 d0 (by simp; omega), by go_simp, by go_simp; exact Below.at hb3 d3 (by simp), by go_simp; exact Below.at hb3 d4 (by simp), by go_simp; rw [hb3.frozen (by simp)]; exact f3, by go_simp; rw [hb3.frozen (by simp)]; exact f2, ?_, ?_⟩
        · have q := hown3.kept_setCell (a := ⟨w.heap.size, 1, none⟩) (.slice vb (l.length + 1) vd) (show w.heap.size < _ by omega)
          simpa using q
        · exact (HB.out.trans (hb3.mono (by omega))).setCell (Nat.le_refl _) _
    · simp only [List.drop_succ_cons, List.drop_zero, List.take_succ_cons, List.take_zero]
      go_wp2   -- buildSlice
      refine step_post nofun ?_
      refine stage_op 0 (by kernel_rfl) (L := #[true, true, true, false, true, true, true, false, false, false]) (by kernel_rfl) ?_   -- buildSlice
      simp only [List.drop_succ_cons, List.drop_zero, List.take_succ_cons, List.take_zero]
      go_wp2
      refine step_post nofun ?_
      refine stage_op 3 (by kernel_rfl) (L := #[true, true, true, true, true, true, true, false, false, false]) (by kernel_rfl) ?_   -- call:append  S ANEW
      simp only [List.drop_succ_cons, List.drop_zero, List.take_succ_cons, List.take_zero]
      go_wp2_with (at_builtin; refine wpList_append_ints Try.u64s _ _ rfl (w.heap.size + 1 + 1 + 1) (.slice (some ⟨w1.heap.size + 1, 0, none⟩) 0 0) (.slice a l.length c) [] l rfl rfl (Owns.empty (heap_at (w := w1.alloc _) (by simp) _) (by omega)).drew ((HR1.out.alloc _).alloc _).drew (by decide) (by simp; omega) (by simp; omega) rfl ?_; intro v2 w2 hown2 hgr2 hat2 hnil2 hbel2); have hsz2 := hbel2.size; simp only [World.size_alloc, World.size_drew] at hsz2; rw [List.nil_append] at hown2; simp only [Value.ownBlock] at hgr2; have hb2 : Below (w.heap.size + 1 + 1 + 1) w1 w2 := ((((Below.refl _ _).alloc (by omega) _).alloc (by simp; omega) _).drew).trans hbel2
      refine step_post (fun _ => ⟨Below.at hb2 d1 (by simp; omega), Below.at hb2 d2 (by simp)⟩) ?_
      refine stage_op 7 (by kernel_rfl) (L := #[true, true, true, true, true, true, true, true, false, false]) (by kernel_rfl) ?_   -- call:append
      simp only [List.drop_succ_cons, List.drop_zero, List.take_succ_cons, List.take_zero]
      obtain ⟨va, vc, rfl⟩ := hown2.shape; go_wp2_with (at_builtin; refine wpList_append_ints Try.u64s _ _ rfl (w.heap.size + 1 + 1 + 1) (.slice va l.length vc) (.slice (some ⟨w1.heap.size, 0, none⟩) 1 1) l [id] rfl rfl hown2 (Reads.block1 (heap_grown (heap_dr (heap_old (heap_alloc_new _ _) _)) hgr2 (by simp))) (by decide) (by simp; omega) (by first | omega | (simp; omega)) rfl ?_; intro v3 w3 hown3 hgr3 hat3 hnil3 hbel3); obtain ⟨vb, vd, rfl⟩ := hown3.shape; have hb3 : Below (w.heap.size + 1 + 1 + 1) w1 w3 := hb2.trans ((Below.refl _ _).trans hbel3); have e1 := Below.at hb3 d1 (by simp; omega); have g1 : w3.frozen? ⟨w.heap.size, 1, none⟩ = false := by rw [hb3.frozen (by simp; omega)]; exact f1
      refine step_post nofun ?_
      refine stage_heads [8] (by kernel_rfl) (L := #[true, true, true, true, true, true, true, true, true, false]) (by kernel_rfl) (f' := 1) rfl (fun _ _ _ _ h => h) (fun w o ⟨x1, x2⟩ => ⟨cell_alloc x1 o, cell_alloc x2 o⟩) (.inl (by kernel_rfl)) ?_   -- 8:fieldAddr
      simp only [List.flatMap_cons, List.flatMap_nil, List.drop_succ_cons, List.drop_zero, List.take_succ_cons, List.take_zero, List.cons_append, List.nil_append, List.append_nil]
      refine heads_pure _ (by rfl) (fun w' => by go_simp; try with_reducible rfl) ?_
      simp only [Act.put, List.setIfInBounds_toArray, List.set_cons_zero, List.set_cons_succ]
      refine heads_nil ?_
      refine stage_op 9 (by kernel_rfl) (L := #[true, true, true, true, true, true, true, true, true, true]) (by kernel_rfl) ?_   -- store
      simp only [List.drop_succ_cons, List.drop_zero, List.take_succ_cons, List.take_zero]
      go_wp2
      refine step_post nofun ?_
      refine stage_done (by kernel_rfl) ?_
      go_wp2_with fail
      go_meet
      refine ⟨rfl, .slice vb (l.length + 1) vd, by go_simp; exact Below.at hb3 d0 (by simp; omega), by go_simp, by go_simp; exact Below.at hb3 d3 (by simp), by go_simp; exact Below.at hb3 d4 (by simp), by go_simp; rw [hb3.frozen (by simp)]; exact f3, by go_simp; rw [hb3.frozen (by simp)]; exact f2, ?_, ?_⟩
      · have q := hown3.kept_setCell (a := ⟨w.heap.size, 1, none⟩) (.slice vb (l.length + 1) vd) (show w.heap.size < _ by omega)
        simpa using q
      · exact (HB.out.trans (hb3.mono (by omega))).setCell (Nat.le_refl _) _
  
  case rest =>
    obtain ⟨rfl, v, e0, e1, e2, e3, e4, e5, ho, hbx⟩ := hcut
    have HO := Lib.hid ho
    have HB2 := Lib.hid hbx
    obtain ⟨a', c', rfl⟩ := ho.shape
    clear hbx ho
    go_wp2
    refine bodyPost_ret (v := .tuple #[.agg #[.int .i64 num, .slice a' (l ++ [id]).length c'], .bool (((l.count id : Nat) : Int) == 0), .int .i64 0]) ?_ rfl ?_
    · have k1 : ((wc.setCell ⟨w.heap.size + 1 + 1, 0, none⟩ (.int .i64 num)).setCell ⟨w.heap.size + 1 + 1, 1, none⟩ (.slice a' (l.length + 1) c')).cell? ⟨w.heap.size + 1 + 1, 1, none⟩ = some (.slice a' (l.length + 1) c') :=
        World.cell?_setCell_same _ _ _ (u := .slice none 0 0) (by rw [World.cell?_setCell_other _ _ _ _ (by simp)]; exact e3)
      have k0 : ((wc.setCell ⟨w.heap.size + 1 + 1, 0, none⟩ (.int .i64 num)).setCell ⟨w.heap.size + 1 + 1, 1, none⟩ (.slice a' (l.length + 1) c')).cell? ⟨w.heap.size + 1 + 1, 0, none⟩ = some (.int .i64 num) := by
        rw [World.cell?_setCell_other _ _ _ _ (by simp)]; exact World.cell?_setCell_same _ _ _ e2
      simp [results, Try.results26, go_sem, k0, k1]
    · refine ⟨_, rfl, ?_, (HB2.out.setCell (by simp; omega) _).setCell (by simp; omega) _⟩
      refine ((HO.out.kept_setCell _ (by simp)).kept_setCell _ (by simp)).lower fun b hb => ?_
      have := (HO.out.lt b hb).1
      omega
end Go.Proofs.Ytcccgcemgikkfaa
