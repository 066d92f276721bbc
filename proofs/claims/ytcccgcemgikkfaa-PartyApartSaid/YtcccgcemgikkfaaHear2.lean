/- The contract of the program's Hear where it hears; no conditions but the lengths. -/
import Derived.Test.YtcccgcemgikkfaaHear
namespace Go.Proofs.Ytcccgcemgikkfaa
open Go.RowKit Go.Maps Go.Proofs.Own

theorem wf_count {l : List Int} (h : l.length ≤ 100000) (id : Int) : (Lit.int .i64 ((l.count id : Nat) + 1 : Int)).wf = true := by
  have : l.count id ≤ l.length := List.count_le_length
  exact WalkArith.wf_i64 (by omega)

theorem count_snoc' (l : List Int) (id id' : Int) : (l ++ [id]).count id' = l.count id' + if id = id' then 1 else 0 := by
  rw [List.count_append]; simp [List.count_cons]

theorem look_put {D : DataW Unit} {l : List Int} {id : Int} (hD : IsMap D) (hlook : ∀ id, (Lit.int .u64 id).wf = true → D.atKey (.int .u64 id) (.lit (.int .i64 0)) = .lit (.int .i64 (l.count id : Nat))) :
    ∀ id', (Lit.int .u64 id').wf = true → (D.put (.int .u64 id) (.lit (.int .i64 ((l.count id : Nat) + 1 : Int)))).atKey (.int .u64 id') (.lit (.int .i64 0)) = .lit (.int .i64 (((l ++ [id]).count id' : Nat) : Int)) := by
  intro id' hw
  rw [count_snoc']
  by_cases h : id' = id
  · subst h
    rw [atKey_put_same hD (by simp [WideAt.IsKeyLit])]
    simp
  · rw [atKey_put_other (by intro e; exact h (by simpa using e)), hlook id' hw, if_neg (Ne.symm h)]
    simp

theorem hear_done {w w4 w5 : World} {b bm n : Nat} {D : DataW Unit} {v : Value} {F : Nat → Prop} {num : Int} {l : List Int} {id : Int} (m0 : w4.cell? ⟨b, 0, none⟩ = some (.int .i64 num)) (m1 : w4.cell? ⟨b, 1, none⟩ = some (.map (some bm)))
    (m2 : w4.cell? ⟨b, 2, none⟩ = some v) (mf : w4.frozen? ⟨b, 2, none⟩ = false) (hown5 : w5.ownsMap Try.prog 23 (plainElem Try.prog 3) bm (n + 1) (D.put (.int .u64 id) (.lit (.int .i64 ((l.count id : Nat) + 1 : Int)))))
    (hturn : w4.drew.mapTurned w5 bm) (hD : IsMap D) (hlook : ∀ id, (Lit.int .u64 id).wf = true → D.atKey (.int .u64 id) (.lit (.int .i64 0)) = .lit (.int .i64 (l.count id : Nat))) (hrow : Owns w4 0 23 .u64 v (dd (l ++ [id])))
    (hB : ∀ g, v.ownBlock = some g → g ≠ b ∧ g ≠ bm ∧ (F g ∨ w.heap.size ≤ g)) (nl : n ≤ l.length) (wf : ∀ x ∈ l, (Lit.int .u64 x).wf = true) (hid : (Lit.int .u64 id).wf = true) (fb : F b) (fm : F bm) (nb : bm ≠ b) (hk : Kept w w4 F) :
    PartyIs w5 b (fun k => F k ∨ w.heap.size ≤ k) num (l ++ [id]) ∧ Kept w w5 F := by
  have hk5 : Kept w4 w5 (fun k => some bm = some k) := (Kept.drew _ _).trans (Kept.of_grown hturn.grown)
  have hbb : ¬ (some bm = some b) := fun e => nb (Option.some.inj e)
  refine ⟨⟨bm, n + 1, _, v, hk5.cell m0 hbb, hk5.cell m1 hbb, hk5.cell m2 hbb, ?_, hown5, by simp; omega, look_put hD hlook, hrow.kept hk5 (fun g hg e => (hB g hg).2.1 (Option.some.inj e).symm), ?_, .inl fb, .inl fm, fun g hg => (hB g hg).2.2, nb, fun g hg => ⟨(hB g hg).1, (hB g hg).2.1⟩⟩, ?_⟩
  · rw [hk5.frozen (World.block_lt_of_cell? _ _ m2) hbb]; exact mf
  · intro x hx
    rcases List.mem_append.1 hx with h | h
    · exact wf x h
    · obtain rfl : x = id := by simpa using h
      exact hid
  · exact hk.andThen hk5 fun k _ h => h.elim (fun h => h) (fun e => Option.some.inj e ▸ fm)

set_option maxHeartbeats 4000000 in
theorem phear_first (b : Nat) (F : Nat → Prop) (num : Int) (l : List Int) (id x1 x2 x4 x5 x6 x7 x8 : Int) (w : World) (hp : PartyIs w b F num l) (hid : (Lit.int .u64 id).wf = true) (h0 : (id == 0) = false) (hl : l.length ≤ 100000) (hcnt : l.count id = 0) :
    Calls Try.prog 12 #[.pointer (some ⟨b, 0, none⟩), .agg #[.int .u64 id, .int .u64 x1, .int .i64 x2, .int .i64 num, .int .i64 x4, .int .i64 x5, .int .i64 x6, .int .i64 x7, .int .i64 x8]] w
      fun e w' => e = .returned (.tuple #[.bool true, .int .i64 0]) ∧ PartyIs w' b (fun k => F k ∨ w.heap.size ≤ k) num (l ++ [id]) ∧ Kept w w' F := by
  obtain ⟨bm, n, D, v, hp⟩ := hp
  obtain ⟨va, vc, rfl⟩ := hp.row.shape
  have c1 := hp.c1
  have c0 := hp.c0
  have hbs := World.block_lt_of_cell? _ _ hp.c0
  have hn : (num != num) = false := by simp
  have hkey := keyOf_int_mk Try.underlying23 hid
  have hcw := wf_count hl id
  have hcw1 : (((l.count id : Nat) : Int) == 0) = true := by rw [hcnt]; rfl
  have hdl := length_dd l
  have hcl : l.count id ≤ l.length := List.count_le_length
  have hnl := hp.nl
  have HP := Lib.hid hp
  have HN : Hid (n < maxLen) := by unfold maxLen Hid; omega
  have HC := Lib.hid hcnt
  have e0 := cell_alloc c0 (.cells #[.int .u64 id, .int .u64 x1, .int .i64 x2, .int .i64 num, .int .i64 x4, .int .i64 x5, .int .i64 x6, .int .i64 x7, .int .i64 x8] 31)
  have e1 := cell_alloc c1 (.cells #[.int .u64 id, .int .u64 x1, .int .i64 x2, .int .i64 num, .int .i64 x4, .int .i64 x5, .int .i64 x6, .int .i64 x7, .int .i64 x8] 31)
  have mlook := Lib.hid hp.look
  clear hp hcnt
  go_enter Try.func12, Try.ntmps12
  go_wp2_with (go_at_call 29; refine (none_ptr b (some bm) _ e1).mono ?_; rintro e w' ⟨rfl, rfl⟩)
  go_quiet (fail)
  go_wp2_with fail
  generalize hwq : World.drewN _ _ = wq
  have hbq : Below w.heap.size w wq := by rw [← hwq]; exact below_drewN ((Below.refl _ _).alloc (Nat.le_refl _) _) _
  have cB : wq.cell? ⟨w.heap.size, 0, none⟩ = some (.int .u64 id) := by rw [← hwq]; simp
  have hsq : w.heap.size + 1 ≤ wq.heap.size := by rw [← hwq]; simp
  clear e0 e1 hwq
  have hkq : Kept w wq (fun _ => False) := Kept.of_below hbq fun k h1 h2 => by omega
  have hPq : Hid (PartyAt wq b bm n D (.slice va (dd l).length vc) F num l) :=
    ⟨hkq.cell HP.out.c0 (fun h => h), hkq.cell HP.out.c1 (fun h => h), hkq.cell HP.out.c2 (fun h => h), by rw [hkq.frozen hbs (fun h => h)]; exact HP.out.f2, by
      obtain ⟨es, clock, hh, r⟩ := HP.out.map
      exact ⟨es, clock, by rw [hkq.block bm (Array.getElem?_eq_some_iff.1 hh).1 (fun h => h)]; exact hh, r⟩, HP.out.nl, HP.out.look, HP.out.row.kept hkq (fun _ _ h => h), HP.out.wf, HP.out.fb, HP.out.fm, HP.out.fv, HP.out.nb, HP.out.nv⟩
  have c2 := hPq.out.c2
  refine (ptimes0 b bm n D id l _ hPq.out.c1 hPq.out.map mlook.out hid).mono ?_
  rintro e w' ⟨rfl, rfl⟩
  go_wp2
  refine region_start [0, 0, 2, 6, 14, 0, 32, 96, 254, 511, 1023, 2047] 0 (fun w' => w'.cell? ⟨b, 2, none⟩ = some (.slice va (dd l).length vc) ∧ w'.cell? ⟨w.heap.size, 0, none⟩ = some (.int .u64 id)) (by kernel_rfl) ?_
  refine stage_heads [0, 1, 2, 3, 4, 5, 6] (by kernel_rfl) (L := #[true, true, true, true, true, true, true, false, false, false, false, false]) (by kernel_rfl) (f' := 5) rfl (fun _ _ _ _ h => h) (fun w o ⟨x1, x2⟩ => ⟨cell_alloc x1 o, cell_alloc x2 o⟩) (.inr ⟨c2, cB⟩) ?_   -- 0:move 1:move 2:nilCheck 3:fieldAddr 4:load 5:fieldAddr 6:load
  simp only [List.flatMap_cons, List.flatMap_nil, List.drop_succ_cons, List.drop_zero, List.take_succ_cons, List.take_zero, List.cons_append, List.nil_append, List.append_nil]
  iterate 7 (first | (refine heads_load _ (by rfl) (fun w' hs => by obtain ⟨y1, y2⟩ := hs; go_simp; try with_reducible rfl) rfl ?_; simp only [Act.put, List.setIfInBounds_toArray, List.set_cons_zero, List.set_cons_succ]) | (refine heads_pure _ (by rfl) (fun w' => by go_simp; try with_reducible rfl) ?_; simp only [Act.put, List.setIfInBounds_toArray, List.set_cons_zero, List.set_cons_succ]))
  refine heads_nil ?_
  refine stage_op 7 (by kernel_rfl) (L := #[true, true, true, true, true, true, true, true, false, false, false, false]) (by kernel_rfl) ?_   -- buildSlice
  simp only [List.drop_succ_cons, List.drop_zero, List.take_succ_cons, List.take_zero]
  go_wp2
  refine step_post nofun ?_
  refine stage_op 8 (by kernel_rfl) (L := #[true, true, true, true, true, true, true, true, true, false, false, false]) (by kernel_rfl) ?_   -- call:append
  simp only [List.drop_succ_cons, List.drop_zero, List.take_succ_cons, List.take_zero]
  go_wp2_with (at_builtin; refine wpList_append_ints Try.u64s _ _ rfl 0 (.slice va (dd l).length vc) (.slice (some ⟨wq.heap.size, 0, none⟩) 1 1) (dd l) [id] rfl rfl (hPq.out.row.alloc _).drew (Reads.one _ _ _ _).drew (by decide) (by simp; omega) (Nat.zero_le _) rfl ?_; intro v3 w3 hown3 hgr3 hat3 hnil3 hbel3); obtain ⟨vb, vd, rfl⟩ := hown3.shape; have hk3 : Kept wq w3 (fun k => (Value.slice va (dd l).length vc).ownBlock = some k) := ((Kept.alloc _ _ _).trans (Kept.drew _ _)).trans (Kept.of_grown hgr3); have hnb2 : ¬ (Value.slice va (dd l).length vc).ownBlock = some b := fun e => (hPq.out.nv b e).1 rfl
  refine step_post nofun ?_
  refine stage_heads [9, 10] (by kernel_rfl) (L := #[true, true, true, true, true, true, true, true, true, true, true, false]) (by kernel_rfl) (f' := 1) rfl (fun _ _ _ _ h => h) (fun w o ⟨x1, x2⟩ => ⟨cell_alloc x1 o, cell_alloc x2 o⟩) (.inl (by kernel_rfl)) ?_   -- 9:nilCheck 10:fieldAddr
  simp only [List.flatMap_cons, List.flatMap_nil, List.drop_succ_cons, List.drop_zero, List.take_succ_cons, List.take_zero, List.cons_append, List.nil_append, List.append_nil]
  iterate 2 (refine heads_pure _ (by rfl) (fun w' => by go_simp; try with_reducible rfl) ?_; simp only [Act.put, List.setIfInBounds_toArray, List.set_cons_zero, List.set_cons_succ])
  refine heads_nil ?_
  refine stage_op 11 (by kernel_rfl) (L := #[true, true, true, true, true, true, true, true, true, true, true, true]) (by kernel_rfl) ?_   -- store
  simp only [List.drop_succ_cons, List.drop_zero, List.take_succ_cons, List.take_zero]
  have s2 := hk3.cell hPq.out.c2 hnb2; have g2 : w3.frozen? ⟨b, 2, none⟩ = false := by {rw [hk3.frozen (World.block_lt_of_cell? _ _ hPq.out.c2) hnb2]; exact hPq.out.f2}; go_wp2
  refine step_post nofun ?_
  refine stage_done (by kernel_rfl) ?_

  go_wp2_with fail
  generalize hw4 : World.setCell _ _ _ = w4
  have hkB : ¬ (Value.slice va (dd l).length vc).ownBlock = some w.heap.size := fun e => by have := (HP.out.row.lt _ e).2; omega
  have m1 : w4.cell? ⟨b, 1, none⟩ = some (.map (some bm)) := by rw [← hw4, World.cell?_setCell_other _ _ _ _ (by simp)]; exact hk3.cell hPq.out.c1 hnb2
  have m0 : w4.cell? ⟨b, 0, none⟩ = some (.int .i64 num) := by rw [← hw4, World.cell?_setCell_other _ _ _ _ (by simp)]; exact hk3.cell hPq.out.c0 hnb2
  have m2 : w4.cell? ⟨b, 2, none⟩ = some (.slice vb (dd l ++ [id]).length vd) := by rw [← hw4]; simpa using World.cell?_setCell_same w3 ⟨b, 2, none⟩ (.slice vb ((dd l).length + 1) vd) s2
  have mf : w4.frozen? ⟨b, 2, none⟩ = false := by rw [← hw4, World.frozen?_setCell]; exact g2
  have mB : w4.cell? ⟨w.heap.size, 0, none⟩ = some (.int .u64 id) := by rw [← hw4, World.cell?_setCell_other _ _ _ _ (by intro e; have := congrArg Addr.block e; simp at this; omega)]; exact hk3.cell cB hkB
  have mmap : w4.ownsMap Try.prog 23 (plainElem Try.prog 3) bm n D := by
    obtain ⟨es, clock, hh, r⟩ := hPq.out.map
    have h3 : w3.heap[bm]? = some (.map es clock) := by rw [hk3.block bm (Array.getElem?_eq_some_iff.1 hh).1 (fun e => (hPq.out.nv bm e).2 rfl)]; exact hh
    exact ⟨es, clock, by rw [← hw4, Below.heap_setCell _ _ _ _ hPq.out.nb]; exact h3, r⟩
  have hk4 : Kept wq w4 F := by
    rw [← hw4]
    exact hk3.andThen (Kept.setCell _ _ _) fun k _ h => h.elim (fun e => HP.out.fv k e) (fun e => e ▸ HP.out.fb)
  have hB4 : ∀ g, (Value.slice vb (dd l ++ [id]).length vd).ownBlock = some g → g ≠ b ∧ g ≠ bm ∧ (F g ∨ w.heap.size ≤ g) := fun g hg => by
    have hbm : bm < wq.heap.size := hPq.out.map.lt
    rcases hat3 with h | h
    · rw [h] at hg
      exact ⟨(hPq.out.nv g hg).1, (hPq.out.nv g hg).2, .inl (hPq.out.fv g hg)⟩
    · rw [h] at hg
      simp only [World.size_drew, World.size_alloc, Option.some.injEq] at hg
      exact ⟨by omega, by omega, .inr (by omega)⟩
  have hrow4 : Owns w4 0 23 .u64 (.slice vb (dd l ++ [id]).length vd) (dd l ++ [id]) := by
    rw [← hw4]
    exact hown3.kept (Kept.setCell _ _ _) fun g hg => (hB4 g hg).1
  have HB4 := Lib.hid hB4
  have HR4 := Lib.hid hrow4
  clear hB4 hrow4
  have hs4 := hk4.size
  clear hw4 s2 g2 hown3 hat3 hnil3 hbel3 hgr3 hk3
  refine region_start [0, 1, 3, 7, 0, 16, 0, 0, 128, 448, 960, 2047] 1536 (fun w' => w'.cell? ⟨b, 1, none⟩ = some (.map (some bm)) ∧ w'.cell? ⟨w.heap.size, 0, none⟩ = some (.int .u64 id)) (by kernel_rfl) ?_
  refine stage_heads [0, 1, 2, 3, 4, 5, 6, 7, 8] (by kernel_rfl) (L := #[true, true, true, true, true, true, true, true, true, false, false, false]) (by kernel_rfl) (f' := 3) rfl (fun _ _ _ _ h => h) (fun w o ⟨x1, x2⟩ => ⟨cell_alloc x1 o, cell_alloc x2 o⟩) (.inr ⟨m1, mB⟩) ?_   -- 0:move 1:nilCheck 2:fieldAddr 3:load 4:fieldAddr 5:load 6:move 7:fieldAddr 8:load
  simp only [List.flatMap_cons, List.flatMap_nil, List.drop_succ_cons, List.drop_zero, List.take_succ_cons, List.take_zero, List.cons_append, List.nil_append, List.append_nil]
  iterate 9 (first | (refine heads_load _ (by rfl) (fun w' hs => by obtain ⟨y1, y2⟩ := hs; go_simp; try with_reducible rfl) rfl ?_; simp only [Act.put, List.setIfInBounds_toArray, List.set_cons_zero, List.set_cons_succ]) | (refine heads_pure _ (by rfl) (fun w' => by go_simp; try with_reducible rfl) ?_; simp only [Act.put, List.setIfInBounds_toArray, List.set_cons_zero, List.set_cons_succ]))
  refine heads_nil ?_
  refine stage_op 9 (by kernel_rfl) (L := #[true, true, true, true, true, true, true, true, true, true, false, false]) (by kernel_rfl) ?_   -- call:go  S ANEW
  simp only [List.drop_succ_cons, List.drop_zero, List.take_succ_cons, List.take_zero]
  go_wp2_with (go_at_call 10; refine (ptimes0 b bm n D id l _ (cell_drew m1) mmap.drew mlook.out hid).mono ?_; rintro e w' ⟨rfl, rfl⟩)
  refine step_post (fun _ => ⟨m1, mB⟩) ?_
  refine stage_op 10 (by kernel_rfl) (L := #[true, true, true, true, true, true, true, true, true, true, true, false]) (by kernel_rfl) ?_   -- binOp  S ANEW
  simp only [List.drop_succ_cons, List.drop_zero, List.take_succ_cons, List.take_zero]
  go_wp2
  refine step_post (fun _ => ⟨m1, mB⟩) ?_
  refine stage_op 11 (by kernel_rfl) (L := #[true, true, true, true, true, true, true, true, true, true, true, true]) (by kernel_rfl) ?_   -- mapUpdate
  simp only [List.drop_succ_cons, List.drop_zero, List.take_succ_cons, List.take_zero]
  go_wp2_with (at_mapUpdate; refine wpList_mapUpdate_in _ rfl _ _ _ 44 rfl 23 3 law23 Try.underlying44 _ bm n D rfl mmap.drew HN.out _ _ _ rfl rfl hkey _ [] (plainElem_int Try.underlying3 hcw) ?_; intro w5 hown5 hturn5)
  refine step_post nofun ?_
  refine stage_done (by kernel_rfl) ?_

  go_wp2_with fail
  go_ret2
  have hdd : dd (l ++ [id]) = dd l ++ [id] := by rw [dd_snoc, ddStep, if_pos]; exact List.count_eq_zero.2 (fun h => List.count_eq_zero.1 HC.out ((mem_dd l id).1 h))
  exact ⟨rfl, hear_done m0 m1 m2 mf hown5 hturn5 HP.out.map.isMap mlook.out (by rw [hdd]; exact HR4.out) HB4.out hnl HP.out.wf hid HP.out.fb HP.out.fm HP.out.nb ((hkq.mono (fun _ _ h => h.elim)).trans hk4)⟩
set_option maxHeartbeats 4000000 in
theorem phear_again (b : Nat) (F : Nat → Prop) (num : Int) (l : List Int) (id x1 x2 x4 x5 x6 x7 x8 : Int) (w : World) (hp : PartyIs w b F num l) (hid : (Lit.int .u64 id).wf = true) (h0 : (id == 0) = false) (hl : l.length ≤ 100000) (hcnt : l.count id ≠ 0) :
    Calls Try.prog 12 #[.pointer (some ⟨b, 0, none⟩), .agg #[.int .u64 id, .int .u64 x1, .int .i64 x2, .int .i64 num, .int .i64 x4, .int .i64 x5, .int .i64 x6, .int .i64 x7, .int .i64 x8]] w
      fun e w' => e = .returned (.tuple #[.bool false, .int .i64 0]) ∧ PartyIs w' b (fun k => F k ∨ w.heap.size ≤ k) num (l ++ [id]) ∧ Kept w w' F := by
  obtain ⟨bm, n, D, v, hp⟩ := hp
  obtain ⟨va, vc, rfl⟩ := hp.row.shape
  have c1 := hp.c1
  have c0 := hp.c0
  have hbs := World.block_lt_of_cell? _ _ hp.c0
  have hn : (num != num) = false := by simp
  have hkey := keyOf_int_mk Try.underlying23 hid
  have hcw := wf_count hl id
  have hcw1 : (((l.count id : Nat) : Int) == 0) = false := by simp; omega
  have hdl := length_dd l
  have hcl : l.count id ≤ l.length := List.count_le_length
  have hnl := hp.nl
  have HP := Lib.hid hp
  have HN : Hid (n < maxLen) := by unfold maxLen Hid; omega
  have HC := Lib.hid hcnt
  have e0 := cell_alloc c0 (.cells #[.int .u64 id, .int .u64 x1, .int .i64 x2, .int .i64 num, .int .i64 x4, .int .i64 x5, .int .i64 x6, .int .i64 x7, .int .i64 x8] 31)
  have e1 := cell_alloc c1 (.cells #[.int .u64 id, .int .u64 x1, .int .i64 x2, .int .i64 num, .int .i64 x4, .int .i64 x5, .int .i64 x6, .int .i64 x7, .int .i64 x8] 31)
  have mlook := Lib.hid hp.look
  clear hp hcnt
  go_enter Try.func12, Try.ntmps12
  go_wp2_with (go_at_call 29; refine (none_ptr b (some bm) _ e1).mono ?_; rintro e w' ⟨rfl, rfl⟩)
  go_quiet (fail)
  go_wp2_with fail
  generalize hwq : World.drewN _ _ = wq
  have hbq : Below w.heap.size w wq := by rw [← hwq]; exact below_drewN ((Below.refl _ _).alloc (Nat.le_refl _) _) _
  have cB : wq.cell? ⟨w.heap.size, 0, none⟩ = some (.int .u64 id) := by rw [← hwq]; simp
  have hsq : w.heap.size + 1 ≤ wq.heap.size := by rw [← hwq]; simp
  clear e0 e1 hwq
  have hkq : Kept w wq (fun _ => False) := Kept.of_below hbq fun k h1 h2 => by omega
  have hPq : Hid (PartyAt wq b bm n D (.slice va (dd l).length vc) F num l) :=
    ⟨hkq.cell HP.out.c0 (fun h => h), hkq.cell HP.out.c1 (fun h => h), hkq.cell HP.out.c2 (fun h => h), by rw [hkq.frozen hbs (fun h => h)]; exact HP.out.f2, by
      obtain ⟨es, clock, hh, r⟩ := HP.out.map
      exact ⟨es, clock, by rw [hkq.block bm (Array.getElem?_eq_some_iff.1 hh).1 (fun h => h)]; exact hh, r⟩, HP.out.nl, HP.out.look, HP.out.row.kept hkq (fun _ _ h => h), HP.out.wf, HP.out.fb, HP.out.fm, HP.out.fv, HP.out.nb, HP.out.nv⟩
  refine (ptimes0 b bm n D id l _ hPq.out.c1 hPq.out.map mlook.out hid).mono ?_
  rintro e w' ⟨rfl, rfl⟩
  go_wp2
  have m1 := hPq.out.c1
  have mB := cB
  have mmap := hPq.out.map
  refine region_start [0, 1, 3, 7, 0, 16, 0, 0, 128, 448, 960, 2047] 1536 (fun w' => w'.cell? ⟨b, 1, none⟩ = some (.map (some bm)) ∧ w'.cell? ⟨w.heap.size, 0, none⟩ = some (.int .u64 id)) (by kernel_rfl) ?_
  refine stage_heads [0, 1, 2, 3, 4, 5, 6, 7, 8] (by kernel_rfl) (L := #[true, true, true, true, true, true, true, true, true, false, false, false]) (by kernel_rfl) (f' := 3) rfl (fun _ _ _ _ h => h) (fun w o ⟨x1, x2⟩ => ⟨cell_alloc x1 o, cell_alloc x2 o⟩) (.inr ⟨m1, mB⟩) ?_   -- 0:move 1:nilCheck 2:fieldAddr 3:load 4:fieldAddr 5:load 6:move 7:fieldAddr 8:load
  simp only [List.flatMap_cons, List.flatMap_nil, List.drop_succ_cons, List.drop_zero, List.take_succ_cons, List.take_zero, List.cons_append, List.nil_append, List.append_nil]
  iterate 9 (first | (refine heads_load _ (by rfl) (fun w' hs => by obtain ⟨y1, y2⟩ := hs; go_simp; try with_reducible rfl) rfl ?_; simp only [Act.put, List.setIfInBounds_toArray, List.set_cons_zero, List.set_cons_succ]) | (refine heads_pure _ (by rfl) (fun w' => by go_simp; try with_reducible rfl) ?_; simp only [Act.put, List.setIfInBounds_toArray, List.set_cons_zero, List.set_cons_succ]))
  refine heads_nil ?_
  refine stage_op 9 (by kernel_rfl) (L := #[true, true, true, true, true, true, true, true, true, true, false, false]) (by kernel_rfl) ?_   -- call:go  S ANEW
  simp only [List.drop_succ_cons, List.drop_zero, List.take_succ_cons, List.take_zero]
  go_wp2_with (go_at_call 10; refine (ptimes0 b bm n D id l _ (cell_drew m1) mmap.drew mlook.out hid).mono ?_; rintro e w' ⟨rfl, rfl⟩)
  refine step_post (fun _ => ⟨m1, mB⟩) ?_
  refine stage_op 10 (by kernel_rfl) (L := #[true, true, true, true, true, true, true, true, true, true, true, false]) (by kernel_rfl) ?_   -- binOp  S ANEW
  simp only [List.drop_succ_cons, List.drop_zero, List.take_succ_cons, List.take_zero]
  go_wp2
  refine step_post (fun _ => ⟨m1, mB⟩) ?_
  refine stage_op 11 (by kernel_rfl) (L := #[true, true, true, true, true, true, true, true, true, true, true, true]) (by kernel_rfl) ?_   -- mapUpdate
  simp only [List.drop_succ_cons, List.drop_zero, List.take_succ_cons, List.take_zero]
  go_wp2_with (at_mapUpdate; refine wpList_mapUpdate_in _ rfl _ _ _ 44 rfl 23 3 law23 Try.underlying44 _ bm n D rfl mmap.drew HN.out _ _ _ rfl rfl hkey _ [] (plainElem_int Try.underlying3 hcw) ?_; intro w5 hown5 hturn5)
  refine step_post nofun ?_
  refine stage_done (by kernel_rfl) ?_

  go_wp2_with fail
  go_ret2
  have hdd : dd (l ++ [id]) = dd l := by rw [dd_snoc, ddStep, if_neg]; exact fun h => List.count_eq_zero.1 h ((mem_dd l id).2 (List.count_pos_iff.1 (Nat.pos_of_ne_zero HC.out)))
  exact ⟨rfl, hear_done hPq.out.c0 m1 hPq.out.c2 hPq.out.f2 hown5 hturn5 HP.out.map.isMap mlook.out (by rw [hdd]; exact hPq.out.row) (fun g hg => ⟨(hPq.out.nv g hg).1, (hPq.out.nv g hg).2, .inl (hPq.out.fv g hg)⟩) hnl HP.out.wf hid HP.out.fb HP.out.fm HP.out.nb (hkq.mono (fun _ _ h => h.elim))⟩
end Go.Proofs.Ytcccgcemgikkfaa
