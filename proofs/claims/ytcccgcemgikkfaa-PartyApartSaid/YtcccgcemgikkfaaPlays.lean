/- The law PartyPlays: its walk; no conditions but what a reading gives. -/
import Derived.Test.YtcccgcemgikkfaaLives
namespace Go.Proofs.Ytcccgcemgikkfaa
open Go.RowKit Go.Maps Go.Proofs.Own

/-- A slice of notices, as it lies: the k-th one's fields are g k 0 .. g k 8. -/
def Notices (w : World) (a : Option Addr) (n : Nat) (g : Nat → Nat → Int) : Prop :=
  ∀ k, k < n → ∃ b o, a = some ⟨b, o, none⟩ ∧ (Lit.int .u64 (g k 0)).wf = true ∧ w.cell? ⟨b, o + k * 9, none⟩ = some (.int .u64 (g k 0)) ∧ w.cell? ⟨b, o + k * 9 + 1, none⟩ = some (.int .u64 (g k 1)) ∧ w.cell? ⟨b, o + k * 9 + 2, none⟩ = some (.int .i64 (g k 2)) ∧ w.cell? ⟨b, o + k * 9 + 3, none⟩ = some (.int .i64 (g k 3)) ∧ w.cell? ⟨b, o + k * 9 + 4, none⟩ = some (.int .i64 (g k 4)) ∧ w.cell? ⟨b, o + k * 9 + 5, none⟩ = some (.int .i64 (g k 5)) ∧ w.cell? ⟨b, o + k * 9 + 6, none⟩ = some (.int .i64 (g k 6)) ∧ w.cell? ⟨b, o + k * 9 + 7, none⟩ = some (.int .i64 (g k 7)) ∧ w.cell? ⟨b, o + k * 9 + 8, none⟩ = some (.int .i64 (g k 8))

theorem Notices.below {w w' : World} {a : Option Addr} {n : Nat} {g : Nat → Nat → Int} {B : Nat} (h : Notices w a n g) (hb : Below B w w') (hB : ∀ b o, a = some ⟨b, o, none⟩ → b < B) : Notices w' a n g := by
  intro k hk
  obtain ⟨b, o, e, hw, h0, h1, h2, h3, h4, h5, h6, h7, h8⟩ := h k hk
  have hl := hB b o e
  exact ⟨b, o, e, hw, Below.at hb h0 hl, Below.at hb h1 hl, Below.at hb h2 hl, Below.at hb h3 hl, Below.at hb h4 hl, Below.at hb h5 hl, Below.at hb h6 hl, Below.at hb h7 hl, Below.at hb h8 hl⟩

/-- What the law's loop carries on: the party, the reference's, both having heard lh. -/
structure Both (W wr : World) (b B : Nat) (F : Nat → Prop) (va : Option Addr) (vc : Nat) (num : Int) (lh : List Int) : Prop where
  party : PartyIs wr b F num lh
  reads : Reads wr .u64 (.slice va lh.length vc) lh
  fresh : ∀ k, F k → W.heap.size ≤ k ∧ k < wr.heap.size ∧ k ≠ B
  apart : ∀ g, (Value.slice va lh.length vc).ownBlock = some g → ¬ F g ∧ g < wr.heap.size ∧ g ≠ B
  c0 : wr.cell? ⟨B, 0, none⟩ = some (.int .i64 num)
  c1 : wr.cell? ⟨B, 1, none⟩ = some (.slice va lh.length vc)
  f0 : wr.frozen? ⟨B, 0, none⟩ = false
  f1 : wr.frozen? ⟨B, 1, none⟩ = false
  old : W.heap.size ≤ B
  below : Below W.heap.size W wr

theorem Both.later {W wr w' : World} {b B : Nat} {F : Nat → Prop} {va : Option Addr} {vc : Nat} {num : Int} {lh : List Int} (h : Both W wr b B F va vc num lh) (hb : Below wr.heap.size wr w') : Both W w' b B F va vc num lh :=
  have hB := World.block_lt_of_cell? _ _ h.c0
  ⟨h.party.below hb, h.reads.below hb, fun j hj => ⟨(h.fresh j hj).1, Nat.lt_of_lt_of_le (h.fresh j hj).2.1 hb.size, (h.fresh j hj).2.2⟩, fun j hj => ⟨(h.apart j hj).1, Nat.lt_of_lt_of_le (h.apart j hj).2.1 hb.size, (h.apart j hj).2.2⟩,
   Below.at hb h.c0 hB, Below.at hb h.c1 hB, by rw [hb.frozen hB]; exact h.f0, by rw [hb.frozen (p := ⟨B, 1, none⟩) hB]; exact h.f1, h.old, h.below.trans (hb.mono h.below.size)⟩

set_option maxHeartbeats 4000000 in
theorem plays_walk (num id : Int) (a : Option Addr) (n c : Nat) (g : Nat → Nat → Int) (w : World) (hid : (Lit.int .u64 id).wf = true) (h0 : 0 ≤ num) (h8 : num < 8) (hn : n ≤ 60) (hc : Notices w a n g) :
    Calls Try.prog 3 #[.int .i64 num, .slice a n c, .int .u64 id] w fun e w' => e = .returned (.bool true) ∧ Below w.heap.size w w' := by
  have hlt7 : ¬ 7 < num := by omega
  have hlt0 : ¬ num < 0 := by omega
  have HC := Lib.hid hc
  clear hc
  go_enter Try.func3, Try.ntmps3
  go_wp2_with fail
  refine (pnew num _ h0 h8).mono ?_
  rintro e w1 ⟨b, rfl, hb, hp, hb1⟩
  have hcap := hp.cap
  have HP := Lib.hid hcap
  have HB1 := Lib.hid hb1
  have hs1 := hb1.size
  have hbs : b < w1.heap.size := by obtain ⟨_, _, _, _, q⟩ := hp; exact World.block_lt_of_cell? _ _ q.c0
  clear hp hb1 hcap
  go_wp2_with fail
  go_loopw [36] (fun i wr => ∃ (k : Nat) (F : Nat → Prop) (va : Option Addr) (vc : Nat) (lh : List Int), k ≤ n ∧ i = .int .i64 k ∧ lh.length ≤ k ∧ Both w wr b w1.heap.size F va vc num lh) (fun i _ => n - (intOf i).toNat)
  case atStart =>
    refine ⟨0, fun k => w.heap.size ≤ k ∧ k < w1.heap.size, none, 0, [], Nat.zero_le _, rfl, Nat.le_refl _, HP.out.below ((Below.refl _ _).alloc (Nat.le_refl _) _), Reads.nil _ _ _ _, fun k hk => ⟨hk.1, ?_, ?_⟩, nofun, by simp, by simp, by simp [go_sem], by simp [go_sem], by omega, HB1.out.trans ((Below.refl _ _).alloc (by omega) _)⟩
    · have := hk.2; simp; omega
    · have := hk.2; omega
  case round =>
    obtain ⟨k, F, va, vc, lh, hk, rfl, hlk, hbo⟩ := hrel
    have HBo := Lib.hid hbo
    have hBs := World.block_lt_of_cell? _ _ hbo.c0
    have hBs' : w1.heap.size < wr.heap.size := hBs
    have c0 := hbo.c0
    have c1 := hbo.c1
    clear hbo hBs
    by_cases hlt : k < n
    · obtain ⟨nb, no, rfl, hwf, q0, q1, q2, q3, q4, q5, q6, q7, q8⟩ := HC.out k hlt
      have hnb := World.block_lt_of_cell? _ _ q0
      have hnb' : nb < w.heap.size := hnb
      have hws := HBo.out.below.size
      have hnb2 : nb < wr.heap.size := by omega
      replace q0 := Below.at HBo.out.below q0 hnb'
      replace q1 := Below.at HBo.out.below q1 hnb'
      replace q2 := Below.at HBo.out.below q2 hnb'
      replace q3 := Below.at HBo.out.below q3 hnb'
      replace q4 := Below.at HBo.out.below q4 hnb'
      replace q5 := Below.at HBo.out.below q5 hnb'
      replace q6 := Below.at HBo.out.below q6 hnb'
      replace q7 := Below.at HBo.out.below q7 hnb'
      replace q8 := Below.at HBo.out.below q8 hnb'
      clear hnb
      have i0 : (0 : Int) ≤ (k : Int) := by omega
      have i1 : (k : Int) < (n : Int) := by omega
      go_wp2_with fail
      refine (hear_any b F num lh (.slice va lh.length vc) (g k 0) (g k 1) (g k 2) (g k 3) (g k 4) (g k 5) (g k 6) (g k 7) (g k 8) _ (HBo.out.party.below ((Below.refl _ _).alloc (Nat.le_refl _) _)) (HBo.out.reads.alloc _)
        (fun j hj => by have := (HBo.out.fresh j hj).2.1; simp only [World.size_alloc]; omega) (fun j hj => ⟨(HBo.out.apart j hj).1, by have := (HBo.out.apart j hj).2.1; simp only [World.size_alloc]; omega⟩) hwf (by omega)).mono ?_
      rintro e w2 ⟨v, F2, rfl, hp2, hr2, hF2, hv2, hk2⟩
      have hlen2 := length_heard num lh (g k 3) (g k 0)
      generalize hlh : heard num lh (g k 3) (g k 0) = lh2 at hp2 hr2 hlen2
      clear hlh
      obtain ⟨va2, vc2, rfl⟩ := hr2.shape
      have hs2 := hk2.size
      simp only [World.size_alloc] at hs2
      have hnB : ¬ F w1.heap.size := fun h => (HBo.out.fresh _ h).2.2 rfl
      have b0 := hk2.cell (cell_alloc c0 _) hnB
      have b1 := hk2.cell (cell_alloc c1 _) hnB
      have g0 : w2.frozen? ⟨w1.heap.size, 0, none⟩ = false := by
        rw [hk2.frozen (by simp only [World.size_alloc]; omega) hnB, World.frozen?_alloc_old _ _ _ (by simp; omega)]; exact HBo.out.f0
      have g1 : w2.frozen? ⟨w1.heap.size, 1, none⟩ = false := by
        rw [hk2.frozen (by simp only [World.size_alloc]; omega) hnB, World.frozen?_alloc_old _ _ _ (by simp; omega)]; exact HBo.out.f1
      have hB2 : w1.heap.size < w2.heap.size := by omega
      have HP2 := Lib.hid hp2
      have HR2 := Lib.hid hr2
      have HF2 := Lib.hid hF2
      have HV2 := Lib.hid hv2
      have HK2 := Lib.hid hk2
      clear hp2 hr2 hF2 hv2 hk2 c0 c1 hnB
      go_wp2_with fail
      generalize hw3 : World.setCell (World.setCell _ _ _) _ _ = w3
      have hk3 : Kept w2 w3 (fun k => k = w1.heap.size) := by rw [← hw3]; exact (Kept.setCell _ ⟨w1.heap.size, 0, none⟩ _).trans (Kept.setCell _ ⟨w1.heap.size, 1, none⟩ _)
      have t0 : w3.cell? ⟨w1.heap.size, 0, none⟩ = some (.int .i64 num) := by
        rw [← hw3, World.cell?_setCell_other _ _ _ _ (by simp)]; exact World.cell?_setCell_same _ _ _ b0
      have t1 : w3.cell? ⟨w1.heap.size, 1, none⟩ = some (.slice va2 lh2.length vc2) := by
        rw [← hw3]; exact World.cell?_setCell_same _ _ _ (u := .slice va lh.length vc) (by rw [World.cell?_setCell_other _ _ _ _ (by simp)]; exact b1)
      have z0 : w3.frozen? ⟨w1.heap.size, 0, none⟩ = false := by rw [← hw3, World.frozen?_setCell, World.frozen?_setCell]; exact g0
      have z1 : w3.frozen? ⟨w1.heap.size, 1, none⟩ = false := by rw [← hw3, World.frozen?_setCell, World.frozen?_setCell]; exact g1
      have hs3 := hk3.size
      clear hw3 b0 b1 g0 g1
      have hnF2 : ∀ j, F2 j → ¬ (j = w1.heap.size) := fun j hj e => by
        subst e
        rcases (HF2.out _ hj).1 with h | h
        · exact (HBo.out.fresh _ h).2.2 rfl
        · simp only [World.size_alloc] at h; omega
      have hvB : ∀ j, (Value.slice va2 lh2.length vc2).ownBlock = some j → ¬ F2 j ∧ j < w2.heap.size ∧ j ≠ w1.heap.size := fun j hj => by
        obtain ⟨h1, h2, h3⟩ := HV2.out j hj
        refine ⟨h1, h2, ?_⟩
        rcases h3 with h | h
        · exact (HBo.out.apart j h).2.2
        · simp only [World.size_alloc] at h; omega
      have hboth : Both w w3 b w1.heap.size F2 va2 vc2 num lh2 := by
        refine ⟨HP2.out.kept hk3 hnF2, HR2.out.kept hk3 (fun j hj => (hvB j hj).2.2), fun j hj => ⟨?_, by have := (HF2.out j hj).2; omega, hnF2 j hj⟩, fun j hj => ⟨(hvB j hj).1, by have := (hvB j hj).2.1; omega, (hvB j hj).2.2⟩, t0, t1, z0, z1, HBo.out.old, ?_⟩
        · rcases (HF2.out j hj).1 with h | h
          · exact (HBo.out.fresh j h).1
          · simp only [World.size_alloc] at h; omega
        · have hA : Kept w wr (fun _ => False) := Kept.of_below HBo.out.below fun k h1 h2 => by omega
          have hB : Kept w w3 (fun k => w.heap.size ≤ k) := ((hA.mono (fun _ _ h => h.elim)).trans (Kept.alloc _ _ _)).trans ((HK2.out.mono (fun j _ hj => (HBo.out.fresh j hj).1)).trans (hk3.mono (fun j _ hj => by have := HBo.out.old; omega)))
          exact hB.below (Nat.le_refl _) fun _ h => h
      have hboth' : Both w (w3.alloc (.cells #[.int .i64 num, .slice va2 lh2.length vc2] 29)) b w1.heap.size F2 va2 vc2 num lh2 :=
        ⟨hboth.party.below ((Below.refl _ _).alloc (Nat.le_refl _) _), hboth.reads.alloc _, fun j hj => ⟨(hboth.fresh j hj).1, by have := (hboth.fresh j hj).2.1; simp only [World.size_alloc]; omega, (hboth.fresh j hj).2.2⟩,
          fun j hj => ⟨(hboth.apart j hj).1, by have := (hboth.apart j hj).2.1; simp only [World.size_alloc]; omega, (hboth.apart j hj).2.2⟩, cell_alloc t0 _, cell_alloc t1 _, by rw [World.frozen?_alloc_old _ _ _ (by simp; omega)]; exact z0, by rw [World.frozen?_alloc_old _ _ _ (by simp; omega)]; exact z1,
          hboth.old, hboth.below.trans ((Below.refl _ _).alloc hboth.below.size _)⟩
      have hB5 := Lib.hid hboth'
      clear hboth hboth' t0 t1 z0 z1 hk3 hs3 hnF2 hvB
      generalize World.alloc _ _ = w5 at hB5 ⊢
      have j0 := hB5.out.c0
      have j1 := hB5.out.c1
      have HP3 : Hid (PartyIs w5 b F2 num lh2) := hB5.out.party
      have HR3 : Hid (Reads w5 .u64 (.slice va2 lh2.length vc2) lh2) := hB5.out.reads
      refine region_start [0, 1, 3, 7, 7, 31, 7, 7, 255, 511, 1023] 32 (fun w' => w'.cell? ⟨w1.heap.size, 0, none⟩ = some (.int .i64 num) ∧ w'.cell? ⟨w1.heap.size, 1, none⟩ = some (.slice va2 lh2.length vc2)) (by kernel_rfl) ?_
      refine stage_heads [0, 1, 2, 3, 4, 6, 7] (by kernel_rfl) (L := #[true, true, true, true, true, false, true, true, false, false, false]) (by kernel_rfl) (f' := 4) rfl (fun _ _ _ _ h => h) (fun w o ⟨y1, y2⟩ => ⟨cell_alloc y1 o, cell_alloc y2 o⟩) (.inr ⟨j0, j1⟩) ?_   -- 0:move 1:unOp 2:move 3:move 4:move 6:load 7:move
      simp only [List.flatMap_cons, List.flatMap_nil, List.drop_succ_cons, List.drop_zero, List.take_succ_cons, List.take_zero, List.cons_append, List.nil_append, List.append_nil]
      iterate 7 (first | (refine heads_load _ (by rfl) (fun w' hs => by obtain ⟨y1, y2⟩ := hs; go_simp; try with_reducible rfl) rfl ?_; simp only [Act.put, List.setIfInBounds_toArray, List.set_cons_zero, List.set_cons_succ]) | (refine heads_pure _ (by rfl) (fun w' => by go_simp; try with_reducible rfl) ?_; simp only [Act.put, List.setIfInBounds_toArray, List.set_cons_zero, List.set_cons_succ]))
      refine heads_nil ?_
      refine stage_op 5 (by kernel_rfl) (L := #[true, true, true, true, true, true, true, true, false, false, false]) (by kernel_rfl) ?_   -- call:go  S ANEW
      simp only [List.drop_succ_cons, List.drop_zero, List.take_succ_cons, List.take_zero]
      go_wp2_with fail; refine (ptimes b F2 num id lh2 _ (HP3.out.below ((Below.refl _ _).drew)) hid).mono ?_; rintro e w' ⟨rfl, rfl⟩; go_wp2_with fail
      refine step_post (fun _ => ⟨j0, j1⟩) ?_
      refine stage_op 8 (by kernel_rfl) (L := #[true, true, true, true, true, true, true, true, true, false, false]) (by kernel_rfl) ?_   -- call:go
      simp only [List.drop_succ_cons, List.drop_zero, List.take_succ_cons, List.take_zero]
      go_wp2_with fail; refine (times_any num id (.slice va2 lh2.length vc2) lh2 _ HR3.out.drew (by omega)).mono ?_; rintro e w4 ⟨rfl, hb4⟩; have hc4 : Below w5.heap.size w5 w4 := (Below.drew (Below.refl _ _)).trans hb4; go_wp2_with fail
      refine step_post nofun ?_
      refine stage_heads [9, 10] (by kernel_rfl) (L := #[true, true, true, true, true, true, true, true, true, true, true]) (by kernel_rfl) (f' := 0) rfl (fun _ _ _ _ h => h) (fun w o ⟨y1, y2⟩ => ⟨cell_alloc y1 o, cell_alloc y2 o⟩) (.inl (by kernel_rfl)) ?_   -- 9:binOp 10:pick
      simp only [List.flatMap_cons, List.flatMap_nil, List.drop_succ_cons, List.drop_zero, List.take_succ_cons, List.take_zero, List.cons_append, List.nil_append, List.append_nil]
      iterate 2 (refine heads_pure _ (by rfl) (fun w' => by go_simp; try with_reducible rfl) ?_; simp only [Act.put, List.setIfInBounds_toArray, List.set_cons_zero, List.set_cons_succ])
      refine heads_nil ?_
      refine stage_done (by kernel_rfl) ?_
      go_wp2_with fail
      go_roundw
      case rel => exact ⟨k + 1, F2, va2, vc2, lh2, by omega, by go_num, by omega, hB5.out.later hc4⟩
      case measure => simp [intOf]; omega
    · go_wp2_with fail
      refine (lives_any _).mono ?_
      rintro e w2 ⟨rfl, hb2⟩
      go_wp2_with fail
      go_ret
      exact ⟨rfl, HBo.out.below.trans (hb2.mono HBo.out.below.size)⟩

theorem plays_bad (num id : Int) (a : Option Addr) (n c : Nat) (w : World) (h : num < 0 ∨ 8 ≤ num) :
    Calls Try.prog 3 #[.int .i64 num, .slice a n c, .int .u64 id] w fun e w' => e = .returned (.bool true) ∧ Below w.heap.size w w' := by
  rcases h with h | h
  · go_enter Try.func3, Try.ntmps3
    go_wp2_with (first
      | (go_at_call 7; refine (pnew_bad num _ (.inl h)).mono ?_; rintro e w' ⟨rfl, rfl⟩)
      | (go_at_call 8; refine (lives_any _).mono ?_; rintro e w2 ⟨rfl, hb2⟩))
    go_ret
    exact ⟨rfl, hb2⟩
  · have h' : ¬ num < 0 := by omega
    go_enter Try.func3, Try.ntmps3
    go_wp2_with (first
      | (go_at_call 7; refine (pnew_bad num _ (.inr h)).mono ?_; rintro e w' ⟨rfl, rfl⟩)
      | (go_at_call 8; refine (lives_any _).mono ?_; rintro e w2 ⟨rfl, hb2⟩))
    go_ret
    exact ⟨rfl, hb2⟩

theorem plays_long (num id : Int) (a : Option Addr) (n c : Nat) (w : World) (h0 : 0 ≤ num) (h8 : num < 8) (hn : 60 < n) (hm : n ≤ 9223372036854775807) :
    Calls Try.prog 3 #[.int .i64 num, .slice a n c, .int .u64 id] w fun e w' => e = .returned (.bool true) ∧ Below w.heap.size w w' := by
  have hlt7 : ¬ 7 < num := by omega
  have hlt0 : ¬ num < 0 := by omega
  have hn' : (60 : Int) < (n : Int) := by omega
  go_enter Try.func3, Try.ntmps3
  go_wp2_with fail
  refine (pnew num _ h0 h8).mono ?_
  rintro e w1 ⟨b, rfl, hb, hp, hb1⟩
  go_wp2_with fail
  refine (lives_any _).mono ?_
  rintro e w2 ⟨rfl, hb2⟩
  go_wp2_with fail
  go_ret
  exact ⟨rfl, hb1.trans (hb2.mono hb1.size)⟩
end Go.Proofs.Ytcccgcemgikkfaa
