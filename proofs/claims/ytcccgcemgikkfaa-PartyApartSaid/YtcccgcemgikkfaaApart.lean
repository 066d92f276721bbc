/- The law PartyApart: its walk; no conditions but what a reading gives. -/
import Derived.Test.YtcccgcemgikkfaaPlays
import Derived.Test.YtcccgcemgikkfaaClone
namespace Go.Proofs.Ytcccgcemgikkfaa
open Go.RowKit Go.Maps Go.Proofs.Own

/-- A notice that lies in a block of its own. -/
def NoteAt (w : World) (B : Nat) (x0 x1 x2 x3 x4 x5 x6 x7 x8 : Int) : Prop := (w.cell? ⟨B, 0, none⟩ = some (.int .u64 x0) ∧ w.cell? ⟨B, 1, none⟩ = some (.int .u64 x1) ∧ w.cell? ⟨B, 2, none⟩ = some (.int .i64 x2) ∧ w.cell? ⟨B, 3, none⟩ = some (.int .i64 x3) ∧ w.cell? ⟨B, 4, none⟩ = some (.int .i64 x4) ∧ w.cell? ⟨B, 5, none⟩ = some (.int .i64 x5) ∧ w.cell? ⟨B, 6, none⟩ = some (.int .i64 x6) ∧ w.cell? ⟨B, 7, none⟩ = some (.int .i64 x7) ∧ w.cell? ⟨B, 8, none⟩ = some (.int .i64 x8))
theorem NoteAt.kept {w w' : World} {B : Nat} {x0 x1 x2 x3 x4 x5 x6 x7 x8 : Int} {S : Nat → Prop} (h : NoteAt w B x0 x1 x2 x3 x4 x5 x6 x7 x8) (hk : Kept w w' S) (hs : ¬ S B) : NoteAt w' B x0 x1 x2 x3 x4 x5 x6 x7 x8 := by
  obtain ⟨h0, h1, h2, h3, h4, h5, h6, h7, h8⟩ := h
  exact ⟨hk.cell h0 hs, hk.cell h1 hs, hk.cell h2 hs, hk.cell h3 hs, hk.cell h4 hs, hk.cell h5 hs, hk.cell h6 hs, hk.cell h7 hs, hk.cell h8 hs⟩
theorem NoteAt.below {w w' : World} {B C : Nat} {x0 x1 x2 x3 x4 x5 x6 x7 x8 : Int} (h : NoteAt w B x0 x1 x2 x3 x4 x5 x6 x7 x8) (hb : Below C w w') (hs : B < C) : NoteAt w' B x0 x1 x2 x3 x4 x5 x6 x7 x8 := by
  refine h.kept (Kept.of_below hb (S := fun k => C ≤ k) fun k _ h => h) (by omega)

/-- A party that hears nothing: nil, or one that no call made. -/
def Dead (w : World) (p : Option Addr) : Prop := p = none ∨ ∃ b, p = some ⟨b, 0, none⟩ ∧ w.cell? ⟨b, 1, none⟩ = some (.map none)
theorem Dead.below {w w' : World} {p : Option Addr} {C : Nat} (h : Dead w p) (hb : Below C w w') (hs : C = w.heap.size) : Dead w' p := by
  rcases h with h | ⟨b, h, c⟩
  · exact .inl h
  · exact .inr ⟨b, h, Below.at hb c (by rw [hs]; exact World.block_lt_of_cell? _ _ c)⟩
theorem phear_dead (p : Option Addr) (x0 x1 x2 x3 x4 x5 x6 x7 x8 : Int) (w : World) (h : Dead w p) :
    Calls Try.prog 12 #[.pointer p, .agg #[.int .u64 x0, .int .u64 x1, .int .i64 x2, .int .i64 x3, .int .i64 x4, .int .i64 x5, .int .i64 x6, .int .i64 x7, .int .i64 x8]] w fun e w' => e = .returned (.tuple #[.bool false, .int .i64 1]) ∧ Below w.heap.size w w' := by
  rcases h with rfl | ⟨b, rfl, c⟩
  · exact phear_nil x0 x1 x2 x3 x4 x5 x6 x7 x8 w
  · exact phear_none b x0 x1 x2 x3 x4 x5 x6 x7 x8 w c
theorem ptimes_dead (p : Option Addr) (x : Int) (w : World) (h : Dead w p) : Calls Try.prog 10 #[.pointer p, .int .u64 x] w fun e w' => e = .returned (.int .i64 0) ∧ w = w' := by
  rcases h with rfl | ⟨b, rfl, c⟩
  · exact ptimes_nil x w
  · exact ptimes_none b x w c
theorem pmost_dead (p : Option Addr) (w : World) (h : Dead w p) : Calls Try.prog 16 #[.pointer p] w fun e w' => e = .returned (.int .i64 0) ∧ w = w' := by
  rcases h with rfl | ⟨b, rfl, c⟩
  · exact pmost_nil w
  · exact pmost_none b w c
theorem pdid_dead (p : Option Addr) (w : World) (h : Dead w p) : Calls Try.prog 14 #[.pointer p] w fun e w' => e = .returned (.slice none 0 0) ∧ w = w' := by
  rcases h with rfl | ⟨b, rfl, c⟩
  · exact pdid_nil w
  · exact pdid_none b w c

set_option maxHeartbeats 8000000 in
theorem apart_walk (a : Option Addr) (n c : Nat) (g : Nat → Nat → Int) (y0 y1 y2 y3 y4 y5 y6 y7 y8 z0 z1 z2 z3 z4 z5 z6 z7 z8 : Int) (w : World) (hy : (Lit.int .u64 y0).wf = true) (hz : (Lit.int .u64 z0).wf = true) (hn : n ≤ 60) (hc : Notices w a n g) :
    Calls Try.prog 5 #[.slice a n c, .agg #[.int .u64 y0, .int .u64 y1, .int .i64 y2, .int .i64 y3, .int .i64 y4, .int .i64 y5, .int .i64 y6, .int .i64 y7, .int .i64 y8], .agg #[.int .u64 z0, .int .u64 z1, .int .i64 z2, .int .i64 z3, .int .i64 z4, .int .i64 z5, .int .i64 z6, .int .i64 z7, .int .i64 z8]] w fun e w' => e = .returned (.bool true) ∧ Below w.heap.size w w' := by
  have HC := Lib.hid hc
  have HY := Lib.hid hy
  have HZ := Lib.hid hz
  clear hc hy hz
  go_enter Try.func5, Try.ntmps5
  go_wp2_with fail
  generalize hW : World.alloc (World.alloc _ _) _ = W
  have ny : NoteAt W w.heap.size y0 y1 y2 y3 y4 y5 y6 y7 y8 := by subst hW; refine ⟨?_, ?_, ?_, ?_, ?_, ?_, ?_, ?_, ?_⟩ <;> go_cell
  have nz : NoteAt W (w.heap.size + 1) z0 z1 z2 z3 z4 z5 z6 z7 z8 := by subst hW; refine ⟨?_, ?_, ?_, ?_, ?_, ?_, ?_, ?_, ?_⟩ <;> go_cell
  have hWs : W.heap.size = w.heap.size + 2 := by subst hW; simp
  have hWb : Below w.heap.size w W := by subst hW; exact ((Below.refl _ _).alloc (Nat.le_refl _) _).alloc (by simp) _
  have NY := Lib.hid ny
  have NZ := Lib.hid nz
  have HWB := Lib.hid hWb
  clear hW ny nz hWb
  refine (pnew 0 _ (by decide) (by decide)).mono ?_
  rintro e w1 ⟨b, rfl, hb, hp, hb1⟩
  have hcap := hp.cap
  have HP := Lib.hid hcap
  have HB1 := Lib.hid hb1
  have hs1 := hb1.size
  have hbs : b < w1.heap.size := by obtain ⟨_, _, _, _, q⟩ := hp; exact World.block_lt_of_cell? _ _ q.c0
  clear hp hb1 hcap
  go_wp2_with fail
  go_loopw [29] (fun i wr => ∃ (k : Nat) (F : Nat → Prop) (va : Option Addr) (vc : Nat) (lh : List Int), k ≤ n ∧ i = .int .i64 k ∧ lh.length ≤ k ∧ Both W wr b w1.heap.size F va vc 0 lh) (fun i _ => n - (intOf i).toNat)
  case atStart =>
    refine ⟨0, fun k => W.heap.size ≤ k ∧ k < w1.heap.size, none, 0, [], Nat.zero_le _, rfl, Nat.le_refl _, HP.out.below ((Below.refl _ _).alloc (Nat.le_refl _) _), Reads.nil _ _ _ _, fun k hk => ⟨hk.1, ?_, ?_⟩, (fun g hg => by cases hg), by simp, by simp, by simp [go_sem], by simp [go_sem], hs1, HB1.out.trans ((Below.refl _ _).alloc hs1 _)⟩
    · have := hk.2; simp; omega
    · have := hk.2; omega
  case round =>
    obtain ⟨k, F, va, vc, lh, hk, rfl, hlk, hbo⟩ := hrel
    have HBo := Lib.hid hbo
    have hBs := World.block_lt_of_cell? _ _ hbo.c0
    have hBs' : w1.heap.size < wr.heap.size := hBs
    have c0 := hbo.c0
    have c1 := hbo.c1
    clear hbo hBs
    by_cases hlt : k < n
    · obtain ⟨nb, no, rfl, hwf, q0, q1, q2, q3, q4, q5, q6, q7, q8⟩ := HC.out k hlt
      have hnb := World.block_lt_of_cell? _ _ q0
      have hnb' : nb < w.heap.size := hnb
      have hws := HBo.out.below.size
      have hnb2 : nb < wr.heap.size := by omega
      have hbw : Below w.heap.size w wr := HWB.out.trans (HBo.out.below.mono (by omega))
      replace q0 := Below.at hbw q0 hnb'
      replace q1 := Below.at hbw q1 hnb'
      replace q2 := Below.at hbw q2 hnb'
      replace q3 := Below.at hbw q3 hnb'
      replace q4 := Below.at hbw q4 hnb'
      replace q5 := Below.at hbw q5 hnb'
      replace q6 := Below.at hbw q6 hnb'
      replace q7 := Below.at hbw q7 hnb'
      replace q8 := Below.at hbw q8 hnb'
      clear hnb hbw
      have i0 : (0 : Int) ≤ (k : Int) := by omega
      have i1 : (k : Int) < (n : Int) := by omega
      go_wp2_with fail
      refine (hear_any b F 0 lh (.slice va lh.length vc) (g k 0) (g k 1) (g k 2) (g k 3) (g k 4) (g k 5) (g k 6) (g k 7) (g k 8) _ (HBo.out.party.below ((Below.refl _ _).alloc (Nat.le_refl _) _)) (HBo.out.reads.alloc _)
        (fun j hj => by have := (HBo.out.fresh j hj).2.1; simp only [World.size_alloc]; omega) (fun j hj => ⟨(HBo.out.apart j hj).1, by have := (HBo.out.apart j hj).2.1; simp only [World.size_alloc]; omega⟩) hwf (by omega)).mono ?_
      rintro e w2 ⟨v, F2, rfl, hp2, hr2, hF2, hv2, hk2⟩
      have hlen2 := length_heard 0 lh (g k 3) (g k 0)
      generalize hlh : heard 0 lh (g k 3) (g k 0) = lh2 at hp2 hr2 hlen2
      clear hlh
      obtain ⟨va2, vc2, rfl⟩ := hr2.shape
      have hs2 := hk2.size
      simp only [World.size_alloc] at hs2
      have hnB : ¬ F w1.heap.size := fun h => (HBo.out.fresh _ h).2.2 rfl
      have b0 := hk2.cell (cell_alloc c0 _) hnB
      have b1 := hk2.cell (cell_alloc c1 _) hnB
      have g0 : w2.frozen? ⟨w1.heap.size, 0, none⟩ = false := by
        rw [hk2.frozen (by simp only [World.size_alloc]; omega) hnB, World.frozen?_alloc_old _ _ _ (by simp; omega)]; exact HBo.out.f0
      have g1 : w2.frozen? ⟨w1.heap.size, 1, none⟩ = false := by
        rw [hk2.frozen (by simp only [World.size_alloc]; omega) hnB, World.frozen?_alloc_old _ _ _ (by simp; omega)]; exact HBo.out.f1
      have hB2 : w1.heap.size < w2.heap.size := by omega
      have HP2 := Lib.hid hp2
      have HR2 := Lib.hid hr2
      have HF2 := Lib.hid hF2
      have HV2 := Lib.hid hv2
      have HK2 := Lib.hid hk2
      clear hp2 hr2 hF2 hv2 hk2 c0 c1 hnB
      go_wp2_with fail
      generalize hw3 : World.setCell (World.setCell _ _ _) _ _ = w3
      have hk3 : Kept w2 w3 (fun k => k = w1.heap.size) := by rw [← hw3]; exact (Kept.setCell _ ⟨w1.heap.size, 0, none⟩ _).trans (Kept.setCell _ ⟨w1.heap.size, 1, none⟩ _)
      have t0 : w3.cell? ⟨w1.heap.size, 0, none⟩ = some (.int .i64 0) := by
        rw [← hw3, World.cell?_setCell_other _ _ _ _ (by simp)]; exact World.cell?_setCell_same _ _ _ b0
      have t1 : w3.cell? ⟨w1.heap.size, 1, none⟩ = some (.slice va2 lh2.length vc2) := by
        rw [← hw3]; exact World.cell?_setCell_same _ _ _ (u := .slice va lh.length vc) (by rw [World.cell?_setCell_other _ _ _ _ (by simp)]; exact b1)
      have z0 : w3.frozen? ⟨w1.heap.size, 0, none⟩ = false := by rw [← hw3, World.frozen?_setCell, World.frozen?_setCell]; exact g0
      have z1 : w3.frozen? ⟨w1.heap.size, 1, none⟩ = false := by rw [← hw3, World.frozen?_setCell, World.frozen?_setCell]; exact g1
      have hs3 := hk3.size
      clear hw3 b0 b1 g0 g1
      have hnF2 : ∀ j, F2 j → ¬ (j = w1.heap.size) := fun j hj e => by
        subst e
        rcases (HF2.out _ hj).1 with h | h
        · exact (HBo.out.fresh _ h).2.2 rfl
        · simp only [World.size_alloc] at h; omega
      have hvB : ∀ j, (Value.slice va2 lh2.length vc2).ownBlock = some j → ¬ F2 j ∧ j < w2.heap.size ∧ j ≠ w1.heap.size := fun j hj => by
        obtain ⟨h1, h2, h3⟩ := HV2.out j hj
        refine ⟨h1, h2, ?_⟩
        rcases h3 with h | h
        · exact (HBo.out.apart j h).2.2
        · simp only [World.size_alloc] at h; omega
      have hboth : Both W w3 b w1.heap.size F2 va2 vc2 0 lh2 := by
        refine ⟨HP2.out.kept hk3 hnF2, HR2.out.kept hk3 (fun j hj => (hvB j hj).2.2), fun j hj => ⟨?_, by have := (HF2.out j hj).2; omega, hnF2 j hj⟩, fun j hj => ⟨(hvB j hj).1, by have := (hvB j hj).2.1; omega, (hvB j hj).2.2⟩, t0, t1, z0, z1, HBo.out.old, ?_⟩
        · rcases (HF2.out j hj).1 with h | h
          · exact (HBo.out.fresh j h).1
          · simp only [World.size_alloc] at h; omega
        · have hA : Kept W wr (fun _ => False) := Kept.of_below HBo.out.below fun k h1 h2 => by omega
          have hB : Kept W w3 (fun k => W.heap.size ≤ k) := ((hA.mono (fun _ _ h => h.elim)).trans (Kept.alloc _ _ _)).trans ((HK2.out.mono (fun j _ hj => (HBo.out.fresh j hj).1)).trans (hk3.mono (fun j _ hj => by have := HBo.out.old; omega)))
          exact hB.below (Nat.le_refl _) fun _ h => h
      clear t0 t1 z0 z1 hk3 hs3 hnF2 hvB
      go_wp2_with fail
      go_roundw
      case rel => exact ⟨k + 1, F2, va2, vc2, lh2, by omega, by go_num, by omega, hboth⟩
      case measure => simp [intOf]; omega
    · have hny := NY.out.below HBo.out.below (by omega)
      have hnz := NZ.out.below HBo.out.below (by omega)
      have hbwr := HBo.out.below.size
      have HNZ := Lib.hid hnz
      have HNY := Lib.hid hny
      clear hny hnz
      have CL := pclone b F 0 lh wr HBo.out.party (by omega)
      go_wp2_with fail
      refine CL.mono ?_
      rintro e w2 ⟨p, rfl, hp2, hb2⟩
      have hbo2 := HBo.out.later hb2
      have HBo2 := Lib.hid hbo2
      have hp2c := hp2.cap
      have HP2 := Lib.hid hp2c
      have hs2 := hb2.size
      have hny := HNY.out.below hb2 (by omega)
      have hnz := HNZ.out.below hb2 (by omega)
      have HNY2 := Lib.hid hny
      have HNZ2 := Lib.hid hnz
      obtain ⟨y0c, y1c, y2c, y3c, y4c, y5c, y6c, y7c, y8c⟩ := hny
      have d0 := hbo2.c0
      have d1 := hbo2.c1
      have hyz : w.heap.size < w2.heap.size := by omega
      have hB2 : w1.heap.size < w2.heap.size := by omega
      have HA := Lib.hid (hear_any p (fun k => wr.heap.size ≤ k ∧ k < w2.heap.size) 0 lh (.slice va lh.length vc) y0 y1 y2 y3 y4 y5 y6 y7 y8 w2 HP2.out HBo2.out.reads (fun k hk => hk.2)
        (fun j hj => ⟨fun h => by have := (HBo.out.apart j hj).2.1; omega, by have := (HBo.out.apart j hj).2.1; omega⟩) HY.out (by omega))
      clear hbo2 hp2 hp2c hb2 hnz CL c0 c1
      go_wp2_with fail
      refine HA.out.mono ?_
      rintro e w3 ⟨v3, F3, rfl, hp3, hr3, hF3, hv3, hk3⟩
      have HK3 := Lib.hid hk3
      have hs3 := hk3.size
      obtain ⟨va3, vc3, rfl⟩ := hr3.shape
      have e0 := hk3.cell d0 (show ¬ (wr.heap.size ≤ w1.heap.size ∧ w1.heap.size < w2.heap.size) by omega)
      have e1 := hk3.cell d1 (show ¬ (wr.heap.size ≤ w1.heap.size ∧ w1.heap.size < w2.heap.size) by omega)
      have hnz3 := HNZ2.out.kept hk3 (show ¬ (wr.heap.size ≤ w.heap.size + 1 ∧ w.heap.size + 1 < w2.heap.size) by omega)
      have HNZ3 := Lib.hid hnz3
      have hB3 : w1.heap.size < w3.heap.size := by omega
      have hz3 : w.heap.size + 1 < w3.heap.size := by omega
      clear hp3 hr3 hF3 hv3 hk3 HA d0 d1
      clear y0c y1c y2c y3c y4c y5c y6c y7c y8c
      obtain ⟨y0c, y1c, y2c, y3c, y4c, y5c, y6c, y7c, y8c⟩ := hnz3
      have hp4 : PartyIs w3 b F 0 lh := HBo2.out.party.kept HK3.out fun j hj h => by have := (HBo.out.fresh j hj).2.1; omega
      have hr4 : Reads w3 .u64 (.slice va lh.length vc) lh := HBo2.out.reads.kept HK3.out fun j hj h => by have := (HBo.out.apart j hj).2.1; omega
      have HA := Lib.hid (fun o => hear_any b F 0 lh (.slice va lh.length vc) z0 z1 z2 z3 z4 z5 z6 z7 z8 (w3.alloc o) (hp4.below ((Below.refl _ _).alloc (Nat.le_refl _) _)) (hr4.alloc _) (fun j hj => by have := (HBo.out.fresh j hj).2.1; simp only [World.size_alloc]; omega)
        (fun j hj => ⟨(HBo.out.apart j hj).1, by have := (HBo.out.apart j hj).2.1; simp only [World.size_alloc]; omega⟩) HZ.out (by omega))
      clear hp4 hr4
      go_wp2_with fail
      refine (HA.out _).mono ?_
      rintro e w5 ⟨v5, F5, rfl, hp5, hr5, hF5, hv5, hk5⟩
      have hs5 := hk5.size
      simp only [World.size_alloc] at hs5
      obtain ⟨va5, vc5, rfl⟩ := hr5.shape
      have hk35 : Kept w3 w5 F := (Kept.alloc _ _ _).trans hk5
      have hny5 := (HNY2.out.kept HK3.out (show ¬ (wr.heap.size ≤ w.heap.size ∧ w.heap.size < w2.heap.size) by omega)).kept hk35 (fun h => by have := (HBo.out.fresh _ h).1; omega)
      have hb5 : Below w.heap.size w w5 := by
        have h1 : Below W.heap.size W w2 := HBo2.out.below
        have h2 : Below W.heap.size w2 w3 := HK3.out.below (by omega) fun k hk => by omega
        have h3 : Below W.heap.size w3 w5 := hk35.below (by omega) fun k hk => (HBo.out.fresh k hk).1
        exact HWB.out.trans (((h1.trans h2).trans h3).mono (by omega))
      have HNY5 := Lib.hid hny5
      have HB5 := Lib.hid hb5
      clear hp5 hr5 hF5 hv5 hk5 HA hk35 hny5 hb5
      clear y0c y1c y2c y3c y4c y5c y6c y7c y8c e0 e1
      go_wp2_with fail
      refine (pclone_nil _).mono ?_
      rintro e w6 ⟨rfl, rfl⟩
      go_wp2_with fail
      generalize hW6 : World.alloc (World.alloc (World.alloc (World.alloc w5 _) _) _) _ = W6
      have hsl : ∀ k, k < 3 → ∃ p, W6.cell? ⟨w5.heap.size + 3, k, none⟩ = some (.pointer p) ∧ Dead W6 p := fun k hk => by
        have hk' : k = 0 ∨ k = 1 ∨ k = 2 := by omega
        subst hW6
        rcases hk' with rfl | rfl | rfl
        · exact ⟨none, by go_cell, .inl rfl⟩
        · exact ⟨some ⟨w5.heap.size + 1, 0, none⟩, by go_cell, .inr ⟨_, rfl, by go_cell⟩⟩
        · exact ⟨some ⟨w5.heap.size + 1 + 1, 0, none⟩, by go_cell, .inr ⟨_, rfl, by go_cell⟩⟩
      have hb56 : Below w5.heap.size w5 W6 := by subst hW6; exact ((((Below.refl _ _).alloc (Nat.le_refl _) _).alloc (by simp) _).alloc (by simp; omega) _).alloc (by simp; omega) _
      have hs6 : W6.heap.size = w5.heap.size + 4 := by subst hW6; simp
      have hny6 := HNY5.out.below hb56 (by omega)
      have HNY6 := Lib.hid hny6
      have HSL := Lib.hid hsl
      have hb6 := HB5.out.trans (hb56.mono (by omega))
      have HB6 := Lib.hid hb6
      clear hb56 hW6 hny6 hsl hb6
      go_loopw [70] (fun i wr6 => ∃ (k : Nat), k ≤ 3 ∧ i = .int .i64 k ∧ Below W6.heap.size W6 wr6) (fun i _ => 3 - (intOf i).toNat)
      case atStart => exact ⟨0, by omega, rfl, Below.refl _ _⟩
      case round =>
        obtain ⟨k, hk, rfl, hb7⟩ := hrel
        have hs7 := hb7.size
        have HB7 := Lib.hid hb7
        by_cases hlt : k < 3
        · obtain ⟨q, hcq, hdq⟩ := HSL.out k hlt
          have hcq7 := Below.at hb7 hcq (show w5.heap.size + 3 < W6.heap.size by omega)
          have hdq7 := hdq.below hb7 rfl
          have hny7 := HNY6.out.below hb7 (by omega)
          obtain ⟨y0c, y1c, y2c, y3c, y4c, y5c, y6c, y7c, y8c⟩ := hny7
          have i0 : (0 : Int) ≤ (k : Int) := by omega
          have i1 : (k : Int) < 3 := by omega
          have HDQ := Lib.hid hdq7
          clear hb7 hcq hdq hdq7
          go_wp2_with fail
          refine (phear_dead q y0 y1 y2 y3 y4 y5 y6 y7 y8 _ HDQ.out).mono ?_
          rintro e w8 ⟨rfl, hb8⟩
          have HDQ8 := Lib.hid (HDQ.out.below hb8 rfl)
          have y0d := Below.at hb8 y0c (World.block_lt_of_cell? _ _ y0c)
          have HB8 := Lib.hid hb8
          clear hb8 y0c y1c y2c y3c y4c y5c y6c y7c y8c hcq7
          go_wp2_with fail
          refine (ptimes_dead q y0 _ HDQ8.out).mono ?_
          rintro e w9 ⟨rfl, rfl⟩
          go_wp2_with fail
          refine (pmost_dead q _ HDQ8.out).mono ?_
          rintro e w9 ⟨rfl, rfl⟩
          go_wp2_with fail
          refine (pdid_dead q _ HDQ8.out).mono ?_
          rintro e w9 ⟨rfl, rfl⟩
          go_wp2_with fail
          go_roundw
          case rel => exact ⟨k + 1, by omega, by go_num, HB7.out.trans (HB8.out.mono hs7)⟩
          case measure => simp [intOf]; omega
        · obtain rfl : k = 3 := by omega
          go_wp2_with fail
          refine (lives_any _).mono ?_
          rintro e w8 ⟨rfl, hb8⟩
          go_wp2_with fail
          go_ret
          exact ⟨rfl, HB6.out.trans ((HB7.out.mono (by have := HB6.out.size; omega)).trans (hb8.mono (by have := HB6.out.size; omega)))⟩

theorem apart_long (a : Option Addr) (n c : Nat) (y0 y1 y2 y3 y4 y5 y6 y7 y8 z0 z1 z2 z3 z4 z5 z6 z7 z8 : Int) (w : World) (hn : 60 < n) (hm : n ≤ 9223372036854775807) :
    Calls Try.prog 5 #[.slice a n c, .agg #[.int .u64 y0, .int .u64 y1, .int .i64 y2, .int .i64 y3, .int .i64 y4, .int .i64 y5, .int .i64 y6, .int .i64 y7, .int .i64 y8], .agg #[.int .u64 z0, .int .u64 z1, .int .i64 z2, .int .i64 z3, .int .i64 z4, .int .i64 z5, .int .i64 z6, .int .i64 z7, .int .i64 z8]] w fun e w' => e = .returned (.bool true) ∧ Below w.heap.size w w' := by
  have hn' : (60 : Int) < (n : Int) := by omega
  go_enter Try.func5, Try.ntmps5
  go_wp2_with fail
  refine (lives_any _).mono ?_
  rintro e w2 ⟨rfl, hb2⟩
  go_wp2_with fail
  go_ret
  exact ⟨rfl, (((Below.refl _ _).alloc (Nat.le_refl _) _).alloc (by simp) _).trans (hb2.mono (by simp; omega))⟩
end Go.Proofs.Ytcccgcemgikkfaa
