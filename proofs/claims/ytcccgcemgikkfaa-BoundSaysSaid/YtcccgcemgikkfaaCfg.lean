/- A cluster's config makes a server's, both ways; no conditions but what the guards give. -/
import Derived.Test.YtcccgcemgikkfaaSnd
namespace Go.Proofs.Ytcccgcemgikkfaa
open Go.RowKit Go.Maps Go.Proofs.Own

set_option maxHeartbeats 2000000 in
theorem cconfig (S el bt ev rm : Int) (m : Nat) (w : World) (h1 : 1 ≤ m) (h7 : m ≤ 7) :
    Calls Try.prog 43 #[.agg #[.int .i64 S, .int .i64 m, .int .i64 el, .int .i64 bt, .int .i64 ev, .int .i64 rm], .int .i64 0] w fun e w' => ∃ v, e = .returned (.agg #[.int .i64 0, v, .int .i64 el, .int .i64 bt, .int .i64 ev]) ∧ Reads w' .i64 v (rng m) ∧ Below w.heap.size w w' := by
  have hx0 : ¬ (m : Int) < 0 := by omega
  have hx1 : (0 : Int) ≤ (m : Int) := by omega
  have hx2 : (0 : Int) < (m : Int) := by omega
  have hx7 : (m : Int) ≤ 7 := by omega
  have hx8 : ¬ (7 : Int) < (m : Int) := by omega
  have hmax : max (m : Int) 0 = m := by omega
  have hmin : min (m : Int) 7 = m := by omega
  go_enter Try.func43, Try.ntmps43
  go_wp2_with fail
  go_loopw [5, 11] (fun d i wr => ∃ k : Nat, k ≤ m ∧ i = .int .i64 k ∧ Owns wr (w.heap.size + 2) 3 .i64 d (rng k) ∧ Below (w.heap.size + 2) ((w.alloc (.cells #[.int .i64 S, .int .i64 m, .int .i64 el, .int .i64 bt, .int .i64 ev, .int .i64 rm] 51)).alloc (.cells #[.int .i64 0, .slice none 0 0, .int .i64 0, .int .i64 0, .int .i64 0] 75)) wr) (fun _ i _ => m - (intOf i).toNat)
  case atStart => exact ⟨0, by omega, rfl, by simpa [rng] using Owns.nil _ _ _ _, Below.refl _ _⟩
  case round =>
    obtain ⟨k, hk, rfl, hown, hbl⟩ := hrel
    obtain ⟨a', c', rfl⟩ := hown.shape
    have HO := Lib.hid hown
    have HB := Lib.hid hbl
    have hsz := hbl.size
    simp only [World.size_alloc] at hsz
    have hln : (rng k).length ≤ 7 := by rw [length_rng]; omega
    have c1 : wr.cell? ⟨w.heap.size, 1, none⟩ = some (.int .i64 m) := Below.at hbl (by go_cell) (by show w.heap.size < w.heap.size + 2; omega)
    have c2 : wr.cell? ⟨w.heap.size, 2, none⟩ = some (.int .i64 el) := Below.at hbl (by go_cell) (by show w.heap.size < w.heap.size + 2; omega)
    have c3 : wr.cell? ⟨w.heap.size, 3, none⟩ = some (.int .i64 bt) := Below.at hbl (by go_cell) (by show w.heap.size < w.heap.size + 2; omega)
    have c4 : wr.cell? ⟨w.heap.size, 4, none⟩ = some (.int .i64 ev) := Below.at hbl (by go_cell) (by show w.heap.size < w.heap.size + 2; omega)
    have hbs : w.heap.size < wr.heap.size := by omega
    have hbs1 : w.heap.size + 1 < wr.heap.size := by omega
    clear hown hbl
    by_cases hlt : k < m
    · have hi0 : (0 : Int) ≤ (k : Int) := by omega
      have hi7 : (k : Int) < 7 := by omega
      have him : (k : Int) < (m : Int) := by omega
      have wk : (Lit.int .i64 (k : Int)).wf = true := by
        have hk7 : k = 0 ∨ k = 1 ∨ k = 2 ∨ k = 3 ∨ k = 4 ∨ k = 5 ∨ k = 6 := by omega
        rcases hk7 with rfl | rfl | rfl | rfl | rfl | rfl | rfl <;> rfl
      go_wp2_with (at_builtin; refine wpList_append_ints Try.i64s _ _ rfl (w.heap.size + 2) _ _ _ _ rfl rfl (HO.out.alloc _) (Reads.one _ _ _ _) (by decide) (by simp; omega) (by simp; omega) rfl ?_; intro v' w2 hown2 hgr hat hnil hbel)
      go_roundw
      case rel => exact ⟨k + 1, by omega, by go_num, by rw [rng_succ]; exact hown2, HB.out.trans (((Below.refl _ _).alloc hsz _).trans hbel)⟩
      case measure => simp [intOf]; omega
    · obtain rfl : k = m := by omega
      have r0 : wr.cell? ⟨w.heap.size + 1, 0, none⟩ = some (.int .i64 0) := Below.at HB.out (by go_cell) (by show w.heap.size + 1 < w.heap.size + 2; omega)
      have r1 : wr.cell? ⟨w.heap.size + 1, 1, none⟩ = some (.slice none 0 0) := Below.at HB.out (by go_cell) (by show w.heap.size + 1 < w.heap.size + 2; omega)
      have r2 : wr.cell? ⟨w.heap.size + 1, 2, none⟩ = some (.int .i64 0) := Below.at HB.out (by go_cell) (by show w.heap.size + 1 < w.heap.size + 2; omega)
      have r3 : wr.cell? ⟨w.heap.size + 1, 3, none⟩ = some (.int .i64 0) := Below.at HB.out (by go_cell) (by show w.heap.size + 1 < w.heap.size + 2; omega)
      have r4 : wr.cell? ⟨w.heap.size + 1, 4, none⟩ = some (.int .i64 0) := Below.at HB.out (by go_cell) (by show w.heap.size + 1 < w.heap.size + 2; omega)
      have f (j : Nat) : wr.frozen? ⟨w.heap.size + 1, j, none⟩ = false := by rw [HB.out.frozen (by show w.heap.size + 1 < w.heap.size + 2; omega)]; simp [go_sem]
      have f0 := f 0
      have f1 := f 1
      have f2 := f 2
      have f3 := f 3
      have f4 := f 4
      clear f
      go_wp2_with fail
      generalize hw5 : World.setCell (World.setCell (World.setCell (World.setCell (World.setCell _ _ _) _ _) _ _) _ _) _ _ = w5
      have hk5 : Kept wr w5 (fun k => k = w.heap.size + 1) := by rw [← hw5]; exact ((((Kept.setCell _ ⟨w.heap.size + 1, 0, none⟩ _).trans (Kept.setCell _ ⟨w.heap.size + 1, 1, none⟩ _)).trans (Kept.setCell _ ⟨w.heap.size + 1, 2, none⟩ _)).trans (Kept.setCell _ ⟨w.heap.size + 1, 3, none⟩ _)).trans (Kept.setCell _ ⟨w.heap.size + 1, 4, none⟩ _)
      have s0 : w5.cell? ⟨w.heap.size + 1, 0, none⟩ = some (.int .i64 0) := by rw [← hw5]; rw [World.cell?_setCell_other _ _ _ _ (by simp)]; rw [World.cell?_setCell_other _ _ _ _ (by simp)]; rw [World.cell?_setCell_other _ _ _ _ (by simp)]; rw [World.cell?_setCell_other _ _ _ _ (by simp)]; exact World.cell?_setCell_same _ _ _ (u := .int .i64 0) (by exact r0)
      have s1 : w5.cell? ⟨w.heap.size + 1, 1, none⟩ = some (.slice a' (rng k).length c') := by rw [← hw5]; rw [World.cell?_setCell_other _ _ _ _ (by simp)]; rw [World.cell?_setCell_other _ _ _ _ (by simp)]; rw [World.cell?_setCell_other _ _ _ _ (by simp)]; exact World.cell?_setCell_same _ _ _ (u := .slice none 0 0) (by rw [World.cell?_setCell_other _ _ _ _ (by simp)]; exact r1)
      have s2 : w5.cell? ⟨w.heap.size + 1, 2, none⟩ = some (.int .i64 el) := by rw [← hw5]; rw [World.cell?_setCell_other _ _ _ _ (by simp)]; rw [World.cell?_setCell_other _ _ _ _ (by simp)]; exact World.cell?_setCell_same _ _ _ (u := .int .i64 0) (by rw [World.cell?_setCell_other _ _ _ _ (by simp)]; rw [World.cell?_setCell_other _ _ _ _ (by simp)]; exact r2)
      have s3 : w5.cell? ⟨w.heap.size + 1, 3, none⟩ = some (.int .i64 bt) := by rw [← hw5]; rw [World.cell?_setCell_other _ _ _ _ (by simp)]; exact World.cell?_setCell_same _ _ _ (u := .int .i64 0) (by rw [World.cell?_setCell_other _ _ _ _ (by simp)]; rw [World.cell?_setCell_other _ _ _ _ (by simp)]; rw [World.cell?_setCell_other _ _ _ _ (by simp)]; exact r3)
      have s4 : w5.cell? ⟨w.heap.size + 1, 4, none⟩ = some (.int .i64 ev) := by rw [← hw5]; exact World.cell?_setCell_same _ _ _ (u := .int .i64 0) (by rw [World.cell?_setCell_other _ _ _ _ (by simp)]; rw [World.cell?_setCell_other _ _ _ _ (by simp)]; rw [World.cell?_setCell_other _ _ _ _ (by simp)]; rw [World.cell?_setCell_other _ _ _ _ (by simp)]; exact r4)
      have hrd := HO.out.reads.kept hk5 fun b hb e => by have := (HO.out.lt b hb).1; omega
      have hfin : Below w.heap.size w w5 := by
        have h1 : Below w.heap.size w wr := ((((Below.refl _ _).alloc (Nat.le_refl _) _).alloc (by simp) _)).trans (HB.out.mono (by omega))
        exact h1.trans (hk5.below (by omega) fun k hk => by omega)
      clear hw5 r0 r1 r2 r3 r4 f0 f1 f2 f3 f4
      refine bodyPost_ret (v := .agg #[.int .i64 0, .slice a' (rng k).length c', .int .i64 el, .int .i64 bt, .int .i64 ev]) ?_ rfl ⟨_, rfl, hrd, hfin⟩
      simp [results, Try.results43, go_sem, s0, s1, s2, s3, s4]

set_option maxHeartbeats 2000000 in
theorem rconfig (S el bt ev rm : Int) (m : Nat) (w : World) (h1 : 1 ≤ m) (h7 : m ≤ 7) :
    Calls Try.prog 41 #[.agg #[.int .i64 S, .int .i64 m, .int .i64 el, .int .i64 bt, .int .i64 ev, .int .i64 rm], .int .i64 0] w fun e w' => ∃ v, e = .returned (.agg #[.int .i64 0, v, .int .i64 el, .int .i64 bt, .int .i64 ev]) ∧ Reads w' .i64 v (rng m) ∧ Below w.heap.size w w' := by
  have hx0 : ¬ (m : Int) < 0 := by omega
  have hx1 : (0 : Int) ≤ (m : Int) := by omega
  have hx2 : (0 : Int) < (m : Int) := by omega
  have hx7 : (m : Int) ≤ 7 := by omega
  have hx8 : ¬ (7 : Int) < (m : Int) := by omega
  have hmax : max (m : Int) 0 = m := by omega
  have hmin : min (m : Int) 7 = m := by omega
  go_enter Try.func41, Try.ntmps41
  go_wp2_with fail
  go_loopw [5, 6] (fun d i wr => ∃ k : Nat, k ≤ m ∧ i = .int .i64 k ∧ Owns wr (w.heap.size + 2) 3 .i64 d (rng k) ∧ Below (w.heap.size + 2) ((w.alloc (.cells #[.int .i64 S, .int .i64 m, .int .i64 el, .int .i64 bt, .int .i64 ev, .int .i64 rm] 52)).alloc (.cells #[.int .i64 0, .slice none 0 0, .int .i64 0, .int .i64 0, .int .i64 0] 70)) wr) (fun _ i _ => m - (intOf i).toNat)
  case atStart => exact ⟨0, by omega, rfl, by simpa [rng] using Owns.nil _ _ _ _, Below.refl _ _⟩
  case round =>
    obtain ⟨k, hk, rfl, hown, hbl⟩ := hrel
    obtain ⟨a', c', rfl⟩ := hown.shape
    have HO := Lib.hid hown
    have HB := Lib.hid hbl
    have hsz := hbl.size
    simp only [World.size_alloc] at hsz
    have hln : (rng k).length ≤ 7 := by rw [length_rng]; omega
    have c1 : wr.cell? ⟨w.heap.size, 1, none⟩ = some (.int .i64 m) := Below.at hbl (by go_cell) (by show w.heap.size < w.heap.size + 2; omega)
    have c2 : wr.cell? ⟨w.heap.size, 2, none⟩ = some (.int .i64 el) := Below.at hbl (by go_cell) (by show w.heap.size < w.heap.size + 2; omega)
    have c3 : wr.cell? ⟨w.heap.size, 3, none⟩ = some (.int .i64 bt) := Below.at hbl (by go_cell) (by show w.heap.size < w.heap.size + 2; omega)
    have c4 : wr.cell? ⟨w.heap.size, 4, none⟩ = some (.int .i64 ev) := Below.at hbl (by go_cell) (by show w.heap.size < w.heap.size + 2; omega)
    have hbs : w.heap.size < wr.heap.size := by omega
    have hbs1 : w.heap.size + 1 < wr.heap.size := by omega
    clear hown hbl
    by_cases hlt : k < m
    · have hi0 : (0 : Int) ≤ (k : Int) := by omega
      have hi7 : (k : Int) < 7 := by omega
      have him : (k : Int) < (m : Int) := by omega
      have wk : (Lit.int .i64 (k : Int)).wf = true := by
        have hk7 : k = 0 ∨ k = 1 ∨ k = 2 ∨ k = 3 ∨ k = 4 ∨ k = 5 ∨ k = 6 := by omega
        rcases hk7 with rfl | rfl | rfl | rfl | rfl | rfl | rfl <;> rfl
      go_wp2_with (at_builtin; refine wpList_append_ints Try.i64s _ _ rfl (w.heap.size + 2) _ _ _ _ rfl rfl (HO.out.alloc _) (Reads.one _ _ _ _) (by decide) (by simp; omega) (by simp; omega) rfl ?_; intro v' w2 hown2 hgr hat hnil hbel)
      go_roundw
      case rel => exact ⟨k + 1, by omega, by go_num, by rw [rng_succ]; exact hown2, HB.out.trans (((Below.refl _ _).alloc hsz _).trans hbel)⟩
      case measure => simp [intOf]; omega
    · obtain rfl : k = m := by omega
      have r0 : wr.cell? ⟨w.heap.size + 1, 0, none⟩ = some (.int .i64 0) := Below.at HB.out (by go_cell) (by show w.heap.size + 1 < w.heap.size + 2; omega)
      have r1 : wr.cell? ⟨w.heap.size + 1, 1, none⟩ = some (.slice none 0 0) := Below.at HB.out (by go_cell) (by show w.heap.size + 1 < w.heap.size + 2; omega)
      have r2 : wr.cell? ⟨w.heap.size + 1, 2, none⟩ = some (.int .i64 0) := Below.at HB.out (by go_cell) (by show w.heap.size + 1 < w.heap.size + 2; omega)
      have r3 : wr.cell? ⟨w.heap.size + 1, 3, none⟩ = some (.int .i64 0) := Below.at HB.out (by go_cell) (by show w.heap.size + 1 < w.heap.size + 2; omega)
      have r4 : wr.cell? ⟨w.heap.size + 1, 4, none⟩ = some (.int .i64 0) := Below.at HB.out (by go_cell) (by show w.heap.size + 1 < w.heap.size + 2; omega)
      have f (j : Nat) : wr.frozen? ⟨w.heap.size + 1, j, none⟩ = false := by rw [HB.out.frozen (by show w.heap.size + 1 < w.heap.size + 2; omega)]; simp [go_sem]
      have f0 := f 0
      have f1 := f 1
      have f2 := f 2
      have f3 := f 3
      have f4 := f 4
      clear f
      go_wp2_with fail
      generalize hw5 : World.setCell (World.setCell (World.setCell (World.setCell (World.setCell _ _ _) _ _) _ _) _ _) _ _ = w5
      have hk5 : Kept wr w5 (fun k => k = w.heap.size + 1) := by rw [← hw5]; exact ((((Kept.setCell _ ⟨w.heap.size + 1, 0, none⟩ _).trans (Kept.setCell _ ⟨w.heap.size + 1, 1, none⟩ _)).trans (Kept.setCell _ ⟨w.heap.size + 1, 2, none⟩ _)).trans (Kept.setCell _ ⟨w.heap.size + 1, 3, none⟩ _)).trans (Kept.setCell _ ⟨w.heap.size + 1, 4, none⟩ _)
      have s0 : w5.cell? ⟨w.heap.size + 1, 0, none⟩ = some (.int .i64 0) := by rw [← hw5]; rw [World.cell?_setCell_other _ _ _ _ (by simp)]; rw [World.cell?_setCell_other _ _ _ _ (by simp)]; rw [World.cell?_setCell_other _ _ _ _ (by simp)]; rw [World.cell?_setCell_other _ _ _ _ (by simp)]; exact World.cell?_setCell_same _ _ _ (u := .int .i64 0) (by exact r0)
      have s1 : w5.cell? ⟨w.heap.size + 1, 1, none⟩ = some (.slice a' (rng k).length c') := by rw [← hw5]; rw [World.cell?_setCell_other _ _ _ _ (by simp)]; rw [World.cell?_setCell_other _ _ _ _ (by simp)]; rw [World.cell?_setCell_other _ _ _ _ (by simp)]; exact World.cell?_setCell_same _ _ _ (u := .slice none 0 0) (by rw [World.cell?_setCell_other _ _ _ _ (by simp)]; exact r1)
      have s2 : w5.cell? ⟨w.heap.size + 1, 2, none⟩ = some (.int .i64 el) := by rw [← hw5]; rw [World.cell?_setCell_other _ _ _ _ (by simp)]; rw [World.cell?_setCell_other _ _ _ _ (by simp)]; exact World.cell?_setCell_same _ _ _ (u := .int .i64 0) (by rw [World.cell?_setCell_other _ _ _ _ (by simp)]; rw [World.cell?_setCell_other _ _ _ _ (by simp)]; exact r2)
      have s3 : w5.cell? ⟨w.heap.size + 1, 3, none⟩ = some (.int .i64 bt) := by rw [← hw5]; rw [World.cell?_setCell_other _ _ _ _ (by simp)]; exact World.cell?_setCell_same _ _ _ (u := .int .i64 0) (by rw [World.cell?_setCell_other _ _ _ _ (by simp)]; rw [World.cell?_setCell_other _ _ _ _ (by simp)]; rw [World.cell?_setCell_other _ _ _ _ (by simp)]; exact r3)
      have s4 : w5.cell? ⟨w.heap.size + 1, 4, none⟩ = some (.int .i64 ev) := by rw [← hw5]; exact World.cell?_setCell_same _ _ _ (u := .int .i64 0) (by rw [World.cell?_setCell_other _ _ _ _ (by simp)]; rw [World.cell?_setCell_other _ _ _ _ (by simp)]; rw [World.cell?_setCell_other _ _ _ _ (by simp)]; rw [World.cell?_setCell_other _ _ _ _ (by simp)]; exact r4)
      have hrd := HO.out.reads.kept hk5 fun b hb e => by have := (HO.out.lt b hb).1; omega
      have hfin : Below w.heap.size w w5 := by
        have h1 : Below w.heap.size w wr := ((((Below.refl _ _).alloc (Nat.le_refl _) _).alloc (by simp) _)).trans (HB.out.mono (by omega))
        exact h1.trans (hk5.below (by omega) fun k hk => by omega)
      clear hw5 r0 r1 r2 r3 r4 f0 f1 f2 f3 f4
      refine bodyPost_ret (v := .agg #[.int .i64 0, .slice a' (rng k).length c', .int .i64 el, .int .i64 bt, .int .i64 ev]) ?_ rfl ⟨_, rfl, hrd, hfin⟩
      simp [results, Try.results41, go_sem, s0, s1, s2, s3, s4]
end Go.Proofs.Ytcccgcemgikkfaa
