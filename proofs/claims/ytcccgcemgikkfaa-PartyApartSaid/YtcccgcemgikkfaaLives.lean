/- The chapter's example, as a contract; no conditions. -/
import Derived.Test.YtcccgcemgikkfaaLaw
namespace Go.Proofs.Ytcccgcemgikkfaa
open Go.RowKit Go.Maps Go.Proofs.Own

def exL : List Int := [4, 2, 4]
theorem exL_ne (k : Nat) (h : k < exL.length) : exL[k] ≠ 0 ∧ (Lit.int .u64 exL[k]).wf = true := by
  have hk : k = 0 ∨ k = 1 ∨ k = 2 := by simp [exL] at h; omega
  rcases hk with rfl | rfl | rfl
  · exact ⟨by simp [exL], (by decide : (Lit.int .u64 4).wf = true)⟩
  · exact ⟨by simp [exL], (by decide : (Lit.int .u64 2).wf = true)⟩
  · exact ⟨by simp [exL], (by decide : (Lit.int .u64 4).wf = true)⟩
theorem heard_ex (k : Nat) (h : k < exL.length) : heard 3 (exL.take k) 3 exL[k] = exL.take (k + 1) := by
  rw [heard, List.take_succ_eq_append_getElem h, if_pos]
  have := (exL_ne k h).1
  simp [okB, this]
theorem err_ex (k : Nat) (h : k < exL.length) : errI 3 3 exL[k] = 0 := by
  rw [errI, if_pos]
  have := (exL_ne k h).1
  simp [okB, this]

set_option maxHeartbeats 2000000 in
theorem lives_any (w : World) : Calls Try.prog 8 #[] w fun e w' => e = .returned (.bool true) ∧ Below w.heap.size w w' := by
  go_enter Try.func8, Try.ntmps8
  go_wp2_with fail
  refine (pnew 3 _ (by decide) (by decide)).mono ?_
  rintro e w1 ⟨b, rfl, hb, hp, hb1⟩
  go_wp2_with fail
  have hs1 := hb1.size
  have hbs : b < w1.heap.size := by obtain ⟨_, _, _, _, q⟩ := hp; exact World.block_lt_of_cell? _ _ q.c0
  have hcap := hp.cap
  have HP := Lib.hid hcap
  have HB1 := Lib.hid hb1
  clear hp hb1 hcap
  have key : ∀ k, k < exL.length → (w1.alloc (.cells #[.int .u64 4, .int .u64 2, .int .u64 4] 23)).cell? ⟨w1.heap.size, k, none⟩ = some (.int .u64 (exL.getD k 0)) := fun k hk => by
    have hk' : k = 0 ∨ k = 1 ∨ k = 2 := by simp [exL] at hk; omega
    rcases hk' with rfl | rfl | rfl <;> simp [exL]
  have HK := Lib.hid key
  clear key
  go_loopw [9] (fun i wr => ∃ (k : Nat) (F : Nat → Prop), k ≤ exL.length ∧ i = .int .i64 k ∧ PartyIs wr b F 3 (exL.take k) ∧ (∀ j, F j → w.heap.size ≤ j ∧ j ≠ w1.heap.size) ∧ wr.heap[w1.heap.size]? = some (.cells #[.int .u64 4, .int .u64 2, .int .u64 4] 23 (0, 0)) ∧ Below w.heap.size w wr) (fun i _ => 3 - (intOf i).toNat)
  case atStart =>
    refine ⟨0, _, Nat.zero_le _, rfl, HP.out.below ((Below.refl _ _).alloc (Nat.le_refl _) _), fun j hj => ⟨hj.1, by omega⟩, heap_alloc_new _ _, HB1.out.trans ((Below.refl _ _).alloc (by omega) _)⟩
  case round =>
    obtain ⟨k, F, hk, rfl, hp, hF, hblk, hbl⟩ := hrel
    have HP2 := Lib.hid hp
    have HF := Lib.hid hF
    have HBL := Lib.hid hbl
    have HBK := Lib.hid hblk
    have hlen : exL.length = 3 := rfl
    clear hp hF hbl hblk
    by_cases hlt : k < 3
    · have hcell : wr.cell? ⟨w1.heap.size, k, none⟩ = some (.int .u64 exL[k]) := by
        have hk' : k = 0 ∨ k = 1 ∨ k = 2 := by omega
        rcases hk' with rfl | rfl | rfl <;> simp [World.cell?, HBK.out, exL]
      have hh := Lib.hid (heard_ex k hlt)
      have he := err_ex k hlt
      go_wp2_with fail
      refine (phear b F 3 (exL.take k) exL[k] 0 0 3 0 0 0 0 0 _ HP2.out (exL_ne k hlt).2 (by have := List.length_take_le k exL; omega)).mono ?_
      rintro e w2 ⟨rfl, hp2, hk2⟩
      go_wp2_with fail
      go_roundw
      case rel =>
        have hkk : Kept wr w2 F := hk2
        refine ⟨k + 1, fun j => (F j ∨ wr.heap.size ≤ j) ∧ j < w2.heap.size, by omega, by go_num, by have := hp2.cap; rw [hh.out] at this; exact this, fun j hj => ?_, ?_, ?_⟩
        · have hws := World.block_lt_of_cell? _ _ hcell
          have hws' : w1.heap.size < wr.heap.size := hws
          obtain ⟨h1, h2⟩ := hj
          rcases h1 with h1 | h1
          · exact HF.out j h1
          · have := HBL.out.size; exact ⟨by omega, by omega⟩
        · rw [hkk.block _ (World.block_lt_of_cell? _ _ hcell) (fun h => (HF.out _ h).2 rfl)]; exact HBK.out
        · exact HBL.out.trans (hkk.below HBL.out.size fun j hj => (HF.out j hj).1)
      case measure => simp [intOf]; omega
    · obtain rfl : k = 3 := by omega
      have e1 : exL.take 3 = exL := rfl
      have hd : dd exL = [4, 2] := by decide
      have hc : (((exL.count 4 : Nat) : Int) == 2) = true := by decide
      have hm : (((most exL : Nat) : Int) == 2) = true := by decide
      go_wp2_with fail
      refine (pdid b F 3 exL _ HP2.out (by decide)).mono ?_
      rintro e w2 ⟨v, rfl, ho, hb2⟩
      have hsm : decide (dd exL = [4, 2]) = true := by rw [hd]; rfl
      go_wp2_with fail
      refine (same_any v (.slice (some ⟨w2.heap.size, 0, none⟩) 2 2) (dd exL) [4, 2] _ (ho.reads.alloc _) ?_ (by decide) (by decide)).mono ?_
      · exact (Owns.lit (base := 0) (zs := [4, 2]) (heap_alloc_new _ _) (Nat.zero_le _) (by decide)).reads
      rintro e w3 ⟨rfl, hb3⟩
      have hb23 : Below wr.heap.size wr w3 := hb2.trans (((Below.refl _ _).alloc hb2.size _).trans (hb3.mono (by have := hb2.size; simp only [World.size_alloc]; omega)))
      go_wp2_with fail
      refine (ptimes b F 3 4 exL _ (HP2.out.below hb23) (by decide)).mono ?_
      rintro e w4 ⟨rfl, rfl⟩
      go_wp2_with fail
      refine (pmost b F 3 exL _ (HP2.out.below hb23) (by decide)).mono ?_
      rintro e w5 ⟨rfl, hb5⟩
      go_wp2_with fail
      go_ret
      exact ⟨rfl, (HBL.out.trans (hb23.mono HBL.out.size)).trans (hb5.mono (by have := HBL.out.size; have := hb23.size; omega))⟩
end Go.Proofs.Ytcccgcemgikkfaa
