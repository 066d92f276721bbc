/- Contracts of the program's reader: Fail, Left, number, Num; no conditions but the ranges. -/
import Derived.Test.YtofhccpagnkalaaGreatRd
namespace Go.Proofs.YtofhccpagnkalaaGreat
open Go.RowKit Go.Maps Go.Proofs.Own
variable {rb : Nat}

theorem qfail_any (b : Nat) (l : List Nat) (bad : Bool) (w : World) (h : RdrIs w b rb l bad) :
    Calls Tryz.prog 120 #[.pointer (some ⟨b, 0, none⟩)] w fun e w' => e = .returned (.tuple #[]) ∧ RdrIs w' b rb [] true ∧ Kept w w' (fun k => k = b) := by
  have H := Lib.hid h
  obtain ⟨v, c0, _, _⟩ := h.ex
  have c1 := h.bad
  have f0 := h.free0
  have f1 := h.free1
  clear h
  go_enter Tryz.func120, Tryz.ntmps120
  go_wp2_with fail
  go_end0
  refine ⟨rfl, (H.out.set (Bytes.nil _) (.inl rfl)).setBad true, (Kept.setCell w ⟨b, 0, none⟩ _).trans (Kept.setCell _ ⟨b, 1, none⟩ _)⟩

theorem qleft_any (b : Nat) (l : List Nat) (bad : Bool) (w : World) (h : RdrIs w b rb l bad) :
    Calls Tryz.prog 121 #[.pointer (some ⟨b, 0, none⟩)] w fun e w' => e = .returned (.int .i64 l.length) ∧ w = w' := by
  obtain ⟨v, c0, hB, _⟩ := h.ex
  obtain ⟨a, c, rfl, _⟩ := hB.shape
  clear h hB
  go_enter Tryz.func121, Tryz.ntmps121
  go_wp2_with fail
  go_ret
  exact ⟨rfl, rfl⟩

def NumPost (b rb most : Nat) (l : List Nat) (bad : Bool) (w : World) : Ending → World → Prop := fun e w' => e = .returned (.tuple #[.int .u64 (numV most l), .bool false]) ∧ RdrIs w' b rb (numL most l) (bad || numB most l) ∧ Kept w w' (fun k => k = b)
theorem numPost_bad {b most : Nat} {l : List Nat} {bad : Bool} {w : World} (h : ¬ numGood most l) : NumPost b rb most l bad w = fun e w' => e = .returned (.tuple #[.int .u64 0, .bool false]) ∧ RdrIs w' b rb [] true ∧ Kept w w' (fun k => k = b) := by
  unfold NumPost numV numL numB
  simp [h]
theorem numPost_good {b most : Nat} {l : List Nat} {bad : Bool} {w : World} (h : numGood most l) : NumPost b rb most l bad w = fun e w' => e = .returned (.tuple #[.int .u64 (numX l), .bool false]) ∧ RdrIs w' b rb (l.drop (l.getD 0 0 + 1)) bad ∧ Kept w w' (fun k => k = b) := by
  unfold NumPost numV numL numB
  simp [h]

theorem qnumber0 (b most : Nat) (bad : Bool) (w : World) (h : RdrIs w b rb [] bad) :
    Calls Tryz.prog 119 #[.pointer (some ⟨b, 0, none⟩), .int .u64 most, .bool false] w (NumPost b rb most [] bad w) := by
  rw [numPost_bad (by simp [numGood, numBad])]
  have H := Lib.hid h
  clear h
  go_enter Tryz.func119, Tryz.ntmps119
  go_wp2_with fail
  refine (qleft_any b [] bad _ H.out).mono ?_
  rintro e w1 ⟨rfl, rfl⟩
  go_wp2_with fail
  refine (qfail_any b [] bad _ H.out).mono ?_
  rintro e w1 ⟨rfl, h1, h2⟩
  have H1 := Lib.hid h1
  have H2 := Lib.hid h2
  clear h1 h2
  go_wp2_with fail
  go_ret2
  exact ⟨rfl, H1.out, H2.out⟩

set_option maxHeartbeats 1000000 in
set_option maxRecDepth 20000 in
theorem qnumber1 (b most : Nat) (l : List Nat) (bad : Bool) (w : World) (h : RdrIs w b rb l bad) (hne : 0 < l.length) (hbad : numBad l) :
    Calls Tryz.prog 119 #[.pointer (some ⟨b, 0, none⟩), .int .u64 most, .bool false] w (NumPost b rb most l bad w) := by
  rw [numPost_bad fun h => h.1 hbad]
  have H := Lib.hid h
  obtain ⟨v, c0, hB, _⟩ := h.ex
  obtain ⟨b1, o1, c, rfl, hle, hbs, hcell⟩ := hB.somewhere hne
  have d0 : w.cell? ⟨b1, o1, none⟩ = some (.int .u8 (l.getD 0 0 : Nat)) := hcell 0 hne
  have d1 : 1 < l.length → w.cell? ⟨b1, o1 + 1, none⟩ = some (.int .u8 (l.getD 1 0 : Nat)) := fun h => hcell 1 h
  have x0 := hB.getD_lt 0
  have x1 := hB.getD_lt 1
  have hlb : (l.length : Int) ≤ 2097152 := by have := hB.small; omega
  have hl0 : ((l.length : Int) == 0) = false := beq_eq_false_iff_ne.2 (by omega)
  have i0 : (0 : Int) < (l.length : Int) := by omega
  unfold numBad at hbad
  generalize l.getD 0 0 = x at d0 x0 hbad
  generalize l.getD 1 0 = y at d1 x1 hbad
  have key : ((8 : Int) < (x : Int)) ∨ ((x : Int) ≤ 8 ∧ (l.length : Int) ≤ (x : Int)) ∨ ((x : Int) ≤ 8 ∧ (x : Int) < (l.length : Int) ∧ (0 : Int) < (x : Int) ∧ ((y : Int) == 0) = true) := by
    by_cases h8 : 8 < x
    · exact .inl (by omega)
    · by_cases hll : l.length ≤ x
      · exact .inr (.inl ⟨by omega, by omega⟩)
      · exact .inr (.inr ⟨by omega, by omega, by omega, by simp; omega⟩)
  clear h hB hcell hle hbad hne
  rcases key with k1 | ⟨k1, k2⟩ | ⟨k1, k2, k3, k4⟩
  · clear d1
    go_enter Tryz.func119, Tryz.ntmps119
    go_wp2_with fail
    refine (qleft_any b l bad _ H.out).mono ?_
    rintro e w1 ⟨rfl, rfl⟩
    go_wp2_with fail
    refine (qfail_any b l bad _ H.out).mono ?_
    rintro e w1 ⟨rfl, h1, h2⟩
    have H1 := Lib.hid h1
    have H2 := Lib.hid h2
    clear h1 h2
    go_wp2_with fail
    go_ret2
    exact ⟨rfl, H1.out, H2.out⟩
  · clear d1
    go_enter Tryz.func119, Tryz.ntmps119
    go_wp2_with fail
    refine (qleft_any b l bad _ H.out).mono ?_
    rintro e w1 ⟨rfl, rfl⟩
    go_wp2_with fail
    refine (qfail_any b l bad _ H.out).mono ?_
    rintro e w1 ⟨rfl, h1, h2⟩
    have H1 := Lib.hid h1
    have H2 := Lib.hid h2
    clear h1 h2
    go_wp2_with fail
    go_ret2
    exact ⟨rfl, H1.out, H2.out⟩
  · have d1' := d1 (by omega)
    have i1 : (1 : Int) < (l.length : Int) := by omega
    clear d1
    go_enter Tryz.func119, Tryz.ntmps119
    go_wp2_with fail
    refine (qleft_any b l bad _ H.out).mono ?_
    rintro e w1 ⟨rfl, rfl⟩
    go_wp2_with fail
    refine (qfail_any b l bad _ H.out).mono ?_
    rintro e w1 ⟨rfl, h1, h2⟩
    have H1 := Lib.hid h1
    have H2 := Lib.hid h2
    clear h1 h2
    go_wp2_with fail
    go_ret2
    exact ⟨rfl, H1.out, H2.out⟩

set_option maxHeartbeats 2000000 in
set_option maxRecDepth 20000 in
theorem qnumber2 (b most : Nat) (l : List Nat) (bad : Bool) (w : World) (h : RdrIs w b rb l bad) (hb : ¬ numBad l) (hmost : most < 18446744073709551616) :
    Calls Tryz.prog 119 #[.pointer (some ⟨b, 0, none⟩), .int .u64 most, .bool false] w (NumPost b rb most l bad w) := by
  have H := Lib.hid h
  obtain ⟨v, c0, hB, hvb⟩ := h.ex
  have f0 := h.free0
  have hx8 : l.getD 0 0 ≤ 8 ∧ l.getD 0 0 < l.length := by unfold numBad at hb; omega
  have hy : 0 < l.getD 0 0 → l.getD 1 0 ≠ 0 := by unfold numBad at hb; omega
  obtain ⟨v1, hB1, hcut1⟩ := hB.cutm Tryz.u8s 1 (l.getD 0 0 + 1) (by omega) (by omega)
  obtain ⟨v2, hB2, hv2, hcut2⟩ := hB.cutlo Tryz.u8s (l.getD 0 0 + 1) (by omega)
  have e1 : (l.take (l.getD 0 0 + 1)).drop 1 = (l.drop 1).take (l.getD 0 0) := by rw [List.drop_take]; congr 1
  rw [e1] at hB1
  have HX : Hid (numX l = beN ((l.drop 1).take (l.getD 0 0))) := Lib.hid rfl
  obtain ⟨b1, o1, c, rfl, hle, hbs, hcell⟩ := hB.somewhere (by omega)
  have d0 : w.cell? ⟨b1, o1, none⟩ = some (.int .u8 (l.getD 0 0 : Nat)) := hcell 0 (by omega)
  have d1 : 0 < l.getD 0 0 → w.cell? ⟨b1, o1 + 1, none⟩ = some (.int .u8 (l.getD 1 0 : Nat)) := fun h => hcell 1 (by omega)
  have x0 := hB.getD_lt 0
  have x1 := hB.getD_lt 1
  have hlb : (l.length : Int) ≤ 2097152 := by have := hB.small; omega
  have hl0 : ((l.length : Int) == 0) = false := beq_eq_false_iff_ne.2 (by omega)
  have i0 : (0 : Int) < (l.length : Int) := by omega
  have hlen1 : ((l.drop 1).take (l.getD 0 0)).length = l.getD 0 0 := by rw [List.length_take, List.length_drop]; omega
  have HG : Hid (numGood most l ↔ numX l ≤ most) := Lib.hid ⟨fun h => h.2, fun h => ⟨hb, h⟩⟩
  have hv2' : l.drop (l.getD 0 0 + 1) = [] ∨ v2.ownBlock = some rb := by rw [hv2]; exact hvb.imp (fun h => by rw [h]; simp) id
  have HB2 := Lib.hid hB2
  clear h hB hcell hle hb e1 hvb hv2 hB2
  generalize hrest : l.drop (l.getD 0 0 + 1) = rest at HB2 hv2'
  generalize hbl : (l.drop 1).take (l.getD 0 0) = bl at hB1 HX hlen1
  have HREST := Lib.hid hrest
  clear hbl hrest
  generalize hxx : l.getD 0 0 = x at *
  have HXX := Lib.hid hxx
  clear hxx
  generalize l.getD 1 0 = y at *
  have key : (x : Int) ≤ 0 ∨ ((0 : Int) < (x : Int) ∧ ((y : Int) == 0) = false ∧ w.cell? ⟨b1, o1 + 1, none⟩ = some (.int .u8 (y : Nat)) ∧ (1 : Int) < (l.length : Int)) := by
    by_cases h0 : x = 0
    · exact .inl (by omega)
    · exact .inr ⟨by omega, by have := hy (by omega); simp; omega, d1 (by omega), by omega⟩
  have k8 : (x : Int) ≤ 8 := by omega
  have kl : (x : Int) < (l.length : Int) := by omega
  obtain ⟨a1, c1, rfl, _⟩ := hB1.shape
  have hcut1' : ∀ w', (Instr.slice 22 (.slice (some ⟨b1, o1, none⟩) l.length c) (some (.int .i64 1)) (some (.int .i64 ((x : Int) + 1))) none).run Tryz.prog w' = .ok (.slice a1 bl.length c1) w' := hcut1
  have hcut2' : ∀ w', (Instr.slice 22 (.slice (some ⟨b1, o1, none⟩) l.length c) (some (.int .i64 ((x : Int) + 1))) none none).run Tryz.prog w' = .ok v2 w' := hcut2
  have HL1 := Lib.hid hlen1
  have HB1 := Lib.hid hB1
  have HBC := Lib.hid hB1.cells.2.2
  have hx8' : bl.length ≤ 8 := by omega
  obtain ⟨a2, c2, rfl, _⟩ := HB2.out.shape
  clear hcut1 hcut2 hlen1 hB1 hx8 hy d1
  have HSM : Hid (∀ k (h : k < bl.length), beN (bl.take k) * 256 + bl[k] < 18446744073709551616) := Lib.hid fun k h => by
    rw [← beN_take bl k h]
    exact beN_small (fun c hc => HB1.out.lt c (List.mem_of_mem_take hc)) (by rw [List.length_take]; omega)
  have HSET : Hid (RdrIs (w.setCell ⟨b, 0, none⟩ (.slice a2 rest.length c2)) b rb rest bad) := Lib.hid (H.out.set HB2.out hv2')
  clear hv2'
  by_cases hgm : numX l ≤ most
  · rw [numPost_good (HG.out.2 hgm)]
    rw [HX.out] at hgm ⊢
    have hgi : ¬ (most : Int) < ((beN bl : Nat) : Int) := by omega
    have HMOST := Lib.hid hmost
    have HD : Hid (l.drop (l.getD 0 0 + 1) = rest) := Lib.hid (by rw [HXX.out]; exact HREST.out)
    rw [HD.out]
    clear hgm hmost
    rcases key with k1 | ⟨k1, k2, k3, k4⟩
    all_goals
      go_enter Tryz.func119, Tryz.ntmps119
      go_wp2_with fail
      refine (qleft_any b l bad _ H.out).mono ?_
      rintro e w1 ⟨rfl, rfl⟩
      go_wp2_with fail
      go_loop [6, 62] (fun n i => ∃ k : Nat, k ≤ bl.length ∧ i = .int .i64 k ∧ n = .int .u64 (beN (bl.take k) : Nat)) (fun _ i => bl.length - (intOf i).toNat)
      case atStart => exact ⟨0, Nat.zero_le _, rfl, rfl⟩
      case round =>
        obtain ⟨k, hk, rfl, rfl⟩ := hrel
        by_cases hlt : k < bl.length
        · obtain ⟨b2, o2, rfl, hcell⟩ := HBC.out k hlt
          have hx : bl[k] < 256 := HB1.out.lt _ (List.getElem_mem hlt)
          have hsm := HSM.out k hlt
          have HS := Lib.hid (beN_take bl k hlt)
          generalize bl[k] = z at hcell hx HS hsm
          generalize beN (bl.take k) = n at HS hsm ⊢
          have HV := Lib.hid (shl_or n z hx hsm)
          clear hsm
          go_wp2_with fail
          go_round
          case rel => exact ⟨k + 1, by omega, by go_num, by rw [HV.out, HS.out]⟩
          case measure => simp [intOf]; omega
        · obtain rfl : k = bl.length := by omega
          go_wp2_with fail
          go_ret2
          exact ⟨rfl, HSET.out, Kept.setCell w ⟨b, 0, none⟩ _⟩
  · rw [numPost_bad fun h => hgm (HG.out.1 h)]
    rw [HX.out] at hgm
    have hgi : (most : Int) < ((beN bl : Nat) : Int) := by omega
    have HMOST := Lib.hid hmost
    clear hgm hmost
    rcases key with k1 | ⟨k1, k2, k3, k4⟩
    all_goals
      go_enter Tryz.func119, Tryz.ntmps119
      go_wp2_with fail
      refine (qleft_any b l bad _ H.out).mono ?_
      rintro e w1 ⟨rfl, rfl⟩
      go_wp2_with fail
      go_loop [6, 62] (fun n i => ∃ k : Nat, k ≤ bl.length ∧ i = .int .i64 k ∧ n = .int .u64 (beN (bl.take k) : Nat)) (fun _ i => bl.length - (intOf i).toNat)
      case atStart => exact ⟨0, Nat.zero_le _, rfl, rfl⟩
      case round =>
        obtain ⟨k, hk, rfl, rfl⟩ := hrel
        by_cases hlt : k < bl.length
        · obtain ⟨b2, o2, rfl, hcell⟩ := HBC.out k hlt
          have hx : bl[k] < 256 := HB1.out.lt _ (List.getElem_mem hlt)
          have hsm := HSM.out k hlt
          have HS := Lib.hid (beN_take bl k hlt)
          generalize bl[k] = z at hcell hx HS hsm
          generalize beN (bl.take k) = n at HS hsm ⊢
          have HV := Lib.hid (shl_or n z hx hsm)
          clear hsm
          go_wp2_with fail
          go_round
          case rel => exact ⟨k + 1, by omega, by go_num, by rw [HV.out, HS.out]⟩
          case measure => simp [intOf]; omega
        · obtain rfl : k = bl.length := by omega
          go_wp2_with fail
          refine (qfail_any b l bad _ H.out).mono ?_
          rintro e w1 ⟨rfl, h1, h2⟩
          have H1 := Lib.hid h1
          have H2 := Lib.hid h2
          clear h1 h2
          go_wp2_with fail
          go_ret2
          exact ⟨rfl, H1.out, H2.out⟩

theorem qnumber_any (b most : Nat) (l : List Nat) (bad : Bool) (w : World) (h : RdrIs w b rb l bad) (hmost : most < 18446744073709551616) :
    Calls Tryz.prog 119 #[.pointer (some ⟨b, 0, none⟩), .int .u64 most, .bool false] w (NumPost b rb most l bad w) := by
  by_cases h0 : l = []
  · subst h0; exact qnumber0 b most bad w h
  · by_cases hb : numBad l
    · exact qnumber1 b most l bad w h (List.length_pos_iff.2 h0) hb
    · exact qnumber2 b most l bad w h hb hmost

/-- Num. -/
theorem qnum_any (b : Nat) (m : Int) (l : List Nat) (bad : Bool) (w : World) (h : RdrIs w b rb l bad) (hm0 : 0 ≤ m) (hmost : m < 18446744073709551616) :
    Calls Tryz.prog 85 #[.pointer (some ⟨b, 0, none⟩), .int .u64 m] w fun e w' => e = .returned (.int .u64 (numV m.toNat l)) ∧ RdrIs w' b rb (numL m.toNat l) (bad || numB m.toNat l) ∧ Kept w w' (fun k => k = b) := by
  obtain ⟨n, rfl⟩ := Int.eq_ofNat_of_zero_le hm0
  have C := Lib.hid (qnumber_any b n l bad w h (by omega))
  rw [Int.toNat_natCast]
  clear h hm0 hmost
  go_enter Tryz.func85, Tryz.ntmps85
  go_wp2_with fail
  refine C.out.mono ?_
  rintro e w1 ⟨rfl, h1, h2⟩
  have H1 := Lib.hid h1
  have H2 := Lib.hid h2
  clear h1 h2
  go_wp2_with fail
  go_ret
  exact ⟨rfl, H1.out, H2.out⟩
end Go.Proofs.YtofhccpagnkalaaGreat
