/- Contracts of the document's reader; no conditions but the ranges. -/
import Derived.Test.YtofhccpagnkalaaGreatQt
namespace Go.Proofs.YtofhccpagnkalaaGreat
open Go.RowKit Go.Maps Go.Proofs.Own
variable {rb : Nat}

theorem mul_add_u64 (n z : Nat) (hn : n * 256 + z < 18446744073709551616) : IntKind.u64.wrap (IntKind.u64.wrap ((n : Int) * 256) + (z : Int)) = ((n * 256 + z : Nat) : Int) := by
  have h1 : n * 256 < 18446744073709551616 := Nat.lt_of_le_of_lt (Nat.le_add_right _ _) hn
  have hw : IntKind.u64.wrap ((n : Int) * 256) = ((n * 256 : Nat) : Int) := by
    rw [wrap_u64]
    exact Int.emod_eq_of_lt (Int.natCast_nonneg (n * 256)) (Int.ofNat_lt.2 h1)
  rw [hw, wrap_u64]
  exact Int.emod_eq_of_lt (Int.natCast_nonneg (n * 256 + z)) (Int.ofNat_lt.2 hn)

theorem rfail_any (b : Nat) (l : List Nat) (bad : Bool) (w : World) (h : RdrIs w b rb l bad) :
    Calls Tryz.prog 132 #[.pointer (some ⟨b, 0, none⟩)] w fun e w' => e = .returned (.tuple #[]) ∧ RdrIs w' b rb [] true ∧ Kept w w' (fun k => k = b) := by
  have H := Lib.hid h
  obtain ⟨v, c0, _, _⟩ := h.ex
  have c1 := h.bad
  have f0 := h.free0
  have f1 := h.free1
  clear h
  go_enter Tryz.func132, Tryz.ntmps132
  go_wp2_with fail
  go_end0
  refine ⟨rfl, (H.out.set (Bytes.nil _) (.inl rfl)).setBad true, (Kept.setCell w ⟨b, 0, none⟩ _).trans (Kept.setCell _ ⟨b, 1, none⟩ _)⟩

theorem rfirst_no (b : Nat) (bad : Bool) (w : World) (h : RdrIs w b rb [] bad) :
    Calls Tryz.prog 130 #[.pointer (some ⟨b, 0, none⟩)] w fun e w' => e = .returned (.tuple #[.int .u8 0, .bool false]) ∧ w = w' := by
  obtain ⟨v, c0, hB, _⟩ := h.ex
  obtain ⟨a, c, rfl, _⟩ := hB.shape
  clear h hB
  go_enter Tryz.func130, Tryz.ntmps130
  go_wp2_with fail
  go_ret2
  exact ⟨rfl, rfl⟩

theorem rfirst_yes (b : Nat) (l : List Nat) (bad : Bool) (w : World) (h : RdrIs w b rb l bad) (hne : 0 < l.length) :
    Calls Tryz.prog 130 #[.pointer (some ⟨b, 0, none⟩)] w fun e w' => e = .returned (.tuple #[.int .u8 (l.getD 0 0 : Nat), .bool true]) ∧ RdrIs w' b rb (l.drop 1) bad ∧ Kept w w' (fun k => k = b) := by
  have H := Lib.hid h
  obtain ⟨v, c0, hB, hvb⟩ := h.ex
  have f0 := h.free0
  obtain ⟨v2, hB2, hv2, hcut2⟩ := hB.cutlo Tryz.u8s 1 (by omega)
  have hv2' : l.drop 1 = [] ∨ v2.ownBlock = some rb := by rw [hv2]; exact hvb.imp (fun h => by rw [h]; simp) id
  obtain ⟨b1, o1, c, rfl, hle, hbs, hcell⟩ := hB.somewhere hne
  have d0 : w.cell? ⟨b1, o1, none⟩ = some (.int .u8 (l.getD 0 0 : Nat)) := hcell 0 hne
  have hlb : (l.length : Int) ≤ 2097152 := by have := hB.small; omega
  have hl0 : ((l.length : Int) == 0) = false := beq_eq_false_iff_ne.2 (by omega)
  have i0 : (0 : Int) < (l.length : Int) := by omega
  obtain ⟨a2, c2, rfl, _⟩ := hB2.shape
  have x0 := hB.getD_lt 0
  rw [List.length_drop] at hcut2 hB2 hv2'
  have hcut2' : ∀ w', (Instr.slice 22 (.slice (some ⟨b1, o1, none⟩) l.length c) (some (.int .i64 1)) none none).run Tryz.prog w' = .ok (.slice a2 (l.length - 1) c2) w' := hcut2
  have HS : Hid (RdrIs (w.setCell ⟨b, 0, none⟩ (.slice a2 (l.length - 1) c2)) b rb (l.drop 1) bad) := Lib.hid (H.out.set hB2 hv2')
  clear h hB hcell hle hcut2 hB2 hvb hv2' hv2 hne
  generalize l.getD 0 0 = x at d0 x0 ⊢
  go_enter Tryz.func130, Tryz.ntmps130
  go_wp2_with fail
  go_ret2
  exact ⟨rfl, HS.out, Kept.setCell w ⟨b, 0, none⟩ _⟩

/-- No number of n bytes begins here. -/
def nBad (n : Nat) (l : List Nat) : Prop := 8 < n ∨ l.length < n ∨ (0 < n ∧ l.getD 0 0 = 0)

set_option maxHeartbeats 1000000 in
set_option maxRecDepth 20000 in
theorem rnumber_no (b n : Nat) (l : List Nat) (bad : Bool) (w : World) (h : RdrIs w b rb l bad) (hb : nBad n l) (hn : n < 256) :
    Calls Tryz.prog 131 #[.pointer (some ⟨b, 0, none⟩), .int .i64 n] w fun e w' => e = .returned (.tuple #[.int .u64 0, .bool false]) ∧ w = w' := by
  obtain ⟨v, c0, hB, _⟩ := h.ex
  obtain ⟨a, c, rfl, hle⟩ := hB.shape
  have hlb : (l.length : Int) ≤ 2097152 := by have := hB.small; omega
  have hn' : (n : Int) < 256 := by omega
  have key : (8 : Int) < (n : Int) ∨ ((n : Int) ≤ 8 ∧ (l.length : Int) < (n : Int)) ∨ ((n : Int) ≤ 8 ∧ (n : Int) ≤ (l.length : Int) ∧ (0 : Int) < (n : Int) ∧ ∃ b1 o1, a = some ⟨b1, o1, none⟩ ∧ (0 : Int) < (l.length : Int) ∧ w.cell? ⟨b1, o1, none⟩ = some (.int .u8 0)) := by
    unfold nBad at hb
    by_cases h8 : 8 < n
    · exact .inl (by omega)
    · by_cases hl : l.length < n
      · exact .inr (.inl ⟨by omega, by omega⟩)
      · obtain ⟨_, _, hc⟩ := hB.cells
        obtain ⟨b1, o1, e, hc0⟩ := hc 0 (by omega)
        refine .inr (.inr ⟨by omega, by omega, by omega, b1, o1, e, by omega, ?_⟩)
        have h0 : l.getD 0 0 = 0 := by omega
        rw [getD_get' (by omega)] at h0
        rw [h0] at hc0
        exact hc0
  clear h hB hb hn
  rcases key with k1 | ⟨k1, k2⟩ | ⟨k1, k2, k3, b1, o1, rfl, k4, k5⟩
  all_goals
    go_enter Tryz.func131, Tryz.ntmps131
    go_wp2_with fail
    go_ret2
    exact ⟨rfl, rfl⟩

set_option maxHeartbeats 1000000 in
set_option maxRecDepth 20000 in
theorem rnumber_yes (b n : Nat) (l : List Nat) (bad : Bool) (w : World) (h : RdrIs w b rb l bad) (hb : ¬ nBad n l) :
    Calls Tryz.prog 131 #[.pointer (some ⟨b, 0, none⟩), .int .i64 n] w fun e w' => e = .returned (.tuple #[.int .u64 (beN (l.take n) : Nat), .bool true]) ∧ RdrIs w' b rb (l.drop n) bad ∧ Kept w w' (fun k => k = b) := by
  have H := Lib.hid h
  obtain ⟨v, c0, hB, hvb⟩ := h.ex
  have f0 := h.free0
  have hn8 : n ≤ 8 ∧ n ≤ l.length := by unfold nBad at hb; omega
  have hn0 : 0 < n → l.getD 0 0 ≠ 0 := by unfold nBad at hb; omega
  obtain ⟨v2, hB2, hv2, hcut2⟩ := hB.cutlo Tryz.u8s n (by omega)
  have hv2' : l.drop n = [] ∨ v2.ownBlock = some rb := by rw [hv2]; exact hvb.imp (fun h => by rw [h]; simp) id
  obtain ⟨a, c, rfl, hle⟩ := hB.shape
  obtain ⟨a2, c2, rfl, _⟩ := hB2.shape
  have HC := Lib.hid hB.cells.2.2
  have HLT := Lib.hid hB.lt
  have hlb : (l.length : Int) ≤ 2097152 := by have := hB.small; omega
  rw [List.length_drop] at hcut2 hB2 hv2'
  have HS : Hid (RdrIs (w.setCell ⟨b, 0, none⟩ (.slice a2 (l.length - n) c2)) b rb (l.drop n) bad) := Lib.hid (H.out.set hB2 hv2')
  have key : (n : Int) ≤ 0 ∨ ((0 : Int) < (n : Int) ∧ ∃ b1 o1, a = some ⟨b1, o1, none⟩ ∧ (0 : Int) < (l.length : Int) ∧ w.cell? ⟨b1, o1, none⟩ = some (.int .u8 (l.getD 0 0 : Nat)) ∧ (((l.getD 0 0 : Nat) : Int) == 0) = false) := by
    by_cases h0 : 0 < n
    · obtain ⟨b1, o1, e, hc0⟩ := HC.out 0 (by omega)
      refine .inr ⟨by omega, b1, o1, e, by omega, ?_, beq_eq_false_iff_ne.2 (by have := hn0 h0; omega)⟩
      rw [getD_get' (by omega)]
      exact hc0
    · exact .inl (by omega)
  have n8 : (n : Int) ≤ 8 := by omega
  have nl : (n : Int) ≤ (l.length : Int) := by omega
  have HNL : Hid (n ≤ l.length) := Lib.hid hn8.2
  have HSM : Hid (∀ k (h : k < l.length), k < n → beN (l.take k) * 256 + l[k] < 18446744073709551616) := Lib.hid fun k h hk => by
    rw [← beN_take l k h]
    exact beN_small (fun c hc => hB.lt c (List.mem_of_mem_take hc)) (by rw [List.length_take]; omega)
  clear h hB hb hvb hle hB2 hv2 hv2' hn0 hn8
  generalize l.getD 0 0 = x0 at key
  rcases key with k1 | ⟨k1, b1, o1, rfl, k2, k3, k4⟩
  · go_enter Tryz.func131, Tryz.ntmps131
    go_wp2_with fail
    go_loop [6, 7] (fun x i => ∃ k : Nat, k ≤ n ∧ i = .int .i64 k ∧ x = .int .u64 (beN (l.take k) : Nat)) (fun _ i => n - (intOf i).toNat)
    case atStart => exact ⟨0, Nat.zero_le _, rfl, rfl⟩
    case round =>
      obtain ⟨k, hk, rfl, rfl⟩ := hrel
      obtain rfl : k = n := by omega
      go_wp2_with fail
      go_ret2
      exact ⟨rfl, HS.out, Kept.setCell w ⟨b, 0, none⟩ _⟩
  · go_enter Tryz.func131, Tryz.ntmps131
    go_wp2_with fail
    go_loop [6, 7] (fun x i => ∃ k : Nat, k ≤ n ∧ i = .int .i64 k ∧ x = .int .u64 (beN (l.take k) : Nat)) (fun _ i => n - (intOf i).toNat)
    case atStart => exact ⟨0, Nat.zero_le _, rfl, rfl⟩
    case round =>
      obtain ⟨k, hk, rfl, rfl⟩ := hrel
      by_cases hlt : k < n
      · have hkl : k < l.length := by have := HNL.out; omega
        have hki : (k : Int) < (l.length : Int) := by omega
        have hk0 : (0 : Int) ≤ (k : Int) := by omega
        obtain ⟨b2, o2, hb2, hcell⟩ := HC.out k hkl
        cases hb2
        have hx : l[k] < 256 := HLT.out _ (List.getElem_mem hkl)
        have hsm := HSM.out k hkl hlt
        have HS2 := Lib.hid (beN_take l k hkl)
        generalize l[k] = z at hcell hx HS2 hsm
        generalize beN (l.take k) = m at HS2 hsm ⊢
        have HV := Lib.hid (mul_add_u64 m z hsm)
        clear hsm
        go_wp2_with fail
        go_round
        case rel => exact ⟨k + 1, by omega, by go_num, by rw [HV.out, HS2.out]⟩
        case measure => simp [intOf]; omega
      · obtain rfl : k = n := by omega
        go_wp2_with fail
        go_ret2
        exact ⟨rfl, HS.out, Kept.setCell w ⟨b, 0, none⟩ _⟩

theorem rnum_bad (b most : Nat) (l : List Nat) (bad : Bool) (w : World) (h : RdrIs w b rb l bad) (hg : ¬ numGood most l) (hmost : most < 18446744073709551616) :
    Calls Tryz.prog 102 #[.pointer (some ⟨b, 0, none⟩), .int .u64 most] w fun e w' => e = .returned (.int .u64 0) ∧ RdrIs w' b rb [] true ∧ Kept w w' (fun k => k = b) := by
  have H := Lib.hid h
  by_cases h0 : l = []
  · subst h0
    clear h hg hmost
    go_enter Tryz.func102, Tryz.ntmps102
    go_wp2_with fail
    refine (rfirst_no b bad _ H.out).mono ?_
    rintro e w1 ⟨rfl, rfl⟩
    go_wp2_with fail
    refine (rfail_any b [] bad _ H.out).mono ?_
    rintro e w1 ⟨rfl, h1, h2⟩
    have H1 := Lib.hid h1
    have H2 := Lib.hid h2
    clear h1 h2
    go_wp2_with fail
    go_ret
    exact ⟨rfl, H1.out, H2.out⟩
  · have hne := List.length_pos_iff.2 h0
    have HNE := Lib.hid hne
    have hx : l.getD 0 0 < 256 := by obtain ⟨v, _, hB, _⟩ := h.ex; exact hB.getD_lt 0
    have hlen : (l.drop 1).length = l.length - 1 := List.length_drop
    have hd0 : (l.drop 1).getD 0 0 = l.getD 1 0 := by simp [List.getD_eq_getElem?_getD]
    by_cases hb : nBad (l.getD 0 0) (l.drop 1)
    · have HB := Lib.hid hb
      have HX := Lib.hid hx
      clear h hg hmost hb h0 hne hlen hd0
      generalize hxx : l.getD 0 0 = x at HB HX hx
      have HXX := Lib.hid hxx
      clear hxx
      go_enter Tryz.func102, Tryz.ntmps102
      go_wp2_with fail
      refine (rfirst_yes b l bad _ H.out HNE.out).mono ?_
      rintro e w1 ⟨rfl, h1, k1⟩
      rw [HXX.out]
      have H1 := Lib.hid h1
      have K1 := Lib.hid k1
      clear h1 k1
      go_wp2_with fail
      refine (rnumber_no b x _ bad _ H1.out HB.out HX.out).mono ?_
      rintro e w2 ⟨rfl, rfl⟩
      go_wp2_with fail
      refine (rfail_any b _ bad _ H1.out).mono ?_
      rintro e w2 ⟨rfl, h2, k2⟩
      have H2 := Lib.hid h2
      have K2 := Lib.hid k2
      clear h2 k2
      go_wp2_with fail
      go_ret
      exact ⟨rfl, H2.out, K1.out.trans K2.out⟩
    · have hgm : (most : Int) < ((numX l : Nat) : Int) := by
        have : ¬ numBad l := by unfold numBad; unfold nBad at hb; rw [hlen, hd0] at hb; omega
        have : ¬ numX l ≤ most := fun h => hg ⟨this, h⟩
        omega
      have HB := Lib.hid hb
      have HV : Hid (beN ((l.drop 1).take (l.getD 0 0)) = numX l) := Lib.hid rfl
      have HMOST := Lib.hid hmost
      clear h hg hb h0 hne hlen hd0 hmost
      generalize hxx : l.getD 0 0 = x at HB HV hx
      have HXX := Lib.hid hxx
      clear hxx
      go_enter Tryz.func102, Tryz.ntmps102
      go_wp2_with fail
      refine (rfirst_yes b l bad _ H.out HNE.out).mono ?_
      rintro e w1 ⟨rfl, h1, k1⟩
      rw [HXX.out]
      have H1 := Lib.hid h1
      have K1 := Lib.hid k1
      clear h1 k1
      go_wp2_with fail
      refine (rnumber_yes b x _ bad _ H1.out HB.out).mono ?_
      rintro e w2 ⟨rfl, h2, k2⟩
      rw [HV.out]
      have H2 := Lib.hid h2
      have K2 := Lib.hid k2
      clear h2 k2
      go_wp2_with fail
      refine (rfail_any b _ bad _ H2.out).mono ?_
      rintro e w3 ⟨rfl, h3, k3⟩
      have H3 := Lib.hid h3
      have K3 := Lib.hid k3
      clear h3 k3
      go_wp2_with fail
      go_ret
      exact ⟨rfl, H3.out, (K1.out.trans K2.out).trans K3.out⟩

theorem rnum_good (b most : Nat) (l : List Nat) (bad : Bool) (w : World) (h : RdrIs w b rb l bad) (hg : numGood most l) (hmost : most < 18446744073709551616) :
    Calls Tryz.prog 102 #[.pointer (some ⟨b, 0, none⟩), .int .u64 most] w fun e w' => e = .returned (.int .u64 (numX l)) ∧ RdrIs w' b rb (l.drop (l.getD 0 0 + 1)) bad ∧ Kept w w' (fun k => k = b) := by
  have H := Lib.hid h
  have hnb := hg.1
  have hne : 0 < l.length := by unfold numBad at hnb; omega
  have HNE := Lib.hid hne
  have hx : l.getD 0 0 < 256 := by obtain ⟨v, _, hB, _⟩ := h.ex; exact hB.getD_lt 0
  have hlen : (l.drop 1).length = l.length - 1 := List.length_drop
  have hd0 : (l.drop 1).getD 0 0 = l.getD 1 0 := by simp [List.getD_eq_getElem?_getD]
  have hb : ¬ nBad (l.getD 0 0) (l.drop 1) := by unfold nBad; unfold numBad at hnb; rw [hlen, hd0]; omega
  have hgm : ((numX l : Nat) : Int) ≤ (most : Int) := by have := hg.2; omega
  have HB := Lib.hid hb
  have HV : Hid (beN ((l.drop 1).take (l.getD 0 0)) = numX l) := Lib.hid rfl
  have HD : Hid ((l.drop 1).drop (l.getD 0 0) = l.drop (l.getD 0 0 + 1)) := Lib.hid (by rw [List.drop_drop]; congr 1; omega)
  have HMOST := Lib.hid hmost
  clear h hg hb hne hlen hd0 hmost hnb
  generalize hxx : l.getD 0 0 = x at HB HV hx HD ⊢
  have HXX := Lib.hid hxx
  clear hxx
  go_enter Tryz.func102, Tryz.ntmps102
  go_wp2_with fail
  refine (rfirst_yes b l bad _ H.out HNE.out).mono ?_
  rintro e w1 ⟨rfl, h1, k1⟩
  rw [HXX.out]
  have H1 := Lib.hid h1
  have K1 := Lib.hid k1
  clear h1 k1
  go_wp2_with fail
  refine (rnumber_yes b x _ bad _ H1.out HB.out).mono ?_
  rintro e w2 ⟨rfl, h2, k2⟩
  rw [HV.out]
  rw [HD.out] at h2
  have H2 := Lib.hid h2
  have K2 := Lib.hid k2
  clear h2 k2
  go_wp2_with fail
  go_ret
  exact ⟨rfl, H2.out, K1.out.trans K2.out⟩

/-- Num. -/
theorem rnum_any (b : Nat) (m : Int) (l : List Nat) (bad : Bool) (w : World) (h : RdrIs w b rb l bad) (hm0 : 0 ≤ m) (hmost : m < 18446744073709551616) :
    Calls Tryz.prog 102 #[.pointer (some ⟨b, 0, none⟩), .int .u64 m] w fun e w' => e = .returned (.int .u64 (numV m.toNat l)) ∧ RdrIs w' b rb (numL m.toNat l) (bad || numB m.toNat l) ∧ Kept w w' (fun k => k = b) := by
  obtain ⟨n, rfl⟩ := Int.eq_ofNat_of_zero_le hm0
  rw [Int.toNat_natCast]
  unfold numV numL numB
  by_cases hg : numGood n l
  · simp only [if_pos hg, Bool.or_false]
    exact rnum_good b n l bad w h hg (by omega)
  · simp only [if_neg hg, Bool.or_true]
    exact rnum_bad b n l bad w h hg (by omega)
end Go.Proofs.YtofhccpagnkalaaGreat
