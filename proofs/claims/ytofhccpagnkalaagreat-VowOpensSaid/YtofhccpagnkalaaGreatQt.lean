/- Contracts of the program's reader: Raw, Text, End, Open; no conditions but the ranges. -/
import Derived.Test.YtofhccpagnkalaaGreatQr
namespace Go.Proofs.YtofhccpagnkalaaGreat
open Go.RowKit Go.Maps Go.Proofs.Own
variable {rb : Nat}

theorem qopen_any (v : Value) (l : List Nat) (w : World) (hB : Bytes w v l) (hrb : l = [] ∨ v.ownBlock = some rb) (hne : rb ≠ w.heap.size) :
    Calls Tryz.prog 84 #[v] w fun e w' => e = .returned (.pointer (some ⟨w.heap.size, 0, none⟩)) ∧ RdrIs w' w.heap.size rb l false ∧ Below w.heap.size w w' := by
  have H := Lib.hid hB
  have HV := Lib.hid hrb
  have HN := Lib.hid hne
  obtain ⟨a, c, rfl, _⟩ := hB.shape
  clear hB hrb hne
  go_enter Tryz.func84, Tryz.ntmps84
  go_wp2_with fail
  go_ret
  refine ⟨rfl, ⟨⟨_, by go_cell, H.out.alloc _, HV.out⟩, HN.out, by go_cell, ?_, ?_⟩, (Below.refl _ _).alloc (Nat.le_refl _) _⟩
  · simp
  · simp

set_option maxHeartbeats 1000000 in
theorem qraw_any (b n : Nat) (l : List Nat) (bad : Bool) (w : World) (h : RdrIs w b rb l bad) (hn : n ≤ l.length) :
    Calls Tryz.prog 122 #[.pointer (some ⟨b, 0, none⟩), .int .i64 n] w fun e w' => ∃ v, e = .returned v ∧ Bytes w' v (l.take n) ∧ RdrIs w' b rb (l.drop n) bad ∧ Kept w w' (fun k => k = b) := by
  have H := Lib.hid h
  obtain ⟨v, c0, hB, hvb⟩ := h.ex
  have f0 := h.free0
  obtain ⟨v1, hB1, hcut1⟩ := hB.cuth Tryz.u8s n hn
  obtain ⟨v2, hB2, hv2, hcut2⟩ := hB.cutlo Tryz.u8s n hn
  have hv2' : l.drop n = [] ∨ v2.ownBlock = some rb := by rw [hv2]; exact hvb.imp (fun h => by rw [h]; simp) id
  have hlb : (l.length : Int) ≤ 2097152 := by have := hB.small; omega
  have hn' : (n : Int) ≤ (l.length : Int) := by omega
  have hn0 : ¬ (n : Int) < 0 := by omega
  obtain ⟨a, c, rfl, _⟩ := hB.shape
  obtain ⟨a2, c2, rfl, _⟩ := hB2.shape
  rw [List.length_drop] at hcut2 hB2 hv2'
  have HB1 := Lib.hid hB1
  have HB2 := Lib.hid hB2
  have HV2 := Lib.hid hv2'
  have hs1 : (ints (l.take n)).length ≤ 2097152 := by rw [length_ints]; exact hB1.small
  have HC0 := Lib.hid c0
  have HF0 := Lib.hid f0
  clear h hB hvb hn hB1 hB2 hv2 hv2'
  go_enter Tryz.func122, Tryz.ntmps122
  go_wp2_with fail
  refine (qleft_any b l bad _ H.out).mono ?_
  rintro e w1 ⟨rfl, rfl⟩
  go_wp2_with fail
  refine (bclone _ _ _ HB1.out.rd hs1).mono ?_
  rintro e w1 ⟨v3, rfl, hown, hb1⟩
  have O1 := Lib.hid hown
  have B1 := Lib.hid hb1
  clear hown hb1 c0 f0
  have c0 := Below.at B1.out HC0.out H.out.lt
  have f0 : w1.frozen? ⟨b, 0, none⟩ = false := (H.out.below B1.out).free0
  have O2 : Hid (Bytes w1 v3 (l.take n)) := Lib.hid (Bytes.of_owns O1.out HB1.out.lt HB1.out.small)
  have O3 : Hid (v3.ownBlock ≠ some b) := Lib.hid fun e => by have := (O1.out.lt b e).1; have := H.out.lt; omega
  go_wp2_with fail
  go_ret
  refine ⟨_, rfl, O2.out.kept (Kept.setCell _ ⟨b, 0, none⟩ _) fun k hk e => O3.out (by rw [hk, e]), (H.out.below B1.out).set (HB2.out.below B1.out) HV2.out, ?_⟩
  exact (Kept.of_below B1.out (S := fun k => k = b) (fun k h1 h2 => by omega)).trans (Kept.setCell _ ⟨b, 0, none⟩ _)

theorem qend_any (b : Nat) (l : List Nat) (bad : Bool) (w : World) (h : RdrIs w b rb l bad) :
    Calls Tryz.prog 87 #[.pointer (some ⟨b, 0, none⟩)] w fun e w' => e = .returned (.int .i64 (endE l bad)) ∧ w = w' := by
  obtain ⟨v, c0, hB, _⟩ := h.ex
  have c1 := h.bad
  have hlb : (l.length : Int) ≤ 2097152 := by have := hB.small; omega
  obtain ⟨a, c, rfl, _⟩ := hB.shape
  cases bad with
  | true =>
    have HE : Hid (endE l true = 20) := Lib.hid (by simp [endE])
    clear h hB
    go_enter Tryz.func87, Tryz.ntmps87
    go_wp2_with fail
    go_ret
    exact ⟨by rw [HE.out]; rfl, rfl⟩
  | false =>
    by_cases h0 : 0 < l.length
    · have HE : Hid (endE l false = 20) := Lib.hid (if_pos (.inr h0))
      have hl : (0 : Int) < (l.length : Int) := by omega
      clear h hB h0
      go_enter Tryz.func87, Tryz.ntmps87
      go_wp2_with fail
      go_ret
      exact ⟨by rw [HE.out]; rfl, rfl⟩
    · have HE : Hid (endE l false = 0) := Lib.hid (if_neg fun h => h.elim (fun h => by cases h) h0)
      have hl : ¬ (0 : Int) < (l.length : Int) := by omega
      clear h hB h0
      go_enter Tryz.func87, Tryz.ntmps87
      go_wp2_with fail
      go_ret
      exact ⟨by rw [HE.out]; rfl, rfl⟩

set_option maxHeartbeats 1000000 in
theorem qtext_any (b most : Nat) (l : List Nat) (bad : Bool) (w : World) (h : RdrIs w b rb l bad) (hm : most ≤ 1000000) :
    Calls Tryz.prog 86 #[.pointer (some ⟨b, 0, none⟩), .int .i64 most] w fun e w' => e = .returned (.string (strN (textV most l))) ∧ RdrIs w' b rb (textL most l) (bad || textB most l) ∧ Kept w w' (fun k => k = b) := by
  have C := Lib.hid (qnum_any b most l bad w h (by omega) (by omega))
  have hm' : (most : Int) ≤ 1000000 := by omega
  have hm0 : ¬ (most : Int) < 0 := by omega
  have hvm : ((numV most l : Nat) : Int) ≤ 1000000 := by have := numV_le most l; omega
  have HN : Hid ((most : Int).toNat = most) := Lib.hid (Int.toNat_natCast _)
  have hsm : (numL most l).length ≤ 2097152 := by
    obtain ⟨v, _, hB, _⟩ := h.ex
    have := numL_le most l; have := hB.small; omega
  have hll : ((numL most l).length : Int) ≤ 2097152 := by omega
  clear h hm hsm
  by_cases hg : textGood most l
  · have HG := Lib.hid hg
    have hgi : ((numV most l : Nat) : Int) ≤ ((numL most l).length : Int) := by unfold textGood at hg; omega
    have HV : Hid (textV most l = (numL most l).take (numV most l) ∧ textL most l = (numL most l).drop (numV most l) ∧ textB most l = numB most l) := Lib.hid (by simp [textV, textL, textB, hg])
    have HGL : Hid (numV most l ≤ (numL most l).length) := Lib.hid hg
    clear hg
    go_enter Tryz.func86, Tryz.ntmps86
    go_wp2_with fail
    refine C.out.mono ?_
    rintro e w1 ⟨rfl, h1, h2⟩
    rw [HN.out] at h1 ⊢
    have H1 := Lib.hid h1
    have H2 := Lib.hid h2
    clear h1 h2
    go_wp2_with fail
    refine (qleft_any b _ _ _ H1.out).mono ?_
    rintro e w2 ⟨rfl, rfl⟩
    go_wp2_with fail
    refine (qraw_any b (numV most l) _ _ _ H1.out HGL.out).mono ?_
    rintro e w3 ⟨v3, rfl, hB3, h3, k3⟩
    have HB3 := Lib.hid hB3
    have H3 := Lib.hid h3
    have K3 := Lib.hid k3
    clear hB3 h3 k3
    go_wp2_with (refine wpList_to_str rfl 22 9 5 _ rfl Tryz.underlying22 Tryz.underlying5 Tryz.underlying9 _ _ rfl HB3.out ?_)
    go_ret
    exact ⟨by rw [HV.out.1]; rfl, by rw [HV.out.2.1, HV.out.2.2]; exact H3.out, H2.out.trans K3.out⟩
  · have hgi : ((numL most l).length : Int) < ((numV most l : Nat) : Int) := by unfold textGood at hg; omega
    have HV : Hid (textV most l = [] ∧ textL most l = [] ∧ textB most l = true) := Lib.hid (by simp [textV, textL, textB, hg])
    clear hg
    go_enter Tryz.func86, Tryz.ntmps86
    go_wp2_with fail
    refine C.out.mono ?_
    rintro e w1 ⟨rfl, h1, h2⟩
    rw [HN.out] at h1 ⊢
    have H1 := Lib.hid h1
    have H2 := Lib.hid h2
    clear h1 h2
    go_wp2_with fail
    refine (qleft_any b _ _ _ H1.out).mono ?_
    rintro e w2 ⟨rfl, rfl⟩
    go_wp2_with fail
    refine (qfail_any b _ _ _ H1.out).mono ?_
    rintro e w3 ⟨rfl, h3, k3⟩
    have H3 := Lib.hid h3
    have K3 := Lib.hid k3
    clear h3 k3
    go_wp2_with fail
    go_ret
    exact ⟨by rw [HV.out.1]; rfl, by rw [HV.out.2.1, HV.out.2.2, Bool.or_true]; exact H3.out, H2.out.trans K3.out⟩
end Go.Proofs.YtofhccpagnkalaaGreat
