/- Contracts of the document's reader: Raw, Text, End; no conditions but the ranges. -/
import Derived.Test.YtofhccpagnkalaaGreatRr
namespace Go.Proofs.YtofhccpagnkalaaGreat
open Go.RowKit Go.Maps Go.Proofs.Own
variable {rb : Nat}

set_option maxHeartbeats 1000000 in
theorem rraw_any (b n : Nat) (l : List Nat) (bad : Bool) (w : World) (h : RdrIs w b rb l bad) (hn : n ≤ l.length) :
    Calls Tryz.prog 145 #[.pointer (some ⟨b, 0, none⟩), .int .i64 n] w fun e w' => ∃ v, e = .returned v ∧ Bytes w' v (l.take n) ∧ RdrIs w' b rb (l.drop n) bad ∧ Kept w w' (fun k => k = b) := by
  have H := Lib.hid h
  obtain ⟨v, c0, hB, hvb⟩ := h.ex
  have f0 := h.free0
  obtain ⟨v1, hB1, hcut1⟩ := hB.cuth Tryz.u8s n hn
  obtain ⟨v2, hB2, hv2, hcut2⟩ := hB.cutlo Tryz.u8s n hn
  have hv2' : l.drop n = [] ∨ v2.ownBlock = some rb := by rw [hv2]; exact hvb.imp (fun h => by rw [h]; simp) id
  have hlb : (l.length : Int) ≤ 2097152 := by have := hB.small; omega
  have hn' : (n : Int) ≤ (l.length : Int) := by omega
  have hn0 : ¬ (n : Int) < 0 := by omega
  obtain ⟨a, c, rfl, _⟩ := hB.shape
  obtain ⟨a2, c2, rfl, _⟩ := hB2.shape
  rw [List.length_drop] at hcut2 hB2 hv2'
  have HB1 := Lib.hid hB1
  have HB2 := Lib.hid hB2
  have HV2 := Lib.hid hv2'
  have hs1 : (ints (l.take n)).length ≤ 2097152 := by rw [length_ints]; exact hB1.small
  have HLN : Hid (([] : List Int).length + (ints (l.take n)).length ≤ 4294967296) := Lib.hid (by simp only [List.length_nil]; omega)
  have HC0 := Lib.hid c0
  have HF0 := Lib.hid f0
  have hbs := h.lt
  have HE : Hid (Owns (w.alloc (.cells #[] 5)) w.heap.size 5 .u8 (.slice (some ⟨w.heap.size, 0, none⟩) 0 0) []) := Lib.hid (Owns.empty (heap_alloc_new _ _) (Nat.le_refl _))
  clear h hB hvb hn hB1 hB2 hv2 hv2' hs1
  go_enter Tryz.func145, Tryz.ntmps145
  go_wp2_with (at_builtin; refine wpList_append_ints Tryz.u8s _ _ rfl w.heap.size _ _ [] _ rfl rfl HE.out (HB1.out.rd.alloc _) (by decide) HLN.out (by simp) rfl ?_; intro v3 w1 hown3 hgr3 hat3 hnil3 hbel3; have O1 : Hid (Owns w1 w.heap.size 5 .u8 v3 (ints (l.take n))) := Lib.hid (by simpa using hown3); have B1 : Hid (Below w.heap.size w w1) := Lib.hid (((Below.refl _ _).alloc (Nat.le_refl _) _).trans hbel3); clear hown3 hgr3 hat3 hnil3 hbel3 c0 f0; have c0 := Below.at B1.out HC0.out H.out.lt; have f0 : w1.frozen? ⟨b, 0, none⟩ = false := (H.out.below B1.out).free0; have hbs1 : b < w1.heap.size := Nat.lt_of_lt_of_le hbs B1.out.size)
  have O2 : Hid (Bytes w1 v3 (l.take n)) := Lib.hid (Bytes.of_owns O1.out HB1.out.lt HB1.out.small)
  have O3 : Hid (v3.ownBlock ≠ some b) := Lib.hid fun e => by have := (O1.out.lt b e).1; have := H.out.lt; omega
  go_ret
  refine ⟨_, rfl, O2.out.kept (Kept.setCell _ ⟨b, 0, none⟩ _) fun k hk e => O3.out (by rw [hk, e]), (H.out.below B1.out).set (HB2.out.below B1.out) HV2.out, ?_⟩
  exact (Kept.of_below B1.out (S := fun k => k = b) (fun k h1 h2 => by omega)).trans (Kept.setCell _ ⟨b, 0, none⟩ _)

theorem rend_any (b : Nat) (l : List Nat) (bad : Bool) (w : World) (h : RdrIs w b rb l bad) :
    Calls Tryz.prog 91 #[.pointer (some ⟨b, 0, none⟩)] w fun e w' => e = .returned (.int .i64 (endE l bad)) ∧ w = w' := by
  obtain ⟨v, c0, hB, _⟩ := h.ex
  have c1 := h.bad
  have hlb : (l.length : Int) ≤ 2097152 := by have := hB.small; omega
  obtain ⟨a, c, rfl, _⟩ := hB.shape
  cases bad with
  | true =>
    have HE : Hid (endE l true = 20) := Lib.hid (by simp [endE])
    clear h hB
    go_enter Tryz.func91, Tryz.ntmps91
    go_wp2_with fail
    go_ret
    exact ⟨by rw [HE.out]; rfl, rfl⟩
  | false =>
    by_cases h0 : 0 < l.length
    · have HE : Hid (endE l false = 20) := Lib.hid (if_pos (.inr h0))
      have hl : (0 : Int) < (l.length : Int) := by omega
      clear h hB h0
      go_enter Tryz.func91, Tryz.ntmps91
      go_wp2_with fail
      go_ret
      exact ⟨by rw [HE.out]; rfl, rfl⟩
    · have HE : Hid (endE l false = 0) := Lib.hid (if_neg fun h => h.elim (fun h => by cases h) h0)
      have hl : ¬ (0 : Int) < (l.length : Int) := by omega
      clear h hB h0
      go_enter Tryz.func91, Tryz.ntmps91
      go_wp2_with fail
      go_ret
      exact ⟨by rw [HE.out]; rfl, rfl⟩

set_option maxHeartbeats 1000000 in
theorem rtext_any (b most : Nat) (l : List Nat) (bad : Bool) (w : World) (h : RdrIs w b rb l bad) (hm : most ≤ 1000000) :
    Calls Tryz.prog 125 #[.pointer (some ⟨b, 0, none⟩), .int .i64 most] w fun e w' => e = .returned (.string (strN (textV most l))) ∧ RdrIs w' b rb (textL most l) (bad || textB most l) ∧ Kept w w' (fun k => k = b) := by
  have C := Lib.hid (rnum_any b most l bad w h (by omega) (by omega))
  have hm' : (most : Int) ≤ 1000000 := by omega
  have hm0 : ¬ (most : Int) < 0 := by omega
  have hvm : ((numV most l : Nat) : Int) ≤ 1000000 := by have := numV_le most l; omega
  have HN : Hid ((most : Int).toNat = most) := Lib.hid (Int.toNat_natCast _)
  have hsm : (numL most l).length ≤ 2097152 := by
    obtain ⟨v, _, hB, _⟩ := h.ex
    have := numL_le most l; have := hB.small; omega
  have hll : ((numL most l).length : Int) ≤ 2097152 := by omega
  clear h hm hsm
  by_cases hg : textGood most l
  · have hgi : ((numV most l : Nat) : Int) ≤ ((numL most l).length : Int) := by unfold textGood at hg; omega
    have HV : Hid (textV most l = (numL most l).take (numV most l) ∧ textL most l = (numL most l).drop (numV most l) ∧ textB most l = numB most l) := Lib.hid (by simp [textV, textL, textB, hg])
    have HGL : Hid (numV most l ≤ (numL most l).length) := Lib.hid hg
    clear hg
    go_enter Tryz.func125, Tryz.ntmps125
    go_wp2_with fail
    refine C.out.mono ?_
    rintro e w1 ⟨rfl, h1, h2⟩
    rw [HN.out] at h1 ⊢
    have H1 := Lib.hid h1
    have H2 := Lib.hid h2
    obtain ⟨v, c0, hB, _⟩ := h1.ex
    obtain ⟨a, c, rfl, _⟩ := hB.shape
    clear h1 h2 hB
    go_wp2_with fail
    refine (rraw_any b (numV most l) _ _ _ H1.out HGL.out).mono ?_
    rintro e w3 ⟨v3, rfl, hB3, h3, k3⟩
    have HB3 := Lib.hid hB3
    have H3 := Lib.hid h3
    have K3 := Lib.hid k3
    clear hB3 h3 k3
    go_wp2_with (refine wpList_to_str rfl 22 9 5 _ rfl Tryz.underlying22 Tryz.underlying5 Tryz.underlying9 _ _ rfl HB3.out ?_)
    go_ret
    exact ⟨by rw [HV.out.1]; rfl, by rw [HV.out.2.1, HV.out.2.2]; exact H3.out, H2.out.trans K3.out⟩
  · have hgi : ((numL most l).length : Int) < ((numV most l : Nat) : Int) := by unfold textGood at hg; omega
    have HV : Hid (textV most l = [] ∧ textL most l = [] ∧ textB most l = true) := Lib.hid (by simp [textV, textL, textB, hg])
    clear hg
    go_enter Tryz.func125, Tryz.ntmps125
    go_wp2_with fail
    refine C.out.mono ?_
    rintro e w1 ⟨rfl, h1, h2⟩
    rw [HN.out] at h1 ⊢
    have H1 := Lib.hid h1
    have H2 := Lib.hid h2
    obtain ⟨v, c0, hB, _⟩ := h1.ex
    obtain ⟨a, c, rfl, _⟩ := hB.shape
    clear h1 h2 hB
    go_wp2_with fail
    refine (rfail_any b _ _ _ H1.out).mono ?_
    rintro e w3 ⟨rfl, h3, k3⟩
    have H3 := Lib.hid h3
    have K3 := Lib.hid k3
    clear h3 k3
    go_wp2_with fail
    go_ret
    exact ⟨by rw [HV.out.1]; rfl, by rw [HV.out.2.1, HV.out.2.2, Bool.or_true]; exact H3.out, H2.out.trans K3.out⟩
end Go.Proofs.YtofhccpagnkalaaGreat
