/- The contract of frame.Take and frame.Whole; no conditions but the ranges. -/
import Derived.Test.YtofhccpagnkalaaGreatFr
namespace Go.Proofs.YtofhccpagnkalaaGreat
open Go.RowKit Go.Maps Go.Proofs.Own

/-- The body of the frame with which bytes begin. -/
def frBody (l : List Nat) : List Nat := (l.take (frN l + 5)).drop 5
def TakePost (l : List Nat) (w : World) : Ending → World → Prop := fun E w' => Below w.heap.size w w' ∧
  (takeE l ≠ 0 → E = .returned (.tuple #[.int .u8 0, .slice none 0 0, .int .i64 0, .int .i64 (takeE l)])) ∧
  (takeE l = 0 → ∃ v', E = .returned (.tuple #[.int .u8 (l.getD 1 0 : Nat), v', .int .i64 (frN l + 8 : Nat), .int .i64 0]) ∧ Bytes w' v' (frBody l))

theorem length_frBody {l : List Nat} (h : sizeE l = 0) : (frBody l).length = frN l := by
  have := sizeE_len h
  simp [frBody]; omega

set_option maxHeartbeats 1000000 in
theorem take_any (v : Value) (l : List Nat) (w : World) (hB : Bytes w v l) : Calls Tryz.prog 118 #[v] w (TakePost l w) := by
  have HB := Lib.hid hB
  by_cases hs : sizeE l = 0
  · obtain ⟨h5, hN, hlen⟩ := sizeE_len hs
    have hsz : szN l = frN l + 8 := by rw [szN, if_pos hs]
    obtain ⟨t, ht⟩ : ∃ t, t = frN l + 8 := ⟨_, rfl⟩
    obtain ⟨v1, hB1, hcut⟩ := hB.cuth Tryz.u8s t (by omega)
    have hl1 : (l.take t).length = frN l + 5 + 3 := by rw [List.length_take]; omega
    have HB1 := Lib.hid hB1
    have HL1 := Lib.hid hl1
    have HT := Lib.hid ht
    have HS := Lib.hid hs
    have HZ : Hid (szN l = t) := Lib.hid (by omega)
    have hsum : takeE l = if SumOk (frN l + 5) (l.take t) then 0 else 22 := by rw [ht]; simp [takeE, hs]
    have HSUM := Lib.hid hsum
    obtain ⟨a, c, rfl, _⟩ := hB.shape
    clear hs hsz hB hB1 hl1 ht h5 hlen hsum
    go_enter Tryz.func118, Tryz.ntmps118
    go_wp2_with fail
    refine (size_any _ l _ HB.out).mono ?_
    rintro e w1 ⟨rfl, hb1⟩
    rw [HZ.out, HS.out]
    have B1 := Lib.hid hb1
    clear hb1
    go_wp2_with fail
    refine (copen_any v1 (l.take t) (frN l + 5) _ (HB1.out.below B1.out) HL1.out).mono ?_
    rintro e w2 ⟨hb2, hyes, hno⟩
    have B2 : Hid (Below w.heap.size w w2) := Lib.hid (B1.out.trans (hb2.mono B1.out.size))
    clear hb2
    by_cases hok : SumOk (frN l + 5) (l.take t)
    · obtain ⟨v2, rfl, hB2⟩ := hyes hok
      have HF : Hid (takeE l = 0) := Lib.hid (by rw [HSUM.out, if_pos hok])
      clear hyes hno hok HSUM
      have e1 : ((l.take t).take (frN l + 5)) = l.take (frN l + 5) := by
        have := HT.out
        rw [List.take_take]; congr 1; omega
      rw [e1] at hB2
      have hl2 : (l.take (frN l + 5)).length = frN l + 5 := by
        have := HL1.out
        rw [List.length_take] at this ⊢; omega
      obtain ⟨v3, hB3, hcut3⟩ := hB2.cutl Tryz.u8s 5 (by omega)
      have HB3 : Hid (Bytes w2 v3 (frBody l)) := Lib.hid hB3
      obtain ⟨b, o, c2, rfl, hle, hbs, hcell⟩ := hB2.somewhere (by omega)
      have c1 := hcell 1 (by omega)
      have e2 : (l.take (frN l + 5)).getD 1 0 = l.getD 1 0 := by
        simp only [List.getD_eq_getElem?_getD]
        rw [List.getElem?_take_of_lt (by omega)]
      rw [e2] at c1
      rw [hl2] at hcut3 ⊢
      have hcut3' : ∀ w', (Instr.slice 22 (.slice (some ⟨b, o, none⟩) (frN l + 5) c2) (some (.int .i64 5)) none none).run Tryz.prog w' = .ok v3 w' := hcut3
      have hi1 : (1 : Int) < (frN l : Int) + 5 := by omega
      have hx : l.getD 1 0 < 256 := HB.out.getD_lt 1
      have HR : Hid ((t : Int) = ((frN l + 8 : Nat) : Int)) := Lib.hid (by rw [HT.out])
      clear hcut3 hcell hle hB2 hB3 e1 e2 hl2 hcut
      generalize hxe : l.getD 1 0 = x at c1 hx
      have HX := Lib.hid hxe
      clear hxe
      go_wp2_with fail
      go_quiet (fail)
      go_wp2_with fail
      refine bodyPost_ret (v := .tuple #[.int .u8 x, v3, .int .i64 t, .int .i64 0]) (by simp [results, Tryz.results118, go_sem]) rfl ?_
      exact ⟨B2.out.trans ((Below.drewN _ _).mono B2.out.size), fun h => absurd HF.out h, fun _ => ⟨v3, by rw [HR.out, HX.out], HB3.out.drewN _⟩⟩
    · have he := hno hok
      subst he
      have HF : Hid (takeE l = 22) := Lib.hid (by rw [HSUM.out, if_neg hok])
      clear hyes hno hok HSUM
      go_wp2_with fail
      refine bodyPost_ret (v := .tuple #[.int .u8 0, .slice none 0 0, .int .i64 0, .int .i64 22]) (by simp [results, Tryz.results118, go_sem]) rfl ?_
      exact ⟨B2.out, fun _ => by rw [HF.out]; rfl, fun h => absurd (HF.out.symm.trans h) (by decide)⟩
  · have ht : takeE l = sizeE l := by simp [takeE, hs]
    have HT := Lib.hid ht
    obtain ⟨k, hk⟩ : ∃ k, k = sizeE l := ⟨_, rfl⟩
    have hk0 : ((k : Int) != 0) = true := by simp; omega
    have hz : szN l = 0 := by rw [szN, if_neg hs]
    have HZ := Lib.hid hz
    have HK := Lib.hid hk
    have HS := Lib.hid hs
    obtain ⟨a, c, rfl, _⟩ := hB.shape
    clear hs hz hk ht hB
    go_enter Tryz.func118, Tryz.ntmps118
    go_wp2_with fail
    refine (size_any _ l _ HB.out).mono ?_
    rintro e w1 ⟨rfl, hb1⟩
    rw [HZ.out, ← HK.out]
    have B1 := Lib.hid hb1
    clear hb1
    go_wp2_with fail
    refine bodyPost_ret (v := .tuple #[.int .u8 0, .slice none 0 0, .int .i64 0, .int .i64 k]) (by simp [results, Tryz.results118, go_sem]) rfl ?_
    exact ⟨B1.out, fun _ => by rw [HT.out, ← HK.out], fun h => absurd (HT.out.symm.trans h) HS.out⟩

def WholeOk (l : List Nat) : Prop := takeE l = 0 ∧ frN l + 8 = l.length
def WholePost (l : List Nat) (w : World) : Ending → World → Prop := fun E w' => Below w.heap.size w w' ∧
  (¬ WholeOk l → E = .returned (.tuple #[.int .u8 0, .slice none 0 0, .bool false])) ∧
  (WholeOk l → ∃ v', E = .returned (.tuple #[.int .u8 (l.getD 1 0 : Nat), v', .bool true]) ∧ Bytes w' v' (frBody l))

set_option maxHeartbeats 1000000 in
theorem whole_any (v : Value) (l : List Nat) (w : World) (hB : Bytes w v l) : Calls Tryz.prog 83 #[v] w (WholePost l w) := by
  have HB := Lib.hid hB
  obtain ⟨a, c, rfl, _⟩ := hB.shape
  clear hB
  by_cases hs : takeE l = 0
  · have HS := Lib.hid hs
    have hx : l.getD 1 0 < 256 := HB.out.getD_lt 1
    have HX := Lib.hid hx
    by_cases hn : frN l + 8 = l.length
    · have hne : (((frN l + 8 : Nat) : Int) != (l.length : Int)) = false := by rw [hn]; simp
      have HW : Hid (WholeOk l) := Lib.hid ⟨hs, hn⟩
      clear hs hn
      generalize hnn : frN l + 8 = n at hne
      have HN := Lib.hid hnn
      clear hnn
      go_enter Tryz.func83, Tryz.ntmps83
      go_wp2_with fail
      refine (take_any _ l _ HB.out).mono ?_
      rintro e w1 ⟨hb1, _, hy⟩
      obtain ⟨v1, rfl, hB1⟩ := hy HS.out
      rw [HN.out]
      have B1 := Lib.hid hb1
      have HB1 := Lib.hid hB1
      have hl1 : (ints (frBody l)).length ≤ 2097152 := by rw [length_ints]; exact hB1.small
      clear hb1 hB1 hy
      go_wp2_with fail
      refine (bclone _ _ _ HB1.out.rd hl1).mono ?_
      rintro e w2 ⟨v2, rfl, hown, hb2⟩
      go_wp2_with fail
      refine bodyPost_ret (v := .tuple #[.int .u8 (l.getD 1 0 : Nat), v2, .bool true]) (by simp [results, Tryz.results83, go_sem]) rfl ?_
      exact ⟨B1.out.trans (hb2.mono B1.out.size), fun h => absurd HW.out h, fun _ => ⟨v2, rfl, Bytes.of_owns hown HB1.out.lt HB1.out.small⟩⟩
    · have hne : (((frN l + 8 : Nat) : Int) != (l.length : Int)) = true := by simp; omega
      have HW : Hid (¬ WholeOk l) := Lib.hid fun h => hn h.2
      clear hs hn
      generalize hnn : frN l + 8 = n at hne
      have HN := Lib.hid hnn
      clear hnn
      go_enter Tryz.func83, Tryz.ntmps83
      go_wp2_with fail
      refine (take_any _ l _ HB.out).mono ?_
      rintro e w1 ⟨hb1, _, hy⟩
      obtain ⟨v1, rfl, hB1⟩ := hy HS.out
      rw [HN.out]
      have B1 := Lib.hid hb1
      clear hb1 hB1 hy
      go_wp2_with fail
      refine bodyPost_ret (v := .tuple #[.int .u8 0, .slice none 0 0, .bool false]) (by simp [results, Tryz.results83, go_sem]) rfl ?_
      exact ⟨B1.out, fun _ => rfl, fun h => absurd h HW.out⟩
  · have HW : Hid (¬ WholeOk l) := Lib.hid fun h => hs h.1
    have HS := Lib.hid hs
    obtain ⟨k, hk⟩ : ∃ k, k = takeE l := ⟨_, rfl⟩
    have hk0 : ((k : Int) != 0) = true := by simp; omega
    have HK := Lib.hid hk
    clear hs hk
    go_enter Tryz.func83, Tryz.ntmps83
    go_wp2_with fail
    refine (take_any _ l _ HB.out).mono ?_
    rintro e w1 ⟨hb1, hy, _⟩
    have he := hy HS.out
    subst he
    rw [← HK.out]
    have B1 := Lib.hid hb1
    clear hb1 hy
    go_wp2_with fail
    refine bodyPost_ret (v := .tuple #[.int .u8 0, .slice none 0 0, .bool false]) (by simp [results, Tryz.results83, go_sem]) rfl ?_
    exact ⟨B1.out, fun _ => rfl, fun h => absurd h HW.out⟩
end Go.Proofs.YtofhccpagnkalaaGreat
