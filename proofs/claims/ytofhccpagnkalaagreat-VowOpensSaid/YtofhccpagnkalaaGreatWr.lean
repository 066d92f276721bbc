/- The contract of the document's Num and Text: a number's bytes; no conditions but the ranges. -/
import Derived.Test.YtofhccpagnkalaaGreatDapp
namespace Go.Proofs.YtofhccpagnkalaaGreat
open Go.RowKit Go.Maps Go.Proofs.Own

/-- A number's digits, base 256, the highest first. -/
def digs (n : Nat) : List Nat := if _h : n = 0 then [] else digs (n / 256) ++ [n % 256]
termination_by n
decreasing_by omega
theorem digs_zero : digs 0 = [] := by rw [digs]; simp
theorem digs_step {n : Nat} (h : n ≠ 0) : digs n = digs (n / 256) ++ [n % 256] := by rw [digs]; simp [h]
def numW (n : Nat) : List Nat := (digs n).length :: digs n
theorem digs_lt (n : Nat) : ∀ c ∈ digs n, c < 256 := by
  induction n using Nat.strongRecOn with
  | _ n ih =>
    by_cases h : n = 0
    · subst h; rw [digs_zero]; simp
    · rw [digs_step h]
      intro c hc
      rcases List.mem_append.1 hc with hc | hc
      · exact ih _ (by omega) c hc
      · simp at hc; omega
theorem digs_len (k : Nat) : ∀ n, n < 256 ^ k → (digs n).length ≤ k := by
  induction k with
  | zero => intro n h; obtain rfl : n = 0 := by simpa using h
            rw [digs_zero]; exact Nat.le_refl _
  | succ k ih =>
    intro n h
    by_cases h0 : n = 0
    · subst h0; rw [digs_zero]; simp
    · rw [digs_step h0, List.length_append]
      have := ih (n / 256) (by rw [Nat.pow_succ] at h; omega)
      simp; omega
theorem digs_le8 {n : Nat} (h : (n : Int) < 18446744073709551616) : (digs n).length ≤ 8 := digs_len 8 n (by have : (256 : Nat) ^ 8 = 18446744073709551616 := by decide
                                                                                                            rw [this]; exact Int.ofNat_lt.1 h)
theorem numW_lt {n : Nat} (h : (n : Int) < 18446744073709551616) : ∀ c ∈ numW n, c < 256 := by
  intro c hc
  have := digs_le8 h
  rcases List.mem_cons.1 hc with rfl | hc
  · omega
  · exact digs_lt n c hc
theorem numW_len {n : Nat} (h : (n : Int) < 18446744073709551616) : (numW n).length ≤ 9 := by
  have := digs_le8 h
  simp only [numW, List.length_cons]; omega

set_option maxHeartbeats 1000000 in
set_option maxRecDepth 20000 in
theorem rnumw_any (n : Nat) (w : World) (hn : (n : Int) < 18446744073709551616) :
    Calls Tryz.prog 134 #[.int .u64 n] w fun e w' => ∃ v, e = .returned v ∧ Owns w' w.heap.size 5 .u8 v (ints (numW n)) ∧ Below w.heap.size w w' := by
  have HL8 := Lib.hid (digs_le8 hn)
  go_enter Tryz.func134, Tryz.ntmps134
  go_wp2_with fail
  go_loopw [0, 3] (fun x s wr => ∃ (m : Nat) (acc : List Nat), (m : Int) < 18446744073709551616 ∧ x = .int .u64 m ∧ Owns wr w.heap.size 5 .u8 s (ints acc) ∧ digs m ++ acc = digs n ∧ Below w.heap.size w wr) (fun x _ _ => (intOf x).toNat)
  case atStart => exact ⟨n, [], hn, rfl, Owns.nil _ _ _ _, by simp, Below.refl _ _⟩
  case round =>
    obtain ⟨m, acc, hm, rfl, hown, hdig, hbl⟩ := hrel
    have HB := Lib.hid hbl
    have HO := Lib.hid hown
    have HD := Lib.hid hdig
    have HM := Lib.hid hm
    have hsz := hbl.size
    obtain ⟨a, c, rfl⟩ := hown.shape
    have hal : acc.length ≤ 8 := by have := HL8.out; rw [← hdig, List.length_append] at this; omega
    clear hbl hown hdig hm
    rw [length_ints] at *
    by_cases h0 : m = 0
    · subst h0
      have HE : Hid (acc = digs n) := Lib.hid (by have := HD.out; rwa [digs_zero, List.nil_append] at this)
      have HLN : Hid (([(acc.length : Int)] : List Int).length + (ints acc).length ≤ 4294967296) := Lib.hid (by rw [length_ints]; simp only [List.length_cons, List.length_nil]; omega)
      have H1 : Hid (∀ (u : World) (z : Int), Owns (u.alloc (.cells #[.int .u8 z] 5)) u.heap.size 5 .u8 (.slice (some ⟨u.heap.size, 0, none⟩) 1 1) [z]) :=
        Lib.hid fun u z => Owns.lit (zs := [z]) (heap_alloc_new _ _) (Nat.le_refl _) (by simp)
      go_wp2_with (at_builtin; refine wpList_append_ints Tryz.u8s _ _ rfl _ _ _ _ _ rfl rfl (H1.out _ _) (HO.out.reads.alloc _) (by decide) HLN.out (by simp) rfl ?_; intro v2 w2 hown2 hgr2 hat2 hnil2 hbel2; have HO2 := Lib.hid hown2; have B2 := Lib.hid hbel2; clear hown2 hgr2 hat2 hnil2 hbel2)
      go_ret
      have HA := HE.out
      subst HA
      have B2' : Below w.heap.size w w2 := HB.out.trans (((Below.refl _ _).alloc hsz _).trans (B2.out.mono hsz))
      exact ⟨v2, rfl, HO2.out.lower (fun b hb => by have := (HO2.out.lt b hb).1; omega), B2'⟩
    · have hm0 : (0 : Int) < (m : Int) := by omega
      have HLN : Hid (([(m : Int) % 256] : List Int).length + (ints acc).length ≤ 4294967296) := Lib.hid (by rw [length_ints]; simp only [List.length_cons, List.length_nil]; omega)
      have H1 : Hid (∀ (u : World) (z : Int), Owns (u.alloc (.cells #[.int .u8 z] 5)) u.heap.size 5 .u8 (.slice (some ⟨u.heap.size, 0, none⟩) 1 1) [z]) :=
        Lib.hid fun u z => Owns.lit (zs := [z]) (heap_alloc_new _ _) (Nat.le_refl _) (by simp)
      have HDS := Lib.hid (digs_step h0)
      clear h0
      have hm1 : (m : Int) < 18446744073709551616 := HM.out
      have HQ : Hid (((m / 256 : Nat) : Int) = (m : Int) / 256) := Lib.hid (by omega)
      have HR : Hid (((m % 256 : Nat) : Int) = (m : Int) % 256) := Lib.hid (by omega)
      generalize hz : (m : Int) = z at hm0 hm1 HQ HR HLN ⊢
      have HZ := Lib.hid hz
      clear hz
      have hzr : 0 ≤ z % 256 ∧ z % 256 < 256 := by omega
      go_wp2_with (at_builtin; refine wpList_append_ints Tryz.u8s _ _ rfl _ _ _ _ _ rfl rfl (H1.out _ _) (HO.out.reads.alloc _) (by decide) HLN.out (by simp) rfl ?_; intro v2 w2 hown2 hgr2 hat2 hnil2 hbel2; have HO2 := Lib.hid hown2; have B2 := Lib.hid hbel2; clear hown2 hgr2 hat2 hnil2 hbel2)
      go_roundw
      case rel =>
        refine ⟨m / 256, (m % 256) :: acc, Int.lt_of_le_of_lt (by omega) HM.out, by rw [HQ.out], ?_, ?_, HB.out.trans (((Below.refl _ _).alloc hsz _).trans (B2.out.mono hsz))⟩
        · rw [show ints (m % 256 :: acc) = [z % 256] ++ ints acc by rw [← HR.out]; rfl]
          exact HO2.out.lower (fun b hb => by have := (HO2.out.lt b hb).1; omega)
        · rw [← HD.out, HDS.out, List.append_assoc]; rfl
      all_goals (show (z / 256).toNat < z.toNat; omega)
end Go.Proofs.YtofhccpagnkalaaGreat
