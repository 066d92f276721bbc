/- The disks of the chapter's example; no conditions. -/
import Derived.Test.YtofhccpagnkalaaPla
namespace Go.Proofs.Ytofhccpagnkalaa
open Go.RowKit Go.Maps Go.Proofs.Own

def lvD (f : List FileS) (n : Int) : DiskS := ⟨1000, f, false, -1, n⟩
theorem lv_step (f : List FileS) (n : Int) : stepD (lvD f n) = lvD f (n + 1) := rfl
theorem lv_good0 : DGood (lvD [] 0) := ⟨⟨by decide, by decide, by decide, by decide, by decide, by decide, by decide, fun f h => by cases h⟩, by decide, by decide⟩
theorem lv_gone : goneD (lvD [] 0) = (lvD [] 0, 0) := rfl
theorem lv_none : fileE (lvD [] 0) nSnap = 31 := rfl
theorem lv_app (b : List Nat) (h : b.length ≤ 1000) : appendD (lvD [] 0) nOther b = (lvD [⟨nOther, b, 0⟩] 1, 0) := by
  have he : appE (lvD [] 0) nOther b = 0 := by
    unfold appE
    rw [if_neg (by decide), if_neg (by decide), if_neg]
    rintro (h1 | h1)
    · exact absurd h1.2 (by decide)
    · have : freeD (lvD [] 0) = 1000 := by decide
      rw [this] at h1; omega
  unfold appendD
  rw [he]
  rfl
theorem lv_find (n : ByteArray) (b : List Nat) (k : Nat) : findFile n [(⟨n, b, k⟩ : FileS)] = some ⟨n, b, k⟩ := by simp [findFile]
theorem lv_sync (b : List Nat) : syncD (lvD [⟨nOther, b, 0⟩] 1) nOther = (lvD [⟨nOther, b, b.length⟩] 2, 0) := by
  unfold syncD
  rw [show (lvD [⟨nOther, b, 0⟩] 1).files = [⟨nOther, b, 0⟩] from rfl, lv_find]
  simp only
  rw [if_neg (by show ¬ (false = true); decide), if_neg (by show ¬ ((-1 : Int) = 0); decide), lv_step]
  simp [putFile, delFile, insFile, lvD]
theorem lv_move (b : List Nat) : moveD (lvD [⟨nOther, b, b.length⟩] 2) nOther nSnap = (lvD [⟨nSnap, b, b.length⟩] 3, 0) := by
  unfold moveD
  rw [show (lvD [⟨nOther, b, b.length⟩] 2).files = [⟨nOther, b, b.length⟩] from rfl, lv_find]
  simp only
  rw [if_neg (by show ¬ (false = true); decide), if_neg (by decide), if_neg (by show ¬ ((-1 : Int) = 0); decide), lv_step]
  simp [putFile, delFile, insFile, lvD]
theorem lv_ok : (plainS 5).ok := by decide
theorem lv_len : (frP 4 (snapW (plainS 5))).length ≤ 1000 := by
  have h1 := headW_len (n := 5) (k := 1) (by decide) (by decide) [0] (by decide)
  have h2 := memsW_len (ms := [0]) (by decide) 1
  have h3 := numW_len (n := 1) (by decide)
  have e : snapW (plainS 5) = numsW [5, 1, ([0] : List Int).length] ++ numsW ((([0] : List Int).take 1).map Int.toNat) ++ (numW 1 ++ [97]) := rfl
  rw [e]
  unfold frP
  rw [length_sealP]
  simp only [List.length_append, List.length_cons, List.length_nil] at *
  omega
end Go.Proofs.Ytofhccpagnkalaa
