/- The disk's calls, each by one function; what they keep; no conditions but the ranges. -/
import Derived.Test.YtofhccpagnkalaaGreatCopy
namespace Go.Proofs.YtofhccpagnkalaaGreat
open Go.RowKit Go.Maps Go.Proofs.Own

def removeD (D : DiskS) (n : ByteArray) : DiskS × Nat :=
  match findFile n D.files with
  | some _ => if D.down = true then (D, 50) else if D.armed = 0 then (stepD D, 50) else ({ stepD D with files := delFile n D.files }, 0)
  | none => (D, fileE D n)
def moveD (D : DiskS) (n to : ByteArray) : DiskS × Nat :=
  match findFile n D.files with
  | some f => if D.down = true then (D, 50) else if ¬ (1 ≤ to.size ∧ to.size ≤ 16) then (D, 2) else if D.armed = 0 then (stepD D, 50) else ({ stepD D with files := putFile { f with name := to } (delFile n D.files) }, 0)
  | none => (D, fileE D n)
theorem fileE_some {D : DiskS} {n : ByteArray} {f : FileS} (h : findFile n D.files = some f) : fileE D n = if D.down = true then 50 else 0 := by
  unfold fileE; rw [h]; simp
theorem fileE_none {D : DiskS} {n : ByteArray} (h : findFile n D.files = none) : fileE D n ≠ 0 := by
  unfold fileE; rw [h]; split <;> simp

theorem dsync_any (db mb tb : Nat) (D : DiskS) (n : ByteArray) (w : World) (h : DiskIs w db mb tb D) (hw : DWf D) (hn : n.size ≤ maxLen) :
    Calls Tryz.prog 75 #[.pointer (some ⟨db, 0, none⟩), .string n] w (OpPost db mb tb (syncD D n) w) := by
  unfold syncD
  cases e : findFile n D.files with
  | none => exact dsync_err db mb tb D n w h hn (fileE_none e)
  | some f =>
    simp only
    by_cases hd : D.down = true
    · rw [if_pos hd]
      have := dsync_err db mb tb D n w h hn (by rw [fileE_some e, if_pos hd]; decide)
      rwa [fileE_some e, if_pos hd] at this
    · rw [if_neg hd]
      have hd' : D.down = false := by simpa using hd
      by_cases ha : D.armed = 0
      · rw [if_pos ha]; exact dsync_down db mb tb D n f w h hw hd' hn e ha
      · rw [if_neg ha]; exact dsync_ok db mb tb D n f w h hw hd' hn e ha
theorem dremove_any (db mb tb : Nat) (D : DiskS) (n : ByteArray) (w : World) (h : DiskIs w db mb tb D) (hw : DWf D) (hn : n.size ≤ maxLen) :
    Calls Tryz.prog 81 #[.pointer (some ⟨db, 0, none⟩), .string n] w (OpPost db mb tb (removeD D n) w) := by
  unfold removeD
  cases e : findFile n D.files with
  | none => exact dremove_err db mb tb D n w h hn (fileE_none e)
  | some f =>
    simp only
    by_cases hd : D.down = true
    · rw [if_pos hd]
      have := dremove_err db mb tb D n w h hn (by rw [fileE_some e, if_pos hd]; decide)
      rwa [fileE_some e, if_pos hd] at this
    · rw [if_neg hd]
      have hd' : D.down = false := by simpa using hd
      by_cases ha : D.armed = 0
      · rw [if_pos ha]; exact dremove_down db mb tb D n f w h hw hd' hn e ha
      · rw [if_neg ha]; exact dremove_ok db mb tb D n f w h hw hd' hn e ha
theorem dmove_any (db mb tb : Nat) (D : DiskS) (n to : ByteArray) (w : World) (h : DiskIs w db mb tb D) (hw : DWf D) (hn : n.size ≤ maxLen) (hto : to.size ≤ 9223372036854775807) :
    Calls Tryz.prog 77 #[.pointer (some ⟨db, 0, none⟩), .string n, .string to] w (OpPost db mb tb (moveD D n to) w) := by
  unfold moveD
  cases e : findFile n D.files with
  | none => exact dmove_err db mb tb D n to w h hn (fileE_none e)
  | some f =>
    simp only
    by_cases hd : D.down = true
    · rw [if_pos hd]
      have := dmove_err db mb tb D n to w h hn (by rw [fileE_some e, if_pos hd]; decide)
      rwa [fileE_some e, if_pos hd] at this
    · rw [if_neg hd]
      have hd' : D.down = false := by simpa using hd
      by_cases ht : 1 ≤ to.size ∧ to.size ≤ 16
      · rw [if_neg (by simpa using ht)]
        by_cases ha : D.armed = 0
        · rw [if_pos ha]; exact dmove_down db mb tb D n to f w h hw hd' hn e ht ha
        · rw [if_neg ha]; exact dmove_ok db mb tb D n to f w h hw hd' hn e ht ha
      · rw [if_pos ht]; exact dmove_name db mb tb D n to f w h hw hd' hn e hto ht

/-- A disk within its bounds. -/
structure DGood (D : DiskS) : Prop where
  wf : DWf D
  tot : total D.files ≤ 1048576
  few : D.files.length ≤ 128
theorem total_ins (f : FileS) : ∀ L, total (insFile f L) = f.all.length + total L
  | [] => by simp [insFile, total]
  | g :: r => by
    unfold insFile
    split
    · exact total_cons _ _
    · rw [total_cons, total_ins f r, total_cons]; omega
theorem length_ins (f : FileS) : ∀ L, (insFile f L).length = L.length + 1
  | [] => rfl
  | g :: r => by
    unfold insFile
    split
    · rfl
    · simp [length_ins f r]
theorem total_del (n : ByteArray) : ∀ L, total (delFile n L) ≤ total L
  | [] => Nat.le_refl _
  | g :: r => by
    unfold delFile
    rw [List.filter_cons]
    split
    · have := total_del n r; unfold delFile at this; rw [total_cons, total_cons]; omega
    · have := total_del n r; unfold delFile at this; rw [total_cons]; omega
theorem total_del_find {n : ByteArray} {f : FileS} : ∀ {L}, findFile n L = some f → total (delFile n L) + f.all.length ≤ total L ∧ (delFile n L).length + 1 ≤ L.length
  | [], h => by cases h
  | g :: r, h => by
    unfold findFile at h
    rw [List.find?_cons] at h
    unfold delFile
    rw [List.filter_cons]
    by_cases e : g.name = n
    · rw [decide_eq_true e] at h ⊢
      cases h
      have h1 := total_del n r
      have h2 : (delFile n r).length ≤ r.length := List.length_filter_le _ _
      unfold delFile at h1 h2
      simp only [Bool.not_true, Bool.false_eq_true, if_false, total_cons, List.length_cons]
      omega
    · rw [decide_eq_false e] at h ⊢
      have h1 := total_del_find (L := r) h
      unfold delFile at h1
      simp only [Bool.not_false, if_true, total_cons, List.length_cons]
      omega
theorem length_del (n : ByteArray) (L : List FileS) : (delFile n L).length ≤ L.length := List.length_filter_le _ _
theorem DGood.step {D : DiskS} (h : DGood D) (hs : D.steps + 1 ≤ 1000000000) : DGood (stepD D) :=
  ⟨h.wf.step hs, by rw [stepD_files]; exact h.tot, by rw [stepD_files]; exact h.few⟩
/-- The same disk with other files. -/
theorem DGood.withFiles {D : DiskS} (h : DGood D) (hs : D.steps + 1 ≤ 1000000000) (L : List FileS) (h1 : total L ≤ 1048576) (h2 : L.length ≤ 128) (h3 : ∀ f ∈ L, f.name.size ≤ 16 ∧ f.kept ≤ f.all.length) : DGood { stepD D with files := L } := by
  have k := h.wf.step hs
  exact ⟨⟨k.room0, k.room1, k.armed0, k.armed1, k.steps0, k.steps1, by simp only; omega, h3⟩, h1, h2⟩
theorem DGood.sync {D : DiskS} (h : DGood D) (n : ByteArray) (hs : D.steps + 1 ≤ 1000000000) : DGood (syncD D n).1 ∧ (syncD D n).1.steps ≤ D.steps + 1 := by
  unfold syncD
  cases e : findFile n D.files with
  | none => exact ⟨h, by simp only; omega⟩
  | some f =>
    simp only
    split
    · exact ⟨h, by simp only; omega⟩
    · split
      · exact ⟨h.step hs, by simp only; rw [stepD_steps]; omega⟩
      · obtain ⟨e1, e2⟩ := find_name e
        have e3 := total_del_find e
        refine ⟨h.withFiles hs _ ?_ ?_ ?_, by simp only; rw [stepD_steps]; omega⟩
        · unfold putFile; rw [total_ins]; simp only; rw [e1]; have := h.tot; omega
        · unfold putFile; rw [length_ins]; simp only; rw [e1]; have := h.few; omega
        · intro g hg
          rcases mem_put.1 hg with rfl | ⟨hg, _⟩
          · exact ⟨(h.wf.each f e2).1, Nat.le_refl _⟩
          · exact h.wf.each g hg
theorem DGood.remove {D : DiskS} (h : DGood D) (n : ByteArray) (hs : D.steps + 1 ≤ 1000000000) : DGood (removeD D n).1 ∧ (removeD D n).1.steps ≤ D.steps + 1 := by
  unfold removeD
  cases e : findFile n D.files with
  | none => exact ⟨h, by simp only; omega⟩
  | some f =>
    simp only
    split
    · exact ⟨h, by simp only; omega⟩
    · split
      · exact ⟨h.step hs, by simp only; rw [stepD_steps]; omega⟩
      · refine ⟨h.withFiles hs _ (Nat.le_trans (total_del _ _) h.tot) (Nat.le_trans (length_del _ _) h.few) fun g hg => h.wf.each g (mem_del.1 hg).1, by simp only; rw [stepD_steps]; omega⟩
theorem DGood.move {D : DiskS} (h : DGood D) (n to : ByteArray) (hs : D.steps + 1 ≤ 1000000000) : DGood (moveD D n to).1 ∧ (moveD D n to).1.steps ≤ D.steps + 1 := by
  unfold moveD
  cases e : findFile n D.files with
  | none => exact ⟨h, by simp only; omega⟩
  | some f =>
    simp only
    split
    · exact ⟨h, by simp only; omega⟩
    · split
      · exact ⟨h, by simp only; omega⟩
      · rename_i ht
        split
        · exact ⟨h.step hs, by simp only; rw [stepD_steps]; omega⟩
        · obtain ⟨e1, e2⟩ := find_name e
          have e3 := total_del_find e
          refine ⟨h.withFiles hs _ ?_ ?_ ?_, by simp only; rw [stepD_steps]; omega⟩
          · unfold putFile; rw [total_ins]; simp only; have := h.tot; have := total_del to (delFile n D.files); omega
          · unfold putFile; rw [length_ins]; simp only; have := h.few; have := length_del to (delFile n D.files); omega
          · intro g hg
            rcases mem_put.1 hg with rfl | ⟨hg, _⟩
            · exact ⟨by have : 1 ≤ to.size ∧ to.size ≤ 16 := by simpa using ht
                        exact this.2, (h.wf.each f e2).2⟩
            · exact h.wf.each g (mem_del.1 hg).1

theorem getF_some {D : DiskS} {n : ByteArray} {f : FileS} (h : findFile n D.files = some f) : getF D n = f := by unfold getF; rw [h]; rfl
theorem getF_none {D : DiskS} {n : ByteArray} (h : findFile n D.files = none) : getF D n = ⟨n, [], 0⟩ := by unfold getF; rw [h]; rfl
theorem app_room {D : DiskS} (h : DGood D) {b : List Nat} (hf : ¬ freeD D < b.length) : b = [] ∨ total D.files + b.length ≤ 1048576 := by
  by_cases h0 : b.length = 0
  · exact .inl (List.eq_nil_of_length_eq_zero h0)
  · refine .inr ?_
    have := h.wf.room1
    unfold freeD at hf
    omega
theorem app_good {D : DiskS} (h : DGood D) (n : ByteArray) (b : List Nat) (hnm : 1 ≤ n.size ∧ n.size ≤ 16) (hm : findFile n D.files = none → D.files.length < 128) (hf : ¬ freeD D < b.length) : DGood (appD D n b) ∧ (getF D n).all.length + b.length ≤ 2097152 := by
  have hr := app_room h hf
  have ht := h.tot
  have hb : b.length ≤ 1048576 := by rcases hr with rfl | hr <;> simp_all <;> omega
  have hbt : total D.files + b.length ≤ 1048576 := by
    rcases hr with rfl | hr
    · simpa using ht
    · exact hr
  unfold appD
  cases e : findFile n D.files with
  | none =>
    rw [getF_none e]
    refine ⟨⟨⟨h.wf.room0, h.wf.room1, h.wf.armed0, h.wf.armed1, h.wf.steps0, h.wf.steps1, ?_, ?_⟩, ?_, ?_⟩, by simp only [List.length_nil]; omega⟩
    · simp only; unfold putFile; rw [length_ins]; have := length_del n D.files; have := hm e; simp only; omega
    · intro g hg
      rcases mem_put.1 hg with rfl | ⟨hg, _⟩
      · exact ⟨hnm.2, Nat.zero_le _⟩
      · exact h.wf.each g hg
    · simp only; unfold putFile; rw [total_ins]; have := total_del n D.files; simp only [List.nil_append]; omega
    · simp only; unfold putFile; rw [length_ins]; have := length_del n D.files; have := hm e; simp only; omega
  | some f =>
    rw [getF_some e]
    obtain ⟨e1, e2⟩ := find_name e
    have e3 := total_del_find e
    refine ⟨⟨⟨h.wf.room0, h.wf.room1, h.wf.armed0, h.wf.armed1, h.wf.steps0, h.wf.steps1, ?_, ?_⟩, ?_, ?_⟩, by omega⟩
    · simp only; unfold putFile; rw [length_ins]; simp only; rw [e1]; have := h.few; omega
    · intro g hg
      rcases mem_put.1 hg with rfl | ⟨hg, _⟩
      · refine ⟨by simp only; rw [e1]; exact hnm.2, ?_⟩
        have := (h.wf.each f e2).2
        simp only [List.length_append]; omega
      · exact h.wf.each g hg
    · simp only; unfold putFile; rw [total_ins]; simp only [List.length_append]; rw [e1]; omega
    · simp only; unfold putFile; rw [length_ins]; simp only; rw [e1]; have := h.few; omega
theorem dapp_any (db mb tb : Nat) (D : DiskS) (n : ByteArray) (bv : Value) (b : List Nat) (w : World) (h : DiskIs w db mb tb D) (hw : DGood D) (hB : Bytes w bv b) (hn : n.size ≤ maxLen) :
    Calls Tryz.prog 10 #[.pointer (some ⟨db, 0, none⟩), .string n, bv] w (OpPost db mb tb (appendD D n b) w) := by
  have ht : total D.files ≤ 4294967296 := Nat.le_trans hw.tot (by decide)
  have no : ∀ k, k ≠ 0 → appE D n b = k → appendD D n b = (D, k) := fun k hk e => by unfold appendD; rw [e, if_pos hk]
  by_cases hd : D.down = true
  · rw [no 50 (by decide) (by unfold appE; rw [if_pos hd])]
    exact dapp_down db mb tb D n bv w h hd
  · have hd' : D.down = false := by simpa using hd
    have hfe := fileE_up (n := n) hd'
    by_cases hnm : 1 ≤ n.size ∧ n.size ≤ 16
    · have hnn : ¬ ¬ (1 ≤ n.size ∧ n.size ≤ 16) := fun e => e hnm
      by_cases hm : findFile n D.files = none ∧ 128 ≤ D.files.length
      · rw [no 30 (by decide) (by unfold appE; rw [if_neg hd, if_neg hnn, if_pos (.inl hm)])]
        rcases hfe with ⟨_, k⟩ | ⟨k, _⟩
        · exact absurd hm.1 k
        · exact dapp_many db mb tb D n bv b w h hw.wf ht hB hd' hn k hnm hm.2
      · have hmk : ∃ k, (k = 0 ∨ (k = 31 ∧ D.files.length < 128)) ∧ fileE D n = k := by
          rcases hfe with ⟨k, _⟩ | ⟨k, k2⟩
          · exact ⟨0, .inl rfl, k⟩
          · exact ⟨31, .inr ⟨rfl, by by_cases h8 : D.files.length < 128
                                     · exact h8
                                     · exact absurd ⟨k2, by omega⟩ hm⟩, k⟩
        obtain ⟨k, hk, hfk⟩ := hmk
        by_cases hfr : freeD D < b.length
        · rw [no 30 (by decide) (by unfold appE; rw [if_neg hd, if_neg hnn, if_pos (.inr hfr)])]
          exact dapp_full db mb tb D n bv b w h hw.wf ht hB k hk hd' hn hfk hnm hfr
        · have he : appE D n b = 0 := by
            unfold appE
            rw [if_neg hd, if_neg hnn, if_neg (by rintro (h1 | h1); exact hm h1; exact hfr h1)]
          have e0 : appendD D n b = (stepD (appD D n b), stepE D) := by unfold appendD; rw [he]; rfl
          rw [e0]
          have g := app_good hw n b hnm (fun e => by
            by_cases h8 : D.files.length < 128
            · exact h8
            · exact absurd ⟨e, by omega⟩ hm) hfr
          exact dapp_ok db mb tb D n bv b w h hw.wf ht hB k hk hd' hn hfk hnm hfr g.2 g.1.wf
    · rw [no 2 (by decide) (by unfold appE; rw [if_neg hd, if_pos hnm])]
      rcases hfe with ⟨k, _⟩ | ⟨k, _⟩
      · exact dapp_name db mb tb D n bv b w h hw.wf ht hB 0 (.inl rfl) hd' hn k hnm
      · exact dapp_name db mb tb D n bv b w h hw.wf ht hB 31 (.inr rfl) hd' hn k hnm
theorem DGood.append {D : DiskS} (h : DGood D) (n : ByteArray) (b : List Nat) (hs : D.steps + 1 ≤ 1000000000) : DGood (appendD D n b).1 ∧ (appendD D n b).1.steps ≤ D.steps + 1 := by
  unfold appendD
  by_cases he : appE D n b ≠ 0
  · rw [if_pos he]; exact ⟨h, by simp only; omega⟩
  · rw [if_neg he]
    have he0 : appE D n b = 0 := by omega
    unfold appE at he0
    split at he0
    · cases he0
    · split at he0
      · cases he0
      · rename_i hnm
        split at he0
        · cases he0
        · rename_i hx
          have g := app_good h n b (Decidable.of_not_not hnm) (fun e => by
            by_cases h8 : D.files.length < 128
            · exact h8
            · exact absurd (.inl ⟨e, by omega⟩) hx) (fun e => hx (.inr e))
          exact ⟨g.1.step hs, by simp only; rw [stepD_steps]; exact Int.le_refl _⟩
end Go.Proofs.YtofhccpagnkalaaGreat
