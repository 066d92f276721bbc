/- Several texts in one: Dany, Disk5, Vb, Nod. What each proves stands ahead of it; together they serve wkeeps_law_holds,wfiles_law_holds,wnobody_law_holds. No conditions but those stated. -/
import Derived.Deep.OwnRows
import Derived.Laws.CopyOwn
import Derived.Test.YtjdglpcnkiioeaaGreatWab15
import Derived.Test.YtjdglpcnkiioeaaGreatRows
import Derived.Test.YtjdglpcnkiioeaaGreatWab11
/- The disk's calls, each by one function; what they keep; no conditions but the ranges. -/
namespace Go.Proofs.YtjdglpcnkiioeaaGreat
open Go.RowKit Go.Maps Go.Proofs.Own

def removeD (D : DiskS) (n : ByteArray) : DiskS × Nat :=
  match findFile n D.files with
  | some _ => if D.down = true then (D, 50) else if D.armed = 0 then (stepD D, 50) else ({ stepD D with files := delFile n D.files }, 0)
  | none => (D, fileE D n)
theorem fileE_some {D : DiskS} {n : ByteArray} {f : FileS} (h : findFile n D.files = some f) : fileE D n = if D.down = true then 50 else 0 := by
  unfold fileE; rw [h]; simp
theorem fileE_none {D : DiskS} {n : ByteArray} (h : findFile n D.files = none) : fileE D n ≠ 0 := by
  unfold fileE; rw [h]; split <;> simp

theorem dsync_any (db mb tb : Nat) (D : DiskS) (n : ByteArray) (w : World) (h : DiskIs w db mb tb D) (hw : DWf D) (hn : n.size ≤ maxLen) :
    Calls Tryz.prog 34 #[.pointer (some ⟨db, 0, none⟩), .string n] w (OpPost db mb tb (syncD D n) w) := by
  unfold syncD
  cases e : findFile n D.files with
  | none => exact dsync_err db mb tb D n w h hn (fileE_none e)
  | some f =>
    simp only
    by_cases hd : D.down = true
    · rw [if_pos hd]
      have := dsync_err db mb tb D n w h hn (by rw [fileE_some e, if_pos hd]; decide)
      rwa [fileE_some e, if_pos hd] at this
    · rw [if_neg hd]
      have hd' : D.down = false := by simpa using hd
      by_cases ha : D.armed = 0
      · rw [if_pos ha]; exact dsync_down db mb tb D n f w h hw hd' hn e ha
      · rw [if_neg ha]; exact dsync_ok db mb tb D n f w h hw hd' hn e ha
theorem dremove_any (db mb tb : Nat) (D : DiskS) (n : ByteArray) (w : World) (h : DiskIs w db mb tb D) (hw : DWf D) (hn : n.size ≤ maxLen) :
    Calls Tryz.prog 120 #[.pointer (some ⟨db, 0, none⟩), .string n] w (OpPost db mb tb (removeD D n) w) := by
  unfold removeD
  cases e : findFile n D.files with
  | none => exact dremove_err db mb tb D n w h hn (fileE_none e)
  | some f =>
    simp only
    by_cases hd : D.down = true
    · rw [if_pos hd]
      have := dremove_err db mb tb D n w h hn (by rw [fileE_some e, if_pos hd]; decide)
      rwa [fileE_some e, if_pos hd] at this
    · rw [if_neg hd]
      have hd' : D.down = false := by simpa using hd
      by_cases ha : D.armed = 0
      · rw [if_pos ha]; exact dremove_down db mb tb D n f w h hw hd' hn e ha
      · rw [if_neg ha]; exact dremove_ok db mb tb D n f w h hw hd' hn e ha
/-- A disk within its bounds. -/
structure DGood (D : DiskS) : Prop where
  wf : DWf D
  tot : total D.files ≤ 1048576
  few : D.files.length ≤ 128
theorem total_ins (f : FileS) : ∀ L, total (insFile f L) = f.all.length + total L
  | [] => by simp [insFile, total]
  | g :: r => by
    unfold insFile
    split
    · exact total_cons _ _
    · rw [total_cons, total_ins f r, total_cons]; omega
theorem length_ins (f : FileS) : ∀ L, (insFile f L).length = L.length + 1
  | [] => rfl
  | g :: r => by
    unfold insFile
    split
    · rfl
    · simp [length_ins f r]
theorem total_del (n : ByteArray) : ∀ L, total (delFile n L) ≤ total L
  | [] => Nat.le_refl _
  | g :: r => by
    unfold delFile
    rw [List.filter_cons]
    split
    · have := total_del n r; unfold delFile at this; rw [total_cons, total_cons]; omega
    · have := total_del n r; unfold delFile at this; rw [total_cons]; omega
theorem total_del_find {n : ByteArray} {f : FileS} : ∀ {L}, findFile n L = some f → total (delFile n L) + f.all.length ≤ total L ∧ (delFile n L).length + 1 ≤ L.length
  | [], h => by cases h
  | g :: r, h => by
    unfold findFile at h
    rw [List.find?_cons] at h
    unfold delFile
    rw [List.filter_cons]
    by_cases e : g.name = n
    · rw [decide_eq_true e] at h ⊢
      cases h
      have h1 := total_del n r
      have h2 : (delFile n r).length ≤ r.length := List.length_filter_le _ _
      unfold delFile at h1 h2
      simp only [Bool.not_true, Bool.false_eq_true, if_false, total_cons, List.length_cons]
      omega
    · rw [decide_eq_false e] at h ⊢
      have h1 := total_del_find (L := r) h
      unfold delFile at h1
      simp only [Bool.not_false, if_true, total_cons, List.length_cons]
      omega
theorem length_del (n : ByteArray) (L : List FileS) : (delFile n L).length ≤ L.length := List.length_filter_le _ _
theorem DGood.step {D : DiskS} (h : DGood D) (hs : D.steps + 1 ≤ 1000000000) : DGood (stepD D) :=
  ⟨h.wf.step hs, by rw [stepD_files]; exact h.tot, by rw [stepD_files]; exact h.few⟩
/-- The same disk with other files. -/
theorem DGood.withFiles {D : DiskS} (h : DGood D) (hs : D.steps + 1 ≤ 1000000000) (L : List FileS) (h1 : total L ≤ 1048576) (h2 : L.length ≤ 128) (h3 : ∀ f ∈ L, f.name.size ≤ 16 ∧ f.kept ≤ f.all.length) : DGood { stepD D with files := L } := by
  have k := h.wf.step hs
  exact ⟨⟨k.room0, k.room1, k.armed0, k.armed1, k.steps0, k.steps1, by simp only; omega, h3⟩, h1, h2⟩
theorem DGood.sync {D : DiskS} (h : DGood D) (n : ByteArray) (hs : D.steps + 1 ≤ 1000000000) : DGood (syncD D n).1 ∧ (syncD D n).1.steps ≤ D.steps + 1 := by
  unfold syncD
  cases e : findFile n D.files with
  | none => exact ⟨h, by simp only; omega⟩
  | some f =>
    simp only
    split
    · exact ⟨h, by simp only; omega⟩
    · split
      · exact ⟨h.step hs, by simp only; rw [stepD_steps]; omega⟩
      · obtain ⟨e1, e2⟩ := find_name e
        have e3 := total_del_find e
        refine ⟨h.withFiles hs _ ?_ ?_ ?_, by simp only; rw [stepD_steps]; omega⟩
        · unfold putFile; rw [total_ins]; simp only; rw [e1]; have := h.tot; omega
        · unfold putFile; rw [length_ins]; simp only; rw [e1]; have := h.few; omega
        · intro g hg
          rcases mem_put.1 hg with rfl | ⟨hg, _⟩
          · exact ⟨(h.wf.each f e2).1, Nat.le_refl _⟩
          · exact h.wf.each g hg
theorem DGood.remove {D : DiskS} (h : DGood D) (n : ByteArray) (hs : D.steps + 1 ≤ 1000000000) : DGood (removeD D n).1 ∧ (removeD D n).1.steps ≤ D.steps + 1 := by
  unfold removeD
  cases e : findFile n D.files with
  | none => exact ⟨h, by simp only; omega⟩
  | some f =>
    simp only
    split
    · exact ⟨h, by simp only; omega⟩
    · split
      · exact ⟨h.step hs, by simp only; rw [stepD_steps]; omega⟩
      · refine ⟨h.withFiles hs _ (Nat.le_trans (total_del _ _) h.tot) (Nat.le_trans (length_del _ _) h.few) fun g hg => h.wf.each g (mem_del.1 hg).1, by simp only; rw [stepD_steps]; omega⟩
theorem getF_some {D : DiskS} {n : ByteArray} {f : FileS} (h : findFile n D.files = some f) : getF D n = f := by unfold getF; rw [h]; rfl
theorem getF_none {D : DiskS} {n : ByteArray} (h : findFile n D.files = none) : getF D n = ⟨n, [], 0⟩ := by unfold getF; rw [h]; rfl
theorem app_room {D : DiskS} (h : DGood D) {b : List Nat} (hf : ¬ freeD D < b.length) : b = [] ∨ total D.files + b.length ≤ 1048576 := by
  by_cases h0 : b.length = 0
  · exact .inl (List.eq_nil_of_length_eq_zero h0)
  · refine .inr ?_
    have := h.wf.room1
    unfold freeD at hf
    omega
theorem app_good {D : DiskS} (h : DGood D) (n : ByteArray) (b : List Nat) (hnm : 1 ≤ n.size ∧ n.size ≤ 16) (hm : findFile n D.files = none → D.files.length < 128) (hf : ¬ freeD D < b.length) : DGood (appD D n b) ∧ (getF D n).all.length + b.length ≤ 2097152 := by
  have hr := app_room h hf
  have ht := h.tot
  have hb : b.length ≤ 1048576 := by rcases hr with rfl | hr <;> simp_all <;> omega
  have hbt : total D.files + b.length ≤ 1048576 := by
    rcases hr with rfl | hr
    · simpa using ht
    · exact hr
  unfold appD
  cases e : findFile n D.files with
  | none =>
    rw [getF_none e]
    refine ⟨⟨⟨h.wf.room0, h.wf.room1, h.wf.armed0, h.wf.armed1, h.wf.steps0, h.wf.steps1, ?_, ?_⟩, ?_, ?_⟩, by simp only [List.length_nil]; omega⟩
    · simp only; unfold putFile; rw [length_ins]; have := length_del n D.files; have := hm e; simp only; omega
    · intro g hg
      rcases mem_put.1 hg with rfl | ⟨hg, _⟩
      · exact ⟨hnm.2, Nat.zero_le _⟩
      · exact h.wf.each g hg
    · simp only; unfold putFile; rw [total_ins]; have := total_del n D.files; simp only [List.nil_append]; omega
    · simp only; unfold putFile; rw [length_ins]; have := length_del n D.files; have := hm e; simp only; omega
  | some f =>
    rw [getF_some e]
    obtain ⟨e1, e2⟩ := find_name e
    have e3 := total_del_find e
    refine ⟨⟨⟨h.wf.room0, h.wf.room1, h.wf.armed0, h.wf.armed1, h.wf.steps0, h.wf.steps1, ?_, ?_⟩, ?_, ?_⟩, by omega⟩
    · simp only; unfold putFile; rw [length_ins]; simp only; rw [e1]; have := h.few; omega
    · intro g hg
      rcases mem_put.1 hg with rfl | ⟨hg, _⟩
      · refine ⟨by simp only; rw [e1]; exact hnm.2, ?_⟩
        have := (h.wf.each f e2).2
        simp only [List.length_append]; omega
      · exact h.wf.each g hg
    · simp only; unfold putFile; rw [total_ins]; simp only [List.length_append]; rw [e1]; omega
    · simp only; unfold putFile; rw [length_ins]; simp only; rw [e1]; have := h.few; omega
theorem dapp_any (db mb tb : Nat) (D : DiskS) (n : ByteArray) (bv : Value) (b : List Nat) (w : World) (h : DiskIs w db mb tb D) (hw : DGood D) (hB : Bytes w bv b) (hn : n.size ≤ maxLen) :
    Calls Tryz.prog 32 #[.pointer (some ⟨db, 0, none⟩), .string n, bv] w (OpPost db mb tb (appendD D n b) w) := by
  have ht : total D.files ≤ 4294967296 := Nat.le_trans hw.tot (by decide)
  have no : ∀ k, k ≠ 0 → appE D n b = k → appendD D n b = (D, k) := fun k hk e => by unfold appendD; rw [e, if_pos hk]
  by_cases hd : D.down = true
  · rw [no 50 (by decide) (by unfold appE; rw [if_pos hd])]
    exact dapp_down db mb tb D n bv w h hd
  · have hd' : D.down = false := by simpa using hd
    have hfe := fileE_up (n := n) hd'
    by_cases hnm : 1 ≤ n.size ∧ n.size ≤ 16
    · have hnn : ¬ ¬ (1 ≤ n.size ∧ n.size ≤ 16) := fun e => e hnm
      by_cases hm : findFile n D.files = none ∧ 128 ≤ D.files.length
      · rw [no 30 (by decide) (by unfold appE; rw [if_neg hd, if_neg hnn, if_pos (.inl hm)])]
        rcases hfe with ⟨_, k⟩ | ⟨k, _⟩
        · exact absurd hm.1 k
        · exact dapp_many db mb tb D n bv b w h hw.wf ht hB hd' hn k hnm hm.2
      · have hmk : ∃ k, (k = 0 ∨ (k = 31 ∧ D.files.length < 128)) ∧ fileE D n = k := by
          rcases hfe with ⟨k, _⟩ | ⟨k, k2⟩
          · exact ⟨0, .inl rfl, k⟩
          · exact ⟨31, .inr ⟨rfl, by by_cases h8 : D.files.length < 128
                                     · exact h8
                                     · exact absurd ⟨k2, by omega⟩ hm⟩, k⟩
        obtain ⟨k, hk, hfk⟩ := hmk
        by_cases hfr : freeD D < b.length
        · rw [no 30 (by decide) (by unfold appE; rw [if_neg hd, if_neg hnn, if_pos (.inr hfr)])]
          exact dapp_full db mb tb D n bv b w h hw.wf ht hB k hk hd' hn hfk hnm hfr
        · have he : appE D n b = 0 := by
            unfold appE
            rw [if_neg hd, if_neg hnn, if_neg (by rintro (h1 | h1); exact hm h1; exact hfr h1)]
          have e0 : appendD D n b = (stepD (appD D n b), stepE D) := by unfold appendD; rw [he]; rfl
          rw [e0]
          have g := app_good hw n b hnm (fun e => by
            by_cases h8 : D.files.length < 128
            · exact h8
            · exact absurd ⟨e, by omega⟩ hm) hfr
          exact dapp_ok db mb tb D n bv b w h hw.wf ht hB k hk hd' hn hfk hnm hfr g.2 g.1.wf
    · rw [no 2 (by decide) (by unfold appE; rw [if_neg hd, if_pos hnm])]
      rcases hfe with ⟨k, _⟩ | ⟨k, _⟩
      · exact dapp_name db mb tb D n bv b w h hw.wf ht hB 0 (.inl rfl) hd' hn k hnm
      · exact dapp_name db mb tb D n bv b w h hw.wf ht hB 31 (.inr rfl) hd' hn k hnm
theorem DGood.append {D : DiskS} (h : DGood D) (n : ByteArray) (b : List Nat) (hs : D.steps + 1 ≤ 1000000000) : DGood (appendD D n b).1 ∧ (appendD D n b).1.steps ≤ D.steps + 1 := by
  unfold appendD
  by_cases he : appE D n b ≠ 0
  · rw [if_pos he]; exact ⟨h, by simp only; omega⟩
  · rw [if_neg he]
    have he0 : appE D n b = 0 := by omega
    unfold appE at he0
    split at he0
    · cases he0
    · split at he0
      · cases he0
      · rename_i hnm
        split at he0
        · cases he0
        · rename_i hx
          have g := app_good h n b (Decidable.of_not_not hnm) (fun e => by
            by_cases h8 : D.files.length < 128
            · exact h8
            · exact absurd (.inl ⟨e, by omega⟩) hx) (fun e => hx (.inr e))
          exact ⟨g.1.step hs, by simp only; rw [stepD_steps]; exact Int.le_refl _⟩
end Go.Proofs.YtjdglpcnkiioeaaGreat

/- Contracts of the disk's Boot, Arm, Resize, Cut; no conditions but the ranges. -/
namespace Go.Proofs.YtjdglpcnkiioeaaGreat
open Go.RowKit Go.Maps Go.Proofs.Own

def bootD (D : DiskS) : DiskS := { D with down := false, armed := -1 }
def armD (D : DiskS) (n : Int) : DiskS × Nat := if D.down = true then (D, 50) else if n < 0 then (D, 2) else ({ D with armed := n }, 0)
theorem Kept.set3 (w : World) (db mb tb : Nat) (o : Nat) (v : Value) : Kept w (w.setCell ⟨db, o, none⟩ v) (Own3 db mb tb) := (Kept.setCell w _ v).mono fun _ _ e => .inl e

set_option maxHeartbeats 1000000 in
theorem dboot_any (db mb tb : Nat) (D : DiskS) (w : World) (h : DiskIs w db mb tb D) : Calls Tryz.prog 29 #[.pointer (some ⟨db, 0, none⟩)] w (OpPost db mb tb (bootD D, 0) w) := by
  have H := Lib.hid h
  have c2 := h.c2
  have c3 := h.c3
  have f2 := h.f2
  have f3 := h.f3
  have hl := h.lt
  clear h
  go_enter Tryz.func29, Tryz.ntmps29
  go_wp2_with fail
  refine (dnone db mb tb D _ H.out).mono ?_
  rintro e w1 ⟨rfl, rfl⟩
  go_wp2_with fail
  go_ret
  exact ⟨rfl, (H.out.setDown false).setArmed (-1), (Kept.set3 _ _ _ _ _ _).trans (Kept.set3 _ _ _ _ _ _)⟩
set_option maxHeartbeats 1000000 in
theorem darm_any (db mb tb : Nat) (D : DiskS) (n : Int) (w : World) (h : DiskIs w db mb tb D) : Calls Tryz.prog 27 #[.pointer (some ⟨db, 0, none⟩), .int .i64 n] w (OpPost db mb tb (armD D n) w) := by
  have H := Lib.hid h
  have c3 := h.c3
  have f3 := h.f3
  have hl := h.lt
  have HDN := Lib.hid (dup_any db mb tb D w h)
  clear h
  unfold armD
  by_cases hd : D.down = true
  · rw [if_pos hd]
    rw [if_pos hd] at HDN
    clear hd
    go_enter Tryz.func27, Tryz.ntmps27
    go_wp2_with fail
    refine HDN.out.mono ?_
    rintro e w1 ⟨rfl, rfl⟩
    go_wp2_with fail
    go_ret
    exact ⟨rfl, H.out, Kept.refl _ _⟩
  · rw [if_neg hd]
    rw [if_neg hd] at HDN
    clear hd
    by_cases hn : n < 0
    · rw [if_pos hn]
      go_enter Tryz.func27, Tryz.ntmps27
      go_wp2_with fail
      refine HDN.out.mono ?_
      rintro e w1 ⟨rfl, rfl⟩
      go_wp2_with fail
      go_ret
      exact ⟨rfl, H.out, Kept.refl _ _⟩
    · rw [if_neg hn]
      go_enter Tryz.func27, Tryz.ntmps27
      go_wp2_with fail
      refine HDN.out.mono ?_
      rintro e w1 ⟨rfl, rfl⟩
      go_wp2_with fail
      go_ret
      exact ⟨rfl, H.out.setArmed n, Kept.set3 _ _ _ _ _ _⟩
def cutD (D : DiskS) (n : ByteArray) (k : Int) : DiskS × Nat :=
  match findFile n D.files with
  | some f => if D.down = true then (D, 50) else if k < 0 ∨ (f.all.length : Int) < k then (D, 2) else if D.armed = 0 then (stepD D, 50) else ({ stepD D with files := putFile ⟨f.name, f.all.take k.toNat, min f.kept k.toNat⟩ D.files }, 0)
  | none => (D, fileE D n)

theorem dcut_err (db mb tb : Nat) (D : DiskS) (n : ByteArray) (k : Int) (w : World) (h : DiskIs w db mb tb D) (hn : n.size ≤ maxLen) (he : fileE D n ≠ 0) :
    Calls Tryz.prog 118 #[.pointer (some ⟨db, 0, none⟩), .string n, .int .i64 k] w (OpPost db mb tb (D, fileE D n) w) := by
  have C := Lib.hid (dfile_err db mb tb D n w h hn he)
  have H := Lib.hid h
  obtain ⟨k, hk⟩ : ∃ k, fileE D n = k := ⟨_, rfl⟩
  have hkb : ((k : Int) != 0) = true := bne_iff_ne.2 (by omega)
  rw [hk] at C ⊢
  clear h hn he hk
  go_enter Tryz.func118, Tryz.ntmps118
  go_wp2_with fail
  refine C.out.mono ?_
  rintro e w1 ⟨rfl, hb1⟩
  have B1 := Lib.hid hb1
  have L1 := hb1.size
  clear hb1
  go_wp2_with fail
  go_ret
  have BF := B1.out.alloc L1 (.cells #[.slice none 0 0, .int .i64 0] 134)
  exact ⟨rfl, H.out.below BF, Kept.below3 BF⟩

set_option maxHeartbeats 2000000 in
set_option maxRecDepth 20000 in
theorem dcut_bad (db mb tb : Nat) (D : DiskS) (n : ByteArray) (k : Int) (f : FileS) (w : World) (h : DiskIs w db mb tb D) (hw : DWf D) (hd : D.down = false) (hn : n.size ≤ maxLen) (hf : findFile n D.files = some f) (hk : k < 0 ∨ (f.all.length : Int) < k) :
    Calls Tryz.prog 118 #[.pointer (some ⟨db, 0, none⟩), .string n, .int .i64 k] w (OpPost db mb tb (D, 2) w) := by
  have C := Lib.hid (dfile_yes db mb tb D n f w h hd hn hf)
  have H := Lib.hid h
  have HW := Lib.hid hw
  have HN := Lib.hid (keyOf_name hn)
  have HFN := Lib.hid (find_name hf)
  have HM3 := Lib.hid h.lt3
  have hl := h.lt
  have many := hw.many
  clear h hw hd hn hf
  go_enter Tryz.func118, Tryz.ntmps118
  go_wp2_with fail
  refine C.out.mono ?_
  rintro e w1 ⟨v, rfl, hfi, hb1⟩
  have HFI := Lib.hid hfi
  obtain ⟨a, c, rfl, _, _⟩ := hfi
  have B1 := Lib.hid hb1
  have L1 := hb1.size
  clear hb1
  have BF := Lib.hid (B1.out.alloc L1 (.cells #[.slice a f.all.length c, .int .i64 f.kept] 134))
  rcases hk with hk | hk
  · go_wp2_with fail
    go_ret
    exact ⟨rfl, H.out.below BF.out, Kept.below3 BF.out⟩
  · have hk0 : ¬ k < 0 := by omega
    go_wp2_with fail
    go_ret
    exact ⟨rfl, H.out.below BF.out, Kept.below3 BF.out⟩

set_option maxHeartbeats 2000000 in
set_option maxRecDepth 20000 in
theorem dcut_down (db mb tb : Nat) (D : DiskS) (n : ByteArray) (k : Int) (f : FileS) (w : World) (h : DiskIs w db mb tb D) (hw : DWf D) (hd : D.down = false) (hn : n.size ≤ maxLen) (hf : findFile n D.files = some f) (hk0 : 0 ≤ k) (hk1 : k ≤ (f.all.length : Int)) (ha : D.armed = 0) :
    Calls Tryz.prog 118 #[.pointer (some ⟨db, 0, none⟩), .string n, .int .i64 k] w (OpPost db mb tb (stepD D, 50) w) := by
  have HE : Hid (stepE D = 50) := Lib.hid (if_pos ha)
  have hkn : ¬ k < 0 := by omega
  have hkl : ¬ (f.all.length : Int) < k := by omega
  have C := Lib.hid (dfile_yes db mb tb D n f w h hd hn hf)
  have H := Lib.hid h
  have HW := Lib.hid hw
  have HN := Lib.hid (keyOf_name hn)
  have HFN := Lib.hid (find_name hf)
  have HM3 := Lib.hid h.lt3
  have hl := h.lt
  have many := hw.many
  clear h hw hd hn hf
  go_enter Tryz.func118, Tryz.ntmps118
  go_wp2_with fail
  refine C.out.mono ?_
  rintro e w1 ⟨v, rfl, hfi, hb1⟩
  have HFI := Lib.hid hfi
  obtain ⟨a, c, rfl, _, _⟩ := hfi
  have B1 := Lib.hid hb1
  have L1 := hb1.size
  clear hb1
  go_wp2_with fail
  generalize hW : World.alloc w1 _ = w2
  have B2 : Hid (Below w.heap.size w w2) := Lib.hid (by subst hW; exact B1.out.alloc L1 _)
  have B12 : Hid (Below w1.heap.size w1 w2) := Lib.hid (by subst hW; exact (Below.refl _ _).alloc (Nat.le_refl _) _)
  have X2 : Hid (w2.cell? ⟨w1.heap.size, 0, none⟩ = some (.slice a f.all.length c) ∧ w2.cell? ⟨w1.heap.size, 1, none⟩ = some (.int .i64 f.kept) ∧ w2.frozen? ⟨w1.heap.size, 0, none⟩ = false ∧ w2.frozen? ⟨w1.heap.size, 1, none⟩ = false ∧ w1.heap.size < w2.heap.size) := Lib.hid (by subst hW; exact ⟨by go_cell, by go_cell, by simp, by simp, by simp⟩)
  have D2 : Hid (DiskIs w2 db mb tb D) := Lib.hid (H.out.below B2.out)
  have NB : Hid (¬ Own3 db mb tb w1.heap.size) := Lib.hid fun e => by have := HM3.out _ e; omega
  clear hW
  refine (dstep_any db mb tb D _ D2.out HW.out).mono ?_
  rintro e w3 ⟨rfl, hd3, k3⟩
  rw [HE.out]
  have D3 := Lib.hid hd3
  have K3 := Lib.hid k3
  clear hd3 k3
  go_wp2_with fail
  go_ret
  exact ⟨rfl, D3.out, (Kept.below3 B2.out).trans K3.out⟩

set_option maxHeartbeats 2000000 in
set_option maxRecDepth 20000 in
theorem dcut_ok (db mb tb : Nat) (D : DiskS) (n : ByteArray) (k : Nat) (f : FileS) (w : World) (h : DiskIs w db mb tb D) (hw : DWf D) (hd : D.down = false) (hn : n.size ≤ maxLen) (hf : findFile n D.files = some f) (hk1 : k ≤ f.all.length) (ha : D.armed ≠ 0) :
    Calls Tryz.prog 118 #[.pointer (some ⟨db, 0, none⟩), .string n, .int .i64 (k : Int)] w (OpPost db mb tb ({ stepD D with files := putFile ⟨f.name, f.all.take k, min f.kept k⟩ D.files }, 0) w) := by
  have hkn : ¬ (k : Int) < 0 := by omega
  have hkl : ¬ (f.all.length : Int) < (k : Int) := by omega
  have HE : Hid (stepE D = 0) := Lib.hid (if_neg ha)
  have HK1 := Lib.hid hk1
  clear hk1
  have C := Lib.hid (dfile_yes db mb tb D n f w h hd hn hf)
  have H := Lib.hid h
  have HW := Lib.hid hw
  have HN := Lib.hid (keyOf_name hn)
  have HFN := Lib.hid (find_name hf)
  have HM3 := Lib.hid h.lt3
  have hl := h.lt
  have many := hw.many
  clear h hw hd hn hf
  go_enter Tryz.func118, Tryz.ntmps118
  go_wp2_with fail
  refine C.out.mono ?_
  rintro e w1 ⟨v, rfl, hfi, hb1⟩
  have HFI := Lib.hid hfi
  obtain ⟨a, c, rfl, _, _⟩ := hfi
  have B1 := Lib.hid hb1
  have L1 := hb1.size
  clear hb1
  go_wp2_with fail
  generalize hW : World.alloc w1 _ = w2
  have B2 : Hid (Below w.heap.size w w2) := Lib.hid (by subst hW; exact B1.out.alloc L1 _)
  have B12 : Hid (Below w1.heap.size w1 w2) := Lib.hid (by subst hW; exact (Below.refl _ _).alloc (Nat.le_refl _) _)
  have X2 : Hid (w2.cell? ⟨w1.heap.size, 0, none⟩ = some (.slice a f.all.length c) ∧ w2.cell? ⟨w1.heap.size, 1, none⟩ = some (.int .i64 f.kept) ∧ w2.frozen? ⟨w1.heap.size, 0, none⟩ = false ∧ w2.frozen? ⟨w1.heap.size, 1, none⟩ = false ∧ w1.heap.size < w2.heap.size) := Lib.hid (by subst hW; exact ⟨by go_cell, by go_cell, by simp, by simp, by simp⟩)
  have D2 : Hid (DiskIs w2 db mb tb D) := Lib.hid (H.out.below B2.out)
  have NB : Hid (¬ Own3 db mb tb w1.heap.size) := Lib.hid fun e => by have := HM3.out _ e; omega
  clear hW
  refine (dstep_any db mb tb D _ D2.out HW.out).mono ?_
  rintro e w3 ⟨rfl, hd3, k3⟩
  rw [HE.out]
  have D3 := Lib.hid hd3
  have K3 := Lib.hid k3
  clear hd3 k3
  have X3 : Hid (w3.cell? ⟨w1.heap.size, 0, none⟩ = some (.slice a f.all.length c) ∧ w3.cell? ⟨w1.heap.size, 1, none⟩ = some (.int .i64 f.kept) ∧ w3.frozen? ⟨w1.heap.size, 0, none⟩ = false ∧ w3.frozen? ⟨w1.heap.size, 1, none⟩ = false ∧ w1.heap.size < w3.heap.size) := Lib.hid ⟨K3.out.cell X2.out.1 NB.out, K3.out.cell X2.out.2.1 NB.out, (K3.out.frozen (a := ⟨w1.heap.size, 0, none⟩) X2.out.2.2.2.2 NB.out).trans X2.out.2.2.1, (K3.out.frozen (a := ⟨w1.heap.size, 1, none⟩) X2.out.2.2.2.2 NB.out).trans X2.out.2.2.2.1, Nat.lt_of_lt_of_le X2.out.2.2.2.2 K3.out.size⟩
  obtain ⟨x0, x1, y0, y1, L3⟩ := X3.out
  have FI3 := Lib.hid ((HFI.out.below B12.out).kept K3.out)
  obtain ⟨a', HB', HO', hcut⟩ := (show Bytes w3 (.slice a f.all.length c) f.all by obtain ⟨a2, c2, e1, e2, _⟩ := FI3.out; cases e1; exact e2).cut_hmo Tryz.u8s k HK1.out
  have FI4 : Hid (FileIs w3 db mb tb (.agg #[.slice a' k k, .int .i64 ((min f.kept k : Nat) : Int)]) ⟨f.name, f.all.take k, min f.kept k⟩) := Lib.hid (by
    obtain ⟨a2, c2, e1, e2, e3⟩ := FI3.out
    cases e1
    have hl : (f.all.take k).length = k := by rw [List.length_take]; have := HK1.out; omega
    refine ⟨a', k, by simp only [hl], by simp only [hl]; exact HB', ?_⟩
    rcases e3 with e3 | ⟨g, hg, hn⟩
    · exact .inl (by simp [e3])
    · exact .inr ⟨g, by simp only [hl]; rw [HO']; exact hg, hn⟩)
  have hmin : (if k < f.kept then (k : Int) else (f.kept : Int)) = ((min f.kept k : Nat) : Int) := by split <;> omega
  obtain ⟨mk, hmk⟩ : ∃ mk : Int, mk = ((min f.kept k : Nat) : Int) := ⟨_, rfl⟩
  rw [← hmk] at FI4 hmin
  have HMK := Lib.hid hmk
  clear hmk
  have XR : Hid (w3.cell? ⟨db, 0, none⟩ = some (.map (some mb)) ∧ w3.cell? ⟨w1.heap.size, 0, none⟩ = some (.slice a f.all.length c) ∧ w3.cell? ⟨w1.heap.size, 1, none⟩ = some (.int .i64 f.kept)) := Lib.hid ⟨D3.out.c0, X3.out.1, X3.out.2.1⟩
  obtain ⟨vals, hmap, hfs⟩ := D3.out.fs
  rw [stepD_files] at hmap hfs
  have MR := Lib.hid hmap
  have FS := Lib.hid hfs
  have HB2 := Lib.hid HB'
  have HO2 := Lib.hid HO'
  clear x0 x1 y0 y1 hmap hfs HB' HO'
  go_wp2_with fail
  refine region_start [0, 1, 3, 7, 0, 0, 32, 0, 0, 480, 0, 1024, 0, 7168, 16352, 32767] 0 (fun w' => w'.cell? ⟨db, 0, none⟩ = some (.map (some mb)) ∧ w'.cell? ⟨w1.heap.size, 0, none⟩ = some (.slice a f.all.length c) ∧ w'.cell? ⟨w1.heap.size, 1, none⟩ = some (.int .i64 f.kept)) (by kernel_rfl) ?_
  refine stage_heads [0, 1, 2, 3, 4, 5, 6, 7, 8, 9, 10, 11, 12, 13, 14] (by kernel_rfl) (L := #[true, true, true, true, true, true, true, true, true, true, true, true, true, true, true, false]) (by kernel_rfl) (f' := 1) rfl (fun _ _ _ _ h => h) (fun w o h => (((Stable.cell _ _).and ((Stable.cell _ _).and (Stable.cell _ _))).alloc h o)) (.inr XR.out) ?_
  simp only [List.flatMap_cons, List.flatMap_nil, List.drop_succ_cons, List.drop_zero, List.take_succ_cons, List.take_zero, List.cons_append, List.nil_append, List.append_nil]
  iterate 15 (first | (refine heads_load _ (by rfl) (fun w' hs => by obtain ⟨y0, y1, y2⟩ := hs; go_simp; try with_reducible rfl) rfl ?_; simp only [Act.put, List.setIfInBounds_toArray, List.set_cons_zero, List.set_cons_succ]) | (refine heads_pure _ (by rfl) (fun w' => by go_simp; try with_reducible rfl) ?_; simp only [Act.put, List.setIfInBounds_toArray, List.set_cons_zero, List.set_cons_succ]))
  refine heads_nil ?_
  refine stage_op 15 (by kernel_rfl) (L := #[true, true, true, true, true, true, true, true, true, true, true, true, true, true, true, true]) (by kernel_rfl) ?_
  simp only [List.drop_succ_cons, List.drop_zero, List.take_succ_cons, List.take_zero]
  refine wpList_mapUpdate_in _ rfl _ _ _ 47 rfl 9 134 law Tryz.underlying47 contR mb _ _ rfl (by first | exact MR.out | exact World.ownsMap.drew MR.out) (by unfold maxLen; omega) _ _ _ rfl rfl HN.out (.held (.agg #[.slice a' k k, .int .i64 mk])) [] (contR_mk _ _ _ _) ?_; intro w5 hown5 hturn5; have O5 := Lib.hid hown5; have T5 : Hid (w3.drew.mapTurned w5 mb) := Lib.hid hturn5; clear hown5 hturn5; go_wp2_with fail
  refine step_post nofun ?_
  refine stage_done (by kernel_rfl) ?_
  go_wp2_with fail
  go_ret
  refine ⟨rfl, ?_, ((Kept.below3 B2.out).trans K3.out).trans ((Kept.drew w3 _).trans (Kept.turned3 T5.out))⟩
  have DR : Below w3.heap.size w3 w3.drew := (Below.refl _ _).drew
  have e5 := O5.out
  rw [← HFN.out.1] at e5
  have e6 : (stepD D).files = D.files := stepD_files D
  have hp := DiskIs.put (f := ⟨f.name, f.all.take k, min f.kept k⟩) (v := .agg #[.slice a' k k, .int .i64 mk]) (D3.out.below DR) (by rw [e6]; exact fun g hg => (FS.out g hg).below DR) (by rw [e6]; exact e5) T5.out (FI4.out.below DR)
  rw [e6] at hp
  exact hp

theorem dcut_any (db mb tb : Nat) (D : DiskS) (n : ByteArray) (k : Int) (w : World) (h : DiskIs w db mb tb D) (hw : DWf D) (hn : n.size ≤ maxLen) :
    Calls Tryz.prog 118 #[.pointer (some ⟨db, 0, none⟩), .string n, .int .i64 k] w (OpPost db mb tb (cutD D n k) w) := by
  unfold cutD
  cases e : findFile n D.files with
  | none => exact dcut_err db mb tb D n k w h hn (fileE_none e)
  | some f =>
    simp only
    by_cases hd : D.down = true
    · rw [if_pos hd]
      have := dcut_err db mb tb D n k w h hn (by rw [fileE_some e, if_pos hd]; decide)
      rwa [fileE_some e, if_pos hd] at this
    · rw [if_neg hd]
      have hd' : D.down = false := by simpa using hd
      by_cases hk : k < 0 ∨ (f.all.length : Int) < k
      · rw [if_pos hk]; exact dcut_bad db mb tb D n k f w h hw hd' hn e hk
      · rw [if_neg hk]
        by_cases ha : D.armed = 0
        · rw [if_pos ha]; exact dcut_down db mb tb D n k f w h hw hd' hn e (by omega) (by omega) ha
        · rw [if_neg ha]
          obtain ⟨q, rfl⟩ := Int.eq_ofNat_of_zero_le (show 0 ≤ k by omega)
          exact dcut_ok db mb tb D n q f w h hw hd' hn e (by omega) ha
end Go.Proofs.YtjdglpcnkiioeaaGreat

/- Contracts of the vow: a state's frame, a file that goes, the book's none and State; no conditions but the ranges. -/
namespace Go.Proofs.YtjdglpcnkiioeaaGreat
open Go.RowKit Go.Maps Go.Proofs.Own

theorem Reads.two (w : World) (q : IntKind) (x y : Int) (t : TypeId) : Reads (w.alloc (.cells #[.int q x, .int q y] t)) q (.slice (some ⟨w.heap.size, 0, none⟩) 2 2) [x, y] :=
  (Owns.lit (zs := [x, y]) (base := 0) (heap_alloc_new _ _) (Nat.zero_le _) (by simp)).reads

end Go.Proofs.YtjdglpcnkiioeaaGreat

/- A disk that is none: what its calls, and a snapshot's store that is none, tell; no conditions. -/
namespace Go.Proofs.YtjdglpcnkiioeaaGreat
open Go.RowKit Go.Maps Go.Proofs.Own

/-- p is nil, or a disk that no call made. -/
def NoDisk (w : World) (p : Option Addr) : Prop := p = none ∨ ∃ b, p = some ⟨b, 0, none⟩ ∧ w.cell? ⟨b, 0, none⟩ = some (.map none)
theorem NoDisk.below {w w' : World} {p : Option Addr} (h : NoDisk w p) (hb : Below w.heap.size w w') : NoDisk w' p := by
  rcases h with h | ⟨b, h, c⟩
  · exact .inl h
  · exact .inr ⟨b, h, Below.at hb c (World.block_lt_of_cell? _ _ c)⟩

set_option maxHeartbeats 1000000 in
theorem nod_none (p : Option Addr) (w : World) (h : NoDisk w p) : Calls Tryz.prog 67 #[.pointer p] w fun e w' => e = .returned (.bool true) ∧ w = w' := by
  have hm := fun w => run_eql_map_nil (P := Tryz.prog) w 47 9 134 none Tryz.underlying47
  rcases h with rfl | ⟨b, rfl, c0⟩
  all_goals
    go_enter Tryz.func67, Tryz.ntmps67
    go_wp2_with fail
    go_ret
    exact ⟨rfl, rfl⟩
set_option maxHeartbeats 1000000 in
theorem nod_up (p : Option Addr) (w : World) (h : NoDisk w p) : Calls Tryz.prog 80 #[.pointer p] w fun e w' => e = .returned (.int .i64 1) ∧ w = w' := by
  have H := Lib.hid h
  clear h
  go_enter Tryz.func80, Tryz.ntmps80
  go_wp2_with fail
  refine (nod_none p _ H.out).mono ?_
  rintro e w1 ⟨rfl, rfl⟩
  go_wp2_with fail
  go_ret
  exact ⟨rfl, rfl⟩
set_option maxHeartbeats 1000000 in
theorem nod_file (p : Option Addr) (n : ByteArray) (w : World) (h : NoDisk w p) : Calls Tryz.prog 72 #[.pointer p, .string n] w fun e w' => e = .returned (.tuple #[.agg #[.slice none 0 0, .int .i64 0], .int .i64 1]) ∧ Below w.heap.size w w' := by
  have H := Lib.hid h
  clear h
  go_enter Tryz.func72, Tryz.ntmps72
  go_wp2_with fail
  refine (nod_up p _ (H.out.below ((Below.refl _ _).alloc (Nat.le_refl _) _))).mono ?_
  rintro e w1 ⟨rfl, rfl⟩
  go_wp2_with fail
  refine bodyPost_ret (v := .tuple #[.agg #[.slice none 0 0, .int .i64 0], .int .i64 1]) (by simp [results, Tryz.results72, go_sem]) rfl ?_
  exact ⟨rfl, (Below.refl _ _).alloc (Nat.le_refl _) _⟩
end Go.Proofs.YtjdglpcnkiioeaaGreat
