/- The contract of the disk's Append; no conditions but the ranges. -/
import Derived.Test.YtofhccpagnkalaaGreatApp
namespace Go.Proofs.YtofhccpagnkalaaGreat
open Go.RowKit Go.Maps Go.Proofs.Own

def getF (D : DiskS) (n : ByteArray) : FileS := (findFile n D.files).getD ⟨n, [], 0⟩
theorem getF_name (D : DiskS) (n : ByteArray) : (getF D n).name = n := by
  unfold getF
  cases e : findFile n D.files with
  | none => rfl
  | some f => exact (find_name e).1
/-- Why nothing is appended (0: something is). -/
def appE (D : DiskS) (n : ByteArray) (b : List Nat) : Nat :=
  if D.down = true then 50 else if ¬ (1 ≤ n.size ∧ n.size ≤ 16) then 2 else if (findFile n D.files = none ∧ 128 ≤ D.files.length) ∨ freeD D < b.length then 30 else 0
def appD (D : DiskS) (n : ByteArray) (b : List Nat) : DiskS := { D with files := putFile { getF D n with all := (getF D n).all ++ b } D.files }
def appendD (D : DiskS) (n : ByteArray) (b : List Nat) : DiskS × Nat := if appE D n b ≠ 0 then (D, appE D n b) else (stepD (appD D n b), stepE D)
theorem FileIs.zero (w : World) (db mb tb : Nat) (n : ByteArray) : FileIs w db mb tb (.agg #[.slice none 0 0, .int .i64 0]) ⟨n, [], 0⟩ := ⟨none, 0, rfl, Bytes.nil w, .inl rfl⟩
theorem dfile_up (db mb tb : Nat) (D : DiskS) (n : ByteArray) (w : World) (h : DiskIs w db mb tb D) (hd : D.down = false) (hn : n.size ≤ maxLen) :
    Calls Tryz.prog 32 #[.pointer (some ⟨db, 0, none⟩), .string n] w fun e w' => ∃ v, e = .returned (.tuple #[v, .int .i64 (fileE D n)]) ∧ FileIs w' db mb tb v (getF D n) ∧ Below w.heap.size w w' := by
  unfold fileE getF
  rw [if_neg (by rw [hd]; decide)]
  cases e : findFile n D.files with
  | none =>
    refine (dfile_no db mb tb D n w h hd hn e).mono ?_
    rintro e w1 ⟨rfl, hb⟩
    exact ⟨_, rfl, FileIs.zero _ _ _ _ _, hb⟩
  | some f =>
    refine (dfile_yes db mb tb D n f w h hd hn e).mono ?_
    rintro e w1 ⟨v, rfl, hf, hb⟩
    exact ⟨v, rfl, hf, hb⟩
theorem fileE_up {D : DiskS} {n : ByteArray} (hd : D.down = false) : (fileE D n = 0 ∧ findFile n D.files ≠ none) ∨ (fileE D n = 31 ∧ findFile n D.files = none) := by
  unfold fileE
  rw [if_neg (by rw [hd]; decide)]
  by_cases h : findFile n D.files = none
  · exact .inr ⟨if_pos h, h⟩
  · exact .inl ⟨if_neg h, h⟩

theorem dapp_down (db mb tb : Nat) (D : DiskS) (n : ByteArray) (bv : Value) (w : World) (h : DiskIs w db mb tb D) (hd : D.down = true) :
    Calls Tryz.prog 10 #[.pointer (some ⟨db, 0, none⟩), .string n, bv] w (OpPost db mb tb (D, 50) w) := by
  have C := Lib.hid (dfile_down db mb tb D n w h hd)
  have H := Lib.hid h
  clear h hd
  go_enter Tryz.func10, Tryz.ntmps10
  go_wp2_with fail
  refine C.out.mono ?_
  rintro e w1 ⟨rfl, hb1⟩
  have B1 := Lib.hid hb1
  have L1 := hb1.size
  clear hb1
  go_wp2_with fail
  go_ret
  have BF := B1.out.alloc L1 (.cells #[.slice none 0 0, .int .i64 0] 87)
  exact ⟨rfl, H.out.below BF, Kept.below3 BF⟩

set_option maxHeartbeats 1000000 in
set_option maxRecDepth 20000 in
theorem dapp_name (db mb tb : Nat) (D : DiskS) (n : ByteArray) (bv : Value) (b : List Nat) (w : World) (h : DiskIs w db mb tb D) (hw : DWf D) (ht : total D.files ≤ 4294967296) (hB : Bytes w bv b) (k : Nat) (hk : k = 0 ∨ k = 31) (hd : D.down = false) (hn : n.size ≤ maxLen) (hfe : fileE D n = k) (hnm : ¬ (1 ≤ n.size ∧ n.size ≤ 16)) :
    Calls Tryz.prog 10 #[.pointer (some ⟨db, 0, none⟩), .string n, bv] w (OpPost db mb tb (D, 2) w) := by
  have HFE := Lib.hid hfe
  have HNM : Hid (decide (1 ≤ n.size ∧ n.size ≤ 16) = false) := Lib.hid (decide_eq_false hnm)
  clear hfe hnm
  rcases hk with rfl | rfl
  all_goals
    have C := Lib.hid (dfile_up db mb tb D n w h hd hn)
    have H := Lib.hid h
    have HW := Lib.hid hw
    have HTOT := Lib.hid ht
    have HB := Lib.hid hB
    have HN := Lib.hid (keyOf_name hn)
    have HM3 := Lib.hid h.lt3
    have hl := h.lt
    have many := hw.many
    have HND : Hid (n.size ≤ 9223372036854775807) := Lib.hid (by unfold maxLen at hn; omega)
    obtain ⟨ba, bc, rfl, _⟩ := hB.shape
    have hbl : (b.length : Int) ≤ 2097152 := by have := hB.small; omega
    clear h hw hd hn ht hB
    go_enter Tryz.func10, Tryz.ntmps10
    go_wp2_with fail
    refine C.out.mono ?_
    rintro e w1 ⟨v, rfl, hfi, hb1⟩
    have HFI := Lib.hid hfi
    obtain ⟨a, c, rfl, _, _⟩ := hfi
    have B1 := Lib.hid hb1
    have L1 := hb1.size
    clear hb1
    rw [HFE.out]
    generalize hG : getF D n = f at *
    go_wp2_with fail
    generalize hW : World.alloc w1 _ = w2
    have B2 : Hid (Below w.heap.size w w2) := Lib.hid (by subst hW; exact B1.out.alloc L1 _)
    have B12 : Hid (Below w1.heap.size w1 w2) := Lib.hid (by subst hW; exact (Below.refl _ _).alloc (Nat.le_refl _) _)
    have X2 : Hid (w2.cell? ⟨w1.heap.size, 0, none⟩ = some (.slice a f.all.length c) ∧ w2.cell? ⟨w1.heap.size, 1, none⟩ = some (.int .i64 f.kept) ∧ w2.frozen? ⟨w1.heap.size, 0, none⟩ = false ∧ w2.frozen? ⟨w1.heap.size, 1, none⟩ = false ∧ w1.heap.size < w2.heap.size) := Lib.hid (by subst hW; exact ⟨by go_cell, by go_cell, by simp, by simp, by simp⟩)
    have D2 : Hid (DiskIs w2 db mb tb D) := Lib.hid (H.out.below B2.out)
    have NB : Hid (¬ Own3 db mb tb w1.heap.size) := Lib.hid fun e => by have := HM3.out _ e; omega
    clear hW
    refine (dnamed_any n _ HND.out).mono ?_
    rintro e w2' ⟨rfl, rfl⟩
    rw [HNM.out]
    go_wp2_with fail
    go_ret
    exact ⟨rfl, D2.out, Kept.below3 B2.out⟩

set_option maxHeartbeats 1000000 in
set_option maxRecDepth 20000 in
theorem dapp_many (db mb tb : Nat) (D : DiskS) (n : ByteArray) (bv : Value) (b : List Nat) (w : World) (h : DiskIs w db mb tb D) (hw : DWf D) (ht : total D.files ≤ 4294967296) (hB : Bytes w bv b) (hd : D.down = false) (hn : n.size ≤ maxLen) (hfe : fileE D n = 31) (hnm : 1 ≤ n.size ∧ n.size ≤ 16) (hm : 128 ≤ D.files.length) :
    Calls Tryz.prog 10 #[.pointer (some ⟨db, 0, none⟩), .string n, bv] w (OpPost db mb tb (D, 30) w) := by
  have HFE := Lib.hid hfe
  have HNM : Hid (decide (1 ≤ n.size ∧ n.size ≤ 16) = true) := Lib.hid (decide_eq_true hnm)
  have hmi : (128 : Int) ≤ (D.files.length : Int) := by omega
  clear hfe hnm hm
  have C := Lib.hid (dfile_up db mb tb D n w h hd hn)
  have H := Lib.hid h
  have HW := Lib.hid hw
  have HTOT := Lib.hid ht
  have HB := Lib.hid hB
  have HN := Lib.hid (keyOf_name hn)
  have HM3 := Lib.hid h.lt3
  have hl := h.lt
  have many := hw.many
  have HND : Hid (n.size ≤ 9223372036854775807) := Lib.hid (by unfold maxLen at hn; omega)
  obtain ⟨ba, bc, rfl, _⟩ := hB.shape
  have hbl : (b.length : Int) ≤ 2097152 := by have := hB.small; omega
  clear h hw hd hn ht hB
  go_enter Tryz.func10, Tryz.ntmps10
  go_wp2_with fail
  refine C.out.mono ?_
  rintro e w1 ⟨v, rfl, hfi, hb1⟩
  have HFI := Lib.hid hfi
  obtain ⟨a, c, rfl, _, _⟩ := hfi
  have B1 := Lib.hid hb1
  have L1 := hb1.size
  clear hb1
  rw [HFE.out]
  generalize hG : getF D n = f at *
  go_wp2_with fail
  generalize hW : World.alloc w1 _ = w2
  have B2 : Hid (Below w.heap.size w w2) := Lib.hid (by subst hW; exact B1.out.alloc L1 _)
  have B12 : Hid (Below w1.heap.size w1 w2) := Lib.hid (by subst hW; exact (Below.refl _ _).alloc (Nat.le_refl _) _)
  have X2 : Hid (w2.cell? ⟨w1.heap.size, 0, none⟩ = some (.slice a f.all.length c) ∧ w2.cell? ⟨w1.heap.size, 1, none⟩ = some (.int .i64 f.kept) ∧ w2.frozen? ⟨w1.heap.size, 0, none⟩ = false ∧ w2.frozen? ⟨w1.heap.size, 1, none⟩ = false ∧ w1.heap.size < w2.heap.size) := Lib.hid (by subst hW; exact ⟨by go_cell, by go_cell, by simp, by simp, by simp⟩)
  have D2 : Hid (DiskIs w2 db mb tb D) := Lib.hid (H.out.below B2.out)
  have NB : Hid (¬ Own3 db mb tb w1.heap.size) := Lib.hid fun e => by have := HM3.out _ e; omega
  clear hW
  refine (dnamed_any n _ HND.out).mono ?_
  rintro e w2' ⟨rfl, rfl⟩
  rw [HNM.out]
  have D2c := D2.out.c0
  have hlen : ∀ ty, (Builtin.len_ #[81] ty #[.map (some mb)]).run Tryz.prog w2 = .ok (.int .i64 D.files.length) w2 := fun ty => by
    obtain ⟨vals, hm, _⟩ := D2.out.fs
    have := World.ownsMap.len hm Tryz.underlying81 ty
    rw [dat_size] at this
    exact this
  go_wp2_with fail
  go_ret
  exact ⟨rfl, D2.out, Kept.below3 B2.out⟩

set_option maxHeartbeats 1000000 in
set_option maxRecDepth 20000 in
theorem dapp_full (db mb tb : Nat) (D : DiskS) (n : ByteArray) (bv : Value) (b : List Nat) (w : World) (h : DiskIs w db mb tb D) (hw : DWf D) (ht : total D.files ≤ 4294967296) (hB : Bytes w bv b) (k : Nat) (hk : k = 0 ∨ (k = 31 ∧ D.files.length < 128)) (hd : D.down = false) (hn : n.size ≤ maxLen) (hfe : fileE D n = k) (hnm : 1 ≤ n.size ∧ n.size ≤ 16) (hfr : freeD D < b.length) :
    Calls Tryz.prog 10 #[.pointer (some ⟨db, 0, none⟩), .string n, bv] w (OpPost db mb tb (D, 30) w) := by
  have HFE := Lib.hid hfe
  have HNM : Hid (decide (1 ≤ n.size ∧ n.size ≤ 16) = true) := Lib.hid (decide_eq_true hnm)
  have hmi : k = 0 ∨ (k = 31 ∧ (D.files.length : Int) < 128) := by omega
  clear hfe hnm hk
  rcases hmi with rfl | ⟨rfl, hmi⟩
  all_goals
    have C := Lib.hid (dfile_up db mb tb D n w h hd hn)
    have H := Lib.hid h
    have HW := Lib.hid hw
    have HTOT := Lib.hid ht
    have HB := Lib.hid hB
    have HN := Lib.hid (keyOf_name hn)
    have HM3 := Lib.hid h.lt3
    have hl := h.lt
    have many := hw.many
    have HND : Hid (n.size ≤ 9223372036854775807) := Lib.hid (by unfold maxLen at hn; omega)
    obtain ⟨ba, bc, rfl, _⟩ := hB.shape
    have hbl : (b.length : Int) ≤ 2097152 := by have := hB.small; omega
    clear h hw hd hn ht hB
    go_enter Tryz.func10, Tryz.ntmps10
    go_wp2_with fail
    refine C.out.mono ?_
    rintro e w1 ⟨v, rfl, hfi, hb1⟩
    have HFI := Lib.hid hfi
    obtain ⟨a, c, rfl, _, _⟩ := hfi
    have B1 := Lib.hid hb1
    have L1 := hb1.size
    clear hb1
    rw [HFE.out]
    generalize hG : getF D n = f at *
    go_wp2_with fail
    generalize hW : World.alloc w1 _ = w2
    have B2 : Hid (Below w.heap.size w w2) := Lib.hid (by subst hW; exact B1.out.alloc L1 _)
    have B12 : Hid (Below w1.heap.size w1 w2) := Lib.hid (by subst hW; exact (Below.refl _ _).alloc (Nat.le_refl _) _)
    have X2 : Hid (w2.cell? ⟨w1.heap.size, 0, none⟩ = some (.slice a f.all.length c) ∧ w2.cell? ⟨w1.heap.size, 1, none⟩ = some (.int .i64 f.kept) ∧ w2.frozen? ⟨w1.heap.size, 0, none⟩ = false ∧ w2.frozen? ⟨w1.heap.size, 1, none⟩ = false ∧ w1.heap.size < w2.heap.size) := Lib.hid (by subst hW; exact ⟨by go_cell, by go_cell, by simp, by simp, by simp⟩)
    have D2 : Hid (DiskIs w2 db mb tb D) := Lib.hid (H.out.below B2.out)
    have NB : Hid (¬ Own3 db mb tb w1.heap.size) := Lib.hid fun e => by have := HM3.out _ e; omega
    clear hW
    refine (dnamed_any n _ HND.out).mono ?_
    rintro e w2' ⟨rfl, rfl⟩
    rw [HNM.out]
    have D2c := D2.out.c0
    have hlen : ∀ ty, (Builtin.len_ #[81] ty #[.map (some mb)]).run Tryz.prog w2 = .ok (.int .i64 D.files.length) w2 := fun ty => by
      obtain ⟨vals, hm, _⟩ := D2.out.fs
      have := World.ownsMap.len hm Tryz.underlying81 ty
      rw [dat_size] at this
      exact this
    go_wp2_with fail
    refine (dfree_any db mb tb D _ D2.out HW.out HTOT.out).mono ?_
    rintro e w3 ⟨rfl, hb3⟩
    have B3 := Lib.hid hb3
    have L3 := hb3.size
    clear hb3
    generalize freeD D = fr at hfr
    go_wp2_with fail
    go_ret
    have BF : Below w.heap.size w w3 := B2.out.trans (B3.out.mono B2.out.size)
    exact ⟨rfl, H.out.below BF, Kept.below3 BF⟩

set_option maxHeartbeats 4000000 in
set_option maxRecDepth 20000 in
theorem dapp_ok (db mb tb : Nat) (D : DiskS) (n : ByteArray) (bv : Value) (b : List Nat) (w : World) (h : DiskIs w db mb tb D) (hw : DWf D) (ht : total D.files ≤ 4294967296) (hB : Bytes w bv b) (k : Nat) (hk : k = 0 ∨ (k = 31 ∧ D.files.length < 128)) (hd : D.down = false) (hn : n.size ≤ maxLen) (hfe : fileE D n = k) (hnm : 1 ≤ n.size ∧ n.size ≤ 16) (hfr : ¬ freeD D < b.length) (hsum : (getF D n).all.length + b.length ≤ 2097152) (hwa : DWf (appD D n b)) :
    Calls Tryz.prog 10 #[.pointer (some ⟨db, 0, none⟩), .string n, bv] w (OpPost db mb tb (stepD (appD D n b), stepE (appD D n b)) w) := by
  have HFE := Lib.hid hfe
  have HNM : Hid (decide (1 ≤ n.size ∧ n.size ≤ 16) = true) := Lib.hid (decide_eq_true hnm)
  have hmi : k = 0 ∨ (k = 31 ∧ (D.files.length : Int) < 128) := by omega
  have HSUM := Lib.hid hsum
  have HWA := Lib.hid hwa
  unfold appD at HWA ⊢
  clear hfe hnm hk hsum hwa
  rcases hmi with rfl | ⟨rfl, hmi⟩
  all_goals
    have C := Lib.hid (dfile_up db mb tb D n w h hd hn)
    have H := Lib.hid h
    have HW := Lib.hid hw
    have HTOT := Lib.hid ht
    have HB := Lib.hid hB
    have HN := Lib.hid (keyOf_name hn)
    have HM3 := Lib.hid h.lt3
    have hl := h.lt
    have many := hw.many
    have HND : Hid (n.size ≤ 9223372036854775807) := Lib.hid (by unfold maxLen at hn; omega)
    obtain ⟨ba, bc, rfl, _⟩ := hB.shape
    have hbl : (b.length : Int) ≤ 2097152 := by have := hB.small; omega
    clear h hw hd hn ht hB
    go_enter Tryz.func10, Tryz.ntmps10
    go_wp2_with fail
    refine C.out.mono ?_
    rintro e w1 ⟨v, rfl, hfi, hb1⟩
    have HFI := Lib.hid hfi
    obtain ⟨a, c, rfl, _, _⟩ := hfi
    have B1 := Lib.hid hb1
    have L1 := hb1.size
    clear hb1
    rw [HFE.out]
    generalize hG : getF D n = f at *
    go_wp2_with fail
    generalize hW : World.alloc w1 _ = w2
    have B2 : Hid (Below w.heap.size w w2) := Lib.hid (by subst hW; exact B1.out.alloc L1 _)
    have B12 : Hid (Below w1.heap.size w1 w2) := Lib.hid (by subst hW; exact (Below.refl _ _).alloc (Nat.le_refl _) _)
    have X2 : Hid (w2.cell? ⟨w1.heap.size, 0, none⟩ = some (.slice a f.all.length c) ∧ w2.cell? ⟨w1.heap.size, 1, none⟩ = some (.int .i64 f.kept) ∧ w2.frozen? ⟨w1.heap.size, 0, none⟩ = false ∧ w2.frozen? ⟨w1.heap.size, 1, none⟩ = false ∧ w1.heap.size < w2.heap.size) := Lib.hid (by subst hW; exact ⟨by go_cell, by go_cell, by simp, by simp, by simp⟩)
    have D2 : Hid (DiskIs w2 db mb tb D) := Lib.hid (H.out.below B2.out)
    have NB : Hid (¬ Own3 db mb tb w1.heap.size) := Lib.hid fun e => by have := HM3.out _ e; omega
    clear hW
    refine (dnamed_any n _ HND.out).mono ?_
    rintro e w2' ⟨rfl, rfl⟩
    rw [HNM.out]
    have D2c := D2.out.c0
    have hlen : ∀ ty, (Builtin.len_ #[81] ty #[.map (some mb)]).run Tryz.prog w2 = .ok (.int .i64 D.files.length) w2 := fun ty => by
      obtain ⟨vals, hm, _⟩ := D2.out.fs
      have := World.ownsMap.len hm Tryz.underlying81 ty
      rw [dat_size] at this
      exact this
    go_wp2_with fail
    refine (dfree_any db mb tb D _ D2.out HW.out HTOT.out).mono ?_
    rintro e w3 ⟨rfl, hb3⟩
    have B3 := Lib.hid hb3
    have L3 := hb3.size
    clear hb3
    generalize freeD D = fr at hfr
    clear hlen D2c
    have HSZ : Hid (f.all.length + b.length ≤ 2097152) := Lib.hid (by have := HSUM.out; omega)
    have hfl : (f.all.length : Int) ≤ 2097152 := by have := HSZ.out; omega
    have HFB : Hid (Bytes w3 (.slice a f.all.length c) f.all) := Lib.hid (by
      obtain ⟨a', c', e, h1, _⟩ := (HFI.out.below B12.out).below B3.out
      cases e
      exact h1)
    obtain ⟨af, HBF, HOF, hcut⟩ : ∃ af, Hid (Bytes w3 (.slice af f.all.length f.all.length) f.all) ∧ Hid ((Value.slice af f.all.length f.all.length).ownBlock = (Value.slice a f.all.length c).ownBlock) ∧ ∀ w', (Instr.slice 22 (.slice a f.all.length c) none (some (.int .i64 f.all.length)) (some (.int .i64 f.all.length))).run Tryz.prog w' = .ok (.slice af f.all.length f.all.length) w' := by
      obtain ⟨af, h1, h0, h2⟩ := HFB.out.cut_hmo Tryz.u8s f.all.length (Nat.le_refl _)
      rw [List.take_length] at h1
      exact ⟨af, Lib.hid h1, Lib.hid h0, h2⟩
    have HBB : Hid (Bytes w3 (.slice ba b.length bc) b) := Lib.hid ((HB.out.below B2.out).below B3.out)
    have X3 : Hid (w3.cell? ⟨w1.heap.size, 0, none⟩ = some (.slice a f.all.length c) ∧ w3.cell? ⟨w1.heap.size, 1, none⟩ = some (.int .i64 f.kept) ∧ w3.frozen? ⟨w1.heap.size, 0, none⟩ = false ∧ w1.heap.size < w3.heap.size) := Lib.hid ⟨Below.at B3.out X2.out.1 X2.out.2.2.2.2, Below.at B3.out X2.out.2.1 X2.out.2.2.2.2, by rw [B3.out.frozen (p := ⟨w1.heap.size, 0, none⟩) X2.out.2.2.2.2]; exact X2.out.2.2.1, Nat.lt_of_lt_of_le X2.out.2.2.2.2 L3⟩
    have x0 := X3.out.1
    go_wp2_with (at_builtin; refine wpList_append_full Tryz.u8s rfl _ _ rfl af f.all.length (.slice ba b.length bc) f.all b rfl rfl HBF.out HBB.out HSZ.out ?_; intro a5 c5 w5 hB5 hb5 ho5; have HB5 := Lib.hid hB5; have B5 := Lib.hid hb5; have HO5 := Lib.hid ho5; have L5 := hb5.size; have x50 := Below.at hb5 X3.out.1 X3.out.2.2.2; have f50 : w5.frozen? ⟨w1.heap.size, 0, none⟩ = false := (by rw [hb5.frozen (p := ⟨w1.heap.size, 0, none⟩) X3.out.2.2.2]; exact X3.out.2.2.1); clear hB5 hb5 ho5 x0)
    generalize hW4 : World.setCell w5 _ _ = w4
    have X5 : Hid (w5.cell? ⟨w1.heap.size, 1, none⟩ = some (.int .i64 f.kept)) := Lib.hid (Below.at B5.out X3.out.2.1 X3.out.2.2.2)
    have K4 : Hid (Kept w5 w4 (fun k => k = w1.heap.size)) := Lib.hid (by subst hW4; exact Kept.setCell w5 ⟨w1.heap.size, 0, none⟩ _)
    have D5 : Hid (DiskIs w5 db mb tb D) := Lib.hid ((D2.out.below B3.out).below B5.out)
    have D4 : Hid (DiskIs w4 db mb tb D) := Lib.hid (by subst hW4; exact D5.out.setOther _ NB.out (fun x e => by rw [x50] at e; cases e))
    have XR : Hid (w4.cell? ⟨db, 0, none⟩ = some (.map (some mb)) ∧ w4.cell? ⟨w1.heap.size, 0, none⟩ = some (.slice a5 (f.all.length + b.length) c5) ∧ w4.cell? ⟨w1.heap.size, 1, none⟩ = some (.int .i64 f.kept)) := Lib.hid (by
      refine ⟨D4.out.c0, ?_, ?_⟩
      · subst hW4; exact World.cell?_setCell_same _ _ _ x50
      · subst hW4; rw [World.cell?_setCell_other _ _ _ _ (by simp)]; exact X5.out)
    have hal : ({ f with all := f.all ++ b } : FileS).all.length = f.all.length + b.length := List.length_append
    have FI4 : Hid (FileIs w4 db mb tb (.agg #[.slice a5 (f.all.length + b.length) c5, .int .i64 f.kept]) { f with all := f.all ++ b }) := Lib.hid (by
      refine ⟨a5, c5, by rw [hal], ?_, ?_⟩
      · rw [hal]
        subst hW4
        exact ⟨HB5.out.shape, Reads.setNe HB5.out.rd _ (fun x e => by rw [x50] at e; cases e), HB5.out.lt, HB5.out.small⟩
      · rw [hal]
        rcases HO5.out with ⟨hb0, e5⟩ | ho
        · rw [e5]
          obtain ⟨a', c', e, h1, h2⟩ := HFI.out
          cases e
          rcases h2 with h2 | ⟨g, hg, n1⟩
          · exact .inl (by show f.all ++ b = []; rw [h2, hb0]; rfl)
          · exact .inr ⟨g, HOF.out.trans hg, n1⟩
        · refine .inr ⟨_, ho, ?_, ?_, ?_⟩
          · have := HM3.out db (.inl rfl); have := B2.out.size; omega
          · have := HM3.out mb (.inr (.inl rfl)); have := B2.out.size; omega
          · have := HM3.out tb (.inr (.inr rfl)); have := B2.out.size; omega)
    obtain ⟨vals, hmap, hfs⟩ := D4.out.fs
    have MR := Lib.hid hmap
    have FS := Lib.hid hfs
    clear hW4 x50 f50 hmap hfs hcut
    refine region_start [0, 1, 3, 7, 0, 0, 63] 0 (fun w' => w'.cell? ⟨db, 0, none⟩ = some (.map (some mb)) ∧ w'.cell? ⟨w1.heap.size, 0, none⟩ = some (.slice a5 (f.all.length + b.length) c5) ∧ w'.cell? ⟨w1.heap.size, 1, none⟩ = some (.int .i64 f.kept)) (by kernel_rfl) ?_
    refine stage_heads [0, 1, 2, 3, 4, 5] (by kernel_rfl) (L := #[true, true, true, true, true, true, false]) (by kernel_rfl) (f' := 1) rfl (fun _ _ _ _ h => h) (fun w o h => (((Stable.cell _ _).and ((Stable.cell _ _).and (Stable.cell _ _))).alloc h o)) (.inr XR.out) ?_
    simp only [List.flatMap_cons, List.flatMap_nil, List.drop_succ_cons, List.drop_zero, List.take_succ_cons, List.take_zero, List.cons_append, List.nil_append, List.append_nil]
    iterate 6 (first | (refine heads_load _ (by rfl) (fun w' hs => by obtain ⟨y0, y1, y2⟩ := hs; go_simp; try with_reducible rfl) rfl ?_; simp only [Act.put, List.setIfInBounds_toArray, List.set_cons_zero, List.set_cons_succ]) | (refine heads_pure _ (by rfl) (fun w' => by go_simp; try with_reducible rfl) ?_; simp only [Act.put, List.setIfInBounds_toArray, List.set_cons_zero, List.set_cons_succ]))
    refine heads_nil ?_
    refine stage_op 6 (by kernel_rfl) (L := #[true, true, true, true, true, true, true]) (by kernel_rfl) ?_
    simp only [List.drop_succ_cons, List.drop_zero, List.take_succ_cons, List.take_zero]
    refine wpList_mapUpdate_in _ rfl _ _ _ 81 rfl 9 87 law Tryz.underlying81 contR mb _ _ rfl (by first | exact MR.out | exact World.ownsMap.drew MR.out) (by unfold maxLen; omega) _ _ _ rfl rfl HN.out (.held (.agg #[.slice a5 (f.all.length + b.length) c5, .int .i64 f.kept])) [] (contR_mk _ _ _ _) ?_; intro w6 hown6 hturn6; have O6 := Lib.hid hown6; have T6 : Hid (w4.drew.mapTurned w6 mb) := Lib.hid hturn6; clear hown6 hturn6; go_wp2_with fail
    refine step_post nofun ?_
    refine stage_done (by kernel_rfl) ?_
    have DR : Below w4.heap.size w4 w4.drew := (Below.refl _ _).drew
    have D6 : Hid (DiskIs w6 db mb tb { D with files := putFile { f with all := f.all ++ b } D.files }) := Lib.hid (by
      have e5 := O6.out
      have e7 : f.name = n := by rw [← hG]; exact getF_name D n
      rw [← e7] at e5
      exact DiskIs.put (f := { f with all := f.all ++ b }) (v := .agg #[.slice a5 (f.all.length + b.length) c5, .int .i64 f.kept]) (D4.out.below DR) (fun g hg => (FS.out g hg).below DR) e5 T6.out (FI4.out.below DR))
    have K6 : Hid (Kept w w6 (Own3 db mb tb)) := Lib.hid ((((((Kept.below3 B2.out).trans (Kept.below3 B3.out)).trans (Kept.below3 B5.out)).andThen K4.out (fun k hk e => by rcases e with e | e; exact e; omega)).trans (Kept.drew w4 _)).trans (Kept.turned3 T6.out))
    clear hal DR
    go_wp2_with fail
    refine (dstep_any db mb tb _ _ D6.out HWA.out).mono ?_
    rintro e w7 ⟨rfl, hd7, k7⟩
    have D7 := Lib.hid hd7
    have K7 := Lib.hid k7
    clear hd7 k7
    go_wp2_with fail
    go_ret
    exact ⟨rfl, D7.out, K6.out.trans K7.out⟩
end Go.Proofs.YtofhccpagnkalaaGreat
