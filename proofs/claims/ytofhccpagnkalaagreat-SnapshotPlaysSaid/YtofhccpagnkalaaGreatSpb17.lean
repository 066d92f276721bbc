/- Several texts in one: Copy, Dany, Disk5, Sto, Vb, Save, Nod. What each proves stands ahead of it; together they serve splays_law_holds. No conditions but those stated. -/
import Derived.Laws.CopyOwn
import Derived.Deep.OwnRows
import Derived.Test.YtofhccpagnkalaaGreatSpb14
import Derived.Test.YtofhccpagnkalaaGreatSpb11
import Derived.Test.YtofhccpagnkalaaGreatRows
import Derived.Test.YtofhccpagnkalaaGreatSpb10
/- The contract of the program's Copy of a snapshot; no conditions but the ranges. -/
namespace Go.Proofs.YtofhccpagnkalaaGreat
open Go.RowKit Go.Maps Go.Proofs.Own

/-- The value v is the snapshot s, in blocks from B on. -/
def SnapNew (w : World) (B : Nat) (v : Value) (s : SnapS) : Prop :=
  ∃ mv dv, v = .agg #[.int .u64 s.i, .int .u64 s.t, mv, dv] ∧ Owns w B 3 .i64 mv s.ms ∧ Owns w B 5 .u8 dv (ints s.d)

set_option maxHeartbeats 2000000 in
set_option maxRecDepth 20000 in
theorem scopy_any (v : Value) (s : SnapS) (w : World) (h : SnapIs w v s) :
    Calls Tryz.prog 47 #[v] w fun e w' => ∃ v', e = .returned v' ∧ SnapNew w' w.heap.size v' s ∧ Below w.heap.size w w' := by
  obtain ⟨mv, dv, rfl, hm, hd⟩ := h
  obtain ⟨a, c, rfl, _⟩ := hd.shape
  obtain ⟨am, cm, rfl, _⟩ := hm.shape
  obtain ⟨i, t, ms, d⟩ := s
  simp only at hm hd ⊢
  have HM := Lib.hid hm
  have HD := Lib.hid hd
  have hml : (ms.length : Int) ≤ 2097152 := by have : ms.length ≤ 2097152 := hm.small; omega
  have HMS : Hid (ms.length ≤ 2097152) := Lib.hid hm.small
  clear hm hd
  obtain ⟨i8, hi8, hz8, hy8, hw8⟩ : ∃ i, Tryz.prog.info? 3 = some i ∧ i.zero = some (.int .i64 0) ∧ i.size = 1 ∧ i.bytes = 8 := info_parts Tryz.infoInt
  have HI := Lib.hid (And.intro hi8 (And.intro hz8 (And.intro hy8 hw8)))
  have HSZ : Hid ((Tryz.prog.info? 3).map (·.size) = some 1) := Lib.hid (by rw [hi8]; simp [hy8])
  clear hi8 hz8 hy8 hw8
  go_enter Tryz.func47, Tryz.ntmps47
  have hb3 : Below w.heap.size w (((w.alloc (.cells #[.int .u64 i, .int .u64 t, .slice am ms.length cm, .slice a d.length c] 40)).alloc (.cells #[.int .u64 0, .int .u64 0, .slice none 0 0, .slice none 0 0] 40)).alloc (.cells (madeCells #[.int .i64 0] ms.length) 3)) :=
    (((Below.refl _ _).alloc (Nat.le_refl _) _).alloc (by simp) _).alloc (by simp; omega) _
  have SA : Hid (∀ o o' : Obj, SBlk (((w.alloc (.cells #[.int .u64 i, .int .u64 t, .slice am ms.length cm, .slice a d.length c] 40)).alloc o).alloc o') w.heap.size i t (.slice am ms.length cm) (.slice a d.length c)) := Lib.hid fun o o' =>
    ((SBlk.box w i t _ _).below ((Below.refl _ _).alloc (Nat.le_refl _) o)).below ((Below.refl _ _).alloc (Nat.le_refl _) o')
  have RA : Hid (∀ o' : Obj, SBlk (((w.alloc (.cells #[.int .u64 i, .int .u64 t, .slice am ms.length cm, .slice a d.length c] 40)).alloc (.cells #[.int .u64 0, .int .u64 0, .slice none 0 0, .slice none 0 0] 40)).alloc o') (w.heap.size + 1) 0 0 (.slice none 0 0) (.slice none 0 0)) := Lib.hid fun o' => by
    have h := (SBlk.new (w.alloc (.cells #[.int .u64 i, .int .u64 t, .slice am ms.length cm, .slice a d.length c] 40))).below ((Below.refl _ _).alloc (Nat.le_refl _) o')
    simpa using h
  have B3 := Lib.hid hb3
  clear hb3
  have HPOS : Hid (∀ w' : World, Below w.heap.size w w' → 0 < (ms.map (Value.int .i64)).length → (some (⟨w.heap.size + 1 + 1, 0, none⟩ : Addr)) = some ⟨w.heap.size + 1 + 1, 0, none⟩ ∧ ∃ ad, am = some ad ∧ ∀ j v, (ms.map (Value.int .i64))[j]? = some v → w'.cell? (ad.add j) = some v) := Lib.hid fun w' hb h0 => by
    rw [List.length_map] at h0
    have hM := HM.out.below hb
    obtain ⟨b, o, e, _⟩ := hM.cells.2.2 0 h0
    refine ⟨rfl, _, e, fun j u hu => ?_⟩
    have hj : j < ms.length := by have := (List.getElem?_eq_some_iff.1 hu).1; simpa using this
    obtain ⟨b', o', e', hc⟩ := hM.cells.2.2 j hj
    rw [e] at e'
    cases e'
    rw [Addr.add_lit, hc]
    simpa [hj] using hu
  go_wp2_with (first | (at_make; refine wpList_make_row _ rfl _ _ 38 rfl 3 i8 (.int .i64 0) Tryz.underlying38 HI.out.1 HI.out.2.1 HI.out.2.2.1 rfl .i64 .i64 ms.length rfl rfl (by rw [HI.out.2.2.2]; have := HMS.out; omega) (by have := HMS.out; omega) ?_) | (refine wpList_copy_splice rfl _ _ 38 38 rfl 3 Tryz.underlying38 HSZ.out (some ⟨w.heap.size + 1 + 1, 0, none⟩) am ms.length ms.length ms.length cm rfl rfl (w.heap.size + 1 + 1) 0 (madeCells #[.int .i64 0] ms.length).toList 3 (by have h := heap_alloc_new ((w.alloc (.cells #[.int .u64 i, .int .u64 t, .slice am ms.length cm, .slice a d.length c] 40)).alloc (.cells #[.int .u64 0, .int .u64 0, .slice none 0 0, .slice none 0 0] 40)) (.cells (madeCells #[.int .i64 0] ms.length) 3); simpa using h) (ms.map (Value.int .i64)) (by simp) (HPOS.out _ B3.out) (by simp [size_madeCells]) (ints_oneCell _ _) (w.heap.size + 2) _ (Below.refl _ _) (by omega) ?_; intro w3 HG3 hB3; have BB3 := Lib.hid hB3; have B03 : Hid (Below w.heap.size w w3) := Lib.hid (B3.out.trans (hB3.mono (by omega))); have S3 : Hid (SBlk w3 w.heap.size i t (.slice am ms.length cm) (.slice a d.length c)) := Lib.hid ((SA.out _ _).kept (Kept.of_below hB3 (S := fun k => w.heap.size + 2 ≤ k) (fun k _ h => h)) (by omega)); have R3 : Hid (SBlk w3 (w.heap.size + 1) 0 0 (.slice none 0 0) (.slice none 0 0)) := Lib.hid ((RA.out _).kept (Kept.of_below hB3 (S := fun k => w.heap.size + 2 ≤ k) (fun k _ h => h)) (by omega)); obtain ⟨r0, r1, r2, r3, f0, f1, f2, f3⟩ := S3.out; clear hB3))
  have HDI : Hid ((ints d).length ≤ 2097152) := Lib.hid (by rw [length_ints]; exact HD.out.small)
  refine (bclone _ _ w3 (HD.out.below B03.out).rd HDI.out).mono ?_
  rintro e w4 ⟨dv4, rfl, hown4, hb4⟩
  obtain ⟨a4, c4, rfl⟩ := hown4.shape
  have O4 := Lib.hid hown4
  have B4 := Lib.hid hb4
  have S4 : Hid (SBlk w4 w.heap.size i t (.slice am ms.length cm) (.slice a d.length c)) := Lib.hid (S3.out.below hb4)
  have R4 : Hid (SBlk w4 (w.heap.size + 1) 0 0 (.slice none 0 0) (.slice none 0 0)) := Lib.hid (R3.out.below hb4)
  have M4 : Hid (Owns w4 w.heap.size 3 .i64 (.slice (some ⟨w.heap.size + 1 + 1, 0, none⟩) ms.length ms.length) ms) := Lib.hid (by
    have h3 : Owns w3 w.heap.size 3 .i64 (.slice (some ⟨w.heap.size + 1 + 1, 0, none⟩) ms.length ms.length) ms := by
      refine Owns.lit (zs := ms) ?_ (by omega) (by have := HMS.out; omega)
      have h := HG3.out
      have e : splice (madeCells #[Value.int .i64 0] ms.length).toList 0 (ms.map (Value.int .i64)) = ms.map (Value.int .i64) := by
        simp [splice, size_madeCells]
      rwa [e] at h
    exact h3.below hb4)
  clear r0 r1 r2 r3 f0 f1 f2 f3 hown4 hb4 HG3
  obtain ⟨r0, r1, r2, r3, f0, f1, f2, f3⟩ := S4.out
  obtain ⟨q0, q1, q2, q3, g0, g1, g2, g3⟩ := R4.out
  go_wp2_with fail
  generalize hwF : World.setCell _ _ _ = wF
  have KF : Hid (Kept w4 wF (fun k => k = w.heap.size ∨ k = w.heap.size + 1)) := Lib.hid (by
    subst hwF
    refine Kept.trans ?_ ((Kept.set4 _ (w.heap.size + 1) i t _ _).mono (fun k _ h => .inr h))
    exact ((Kept.setCell w4 ⟨w.heap.size, 2, none⟩ _).mono (fun k _ h => .inl h)).trans ((Kept.setCell _ ⟨w.heap.size, 3, none⟩ _).mono (fun k _ h => .inl h)))
  have RF : Hid (SBlk wF (w.heap.size + 1) i t (.slice (some ⟨w.heap.size + 1 + 1, 0, none⟩) ms.length ms.length) (.slice a4 (ints d).length c4)) := Lib.hid (by
    subst hwF
    have k1 := (Kept.setCell w4 ⟨w.heap.size, 2, none⟩ (.slice (some ⟨w.heap.size + 1 + 1, 0, none⟩) ms.length ms.length))
    exact ((R4.out.kept k1 (by simp)).kept (Kept.setCell _ ⟨w.heap.size, 3, none⟩ (.slice a4 (ints d).length c4)) (by simp)).set4 i t _ _)
  clear hwF r0 r1 r2 r3 f0 f1 f2 f3 q0 q1 q2 q3 g0 g1 g2 g3
  obtain ⟨q0, q1, q2, q3, _, _, _, _⟩ := RF.out
  have hl3 := R3.out.lt
  refine bodyPost_ret (v := .agg #[.int .u64 i, .int .u64 t, .slice (some ⟨w.heap.size + 1 + 1, 0, none⟩) ms.length ms.length, .slice a4 (ints d).length c4]) (by simp [results, Tryz.results47, go_sem, q0, q1, q2, q3]) rfl ?_
  refine ⟨_, rfl, ⟨_, _, rfl, M4.out.kept KF.out (fun b hb => by
    simp only [Value.ownBlock] at hb
    obtain rfl := Option.some.inj hb
    omega), (O4.out.kept KF.out fun b hb => by have := (O4.out.lt b hb).1; omega).lower fun b hb => by have := (O4.out.lt b hb).1; omega⟩, ?_⟩
  exact (B03.out.trans (B4.out.mono B03.out.size)).trans (KF.out.below (by have := B03.out.size; have := B4.out.size; omega) (fun k hk => by omega))
end Go.Proofs.YtofhccpagnkalaaGreat

/- The disk's calls, each by one function; what they keep; no conditions but the ranges. -/
namespace Go.Proofs.YtofhccpagnkalaaGreat
open Go.RowKit Go.Maps Go.Proofs.Own

def removeD (D : DiskS) (n : ByteArray) : DiskS × Nat :=
  match findFile n D.files with
  | some _ => if D.down = true then (D, 50) else if D.armed = 0 then (stepD D, 50) else ({ stepD D with files := delFile n D.files }, 0)
  | none => (D, fileE D n)
def moveD (D : DiskS) (n to : ByteArray) : DiskS × Nat :=
  match findFile n D.files with
  | some f => if D.down = true then (D, 50) else if ¬ (1 ≤ to.size ∧ to.size ≤ 16) then (D, 2) else if D.armed = 0 then (stepD D, 50) else ({ stepD D with files := putFile { f with name := to } (delFile n D.files) }, 0)
  | none => (D, fileE D n)
theorem fileE_some {D : DiskS} {n : ByteArray} {f : FileS} (h : findFile n D.files = some f) : fileE D n = if D.down = true then 50 else 0 := by
  unfold fileE; rw [h]; simp
theorem fileE_none {D : DiskS} {n : ByteArray} (h : findFile n D.files = none) : fileE D n ≠ 0 := by
  unfold fileE; rw [h]; split <;> simp

theorem dsync_any (db mb tb : Nat) (D : DiskS) (n : ByteArray) (w : World) (h : DiskIs w db mb tb D) (hw : DWf D) (hn : n.size ≤ maxLen) :
    Calls Tryz.prog 75 #[.pointer (some ⟨db, 0, none⟩), .string n] w (OpPost db mb tb (syncD D n) w) := by
  unfold syncD
  cases e : findFile n D.files with
  | none => exact dsync_err db mb tb D n w h hn (fileE_none e)
  | some f =>
    simp only
    by_cases hd : D.down = true
    · rw [if_pos hd]
      have := dsync_err db mb tb D n w h hn (by rw [fileE_some e, if_pos hd]; decide)
      rwa [fileE_some e, if_pos hd] at this
    · rw [if_neg hd]
      have hd' : D.down = false := by simpa using hd
      by_cases ha : D.armed = 0
      · rw [if_pos ha]; exact dsync_down db mb tb D n f w h hw hd' hn e ha
      · rw [if_neg ha]; exact dsync_ok db mb tb D n f w h hw hd' hn e ha
theorem dremove_any (db mb tb : Nat) (D : DiskS) (n : ByteArray) (w : World) (h : DiskIs w db mb tb D) (hw : DWf D) (hn : n.size ≤ maxLen) :
    Calls Tryz.prog 81 #[.pointer (some ⟨db, 0, none⟩), .string n] w (OpPost db mb tb (removeD D n) w) := by
  unfold removeD
  cases e : findFile n D.files with
  | none => exact dremove_err db mb tb D n w h hn (fileE_none e)
  | some f =>
    simp only
    by_cases hd : D.down = true
    · rw [if_pos hd]
      have := dremove_err db mb tb D n w h hn (by rw [fileE_some e, if_pos hd]; decide)
      rwa [fileE_some e, if_pos hd] at this
    · rw [if_neg hd]
      have hd' : D.down = false := by simpa using hd
      by_cases ha : D.armed = 0
      · rw [if_pos ha]; exact dremove_down db mb tb D n f w h hw hd' hn e ha
      · rw [if_neg ha]; exact dremove_ok db mb tb D n f w h hw hd' hn e ha
theorem dmove_any (db mb tb : Nat) (D : DiskS) (n to : ByteArray) (w : World) (h : DiskIs w db mb tb D) (hw : DWf D) (hn : n.size ≤ maxLen) (hto : to.size ≤ 9223372036854775807) :
    Calls Tryz.prog 77 #[.pointer (some ⟨db, 0, none⟩), .string n, .string to] w (OpPost db mb tb (moveD D n to) w) := by
  unfold moveD
  cases e : findFile n D.files with
  | none => exact dmove_err db mb tb D n to w h hn (fileE_none e)
  | some f =>
    simp only
    by_cases hd : D.down = true
    · rw [if_pos hd]
      have := dmove_err db mb tb D n to w h hn (by rw [fileE_some e, if_pos hd]; decide)
      rwa [fileE_some e, if_pos hd] at this
    · rw [if_neg hd]
      have hd' : D.down = false := by simpa using hd
      by_cases ht : 1 ≤ to.size ∧ to.size ≤ 16
      · rw [if_neg (by simpa using ht)]
        by_cases ha : D.armed = 0
        · rw [if_pos ha]; exact dmove_down db mb tb D n to f w h hw hd' hn e ht ha
        · rw [if_neg ha]; exact dmove_ok db mb tb D n to f w h hw hd' hn e ht ha
      · rw [if_pos ht]; exact dmove_name db mb tb D n to f w h hw hd' hn e hto ht

/-- A disk within its bounds. -/
structure DGood (D : DiskS) : Prop where
  wf : DWf D
  tot : total D.files ≤ 1048576
  few : D.files.length ≤ 128
theorem total_ins (f : FileS) : ∀ L, total (insFile f L) = f.all.length + total L
  | [] => by simp [insFile, total]
  | g :: r => by
    unfold insFile
    split
    · exact total_cons _ _
    · rw [total_cons, total_ins f r, total_cons]; omega
theorem length_ins (f : FileS) : ∀ L, (insFile f L).length = L.length + 1
  | [] => rfl
  | g :: r => by
    unfold insFile
    split
    · rfl
    · simp [length_ins f r]
theorem total_del (n : ByteArray) : ∀ L, total (delFile n L) ≤ total L
  | [] => Nat.le_refl _
  | g :: r => by
    unfold delFile
    rw [List.filter_cons]
    split
    · have := total_del n r; unfold delFile at this; rw [total_cons, total_cons]; omega
    · have := total_del n r; unfold delFile at this; rw [total_cons]; omega
theorem total_del_find {n : ByteArray} {f : FileS} : ∀ {L}, findFile n L = some f → total (delFile n L) + f.all.length ≤ total L ∧ (delFile n L).length + 1 ≤ L.length
  | [], h => by cases h
  | g :: r, h => by
    unfold findFile at h
    rw [List.find?_cons] at h
    unfold delFile
    rw [List.filter_cons]
    by_cases e : g.name = n
    · rw [decide_eq_true e] at h ⊢
      cases h
      have h1 := total_del n r
      have h2 : (delFile n r).length ≤ r.length := List.length_filter_le _ _
      unfold delFile at h1 h2
      simp only [Bool.not_true, Bool.false_eq_true, if_false, total_cons, List.length_cons]
      omega
    · rw [decide_eq_false e] at h ⊢
      have h1 := total_del_find (L := r) h
      unfold delFile at h1
      simp only [Bool.not_false, if_true, total_cons, List.length_cons]
      omega
theorem length_del (n : ByteArray) (L : List FileS) : (delFile n L).length ≤ L.length := List.length_filter_le _ _
theorem DGood.step {D : DiskS} (h : DGood D) (hs : D.steps + 1 ≤ 1000000000) : DGood (stepD D) :=
  ⟨h.wf.step hs, by rw [stepD_files]; exact h.tot, by rw [stepD_files]; exact h.few⟩
/-- The same disk with other files. -/
theorem DGood.withFiles {D : DiskS} (h : DGood D) (hs : D.steps + 1 ≤ 1000000000) (L : List FileS) (h1 : total L ≤ 1048576) (h2 : L.length ≤ 128) (h3 : ∀ f ∈ L, f.name.size ≤ 16 ∧ f.kept ≤ f.all.length) : DGood { stepD D with files := L } := by
  have k := h.wf.step hs
  exact ⟨⟨k.room0, k.room1, k.armed0, k.armed1, k.steps0, k.steps1, by simp only; omega, h3⟩, h1, h2⟩
theorem DGood.sync {D : DiskS} (h : DGood D) (n : ByteArray) (hs : D.steps + 1 ≤ 1000000000) : DGood (syncD D n).1 ∧ (syncD D n).1.steps ≤ D.steps + 1 := by
  unfold syncD
  cases e : findFile n D.files with
  | none => exact ⟨h, by simp only; omega⟩
  | some f =>
    simp only
    split
    · exact ⟨h, by simp only; omega⟩
    · split
      · exact ⟨h.step hs, by simp only; rw [stepD_steps]; omega⟩
      · obtain ⟨e1, e2⟩ := find_name e
        have e3 := total_del_find e
        refine ⟨h.withFiles hs _ ?_ ?_ ?_, by simp only; rw [stepD_steps]; omega⟩
        · unfold putFile; rw [total_ins]; simp only; rw [e1]; have := h.tot; omega
        · unfold putFile; rw [length_ins]; simp only; rw [e1]; have := h.few; omega
        · intro g hg
          rcases mem_put.1 hg with rfl | ⟨hg, _⟩
          · exact ⟨(h.wf.each f e2).1, Nat.le_refl _⟩
          · exact h.wf.each g hg
theorem DGood.remove {D : DiskS} (h : DGood D) (n : ByteArray) (hs : D.steps + 1 ≤ 1000000000) : DGood (removeD D n).1 ∧ (removeD D n).1.steps ≤ D.steps + 1 := by
  unfold removeD
  cases e : findFile n D.files with
  | none => exact ⟨h, by simp only; omega⟩
  | some f =>
    simp only
    split
    · exact ⟨h, by simp only; omega⟩
    · split
      · exact ⟨h.step hs, by simp only; rw [stepD_steps]; omega⟩
      · refine ⟨h.withFiles hs _ (Nat.le_trans (total_del _ _) h.tot) (Nat.le_trans (length_del _ _) h.few) fun g hg => h.wf.each g (mem_del.1 hg).1, by simp only; rw [stepD_steps]; omega⟩
theorem DGood.move {D : DiskS} (h : DGood D) (n to : ByteArray) (hs : D.steps + 1 ≤ 1000000000) : DGood (moveD D n to).1 ∧ (moveD D n to).1.steps ≤ D.steps + 1 := by
  unfold moveD
  cases e : findFile n D.files with
  | none => exact ⟨h, by simp only; omega⟩
  | some f =>
    simp only
    split
    · exact ⟨h, by simp only; omega⟩
    · split
      · exact ⟨h, by simp only; omega⟩
      · rename_i ht
        split
        · exact ⟨h.step hs, by simp only; rw [stepD_steps]; omega⟩
        · obtain ⟨e1, e2⟩ := find_name e
          have e3 := total_del_find e
          refine ⟨h.withFiles hs _ ?_ ?_ ?_, by simp only; rw [stepD_steps]; omega⟩
          · unfold putFile; rw [total_ins]; simp only; have := h.tot; have := total_del to (delFile n D.files); omega
          · unfold putFile; rw [length_ins]; simp only; have := h.few; have := length_del to (delFile n D.files); omega
          · intro g hg
            rcases mem_put.1 hg with rfl | ⟨hg, _⟩
            · exact ⟨by have : 1 ≤ to.size ∧ to.size ≤ 16 := by simpa using ht
                        exact this.2, (h.wf.each f e2).2⟩
            · exact h.wf.each g (mem_del.1 hg).1

theorem getF_some {D : DiskS} {n : ByteArray} {f : FileS} (h : findFile n D.files = some f) : getF D n = f := by unfold getF; rw [h]; rfl
theorem getF_none {D : DiskS} {n : ByteArray} (h : findFile n D.files = none) : getF D n = ⟨n, [], 0⟩ := by unfold getF; rw [h]; rfl
theorem app_room {D : DiskS} (h : DGood D) {b : List Nat} (hf : ¬ freeD D < b.length) : b = [] ∨ total D.files + b.length ≤ 1048576 := by
  by_cases h0 : b.length = 0
  · exact .inl (List.eq_nil_of_length_eq_zero h0)
  · refine .inr ?_
    have := h.wf.room1
    unfold freeD at hf
    omega
theorem app_good {D : DiskS} (h : DGood D) (n : ByteArray) (b : List Nat) (hnm : 1 ≤ n.size ∧ n.size ≤ 16) (hm : findFile n D.files = none → D.files.length < 128) (hf : ¬ freeD D < b.length) : DGood (appD D n b) ∧ (getF D n).all.length + b.length ≤ 2097152 := by
  have hr := app_room h hf
  have ht := h.tot
  have hb : b.length ≤ 1048576 := by rcases hr with rfl | hr <;> simp_all <;> omega
  have hbt : total D.files + b.length ≤ 1048576 := by
    rcases hr with rfl | hr
    · simpa using ht
    · exact hr
  unfold appD
  cases e : findFile n D.files with
  | none =>
    rw [getF_none e]
    refine ⟨⟨⟨h.wf.room0, h.wf.room1, h.wf.armed0, h.wf.armed1, h.wf.steps0, h.wf.steps1, ?_, ?_⟩, ?_, ?_⟩, by simp only [List.length_nil]; omega⟩
    · simp only; unfold putFile; rw [length_ins]; have := length_del n D.files; have := hm e; simp only; omega
    · intro g hg
      rcases mem_put.1 hg with rfl | ⟨hg, _⟩
      · exact ⟨hnm.2, Nat.zero_le _⟩
      · exact h.wf.each g hg
    · simp only; unfold putFile; rw [total_ins]; have := total_del n D.files; simp only [List.nil_append]; omega
    · simp only; unfold putFile; rw [length_ins]; have := length_del n D.files; have := hm e; simp only; omega
  | some f =>
    rw [getF_some e]
    obtain ⟨e1, e2⟩ := find_name e
    have e3 := total_del_find e
    refine ⟨⟨⟨h.wf.room0, h.wf.room1, h.wf.armed0, h.wf.armed1, h.wf.steps0, h.wf.steps1, ?_, ?_⟩, ?_, ?_⟩, by omega⟩
    · simp only; unfold putFile; rw [length_ins]; simp only; rw [e1]; have := h.few; omega
    · intro g hg
      rcases mem_put.1 hg with rfl | ⟨hg, _⟩
      · refine ⟨by simp only; rw [e1]; exact hnm.2, ?_⟩
        have := (h.wf.each f e2).2
        simp only [List.length_append]; omega
      · exact h.wf.each g hg
    · simp only; unfold putFile; rw [total_ins]; simp only [List.length_append]; rw [e1]; omega
    · simp only; unfold putFile; rw [length_ins]; simp only; rw [e1]; have := h.few; omega
theorem dapp_any (db mb tb : Nat) (D : DiskS) (n : ByteArray) (bv : Value) (b : List Nat) (w : World) (h : DiskIs w db mb tb D) (hw : DGood D) (hB : Bytes w bv b) (hn : n.size ≤ maxLen) :
    Calls Tryz.prog 10 #[.pointer (some ⟨db, 0, none⟩), .string n, bv] w (OpPost db mb tb (appendD D n b) w) := by
  have ht : total D.files ≤ 4294967296 := Nat.le_trans hw.tot (by decide)
  have no : ∀ k, k ≠ 0 → appE D n b = k → appendD D n b = (D, k) := fun k hk e => by unfold appendD; rw [e, if_pos hk]
  by_cases hd : D.down = true
  · rw [no 50 (by decide) (by unfold appE; rw [if_pos hd])]
    exact dapp_down db mb tb D n bv w h hd
  · have hd' : D.down = false := by simpa using hd
    have hfe := fileE_up (n := n) hd'
    by_cases hnm : 1 ≤ n.size ∧ n.size ≤ 16
    · have hnn : ¬ ¬ (1 ≤ n.size ∧ n.size ≤ 16) := fun e => e hnm
      by_cases hm : findFile n D.files = none ∧ 128 ≤ D.files.length
      · rw [no 30 (by decide) (by unfold appE; rw [if_neg hd, if_neg hnn, if_pos (.inl hm)])]
        rcases hfe with ⟨_, k⟩ | ⟨k, _⟩
        · exact absurd hm.1 k
        · exact dapp_many db mb tb D n bv b w h hw.wf ht hB hd' hn k hnm hm.2
      · have hmk : ∃ k, (k = 0 ∨ (k = 31 ∧ D.files.length < 128)) ∧ fileE D n = k := by
          rcases hfe with ⟨k, _⟩ | ⟨k, k2⟩
          · exact ⟨0, .inl rfl, k⟩
          · exact ⟨31, .inr ⟨rfl, by by_cases h8 : D.files.length < 128
                                     · exact h8
                                     · exact absurd ⟨k2, by omega⟩ hm⟩, k⟩
        obtain ⟨k, hk, hfk⟩ := hmk
        by_cases hfr : freeD D < b.length
        · rw [no 30 (by decide) (by unfold appE; rw [if_neg hd, if_neg hnn, if_pos (.inr hfr)])]
          exact dapp_full db mb tb D n bv b w h hw.wf ht hB k hk hd' hn hfk hnm hfr
        · have he : appE D n b = 0 := by
            unfold appE
            rw [if_neg hd, if_neg hnn, if_neg (by rintro (h1 | h1); exact hm h1; exact hfr h1)]
          have e0 : appendD D n b = (stepD (appD D n b), stepE D) := by unfold appendD; rw [he]; rfl
          rw [e0]
          have g := app_good hw n b hnm (fun e => by
            by_cases h8 : D.files.length < 128
            · exact h8
            · exact absurd ⟨e, by omega⟩ hm) hfr
          exact dapp_ok db mb tb D n bv b w h hw.wf ht hB k hk hd' hn hfk hnm hfr g.2 g.1.wf
    · rw [no 2 (by decide) (by unfold appE; rw [if_neg hd, if_pos hnm])]
      rcases hfe with ⟨k, _⟩ | ⟨k, _⟩
      · exact dapp_name db mb tb D n bv b w h hw.wf ht hB 0 (.inl rfl) hd' hn k hnm
      · exact dapp_name db mb tb D n bv b w h hw.wf ht hB 31 (.inr rfl) hd' hn k hnm
theorem DGood.append {D : DiskS} (h : DGood D) (n : ByteArray) (b : List Nat) (hs : D.steps + 1 ≤ 1000000000) : DGood (appendD D n b).1 ∧ (appendD D n b).1.steps ≤ D.steps + 1 := by
  unfold appendD
  by_cases he : appE D n b ≠ 0
  · rw [if_pos he]; exact ⟨h, by simp only; omega⟩
  · rw [if_neg he]
    have he0 : appE D n b = 0 := by omega
    unfold appE at he0
    split at he0
    · cases he0
    · split at he0
      · cases he0
      · rename_i hnm
        split at he0
        · cases he0
        · rename_i hx
          have g := app_good h n b (Decidable.of_not_not hnm) (fun e => by
            by_cases h8 : D.files.length < 128
            · exact h8
            · exact absurd (.inl ⟨e, by omega⟩) hx) (fun e => hx (.inr e))
          exact ⟨g.1.step hs, by simp only; rw [stepD_steps]; exact Int.le_refl _⟩
end Go.Proofs.YtofhccpagnkalaaGreat

/- Contracts of the disk's Boot, Arm, Resize, Cut; no conditions but the ranges. -/
namespace Go.Proofs.YtofhccpagnkalaaGreat
open Go.RowKit Go.Maps Go.Proofs.Own

def bootD (D : DiskS) : DiskS := { D with down := false, armed := -1 }
def armD (D : DiskS) (n : Int) : DiskS × Nat := if D.down = true then (D, 50) else if n < 0 then (D, 2) else ({ D with armed := n }, 0)
def resizeD (D : DiskS) (n : Int) : DiskS × Nat := if D.down = true then (D, 50) else if n < 0 ∨ 1048576 < n then (D, 2) else ({ D with room := n }, 0)
theorem Kept.set3 (w : World) (db mb tb : Nat) (o : Nat) (v : Value) : Kept w (w.setCell ⟨db, o, none⟩ v) (Own3 db mb tb) := (Kept.setCell w _ v).mono fun _ _ e => .inl e

set_option maxHeartbeats 1000000 in
theorem dboot_any (db mb tb : Nat) (D : DiskS) (w : World) (h : DiskIs w db mb tb D) : Calls Tryz.prog 51 #[.pointer (some ⟨db, 0, none⟩)] w (OpPost db mb tb (bootD D, 0) w) := by
  have H := Lib.hid h
  have c2 := h.c2
  have c3 := h.c3
  have f2 := h.f2
  have f3 := h.f3
  have hl := h.lt
  clear h
  go_enter Tryz.func51, Tryz.ntmps51
  go_wp2_with fail
  refine (dnone db mb tb D _ H.out).mono ?_
  rintro e w1 ⟨rfl, rfl⟩
  go_wp2_with fail
  go_ret
  exact ⟨rfl, (H.out.setDown false).setArmed (-1), (Kept.set3 _ _ _ _ _ _).trans (Kept.set3 _ _ _ _ _ _)⟩
set_option maxHeartbeats 1000000 in
theorem darm_any (db mb tb : Nat) (D : DiskS) (n : Int) (w : World) (h : DiskIs w db mb tb D) : Calls Tryz.prog 62 #[.pointer (some ⟨db, 0, none⟩), .int .i64 n] w (OpPost db mb tb (armD D n) w) := by
  have H := Lib.hid h
  have c3 := h.c3
  have f3 := h.f3
  have hl := h.lt
  have HDN := Lib.hid (dup_any db mb tb D w h)
  clear h
  unfold armD
  by_cases hd : D.down = true
  · rw [if_pos hd]
    rw [if_pos hd] at HDN
    clear hd
    go_enter Tryz.func62, Tryz.ntmps62
    go_wp2_with fail
    refine HDN.out.mono ?_
    rintro e w1 ⟨rfl, rfl⟩
    go_wp2_with fail
    go_ret
    exact ⟨rfl, H.out, Kept.refl _ _⟩
  · rw [if_neg hd]
    rw [if_neg hd] at HDN
    clear hd
    by_cases hn : n < 0
    · rw [if_pos hn]
      go_enter Tryz.func62, Tryz.ntmps62
      go_wp2_with fail
      refine HDN.out.mono ?_
      rintro e w1 ⟨rfl, rfl⟩
      go_wp2_with fail
      go_ret
      exact ⟨rfl, H.out, Kept.refl _ _⟩
    · rw [if_neg hn]
      go_enter Tryz.func62, Tryz.ntmps62
      go_wp2_with fail
      refine HDN.out.mono ?_
      rintro e w1 ⟨rfl, rfl⟩
      go_wp2_with fail
      go_ret
      exact ⟨rfl, H.out.setArmed n, Kept.set3 _ _ _ _ _ _⟩
set_option maxHeartbeats 1000000 in
theorem dresize_any (db mb tb : Nat) (D : DiskS) (n : Int) (w : World) (h : DiskIs w db mb tb D) : Calls Tryz.prog 64 #[.pointer (some ⟨db, 0, none⟩), .int .i64 n] w (OpPost db mb tb (resizeD D n) w) := by
  have H := Lib.hid h
  have c1 := h.c1
  have f1 := h.f1
  have hl := h.lt
  have HDN := Lib.hid (dup_any db mb tb D w h)
  clear h
  unfold resizeD
  by_cases hd : D.down = true
  · rw [if_pos hd]
    rw [if_pos hd] at HDN
    clear hd
    go_enter Tryz.func64, Tryz.ntmps64
    go_wp2_with fail
    refine HDN.out.mono ?_
    rintro e w1 ⟨rfl, rfl⟩
    go_wp2_with fail
    go_ret
    exact ⟨rfl, H.out, Kept.refl _ _⟩
  · rw [if_neg hd]
    rw [if_neg hd] at HDN
    clear hd
    by_cases hn : n < 0 ∨ 1048576 < n
    · rw [if_pos hn]
      rcases hn with hn | hn
      · go_enter Tryz.func64, Tryz.ntmps64
        go_wp2_with fail
        refine HDN.out.mono ?_
        rintro e w1 ⟨rfl, rfl⟩
        go_wp2_with fail
        go_ret
        exact ⟨rfl, H.out, Kept.refl _ _⟩
      · have hn0 : ¬ n < 0 := by omega
        go_enter Tryz.func64, Tryz.ntmps64
        go_wp2_with fail
        refine HDN.out.mono ?_
        rintro e w1 ⟨rfl, rfl⟩
        go_wp2_with fail
        go_ret
        exact ⟨rfl, H.out, Kept.refl _ _⟩
    · rw [if_neg hn]
      have hn0 : ¬ n < 0 := by omega
      have hn1 : ¬ 1048576 < n := by omega
      clear hn
      go_enter Tryz.func64, Tryz.ntmps64
      go_wp2_with fail
      refine HDN.out.mono ?_
      rintro e w1 ⟨rfl, rfl⟩
      go_wp2_with fail
      go_ret
      exact ⟨rfl, H.out.setRoom n, Kept.set3 _ _ _ _ _ _⟩

def cutD (D : DiskS) (n : ByteArray) (k : Int) : DiskS × Nat :=
  match findFile n D.files with
  | some f => if D.down = true then (D, 50) else if k < 0 ∨ (f.all.length : Int) < k then (D, 2) else if D.armed = 0 then (stepD D, 50) else ({ stepD D with files := putFile ⟨f.name, f.all.take k.toNat, min f.kept k.toNat⟩ D.files }, 0)
  | none => (D, fileE D n)

end Go.Proofs.YtofhccpagnkalaaGreat

/- Contracts of the store of a snapshot: none, gone, Open, Get; no conditions but the ranges. -/
namespace Go.Proofs.YtofhccpagnkalaaGreat
open Go.RowKit Go.Maps Go.Proofs.Own

abbrev nSnap : ByteArray := ⟨#[115, 110, 97, 112]⟩
abbrev nOther : ByteArray := ⟨#[115, 110, 97, 112, 46, 110, 101, 119]⟩
/-- Block sb is a store's five cells. -/
structure SBlk5 (w : World) (sb db : Nat) (i t : Int) (mv dv : Value) : Prop where
  c0 : w.cell? ⟨sb, 0, none⟩ = some (.pointer (some ⟨db, 0, none⟩))
  c1 : w.cell? ⟨sb, 1, none⟩ = some (.int .u64 i)
  c2 : w.cell? ⟨sb, 2, none⟩ = some (.int .u64 t)
  c3 : w.cell? ⟨sb, 3, none⟩ = some mv
  c4 : w.cell? ⟨sb, 4, none⟩ = some dv
  f1 : w.frozen? ⟨sb, 1, none⟩ = false
  f2 : w.frozen? ⟨sb, 2, none⟩ = false
  f3 : w.frozen? ⟨sb, 3, none⟩ = false
  f4 : w.frozen? ⟨sb, 4, none⟩ = false
theorem SBlk5.lt {w : World} {sb db : Nat} {i t : Int} {mv dv : Value} (h : SBlk5 w sb db i t mv dv) : sb < w.heap.size := World.block_lt_of_cell? _ _ h.c0
theorem SBlk5.kept {w w' : World} {sb db : Nat} {i t : Int} {mv dv : Value} {S : Nat → Prop} (h : SBlk5 w sb db i t mv dv) (hk : Kept w w' S) (hs : ¬ S sb) : SBlk5 w' sb db i t mv dv :=
  ⟨hk.cell h.c0 hs, hk.cell h.c1 hs, hk.cell h.c2 hs, hk.cell h.c3 hs, hk.cell h.c4 hs, (hk.frozen (a := ⟨sb, 1, none⟩) h.lt hs).trans h.f1,
   (hk.frozen (a := ⟨sb, 2, none⟩) h.lt hs).trans h.f2, (hk.frozen (a := ⟨sb, 3, none⟩) h.lt hs).trans h.f3, (hk.frozen (a := ⟨sb, 4, none⟩) h.lt hs).trans h.f4⟩
/-- Block sb is the store of the snapshot s, upon the disk db, mb, tb. -/
def StoreIs (w : World) (sb db mb tb : Nat) (s : SnapS) : Prop :=
  ∃ mv dv, SBlk5 w sb db s.i s.t mv dv ∧ Ints w mv s.ms ∧ Bytes w dv s.d ∧ (∀ b, mv.ownBlock = some b → ¬ Own3 db mb tb b ∧ b ≠ sb) ∧ (∀ b, dv.ownBlock = some b → ¬ Own3 db mb tb b ∧ b ≠ sb) ∧ ¬ Own3 db mb tb sb
theorem StoreIs.kept {w w' : World} {sb db mb tb : Nat} {s : SnapS} (h : StoreIs w sb db mb tb s) (hk : Kept w w' (Own3 db mb tb)) : StoreIs w' sb db mb tb s := by
  obtain ⟨mv, dv, h1, h2, h3, h4, h5, h6⟩ := h
  exact ⟨mv, dv, h1.kept hk h6, h2.kept hk fun b hb => (h4 b hb).1, h3.kept hk fun b hb => (h5 b hb).1, h4, h5, h6⟩
theorem StoreIs.below {w w' : World} {sb db mb tb : Nat} {s : SnapS} (h : StoreIs w sb db mb tb s) (hb : Below w.heap.size w w') : StoreIs w' sb db mb tb s := h.kept (Kept.below3 hb)
theorem StoreIs.lt {w : World} {sb db mb tb : Nat} {s : SnapS} (h : StoreIs w sb db mb tb s) : sb < w.heap.size := let ⟨_, _, h1, _⟩ := h; h1.lt

set_option maxHeartbeats 1000000 in
theorem snone (sb db mb tb : Nat) (s : SnapS) (w : World) (h : StoreIs w sb db mb tb s) : Calls Tryz.prog 46 #[.pointer (some ⟨sb, 0, none⟩)] w fun e w' => e = .returned (.bool false) ∧ w = w' := by
  obtain ⟨mv, dv, h1, _⟩ := h
  have c0 := h1.c0
  clear h1
  go_enter Tryz.func46, Tryz.ntmps46
  go_wp2_with fail
  go_ret
  exact ⟨rfl, rfl⟩

def goneD (D : DiskS) : DiskS × Nat := ((removeD D nOther).1, if (removeD D nOther).2 = 31 then 0 else (removeD D nOther).2)
set_option maxHeartbeats 1000000 in
theorem sgone_any (sb db mb tb : Nat) (D : DiskS) (w : World) (hc : w.cell? ⟨sb, 0, none⟩ = some (.pointer (some ⟨db, 0, none⟩))) (hd : DiskIs w db mb tb D) (hw : DGood D) :
    Calls Tryz.prog 41 #[.pointer (some ⟨sb, 0, none⟩)] w (OpPost db mb tb (goneD D) w) := by
  have HD := Lib.hid hd
  have HW := Lib.hid hw
  clear hd hw
  unfold goneD
  by_cases hk : (removeD D nOther).2 = 31
  all_goals
    have HK := Lib.hid hk
    first | rw [if_pos hk] | rw [if_neg hk]
    clear hk
    go_enter Tryz.func41, Tryz.ntmps41
    go_wp2_with fail
    refine (dremove_any db mb tb D nOther w HD.out HW.out.wf (by decide)).mono ?_
    rintro e w1 ⟨rfl, hd1, hk1⟩
    have D1 := Lib.hid hd1
    have K1 := Lib.hid hk1
    clear hd1 hk1
    generalize (removeD D nOther).1 = D' at *
    generalize (removeD D nOther).2 = k at *
  · have hk := HK.out
    subst hk
    go_wp2_with fail
    go_ret
    exact ⟨rfl, D1.out, K1.out⟩
  · have hki : ((k : Int) != 31) = true := by have := HK.out; simp; omega
    go_wp2_with fail
    go_ret
    exact ⟨rfl, D1.out, K1.out⟩
theorem goneD_good {D : DiskS} (h : DGood D) (hs : D.steps + 1 ≤ 1000000000) : DGood (goneD D).1 ∧ (goneD D).1.steps ≤ D.steps + 1 := h.remove nOther hs

set_option maxHeartbeats 1000000 in
set_option maxRecDepth 20000 in
theorem sopen_new (db mb tb : Nat) (D : DiskS) (w : World) (hd : DiskIs w db mb tb D) (hw : DGood D) (hg : (goneD D).2 = 0) (hf : fileE (goneD D).1 nSnap = 31) :
    Calls Tryz.prog 12 #[.pointer (some ⟨db, 0, none⟩)] w fun e w' => ∃ sb, e = .returned (.tuple #[.pointer (some ⟨sb, 0, none⟩), .int .i64 0]) ∧ DiskIs w' db mb tb (goneD D).1 ∧ StoreIs w' sb db mb tb zeroS ∧ Kept w w' (Own3 db mb tb) ∧ w.heap.size ≤ sb := by
  have HD := Lib.hid hd
  have HW := Lib.hid hw
  have HG := Lib.hid hg
  have HF := Lib.hid hf
  have H3 := Lib.hid hd.lt3
  clear hd hw hg hf
  go_enter Tryz.func12, Tryz.ntmps12
  go_wp2_with fail
  generalize hw1 : World.alloc w _ = w1
  have B1 : Hid (Below w.heap.size w w1) := Lib.hid (by subst hw1; exact (Below.refl _ _).alloc (Nat.le_refl _) _)
  have S1 : Hid (StoreIs w1 w.heap.size db mb tb zeroS) := Lib.hid (by
    subst hw1
    refine ⟨.slice none 0 0, .slice none 0 0, (show SBlk5 _ _ _ 0 0 _ _ from ⟨by go_cell, by go_cell, by go_cell, by go_cell, by go_cell, by simp, by simp, by simp, by simp⟩), Ints.nil _, Bytes.nil _, fun b hb => (by cases hb), fun b hb => (by cases hb), fun e => ?_⟩
    have := H3.out _ e
    omega)
  clear hw1
  refine (sgone_any w.heap.size db mb tb D w1 (by obtain ⟨_, _, h, _⟩ := S1.out; exact h.c0) (HD.out.below B1.out) HW.out).mono ?_
  rintro e w2 ⟨rfl, hd2, hk2⟩
  have D2 := Lib.hid hd2
  have K2 : Hid (Kept w w2 (Own3 db mb tb)) := Lib.hid ((Kept.below3 B1.out).trans hk2)
  have S2 := Lib.hid (S1.out.kept hk2)
  clear hd2 hk2
  rw [HG.out]
  go_wp2_with fail
  refine (dread_err db mb tb _ nSnap w2 D2.out (by decide) (by rw [HF.out]; decide)).mono ?_
  rintro e w3 ⟨rfl, hb3⟩
  have B3 := Lib.hid hb3
  clear hb3
  rw [HF.out]
  go_wp2_with fail
  go_ret2
  exact ⟨_, rfl, D2.out.below B3.out, S2.out.below B3.out, K2.out.trans (Kept.below3 B3.out), Nat.le_refl _⟩

set_option maxHeartbeats 1000000 in
set_option maxRecDepth 20000 in
theorem sget_any (sb db mb tb : Nat) (s : SnapS) (w : World) (h : StoreIs w sb db mb tb s) (hi : s.i ≠ 0) :
    Calls Tryz.prog 14 #[.pointer (some ⟨sb, 0, none⟩)] w fun e w' => ∃ v', e = .returned (.tuple #[v', .bool true]) ∧ SnapNew w' w.heap.size v' s ∧ Below w.heap.size w w' := by
  have H := Lib.hid h
  obtain ⟨mv, dv, h1, h2, h3, _⟩ := h
  have HS := Lib.hid h1
  have HM := Lib.hid h2
  have HB := Lib.hid h3
  have hsl := h1.lt
  obtain ⟨a, c, rfl, _⟩ := h3.shape
  obtain ⟨am, cm, rfl, _⟩ := h2.shape
  obtain ⟨i, t, ms, d⟩ := s
  simp only at *
  have hib : (i == 0) = false := by simpa using hi
  clear h1 h2 h3 hi
  go_enter Tryz.func14, Tryz.ntmps14
  go_wp2_with fail
  have R1 : Hid (SBlk (w.alloc (.cells #[.int .u64 0, .int .u64 0, .slice none 0 0, .slice none 0 0] 40)) w.heap.size 0 0 (.slice none 0 0) (.slice none 0 0)) := Lib.hid (SBlk.new w)
  have B1 : Hid (Below w.heap.size w (w.alloc (.cells #[.int .u64 0, .int .u64 0, .slice none 0 0, .slice none 0 0] 40))) := Lib.hid ((Below.refl _ _).alloc (Nat.le_refl _) _)
  generalize World.alloc w _ = w1 at *
  refine (snone sb db mb tb _ w1 (H.out.below B1.out)).mono ?_
  rintro e w1' ⟨rfl, rfl⟩
  have S1 : Hid (SBlk5 w1 sb db i t (.slice am ms.length cm) (.slice a d.length c)) := Lib.hid (HS.out.kept (Kept.of_below B1.out (S := fun _ => False) fun k h1 h2 => by omega) fun h => h)
  obtain ⟨r0, r1, r2, r3, r4, _, _, _, _⟩ := S1.out
  go_wp2_with fail
  refine (scopy_any _ ⟨i, t, ms, d⟩ w1 ⟨_, _, rfl, HM.out.below B1.out, HB.out.below B1.out⟩).mono ?_
  rintro e w2 ⟨v2, rfl, ⟨mv2, dv2, rfl, om, od⟩, hb2⟩
  obtain ⟨am2, cm2, rfl⟩ := om.shape
  obtain ⟨ad2, cd2, rfl⟩ := od.shape
  have R2 : Hid (SBlk w2 w.heap.size 0 0 (.slice none 0 0) (.slice none 0 0)) := Lib.hid (R1.out.below hb2)
  have OM := Lib.hid om
  have OD := Lib.hid od
  have B2 : Hid (Below w.heap.size w w2) := Lib.hid (B1.out.trans (hb2.mono B1.out.size))
  have hl1 := R1.out.lt
  clear om od hb2 r0 r1 r2 r3 r4
  obtain ⟨q0, q1, q2, q3, g0, g1, g2, g3⟩ := R2.out
  go_wp2_with fail
  generalize hwF : World.setCell _ _ _ = wF
  have KF : Hid (Kept w2 wF (fun k => k = w.heap.size)) := Lib.hid (by subst hwF; exact Kept.set4 _ _ _ _ _ _)
  have RF : Hid (SBlk wF w.heap.size i t (.slice am2 ms.length cm2) (.slice ad2 (ints d).length cd2)) := Lib.hid (by subst hwF; exact R2.out.set4 i t _ _)
  clear hwF q0 q1 q2 q3 g0 g1 g2 g3
  obtain ⟨q0, q1, q2, q3, _, _, _, _⟩ := RF.out
  refine bodyPost_ret (v := .tuple #[.agg #[.int .u64 i, .int .u64 t, .slice am2 ms.length cm2, .slice ad2 (ints d).length cd2], .bool true]) (by simp [results, Tryz.results14, go_sem, q0, q1, q2, q3]) rfl ?_
  refine ⟨_, rfl, ⟨_, _, rfl, (OM.out.kept KF.out fun b hb => by have := (OM.out.lt b hb).1; omega).lower fun b hb => by have := (OM.out.lt b hb).1; omega, (OD.out.kept KF.out fun b hb => by have := (OD.out.lt b hb).1; omega).lower fun b hb => by have := (OD.out.lt b hb).1; omega⟩, B2.out.trans (KF.out.below B2.out.size (fun k hk => by omega))⟩
end Go.Proofs.YtofhccpagnkalaaGreat

/- Contracts of the vow: a state's frame, a file that goes, the book's none and State; no conditions but the ranges. -/
namespace Go.Proofs.YtofhccpagnkalaaGreat
open Go.RowKit Go.Maps Go.Proofs.Own

theorem Reads.two (w : World) (q : IntKind) (x y : Int) (t : TypeId) : Reads (w.alloc (.cells #[.int q x, .int q y] t)) q (.slice (some ⟨w.heap.size, 0, none⟩) 2 2) [x, y] :=
  (Owns.lit (zs := [x, y]) (base := 0) (heap_alloc_new _ _) (Nat.zero_le _) (by simp)).reads

def vgoneD (D : DiskS) (n : ByteArray) : DiskS × Nat := ((removeD D n).1, if (removeD D n).2 = 31 then 0 else (removeD D n).2)
theorem vgoneD_good {D : DiskS} (n : ByteArray) (h : DGood D) (hs : D.steps + 1 ≤ 1000000000) : DGood (vgoneD D n).1 ∧ (vgoneD D n).1.steps ≤ D.steps + 1 := h.remove n hs

end Go.Proofs.YtofhccpagnkalaaGreat

/- The closures of the store's Save; no conditions but the ranges. -/
namespace Go.Proofs.YtofhccpagnkalaaGreat
open Go.RowKit Go.Maps Go.Proofs.Own

set_option maxHeartbeats 2000000 in
set_option maxRecDepth 20000 in
theorem save1_any (tc bc sb db mb tb : Nat) (D : DiskS) (a : Option Addr) (n c : Nat) (b : List Nat) (w : World) (h1 : w.cell? ⟨tc, 0, none⟩ = some (.pointer (some ⟨sb, 0, none⟩))) (h2 : w.cell? ⟨bc, 0, none⟩ = some (.slice a n c)) (h3 : w.cell? ⟨sb, 0, none⟩ = some (.pointer (some ⟨db, 0, none⟩)))
    (hd : DiskIs w db mb tb D) (hw : DGood D) (hB : Bytes w (.slice a n c) b) :
    Calls Tryz.prog 73 #[.pointer (some ⟨tc, 0, none⟩), .pointer (some ⟨bc, 0, none⟩)] w (OpPost db mb tb (appendD D nOther b) w) := by
  have HD := Lib.hid hd
  have HW := Lib.hid hw
  have HB := Lib.hid hB
  have XC := Lib.hid (And.intro h1 (And.intro h2 h3))
  clear hd hw hB h1 h2 h3
  go_enter Tryz.func73, Tryz.ntmps73
  go_wp2_with fail
  refine region_start [0, 1, 3, 7, 0, 31, 63] 0 (fun w' => w'.cell? ⟨tc, 0, none⟩ = some (.pointer (some ⟨sb, 0, none⟩)) ∧ w'.cell? ⟨bc, 0, none⟩ = some (.slice a n c) ∧ w'.cell? ⟨sb, 0, none⟩ = some (.pointer (some ⟨db, 0, none⟩))) (by kernel_rfl) ?_
  refine stage_heads [0, 1, 2, 3, 4] (by kernel_rfl) (L := #[true, true, true, true, true, false, false]) (by kernel_rfl) (f' := 2) rfl (fun _ _ _ _ h => h) (fun w o h => (((Stable.cell _ _).and ((Stable.cell _ _).and (Stable.cell _ _))).alloc h o)) (.inr XC.out) ?_
  simp only [List.flatMap_cons, List.flatMap_nil, List.drop_succ_cons, List.drop_zero, List.take_succ_cons, List.take_zero, List.cons_append, List.nil_append, List.append_nil]
  iterate 5 (first | (refine heads_load _ (by rfl) (fun w' hs => by obtain ⟨y0, y1, y2⟩ := hs; go_simp; try with_reducible rfl) rfl ?_; simp only [Act.put, List.setIfInBounds_toArray, List.set_cons_zero, List.set_cons_succ]) | (refine heads_pure _ (by rfl) (fun w' => by go_simp; try with_reducible rfl) ?_; simp only [Act.put, List.setIfInBounds_toArray, List.set_cons_zero, List.set_cons_succ]))
  refine heads_nil ?_
  refine stage_op 5 (by kernel_rfl) (L := #[true, true, true, true, true, true, false]) (by kernel_rfl) ?_
  simp only [List.drop_succ_cons, List.drop_zero, List.take_succ_cons, List.take_zero]
  go_wp2_with fail; refine (dapp_any db mb tb D nOther (.slice a n c) b _ (by first | exact HD.out | exact HD.out.below ((Below.refl _ _).drew)) HW.out (by first | exact HB.out | exact HB.out.below ((Below.refl _ _).drew)) (by decide)).mono ?_; rintro e w1 ⟨rfl, hd1, hk1⟩; have D1 := Lib.hid hd1; have K1 : Hid (Kept w w1 (Own3 db mb tb)) := Lib.hid (by first | exact hk1 | exact (Kept.drew _ _).trans hk1); clear hd1 hk1; go_wp2_with fail
  refine step_post nofun ?_
  refine stage_heads [6] (by kernel_rfl) (L := #[true, true, true, true, true, true, true]) (by kernel_rfl) (f' := 0) rfl (fun _ _ _ _ h => h) (fun w o h => (((Stable.cell _ _).and ((Stable.cell _ _).and (Stable.cell _ _))).alloc h o)) (.inl (by kernel_rfl)) ?_
  simp only [List.flatMap_cons, List.flatMap_nil, List.drop_succ_cons, List.drop_zero, List.take_succ_cons, List.take_zero, List.append_nil]
  iterate 1 (refine heads_pure _ (by rfl) (fun w' => by go_simp; try with_reducible rfl) ?_; simp only [Act.put, List.setIfInBounds_toArray, List.set_cons_zero, List.set_cons_succ])
  refine heads_nil ?_
  refine stage_done (by kernel_rfl) ?_
  go_wp2_with fail
  go_ret
  exact ⟨rfl, D1.out, K1.out⟩

set_option maxHeartbeats 1000000 in
theorem save2_any (tc sb db mb tb : Nat) (D : DiskS) (w : World) (h1 : w.cell? ⟨tc, 0, none⟩ = some (.pointer (some ⟨sb, 0, none⟩))) (h3 : w.cell? ⟨sb, 0, none⟩ = some (.pointer (some ⟨db, 0, none⟩)))
    (hd : DiskIs w db mb tb D) (hw : DGood D) :
    Calls Tryz.prog 74 #[.pointer (some ⟨tc, 0, none⟩)] w (OpPost db mb tb (syncD D nOther) w) := by
  have HD := Lib.hid hd
  have HW := Lib.hid hw
  clear hd hw
  go_enter Tryz.func74, Tryz.ntmps74
  go_wp2_with fail
  refine (dsync_any db mb tb D nOther w HD.out HW.out.wf (by decide)).mono ?_
  rintro e w1 ⟨rfl, hd1, hk1⟩
  have D1 := Lib.hid hd1
  have K1 := Lib.hid hk1
  clear hd1 hk1 h1 h3
  go_wp2_with fail
  go_ret
  exact ⟨rfl, D1.out, K1.out⟩

set_option maxHeartbeats 1000000 in
theorem save3_any (tc sb db mb tb : Nat) (D : DiskS) (w : World) (h1 : w.cell? ⟨tc, 0, none⟩ = some (.pointer (some ⟨sb, 0, none⟩))) (h3 : w.cell? ⟨sb, 0, none⟩ = some (.pointer (some ⟨db, 0, none⟩)))
    (hd : DiskIs w db mb tb D) (hw : DGood D) :
    Calls Tryz.prog 76 #[.pointer (some ⟨tc, 0, none⟩)] w (OpPost db mb tb (moveD D nOther nSnap) w) := by
  have HD := Lib.hid hd
  have HW := Lib.hid hw
  clear hd hw
  go_enter Tryz.func76, Tryz.ntmps76
  go_wp2_with fail
  refine (dmove_any db mb tb D nOther nSnap w HD.out HW.out.wf (by decide) (by decide)).mono ?_
  rintro e w1 ⟨rfl, hd1, hk1⟩
  have D1 := Lib.hid hd1
  have K1 := Lib.hid hk1
  clear hd1 hk1 h1 h3
  go_wp2_with fail
  go_ret
  exact ⟨rfl, D1.out, K1.out⟩
end Go.Proofs.YtofhccpagnkalaaGreat

/- A disk that is none: what its calls, and a snapshot's store that is none, tell; no conditions. -/
namespace Go.Proofs.YtofhccpagnkalaaGreat
open Go.RowKit Go.Maps Go.Proofs.Own

/-- p is nil, or a store that no call made. -/
def NoStore (w : World) (p : Option Addr) : Prop := p = none ∨ ∃ b, p = some ⟨b, 0, none⟩ ∧ w.cell? ⟨b, 0, none⟩ = some (.pointer none)
theorem NoStore.below {w w' : World} {p : Option Addr} (h : NoStore w p) (hb : Below w.heap.size w w') : NoStore w' p := by
  rcases h with h | ⟨b, h, c⟩
  · exact .inl h
  · exact .inr ⟨b, h, Below.at hb c (World.block_lt_of_cell? _ _ c)⟩
set_option maxHeartbeats 1000000 in
theorem nos_none (p : Option Addr) (w : World) (h : NoStore w p) : Calls Tryz.prog 46 #[.pointer p] w fun e w' => e = .returned (.bool true) ∧ w = w' := by
  rcases h with rfl | ⟨b, rfl, c0⟩
  all_goals
    go_enter Tryz.func46, Tryz.ntmps46
    go_wp2_with fail
    go_ret
    exact ⟨rfl, rfl⟩
set_option maxHeartbeats 1000000 in
set_option maxRecDepth 20000 in
theorem nos_get (p : Option Addr) (w : World) (h : NoStore w p) : Calls Tryz.prog 14 #[.pointer p] w fun e w' => e = .returned (.tuple #[.agg #[.int .u64 0, .int .u64 0, .slice none 0 0, .slice none 0 0], .bool false]) ∧ Below w.heap.size w w' := by
  have H := Lib.hid h
  clear h
  go_enter Tryz.func14, Tryz.ntmps14
  go_wp2_with fail
  have R1 : Hid (SBlk (w.alloc (.cells #[.int .u64 0, .int .u64 0, .slice none 0 0, .slice none 0 0] 40)) w.heap.size 0 0 (.slice none 0 0) (.slice none 0 0)) := Lib.hid (SBlk.new w)
  have B1 : Hid (Below w.heap.size w (w.alloc (.cells #[.int .u64 0, .int .u64 0, .slice none 0 0, .slice none 0 0] 40))) := Lib.hid ((Below.refl _ _).alloc (Nat.le_refl _) _)
  generalize World.alloc w _ = w1 at *
  refine (nos_none p w1 (H.out.below B1.out)).mono ?_
  rintro e w2 ⟨rfl, rfl⟩
  obtain ⟨q0, q1, q2, q3, g0, g1, g2, g3⟩ := R1.out
  go_wp2_with fail
  generalize hwF : World.setCell _ _ _ = wF
  have KF : Hid (Kept w1 wF (fun k => k = w.heap.size)) := Lib.hid (by subst hwF; exact Kept.set4 _ _ _ _ _ _)
  have RF : Hid (SBlk wF w.heap.size 0 0 (.slice none 0 0) (.slice none 0 0)) := Lib.hid (by subst hwF; exact R1.out.set4 0 0 _ _)
  clear hwF q0 q1 q2 q3 g0 g1 g2 g3
  obtain ⟨q0, q1, q2, q3, _, _, _, _⟩ := RF.out
  refine bodyPost_ret (v := .tuple #[.agg #[.int .u64 0, .int .u64 0, .slice none 0 0, .slice none 0 0], .bool false]) (by simp [results, Tryz.results14, go_sem, q0, q1, q2, q3]) rfl ?_
  exact ⟨rfl, B1.out.trans (KF.out.below B1.out.size (fun k hk => by omega))⟩
set_option maxHeartbeats 1000000 in
set_option maxRecDepth 20000 in
/-- .. and of one from which the file beside cannot go. -/
theorem sopen_err (db mb tb : Nat) (D : DiskS) (w : World) (hd : DiskIs w db mb tb D) (hw : DGood D) (hg : (goneD D).2 ≠ 0) :
    Calls Tryz.prog 12 #[.pointer (some ⟨db, 0, none⟩)] w fun e w' => e = .returned (.tuple #[.pointer none, .int .i64 (goneD D).2]) ∧ DiskIs w' db mb tb (goneD D).1 ∧ Kept w w' (Own3 db mb tb) := by
  have HD := Lib.hid hd
  have HW := Lib.hid hw
  obtain ⟨r, hr⟩ : ∃ r, goneD D = r := ⟨_, rfl⟩
  obtain ⟨D1, e1⟩ := r
  have HR := Lib.hid hr
  rw [hr] at hg ⊢
  have hgb : ((e1 : Int) != 0) = true := by simp; simp at hg; omega
  clear hd hw hg hr
  go_enter Tryz.func12, Tryz.ntmps12
  go_wp2_with fail
  have B1 : Hid (Below w.heap.size w (w.alloc (.cells #[.pointer (some ⟨db, 0, none⟩), .int .u64 0, .int .u64 0, .slice none 0 0, .slice none 0 0] 101))) := Lib.hid ((Below.refl _ _).alloc (Nat.le_refl _) _)
  have C1 : Hid ((w.alloc (.cells #[.pointer (some ⟨db, 0, none⟩), .int .u64 0, .int .u64 0, .slice none 0 0, .slice none 0 0] 101)).cell? ⟨w.heap.size, 0, none⟩ = some (.pointer (some ⟨db, 0, none⟩))) := Lib.hid (by go_cell)
  generalize World.alloc w _ = w1 at *
  refine (sgone_any w.heap.size db mb tb D w1 C1.out (HD.out.below B1.out) HW.out).mono ?_
  rintro e w2 ⟨rfl, hd2, hk2⟩
  rw [HR.out] at hd2 ⊢
  have D2 := Lib.hid hd2
  have K2 : Hid (Kept w w2 (Own3 db mb tb)) := Lib.hid ((Kept.below3 B1.out).trans hk2)
  clear hd2 hk2
  go_wp2_with fail
  go_ret2
  exact ⟨rfl, D2.out, K2.out⟩
end Go.Proofs.YtofhccpagnkalaaGreat
