/- Several texts in one: Disk3. What each proves stands ahead of it; together they serve vbroken_law_holds. No conditions but those stated. -/
import Derived.Test.YtjdglpcnkiioeaaGreatVbb10
import Derived.Test.YtjdglpcnkiioeaaGreatVbb2
import Derived.Test.YtjdglpcnkiioeaaGreatVbb11
namespace Go.Proofs.YtjdglpcnkiioeaaGreat
open Go.Lib (hid)
open Go.RowKit Go.Maps Go.Proofs.Own

theorem FileIs.setNe {w : World} {db mb tb : Nat} {v : Value} {f : FileS} (h : FileIs w db mb tb v f) {p : Addr} (y : Value) (hne : ∀ x, w.cell? p ≠ some (.int .u8 x)) : FileIs (w.setCell p y) db mb tb v f := by
  obtain ⟨a, c, h1, h2, h3⟩ := h
  exact ⟨a, c, h1, ⟨h2.shape, Reads.setNe h2.rd y hne, h2.lt, h2.small⟩, h3⟩
theorem DiskIs.setOther {w : World} {db mb tb : Nat} {D : DiskS} (h : DiskIs w db mb tb D) {p : Addr} (y : Value) (hp : ¬ Own3 db mb tb p.block) (hne : ∀ x, w.cell? p ≠ some (.int .u8 x)) : DiskIs (w.setCell p y) db mb tb D :=
  h.kept (Kept.setCell w p y) (fun k hk e => hp (by rw [<- e]; exact hk)) fun _ _ _ hf => hf.setNe y hne
theorem DiskIs.mapped {w w' : World} {db mb tb : Nat} {D : DiskS} {vals : ByteArray -> Value} {L : List FileS} (h : DiskIs w db mb tb D) (hm : MapIs w' mb vals L) (ht : w.mapTurned w' mb) (hfs : ∀ f ∈ L, FileIs w' db mb tb (vals f.name) f) :
    DiskIs w' db mb tb { D with files := L } := by
  have hk := Kept.of_turned ht
  have hl := h.lt
  have n0 : ¬ db = mb := h.ne.1
  exact ⟨hk.cell h.c0 n0, hk.cell h.c1 n0, hk.cell h.c2 n0, hk.cell h.c3 n0, hk.cell h.c4 n0, (hk.frozen (a := ⟨db, 1, none⟩) hl n0).trans h.f1, (hk.frozen (a := ⟨db, 2, none⟩) hl n0).trans h.f2, (hk.frozen (a := ⟨db, 3, none⟩) hl n0).trans h.f3,
    h.mt.kept hk (fun e => h.ne.2.2 e.symm), ⟨vals, hm, hfs⟩, h.ne⟩
theorem Kept.turned3 {w w' : World} {db mb tb : Nat} (h : w.mapTurned w' mb) : Kept w w' (Own3 db mb tb) := (Kept.of_turned h).mono fun _ _ e => .inr (.inl e)
theorem DiskIs.put {w w' : World} {db mb tb n : Nat} {D : DiskS} {vals : ByteArray -> Value} {f : FileS} {v : Value} (h : DiskIs w db mb tb D) (hfs : ∀ g ∈ D.files, FileIs w db mb tb (vals g.name) g)
    (hown : w'.ownsMap Tryz.prog 9 contR mb n ((dat vals D.files).put (keyL f.name) (.held v))) (ht : w.mapTurned w' mb) (hv : FileIs w db mb tb v f) : DiskIs w' db mb tb { D with files := putFile f D.files } := by
  rw [dat_put] at hown
  have hk3 : Kept w w' (Own3 db mb tb) := Kept.turned3 ht
  refine h.mapped (ownsMap_len hown) ht fun g hg => ?_
  rcases mem_put.1 hg with rfl | ⟨h1, h2⟩
  . rw [upd_same]; exact hv.kept hk3
  . rw [upd_other vals v h2]; exact (hfs g h1).kept hk3
theorem DiskIs.del {w w' : World} {db mb tb n : Nat} {D : DiskS} {vals : ByteArray -> Value} {m : ByteArray} (h : DiskIs w db mb tb D) (hfs : ∀ g ∈ D.files, FileIs w db mb tb (vals g.name) g)
    (hown : w'.ownsMap Tryz.prog 9 contR mb n ((dat vals D.files).del (keyL m))) (ht : w.mapTurned w' mb) : DiskIs w' db mb tb { D with files := delFile m D.files } := by
  rw [dat_del] at hown
  have hk3 : Kept w w' (Own3 db mb tb) := Kept.turned3 ht
  exact h.mapped (ownsMap_len hown) ht fun g hg => (hfs g (mem_del.1 hg).1).kept hk3

def OpPost (db mb tb : Nat) (r : DiskS × Nat) (w : World) : Ending -> World -> Prop := fun E w' => E = .returned (.int .i64 r.2) /\ DiskIs w' db mb tb r.1 /\ Kept w w' (Own3 db mb tb)
def syncD (D : DiskS) (n : ByteArray) : DiskS × Nat :=
  match findFile n D.files with
  | some f => if D.down = true then (D, 50) else if D.armed = 0 then (stepD D, 50) else ({ stepD D with files := putFile { f with kept := f.all.length } D.files }, 0)
  | none => (D, fileE D n)
theorem Kept.below3 {w w' : World} {db mb tb : Nat} (h : Below w.heap.size w w') : Kept w w' (Own3 db mb tb) := Kept.of_below h fun k h1 h2 => by omega
theorem DWf.step {D : DiskS} (h : DWf D) (hs : D.steps + 1 <= 1000000000) : DWf (stepD D) := by
  have := h.armed0
  have := h.armed1
  refine ⟨by rw [stepD_room]; exact h.room0, by rw [stepD_room]; exact h.room1, ?_, ?_, by rw [stepD_steps]; have := h.steps0; omega, by rw [stepD_steps]; exact hs, by rw [stepD_files]; exact h.many, by rw [stepD_files]; exact h.each⟩
  . unfold stepD; split <;> (try split) <;> simp only <;> omega
  . unfold stepD; split <;> (try split) <;> simp only <;> omega

theorem dsync_err (db mb tb : Nat) (D : DiskS) (n : ByteArray) (w : World) (h : DiskIs w db mb tb D) (hn : n.size <= maxLen) (he : fileE D n ≠ 0) :
    Calls Tryz.prog 34 #[.pointer (some ⟨db, 0, none⟩), .string n] w (OpPost db mb tb (D, fileE D n) w) := by
  have C := hid (dfile_err db mb tb D n w h hn he)
  have H := hid h
  obtain ⟨k, hk⟩ : ∃ k, fileE D n = k := ⟨_, rfl⟩
  have hkb : ((k : Int) != 0) = true := bne_iff_ne.2 (by omega)
  rw [hk] at C ⊢
  clear h hn he hk
  go_enter Tryz.func34, Tryz.ntmps34
  go_wp2_with fail
  refine C.out.mono ?_
  rintro e w1 ⟨rfl, hb1⟩
  have B1 := hid hb1
  have L1 := hb1.size
  clear hb1
  go_wp2_with fail
  go_ret
  have BF := B1.out.alloc L1 (.cells #[.slice none 0 0, .int .i64 0] 134)
  exact ⟨rfl, H.out.below BF, Kept.below3 BF⟩

set_option maxHeartbeats 2000000 in
set_option maxRecDepth 20000 in
theorem dsync_down (db mb tb : Nat) (D : DiskS) (n : ByteArray) (f : FileS) (w : World) (h : DiskIs w db mb tb D) (hw : DWf D) (hd : D.down = false) (hn : n.size <= maxLen) (hf : findFile n D.files = some f) (ha : D.armed = 0) :
    Calls Tryz.prog 34 #[.pointer (some ⟨db, 0, none⟩), .string n] w (OpPost db mb tb (stepD D, 50) w) := by
  have HE : Hid (stepE D = 50) := hid (if_pos ha)
  have C := hid (dfile_yes db mb tb D n f w h hd hn hf)
  have H := hid h
  have HW := hid hw
  have HN := hid (keyOf_name hn)
  have HFN := hid (find_name hf)
  have HM3 := hid h.lt3
  have hl := h.lt
  have many := hw.many
  clear h hw hd hn hf
  go_enter Tryz.func34, Tryz.ntmps34
  go_wp2_with fail
  refine C.out.mono ?_
  rintro e w1 ⟨v, rfl, hfi, hb1⟩
  have HFI := hid hfi
  obtain ⟨a, c, rfl, _, _⟩ := hfi
  have B1 := hid hb1
  have L1 := hb1.size
  clear hb1
  go_wp2_with fail
  generalize hW : World.alloc w1 _ = w2
  have B2 : Hid (Below w.heap.size w w2) := hid (by subst hW; exact B1.out.alloc L1 _)
  have B12 : Hid (Below w1.heap.size w1 w2) := hid (by subst hW; exact (Below.refl _ _).alloc (Nat.le_refl _) _)
  have X2 : Hid (w2.cell? ⟨w1.heap.size, 0, none⟩ = some (.slice a f.all.length c) /\ w2.cell? ⟨w1.heap.size, 1, none⟩ = some (.int .i64 f.kept) /\ w2.frozen? ⟨w1.heap.size, 0, none⟩ = false /\ w2.frozen? ⟨w1.heap.size, 1, none⟩ = false /\ w1.heap.size < w2.heap.size) := hid (by subst hW; exact ⟨by go_cell, by go_cell, by simp, by simp, by simp⟩)
  have D2 : Hid (DiskIs w2 db mb tb D) := hid (H.out.below B2.out)
  have NB : Hid (¬ Own3 db mb tb w1.heap.size) := hid fun e => by have := HM3.out _ e; omega
  clear hW
  refine (dstep_any db mb tb D _ D2.out HW.out).mono ?_
  rintro e w3 ⟨rfl, hd3, k3⟩
  rw [HE.out]
  have D3 := hid hd3
  have K3 := hid k3
  clear hd3 k3
  go_wp2_with fail
  go_ret
  exact ⟨rfl, D3.out, (Kept.below3 B2.out).trans K3.out⟩

set_option maxHeartbeats 2000000 in
set_option maxRecDepth 20000 in
theorem dsync_ok (db mb tb : Nat) (D : DiskS) (n : ByteArray) (f : FileS) (w : World) (h : DiskIs w db mb tb D) (hw : DWf D) (hd : D.down = false) (hn : n.size <= maxLen) (hf : findFile n D.files = some f) (ha : D.armed ≠ 0) :
    Calls Tryz.prog 34 #[.pointer (some ⟨db, 0, none⟩), .string n] w (OpPost db mb tb ({ stepD D with files := putFile { f with kept := f.all.length } D.files }, 0) w) := by
  have HE : Hid (stepE D = 0) := hid (if_neg ha)
  have C := hid (dfile_yes db mb tb D n f w h hd hn hf)
  have H := hid h
  have HW := hid hw
  have HN := hid (keyOf_name hn)
  have HFN := hid (find_name hf)
  have HM3 := hid h.lt3
  have hl := h.lt
  have many := hw.many
  clear h hw hd hn hf
  go_enter Tryz.func34, Tryz.ntmps34
  go_wp2_with fail
  refine C.out.mono ?_
  rintro e w1 ⟨v, rfl, hfi, hb1⟩
  have HFI := hid hfi
  obtain ⟨a, c, rfl, _, _⟩ := hfi
  have B1 := hid hb1
  have L1 := hb1.size
  clear hb1
  go_wp2_with fail
  generalize hW : World.alloc w1 _ = w2
  have B2 : Hid (Below w.heap.size w w2) := hid (by subst hW; exact B1.out.alloc L1 _)
  have B12 : Hid (Below w1.heap.size w1 w2) := hid (by subst hW; exact (Below.refl _ _).alloc (Nat.le_refl _) _)
  have X2 : Hid (w2.cell? ⟨w1.heap.size, 0, none⟩ = some (.slice a f.all.length c) /\ w2.cell? ⟨w1.heap.size, 1, none⟩ = some (.int .i64 f.kept) /\ w2.frozen? ⟨w1.heap.size, 0, none⟩ = false /\ w2.frozen? ⟨w1.heap.size, 1, none⟩ = false /\ w1.heap.size < w2.heap.size) := hid (by subst hW; exact ⟨by go_cell, by go_cell, by simp, by simp, by simp⟩)
  have D2 : Hid (DiskIs w2 db mb tb D) := hid (H.out.below B2.out)
  have NB : Hid (¬ Own3 db mb tb w1.heap.size) := hid fun e => by have := HM3.out _ e; omega
  clear hW
  refine (dstep_any db mb tb D _ D2.out HW.out).mono ?_
  rintro e w3 ⟨rfl, hd3, k3⟩
  rw [HE.out]
  have D3 := hid hd3
  have K3 := hid k3
  clear hd3 k3
  have X3 : Hid (w3.cell? ⟨w1.heap.size, 0, none⟩ = some (.slice a f.all.length c) /\ w3.cell? ⟨w1.heap.size, 1, none⟩ = some (.int .i64 f.kept) /\ w3.frozen? ⟨w1.heap.size, 0, none⟩ = false /\ w3.frozen? ⟨w1.heap.size, 1, none⟩ = false /\ w1.heap.size < w3.heap.size) := hid ⟨K3.out.cell X2.out.1 NB.out, K3.out.cell X2.out.2.1 NB.out, (K3.out.frozen (a := ⟨w1.heap.size, 0, none⟩) X2.out.2.2.2.2 NB.out).trans X2.out.2.2.1, (K3.out.frozen (a := ⟨w1.heap.size, 1, none⟩) X2.out.2.2.2.2 NB.out).trans X2.out.2.2.2.1, Nat.lt_of_lt_of_le X2.out.2.2.2.2 K3.out.size⟩
  obtain ⟨x0, x1, y0, y1, L3⟩ := X3.out
  have hfl : (f.all.length : Int) <= 2097152 := by obtain ⟨a', c', _, hB, _⟩ := HFI.out; have := hB.small; omega
  go_wp2_with fail
  generalize hW4 : World.setCell w3 _ _ = w4
  have K4 : Hid (Kept w3 w4 (fun k => k = w1.heap.size)) := hid (by subst hW4; exact Kept.setCell w3 ⟨w1.heap.size, 1, none⟩ _)
  have D4 : Hid (DiskIs w4 db mb tb (stepD D)) := hid (by subst hW4; exact D3.out.setOther _ NB.out (fun x e => by rw [X3.out.2.1] at e; cases e))
  have XR : Hid (w4.cell? ⟨db, 0, none⟩ = some (.map (some mb)) /\ w4.cell? ⟨w1.heap.size, 0, none⟩ = some (.slice a f.all.length c) /\ w4.cell? ⟨w1.heap.size, 1, none⟩ = some (.int .i64 f.all.length)) := hid (by
    refine ⟨D4.out.c0, ?_, ?_⟩
    . subst hW4; rw [World.cell?_setCell_other _ _ _ _ (by simp)]; exact X3.out.1
    . subst hW4; exact World.cell?_setCell_same _ _ _ X3.out.2.1)
  have FI4 : Hid (FileIs w4 db mb tb (.agg #[.slice a f.all.length c, .int .i64 f.all.length]) { f with kept := f.all.length }) := hid (by
    have hh := ((HFI.out.below B12.out).kept K3.out)
    have hh2 : FileIs w4 db mb tb (.agg #[.slice a f.all.length c, .int .i64 f.kept]) f := by subst hW4; exact hh.setNe _ (fun x e => by rw [X3.out.2.1] at e; cases e)
    obtain ⟨a', c', e1, e2, e3⟩ := hh2
    cases e1
    exact ⟨a, c, rfl, e2, e3⟩)
  obtain ⟨vals, hmap, hfs⟩ := D4.out.fs
  rw [stepD_files] at hmap hfs
  have MR := hid hmap
  have FS := hid hfs
  clear hW4 x0 x1 y0 y1 hmap hfs
  refine region_start [0, 1, 3, 7, 0, 0, 63] 0 (fun w' => w'.cell? ⟨db, 0, none⟩ = some (.map (some mb)) /\ w'.cell? ⟨w1.heap.size, 0, none⟩ = some (.slice a f.all.length c) /\ w'.cell? ⟨w1.heap.size, 1, none⟩ = some (.int .i64 f.all.length)) (by kernel_rfl) ?_
  refine stage_heads [0, 1, 2, 3, 4, 5] (by kernel_rfl) (L := #[true, true, true, true, true, true, false]) (by kernel_rfl) (f' := 1) rfl (fun _ _ _ _ h => h) (fun w o h => (((Stable.cell _ _).and ((Stable.cell _ _).and (Stable.cell _ _))).alloc h o)) (.inr XR.out) ?_
  simp only [sF, sL]
  iterate 6 (first | (refine heads_load _ (by rfl) (fun w' hs => by obtain ⟨y0, y1, y2⟩ := hs; go_simp; try with_reducible rfl) rfl ?_; simp only [Act.put, sA]) | (refine heads_pure _ (by rfl) (fun w' => by go_simp; try with_reducible rfl) ?_; simp only [Act.put, sA]))
  refine heads_nil ?_
  refine stage_op 6 (by kernel_rfl) (L := #[true, true, true, true, true, true, true]) (by kernel_rfl) ?_
  simp only [sL]
  refine wpList_mapUpdate_in _ rfl _ _ _ 47 rfl 9 134 law Tryz.underlying47 contR mb _ _ rfl (by first | exact MR.out | exact World.ownsMap.drew MR.out) (by unfold maxLen; omega) _ _ _ rfl rfl HN.out (.held (.agg #[.slice a f.all.length c, .int .i64 f.all.length])) [] (contR_mk _ _ _ _) ?_; intro w5 hown5 hturn5; have O5 := hid hown5; have T5 : Hid (w4.drew.mapTurned w5 mb) := hid hturn5; clear hown5 hturn5; go_wp2_with fail
  refine step_post nofun ?_
  refine stage_done (by kernel_rfl) ?_
  go_wp2_with fail
  go_ret
  refine ⟨rfl, ?_, (((Kept.below3 B2.out).trans K3.out).andThen K4.out (fun k hk e => by rcases e with e | e; exact e; omega)).trans ((Kept.drew w4 _).trans (Kept.turned3 T5.out))⟩
  have DR : Below w4.heap.size w4 w4.drew := (Below.refl _ _).drew
  have e5 := O5.out
  rw [<- HFN.out.1] at e5
  have e6 : (stepD D).files = D.files := stepD_files D
  have hp := DiskIs.put (f := { f with kept := f.all.length }) (v := .agg #[.slice a f.all.length c, .int .i64 f.all.length]) (D4.out.below DR) (by rw [e6]; exact fun g hg => (FS.out g hg).below DR) (by rw [e6]; exact e5) T5.out (FI4.out.below DR)
  rw [e6] at hp
  exact hp

theorem dremove_err (db mb tb : Nat) (D : DiskS) (n : ByteArray) (w : World) (h : DiskIs w db mb tb D) (hn : n.size <= maxLen) (he : fileE D n ≠ 0) :
    Calls Tryz.prog 120 #[.pointer (some ⟨db, 0, none⟩), .string n] w (OpPost db mb tb (D, fileE D n) w) := by
  have C := hid (dfile_err db mb tb D n w h hn he)
  have H := hid h
  obtain ⟨k, hk⟩ : ∃ k, fileE D n = k := ⟨_, rfl⟩
  have hkb : ((k : Int) != 0) = true := bne_iff_ne.2 (by omega)
  rw [hk] at C ⊢
  clear h hn he hk
  go_enter Tryz.func120, Tryz.ntmps120
  go_wp2_with fail
  refine C.out.mono ?_
  rintro e w1 ⟨rfl, hb1⟩
  have B1 := hid hb1
  have L1 := hb1.size
  clear hb1
  go_wp2_with fail
  go_ret
  have BF := B1.out.alloc L1 (.cells #[.slice none 0 0, .int .i64 0] 134)
  exact ⟨rfl, H.out.below BF, Kept.below3 BF⟩

set_option maxHeartbeats 2000000 in
set_option maxRecDepth 20000 in
theorem dremove_down (db mb tb : Nat) (D : DiskS) (n : ByteArray) (f : FileS) (w : World) (h : DiskIs w db mb tb D) (hw : DWf D) (hd : D.down = false) (hn : n.size <= maxLen) (hf : findFile n D.files = some f) (ha : D.armed = 0) :
    Calls Tryz.prog 120 #[.pointer (some ⟨db, 0, none⟩), .string n] w (OpPost db mb tb (stepD D, 50) w) := by
  have HE : Hid (stepE D = 50) := hid (if_pos ha)
  have C := hid (dfile_yes db mb tb D n f w h hd hn hf)
  have H := hid h
  have HW := hid hw
  have HN := hid (keyOf_name hn)
  have HFN := hid (find_name hf)
  have HM3 := hid h.lt3
  have hl := h.lt
  have many := hw.many
  clear h hw hd hn hf
  go_enter Tryz.func120, Tryz.ntmps120
  go_wp2_with fail
  refine C.out.mono ?_
  rintro e w1 ⟨v, rfl, hfi, hb1⟩
  have HFI := hid hfi
  obtain ⟨a, c, rfl, _, _⟩ := hfi
  have B1 := hid hb1
  have L1 := hb1.size
  clear hb1
  go_wp2_with fail
  generalize hW : World.alloc w1 _ = w2
  have B2 : Hid (Below w.heap.size w w2) := hid (by subst hW; exact B1.out.alloc L1 _)
  have B12 : Hid (Below w1.heap.size w1 w2) := hid (by subst hW; exact (Below.refl _ _).alloc (Nat.le_refl _) _)
  have X2 : Hid (w2.cell? ⟨w1.heap.size, 0, none⟩ = some (.slice a f.all.length c) /\ w2.cell? ⟨w1.heap.size, 1, none⟩ = some (.int .i64 f.kept) /\ w2.frozen? ⟨w1.heap.size, 0, none⟩ = false /\ w2.frozen? ⟨w1.heap.size, 1, none⟩ = false /\ w1.heap.size < w2.heap.size) := hid (by subst hW; exact ⟨by go_cell, by go_cell, by simp, by simp, by simp⟩)
  have D2 : Hid (DiskIs w2 db mb tb D) := hid (H.out.below B2.out)
  have NB : Hid (¬ Own3 db mb tb w1.heap.size) := hid fun e => by have := HM3.out _ e; omega
  clear hW
  refine (dstep_any db mb tb D _ D2.out HW.out).mono ?_
  rintro e w3 ⟨rfl, hd3, k3⟩
  rw [HE.out]
  have D3 := hid hd3
  have K3 := hid k3
  clear hd3 k3
  go_wp2_with fail
  go_ret
  exact ⟨rfl, D3.out, (Kept.below3 B2.out).trans K3.out⟩

set_option maxHeartbeats 2000000 in
set_option maxRecDepth 20000 in
theorem dremove_ok (db mb tb : Nat) (D : DiskS) (n : ByteArray) (f : FileS) (w : World) (h : DiskIs w db mb tb D) (hw : DWf D) (hd : D.down = false) (hn : n.size <= maxLen) (hf : findFile n D.files = some f) (ha : D.armed ≠ 0) :
    Calls Tryz.prog 120 #[.pointer (some ⟨db, 0, none⟩), .string n] w (OpPost db mb tb ({ stepD D with files := delFile n D.files }, 0) w) := by
  have HE : Hid (stepE D = 0) := hid (if_neg ha)
  have C := hid (dfile_yes db mb tb D n f w h hd hn hf)
  have H := hid h
  have HW := hid hw
  have HN := hid (keyOf_name hn)
  have HFN := hid (find_name hf)
  have HM3 := hid h.lt3
  have hl := h.lt
  have many := hw.many
  clear h hw hd hn hf
  go_enter Tryz.func120, Tryz.ntmps120
  go_wp2_with fail
  refine C.out.mono ?_
  rintro e w1 ⟨v, rfl, hfi, hb1⟩
  have HFI := hid hfi
  obtain ⟨a, c, rfl, _, _⟩ := hfi
  have B1 := hid hb1
  have L1 := hb1.size
  clear hb1
  go_wp2_with fail
  generalize hW : World.alloc w1 _ = w2
  have B2 : Hid (Below w.heap.size w w2) := hid (by subst hW; exact B1.out.alloc L1 _)
  have B12 : Hid (Below w1.heap.size w1 w2) := hid (by subst hW; exact (Below.refl _ _).alloc (Nat.le_refl _) _)
  have X2 : Hid (w2.cell? ⟨w1.heap.size, 0, none⟩ = some (.slice a f.all.length c) /\ w2.cell? ⟨w1.heap.size, 1, none⟩ = some (.int .i64 f.kept) /\ w2.frozen? ⟨w1.heap.size, 0, none⟩ = false /\ w2.frozen? ⟨w1.heap.size, 1, none⟩ = false /\ w1.heap.size < w2.heap.size) := hid (by subst hW; exact ⟨by go_cell, by go_cell, by simp, by simp, by simp⟩)
  have D2 : Hid (DiskIs w2 db mb tb D) := hid (H.out.below B2.out)
  have NB : Hid (¬ Own3 db mb tb w1.heap.size) := hid fun e => by have := HM3.out _ e; omega
  clear hW
  refine (dstep_any db mb tb D _ D2.out HW.out).mono ?_
  rintro e w3 ⟨rfl, hd3, k3⟩
  rw [HE.out]
  have D3 := hid hd3
  have K3 := hid k3
  clear hd3 k3
  have X3 : Hid (w3.cell? ⟨w1.heap.size, 0, none⟩ = some (.slice a f.all.length c) /\ w3.cell? ⟨w1.heap.size, 1, none⟩ = some (.int .i64 f.kept) /\ w3.frozen? ⟨w1.heap.size, 0, none⟩ = false /\ w3.frozen? ⟨w1.heap.size, 1, none⟩ = false /\ w1.heap.size < w3.heap.size) := hid ⟨K3.out.cell X2.out.1 NB.out, K3.out.cell X2.out.2.1 NB.out, (K3.out.frozen (a := ⟨w1.heap.size, 0, none⟩) X2.out.2.2.2.2 NB.out).trans X2.out.2.2.1, (K3.out.frozen (a := ⟨w1.heap.size, 1, none⟩) X2.out.2.2.2.2 NB.out).trans X2.out.2.2.2.1, Nat.lt_of_lt_of_le X2.out.2.2.2.2 K3.out.size⟩
  obtain ⟨x0, x1, y0, y1, L3⟩ := X3.out
  obtain ⟨vals, hmap, hfs⟩ := D3.out.fs
  rw [stepD_files] at hmap hfs
  have MR := hid hmap
  have FS := hid hfs
  have c03 := D3.out.c0
  clear hmap hfs
  go_wp2_with (at_delete; refine wpList_delete_own _ rfl _ _ 47 9 rfl 134 law Tryz.underlying47 contR mb _ _ rfl MR.out _ _ rfl HN.out ?_; intro w5 hown5 hturn5; have O5 := hid hown5; have T5 : Hid (w3.mapTurned w5 mb) := hid hturn5; clear hown5 hturn5 c03 x0 x1 y0 y1)
  go_ret
  refine ⟨rfl, ?_, ((Kept.below3 B2.out).trans K3.out).trans (Kept.turned3 T5.out)⟩
  have e6 : (stepD D).files = D.files := stepD_files D
  have hp := DiskIs.del D3.out (by rw [e6]; exact FS.out) (by rw [e6]; exact O5.out) T5.out
  rw [e6] at hp
  exact hp

theorem dmove_err (db mb tb : Nat) (D : DiskS) (n : ByteArray) (to : ByteArray) (w : World) (h : DiskIs w db mb tb D) (hn : n.size <= maxLen) (he : fileE D n ≠ 0) :
    Calls Tryz.prog 178 #[.pointer (some ⟨db, 0, none⟩), .string n, .string to] w (OpPost db mb tb (D, fileE D n) w) := by
  have C := hid (dfile_err db mb tb D n w h hn he)
  have H := hid h
  obtain ⟨k, hk⟩ : ∃ k, fileE D n = k := ⟨_, rfl⟩
  have hkb : ((k : Int) != 0) = true := bne_iff_ne.2 (by omega)
  rw [hk] at C ⊢
  clear h hn he hk
  go_enter Tryz.func178, Tryz.ntmps178
  go_wp2_with fail
  refine C.out.mono ?_
  rintro e w1 ⟨rfl, hb1⟩
  have B1 := hid hb1
  have L1 := hb1.size
  clear hb1
  go_wp2_with fail
  go_ret
  have BF := B1.out.alloc L1 (.cells #[.slice none 0 0, .int .i64 0] 134)
  exact ⟨rfl, H.out.below BF, Kept.below3 BF⟩

set_option maxHeartbeats 2000000 in
set_option maxRecDepth 20000 in
theorem dmove_name (db mb tb : Nat) (D : DiskS) (n : ByteArray) (to : ByteArray) (f : FileS) (w : World) (h : DiskIs w db mb tb D) (hw : DWf D) (hd : D.down = false) (hn : n.size <= maxLen) (hf : findFile n D.files = some f) (hts : to.size <= 9223372036854775807) (ht : ¬ (1 <= to.size /\ to.size <= 16)) :
    Calls Tryz.prog 178 #[.pointer (some ⟨db, 0, none⟩), .string n, .string to] w (OpPost db mb tb (D, 2) w) := by
  have HTB : Hid (decide (1 <= to.size /\ to.size <= 16) = false) := hid (decide_eq_false ht)
  have HTS := hid hts
  clear ht hts
  have C := hid (dfile_yes db mb tb D n f w h hd hn hf)
  have H := hid h
  have HW := hid hw
  have HN := hid (keyOf_name hn)
  have HFN := hid (find_name hf)
  have HM3 := hid h.lt3
  have hl := h.lt
  have many := hw.many
  clear h hw hd hn hf
  go_enter Tryz.func178, Tryz.ntmps178
  go_wp2_with fail
  refine C.out.mono ?_
  rintro e w1 ⟨v, rfl, hfi, hb1⟩
  have HFI := hid hfi
  obtain ⟨a, c, rfl, _, _⟩ := hfi
  have B1 := hid hb1
  have L1 := hb1.size
  clear hb1
  go_wp2_with fail
  refine (dnamed_any to _ HTS.out).mono ?_
  rintro e w1' ⟨rfl, rfl⟩
  rw [HTB.out]
  go_wp2_with fail
  go_ret
  have BF := B1.out.alloc L1 (.cells #[.slice a f.all.length c, .int .i64 f.kept] 134)
  exact ⟨rfl, H.out.below BF, Kept.below3 BF⟩

set_option maxHeartbeats 2000000 in
set_option maxRecDepth 20000 in
theorem dmove_down (db mb tb : Nat) (D : DiskS) (n : ByteArray) (to : ByteArray) (f : FileS) (w : World) (h : DiskIs w db mb tb D) (hw : DWf D) (hd : D.down = false) (hn : n.size <= maxLen) (hf : findFile n D.files = some f) (ht : 1 <= to.size /\ to.size <= 16) (ha : D.armed = 0) :
    Calls Tryz.prog 178 #[.pointer (some ⟨db, 0, none⟩), .string n, .string to] w (OpPost db mb tb (stepD D, 50) w) := by
  have HE : Hid (stepE D = 50) := hid (if_pos ha)
  have HTB : Hid (decide (1 <= to.size /\ to.size <= 16) = true) := hid (decide_eq_true ht)
  have HTS : Hid (to.size <= 9223372036854775807) := hid (by omega)
  clear ht
  have C := hid (dfile_yes db mb tb D n f w h hd hn hf)
  have H := hid h
  have HW := hid hw
  have HN := hid (keyOf_name hn)
  have HFN := hid (find_name hf)
  have HM3 := hid h.lt3
  have hl := h.lt
  have many := hw.many
  clear h hw hd hn hf
  go_enter Tryz.func178, Tryz.ntmps178
  go_wp2_with fail
  refine C.out.mono ?_
  rintro e w1 ⟨v, rfl, hfi, hb1⟩
  have HFI := hid hfi
  obtain ⟨a, c, rfl, _, _⟩ := hfi
  have B1 := hid hb1
  have L1 := hb1.size
  clear hb1
  go_wp2_with fail
  generalize hW : World.alloc w1 _ = w2
  have B2 : Hid (Below w.heap.size w w2) := hid (by subst hW; exact B1.out.alloc L1 _)
  have B12 : Hid (Below w1.heap.size w1 w2) := hid (by subst hW; exact (Below.refl _ _).alloc (Nat.le_refl _) _)
  have X2 : Hid (w2.cell? ⟨w1.heap.size, 0, none⟩ = some (.slice a f.all.length c) /\ w2.cell? ⟨w1.heap.size, 1, none⟩ = some (.int .i64 f.kept) /\ w2.frozen? ⟨w1.heap.size, 0, none⟩ = false /\ w2.frozen? ⟨w1.heap.size, 1, none⟩ = false /\ w1.heap.size < w2.heap.size) := hid (by subst hW; exact ⟨by go_cell, by go_cell, by simp, by simp, by simp⟩)
  have D2 : Hid (DiskIs w2 db mb tb D) := hid (H.out.below B2.out)
  have NB : Hid (¬ Own3 db mb tb w1.heap.size) := hid fun e => by have := HM3.out _ e; omega
  clear hW
  refine (dnamed_any to _ HTS.out).mono ?_
  rintro e w1' ⟨rfl, rfl⟩
  rw [HTB.out]
  go_wp2_with fail
  refine (dstep_any db mb tb D _ D2.out HW.out).mono ?_
  rintro e w3 ⟨rfl, hd3, k3⟩
  rw [HE.out]
  have D3 := hid hd3
  have K3 := hid k3
  clear hd3 k3
  go_wp2_with fail
  go_ret
  exact ⟨rfl, D3.out, (Kept.below3 B2.out).trans K3.out⟩

set_option maxHeartbeats 2000000 in
set_option maxRecDepth 20000 in
theorem dmove_ok (db mb tb : Nat) (D : DiskS) (n : ByteArray) (to : ByteArray) (f : FileS) (w : World) (h : DiskIs w db mb tb D) (hw : DWf D) (hd : D.down = false) (hn : n.size <= maxLen) (hf : findFile n D.files = some f) (ht : 1 <= to.size /\ to.size <= 16) (ha : D.armed ≠ 0) :
    Calls Tryz.prog 178 #[.pointer (some ⟨db, 0, none⟩), .string n, .string to] w (OpPost db mb tb ({ stepD D with files := putFile { f with name := to } (delFile n D.files) }, 0) w) := by
  have HE : Hid (stepE D = 0) := hid (if_neg ha)
  have HTB : Hid (decide (1 <= to.size /\ to.size <= 16) = true) := hid (decide_eq_true ht)
  have HTS : Hid (to.size <= 9223372036854775807) := hid (by omega)
  have HTN : Hid (keyOf Tryz.prog 9 (.string to) = some (keyL to)) := hid (keyOf_name (by unfold maxLen; omega))
  clear ht
  have C := hid (dfile_yes db mb tb D n f w h hd hn hf)
  have H := hid h
  have HW := hid hw
  have HN := hid (keyOf_name hn)
  have HFN := hid (find_name hf)
  have HM3 := hid h.lt3
  have hl := h.lt
  have many := hw.many
  clear h hw hd hn hf
  go_enter Tryz.func178, Tryz.ntmps178
  go_wp2_with fail
  refine C.out.mono ?_
  rintro e w1 ⟨v, rfl, hfi, hb1⟩
  have HFI := hid hfi
  obtain ⟨a, c, rfl, _, _⟩ := hfi
  have B1 := hid hb1
  have L1 := hb1.size
  clear hb1
  go_wp2_with fail
  generalize hW : World.alloc w1 _ = w2
  have B2 : Hid (Below w.heap.size w w2) := hid (by subst hW; exact B1.out.alloc L1 _)
  have B12 : Hid (Below w1.heap.size w1 w2) := hid (by subst hW; exact (Below.refl _ _).alloc (Nat.le_refl _) _)
  have X2 : Hid (w2.cell? ⟨w1.heap.size, 0, none⟩ = some (.slice a f.all.length c) /\ w2.cell? ⟨w1.heap.size, 1, none⟩ = some (.int .i64 f.kept) /\ w2.frozen? ⟨w1.heap.size, 0, none⟩ = false /\ w2.frozen? ⟨w1.heap.size, 1, none⟩ = false /\ w1.heap.size < w2.heap.size) := hid (by subst hW; exact ⟨by go_cell, by go_cell, by simp, by simp, by simp⟩)
  have D2 : Hid (DiskIs w2 db mb tb D) := hid (H.out.below B2.out)
  have NB : Hid (¬ Own3 db mb tb w1.heap.size) := hid fun e => by have := HM3.out _ e; omega
  clear hW
  refine (dnamed_any to _ HTS.out).mono ?_
  rintro e w1' ⟨rfl, rfl⟩
  rw [HTB.out]
  go_wp2_with fail
  refine (dstep_any db mb tb D _ D2.out HW.out).mono ?_
  rintro e w3 ⟨rfl, hd3, k3⟩
  rw [HE.out]
  have D3 := hid hd3
  have K3 := hid k3
  clear hd3 k3
  have X3 : Hid (w3.cell? ⟨w1.heap.size, 0, none⟩ = some (.slice a f.all.length c) /\ w3.cell? ⟨w1.heap.size, 1, none⟩ = some (.int .i64 f.kept) /\ w3.frozen? ⟨w1.heap.size, 0, none⟩ = false /\ w3.frozen? ⟨w1.heap.size, 1, none⟩ = false /\ w1.heap.size < w3.heap.size) := hid ⟨K3.out.cell X2.out.1 NB.out, K3.out.cell X2.out.2.1 NB.out, (K3.out.frozen (a := ⟨w1.heap.size, 0, none⟩) X2.out.2.2.2.2 NB.out).trans X2.out.2.2.1, (K3.out.frozen (a := ⟨w1.heap.size, 1, none⟩) X2.out.2.2.2.2 NB.out).trans X2.out.2.2.2.1, Nat.lt_of_lt_of_le X2.out.2.2.2.2 K3.out.size⟩
  obtain ⟨x0, x1, y0, y1, L3⟩ := X3.out
  obtain ⟨vals, hmap, hfs⟩ := D3.out.fs
  rw [stepD_files] at hmap hfs
  have MR := hid hmap
  have FS := hid hfs
  have c03 := D3.out.c0
  clear hmap hfs
  go_wp2_with (at_delete; refine wpList_delete_own _ rfl _ _ 47 9 rfl 134 law Tryz.underlying47 contR mb _ _ rfl MR.out _ _ rfl HN.out ?_; intro w4 hown4 hturn4; have O4 := hid hown4; have T4 : Hid (w3.mapTurned w4 mb) := hid hturn4; clear hown4 hturn4 c03 x0 x1 y0 y1)
  have e6 : (stepD D).files = D.files := stepD_files D
  have D4 : Hid (DiskIs w4 db mb tb { stepD D with files := delFile n D.files }) := hid (by
    have hp := DiskIs.del D3.out (by rw [e6]; exact FS.out) (by rw [e6]; exact O4.out) T4.out
    rw [e6] at hp
    exact hp)
  have K4 : Hid (Kept w3 w4 (fun k => k = mb)) := hid (Kept.of_turned T4.out)
  have NM : Hid (¬ w1.heap.size = mb) := hid fun e => NB.out (.inr (.inl e))
  have XR : Hid (w4.cell? ⟨db, 0, none⟩ = some (.map (some mb)) /\ w4.cell? ⟨w1.heap.size, 0, none⟩ = some (.slice a f.all.length c) /\ w4.cell? ⟨w1.heap.size, 1, none⟩ = some (.int .i64 f.kept)) := Lib.hid
    ⟨D4.out.c0, K4.out.cell X3.out.1 NM.out, K4.out.cell X3.out.2.1 NM.out⟩
  have FI4 : Hid (FileIs w4 db mb tb (.agg #[.slice a f.all.length c, .int .i64 f.kept]) { f with name := to }) := hid (((HFI.out.below B12.out).kept K3.out).kept (Kept.turned3 T4.out))
  have MR4 : Hid (MapIs w4 mb vals (delFile n D.files)) := hid (ownsMap_len (by have h := O4.out; rw [dat_del] at h; exact h))
  have FS4 : Hid (∀ g ∈ delFile n D.files, FileIs w4 db mb tb (vals g.name) g) := hid fun g hg => (FS.out g (mem_del.1 hg).1).kept (Kept.turned3 T4.out)
  have many2 : (delFile n D.files).length <= 1000 := Nat.le_trans (List.length_filter_le _ _) many
  clear e6
  refine region_start [0, 1, 3, 7, 0, 0, 63] 0 (fun w' => w'.cell? ⟨db, 0, none⟩ = some (.map (some mb)) /\ w'.cell? ⟨w1.heap.size, 0, none⟩ = some (.slice a f.all.length c) /\ w'.cell? ⟨w1.heap.size, 1, none⟩ = some (.int .i64 f.kept)) (by kernel_rfl) ?_
  refine stage_heads [0, 1, 2, 3, 4, 5] (by kernel_rfl) (L := #[true, true, true, true, true, true, false]) (by kernel_rfl) (f' := 1) rfl (fun _ _ _ _ h => h) (fun w o h => (((Stable.cell _ _).and ((Stable.cell _ _).and (Stable.cell _ _))).alloc h o)) (.inr XR.out) ?_
  simp only [sF, sL]
  iterate 6 (first | (refine heads_load _ (by rfl) (fun w' hs => by obtain ⟨y0, y1, y2⟩ := hs; go_simp; try with_reducible rfl) rfl ?_; simp only [Act.put, sA]) | (refine heads_pure _ (by rfl) (fun w' => by go_simp; try with_reducible rfl) ?_; simp only [Act.put, sA]))
  refine heads_nil ?_
  refine stage_op 6 (by kernel_rfl) (L := #[true, true, true, true, true, true, true]) (by kernel_rfl) ?_
  simp only [sL]
  refine wpList_mapUpdate_in _ rfl _ _ _ 47 rfl 9 134 law Tryz.underlying47 contR mb _ _ rfl (by first | exact MR4.out | exact World.ownsMap.drew MR4.out) (by unfold maxLen; omega) _ _ _ rfl rfl HTN.out (.held (.agg #[.slice a f.all.length c, .int .i64 f.kept])) [] (contR_mk _ _ _ _) ?_; intro w5 hown5 hturn5; have O5 := hid hown5; have T5 : Hid (w4.drew.mapTurned w5 mb) := hid hturn5; clear hown5 hturn5; go_wp2_with fail
  refine step_post nofun ?_
  refine stage_done (by kernel_rfl) ?_
  go_wp2_with fail
  go_ret
  refine ⟨rfl, ?_, (((Kept.below3 B2.out).trans K3.out).trans (Kept.turned3 T4.out)).trans ((Kept.drew w4 _).trans (Kept.turned3 T5.out))⟩
  have DR : Below w4.heap.size w4 w4.drew := (Below.refl _ _).drew
  exact DiskIs.put (f := { f with name := to }) (v := .agg #[.slice a f.all.length c, .int .i64 f.kept]) (D4.out.below DR) (fun g hg => (FS4.out g hg).below DR) O5.out T5.out (FI4.out.below DR)
end Go.Proofs.YtjdglpcnkiioeaaGreat
