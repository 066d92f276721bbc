/- Several texts in one: Sre, Rin. What each proves stands ahead of it; together they serve splays_law_holds. No conditions but those stated. -/
import Derived.Test.YtofhccpagnkalaaGreatSpb28
import Derived.Test.YtofhccpagnkalaaGreatSpb26
import Derived.Test.YtofhccpagnkalaaGreatSpb27
/- The law SnapshotPlays: its pair of a store and the document's, and reopen; contract; no conditions but the ranges. -/
namespace Go.Proofs.YtofhccpagnkalaaGreat
open Go.RowKit Go.Maps Go.Proofs.Own

/-- Block b is the law's pair: the program's disk db, its store p, the document's disk D (its files' slice sl) and snapshot i t mv dv. -/
structure BS (w : World) (b db : Nat) (p : Option Addr) (D : DiskS) (sl : Value) (i t : Int) (mv dv : Value) : Prop where
  c0 : w.cell? ⟨b, 0, none⟩ = some (.pointer (some ⟨db, 0, none⟩))
  c1 : w.cell? ⟨b, 1, none⟩ = some (.pointer p)
  c2 : w.cell? ⟨b, 2, none⟩ = some (.int .i64 D.room)
  c3 : w.cell? ⟨b, 3, none⟩ = some sl
  c4 : w.cell? ⟨b, 4, none⟩ = some (.bool D.down)
  c5 : w.cell? ⟨b, 5, none⟩ = some (.int .i64 D.armed)
  c6 : w.cell? ⟨b, 6, none⟩ = some (.int .u64 D.steps)
  c7 : w.cell? ⟨b, 7, none⟩ = some (.int .u64 i)
  c8 : w.cell? ⟨b, 8, none⟩ = some (.int .u64 t)
  c9 : w.cell? ⟨b, 9, none⟩ = some mv
  cx : w.cell? ⟨b, 10, none⟩ = some dv
  fz : ∀ i, 1 ≤ i → i ≤ 10 → w.frozen? ⟨b, i, none⟩ = false
theorem BS.lt {w : World} {b db : Nat} {p : Option Addr} {D : DiskS} {sl : Value} {i t : Int} {mv dv : Value} (h : BS w b db p D sl i t mv dv) : b < w.heap.size := World.block_lt_of_cell? _ _ h.c0
theorem BS.kept {w' : World} {S : Nat → Prop} {w : World} {b db : Nat} {p : Option Addr} {D : DiskS} {sl : Value} {i t : Int} {mv dv : Value} (h : BS w b db p D sl i t mv dv) (hk : Kept w w' S) (hs : ¬ S b) : BS w' b db p D sl i t mv dv :=
  have l := h.lt
  ⟨hk.cell h.c0 hs, hk.cell h.c1 hs, hk.cell h.c2 hs, hk.cell h.c3 hs, hk.cell h.c4 hs, hk.cell h.c5 hs, hk.cell h.c6 hs, hk.cell h.c7 hs, hk.cell h.c8 hs, hk.cell h.c9 hs, hk.cell h.cx hs, fun i h1 h2 => (hk.frozen (a := ⟨b, i, none⟩) l hs).trans (h.fz i h1 h2)⟩
theorem BS.below {w' : World} {w : World} {b db : Nat} {p : Option Addr} {D : DiskS} {sl : Value} {i t : Int} {mv dv : Value} (h : BS w b db p D sl i t mv dv) (hb : Below w.heap.size w w') : BS w' b db p D sl i t mv dv := h.kept (Kept.of_below hb (S := fun _ => False) fun k h1 h2 => by omega) (fun h => h)
theorem BS.box (w : World) (db : Nat) (D : DiskS) (sl : Value) : BS (w.alloc (.cells #[.pointer (some ⟨db, 0, none⟩), .pointer none, .int .i64 D.room, sl, .bool D.down, .int .i64 D.armed, .int .u64 D.steps, .int .u64 0, .int .u64 0, .slice none 0 0, .slice none 0 0] 74)) w.heap.size db none D sl 0 0 (.slice none 0 0) (.slice none 0 0) :=
  ⟨by go_cell, by go_cell, by go_cell, by go_cell, by go_cell, by go_cell, by go_cell, by go_cell, by go_cell, by go_cell, by go_cell, fun i h1 h2 => by
    match i, h1, h2 with
    | 1, _, _ => simp
    | 2, _, _ => simp
    | 3, _, _ => simp
    | 4, _, _ => simp
    | 5, _, _ => simp
    | 6, _, _ => simp
    | 7, _, _ => simp
    | 8, _, _ => simp
    | 9, _, _ => simp
    | 10, _, _ => simp⟩
theorem BS.setD {w : World} {b db : Nat} {p : Option Addr} {D : DiskS} {sl : Value} {i t : Int} {mv dv : Value} (h : BS w b db p D sl i t mv dv) (E : DiskS) (sl' : Value) : BS (setBO w b E sl') b db p E sl' i t mv dv := by
  obtain ⟨c0, c1, c2, c3, c4, c5, c6, c7, c8, c9, cx, fz⟩ := h
  have f2 := fz 2 (by omega) (by omega)
  have f3 := fz 3 (by omega) (by omega)
  have f4 := fz 4 (by omega) (by omega)
  have f5 := fz 5 (by omega) (by omega)
  have f6 := fz 6 (by omega) (by omega)
  unfold setBO
  refine ⟨?_, ?_, ?_, ?_, ?_, ?_, ?_, ?_, ?_, ?_, ?_, fun i h1 h2 => by simp [fz i h1 h2]⟩
  all_goals go_cell
/-- The store is stored into it. -/
theorem BS.setP {w : World} {b db : Nat} {p : Option Addr} {D : DiskS} {sl : Value} {i t : Int} {mv dv : Value} (h : BS w b db p D sl i t mv dv) (p' : Option Addr) : BS (w.setCell ⟨b, 1, none⟩ (.pointer p')) b db p' D sl i t mv dv := by
  obtain ⟨c0, c1, c2, c3, c4, c5, c6, c7, c8, c9, cx, fz⟩ := h
  have f1 := fz 1 (by omega) (by omega)
  refine ⟨?_, ?_, ?_, ?_, ?_, ?_, ?_, ?_, ?_, ?_, ?_, fun i h1 h2 => by simp [fz i h1 h2]⟩
  all_goals go_cell
/-- The snapshot is stored into it. -/
def setV (w : World) (b : Nat) (i t : Int) (mv dv : Value) : World := (((w.setCell ⟨b, 7, none⟩ (.int .u64 i)).setCell ⟨b, 8, none⟩ (.int .u64 t)).setCell ⟨b, 9, none⟩ mv).setCell ⟨b, 10, none⟩ dv
theorem Kept.setV (w : World) (b : Nat) (i t : Int) (mv dv : Value) : Kept w (setV w b i t mv dv) (fun k => k = b) :=
  (((Kept.setCell w ⟨b, 7, none⟩ _).trans (Kept.setCell _ ⟨b, 8, none⟩ _)).trans (Kept.setCell _ ⟨b, 9, none⟩ _)).trans (Kept.setCell _ ⟨b, 10, none⟩ _)
theorem BS.setS {w : World} {b db : Nat} {p : Option Addr} {D : DiskS} {sl : Value} {i t : Int} {mv dv : Value} (h : BS w b db p D sl i t mv dv) (i' t' : Int) (m' d' : Value) : BS (setV w b i' t' m' d') b db p D sl i' t' m' d' := by
  obtain ⟨c0, c1, c2, c3, c4, c5, c6, c7, c8, c9, cx, fz⟩ := h
  have f7 := fz 7 (by omega) (by omega)
  have f8 := fz 8 (by omega) (by omega)
  have f9 := fz 9 (by omega) (by omega)
  have fx := fz 10 (by omega) (by omega)
  unfold setV
  refine ⟨?_, ?_, ?_, ?_, ?_, ?_, ?_, ?_, ?_, ?_, ?_, fun i h1 h2 => by simp [fz i h1 h2]⟩
  all_goals go_cell
theorem BS.bo {w : World} {b db : Nat} {p : Option Addr} {D : DiskS} {sl : Value} {i t : Int} {mv dv : Value} (h : BS w b db p D sl i t mv dv) : BO w b db D sl :=
  ⟨h.c0, ⟨p, h.c1⟩, h.c2, h.c3, h.c4, h.c5, h.c6, h.fz 2 (by omega) (by omega), h.fz 3 (by omega) (by omega), h.fz 4 (by omega) (by omega), h.fz 5 (by omega) (by omega), h.fz 6 (by omega) (by omega)⟩
theorem DiskIs.setPS {w : World} {bo db db' mb tb : Nat} {p : Option Addr} {D E : DiskS} {sl : Value} {i t : Int} {mv dv : Value} (h : DiskIs w db mb tb D) (k : BS w bo db' p E sl i t mv dv) (hn : ¬ Own3 db mb tb bo) (y : Value) : DiskIs (w.setCell ⟨bo, 1, none⟩ y) db mb tb D :=
  h.setOther (p := ⟨bo, 1, none⟩) _ hn (fun x e => by rw [k.c1] at e; cases e)
theorem DiskIs.setVS {w : World} {bo db db' mb tb : Nat} {p : Option Addr} {D E : DiskS} {sl : Value} {i t : Int} {am ad : Option Addr} {nm cm nd cd : Nat} (h : DiskIs w db mb tb D) (k : BS w bo db' p E sl i t (.slice am nm cm) (.slice ad nd cd)) (hn : ¬ Own3 db mb tb bo) (i' t' : Int) (m' d' : Value) : DiskIs (setV w bo i' t' m' d') db mb tb D := by
  unfold setV
  refine (((h.setOther _ hn (fun x => ?_)).setOther _ hn (fun x => ?_)).setOther _ hn (fun x => ?_)).setOther _ hn (fun x => ?_)
  · intro e; rw [k.c7] at e; cases e
  · intro e; rw [World.cell?_setCell_other _ _ _ _ (by simp), k.c8] at e; cases e
  · intro e; rw [World.cell?_setCell_other _ _ _ _ (by simp), World.cell?_setCell_other _ _ _ _ (by simp), k.c9] at e; cases e
  · intro e; rw [World.cell?_setCell_other _ _ _ _ (by simp), World.cell?_setCell_other _ _ _ _ (by simp), World.cell?_setCell_other _ _ _ _ (by simp), k.cx] at e; cases e
theorem SnapIs.keptIf {w w' : World} {s : SnapS} {i t : Int} {m d : Value} {S : Nat → Prop} (h : SnapIs w (.agg #[.int .u64 i, .int .u64 t, m, d]) s) (hk : Kept w w' S) (hm : s.ms ≠ [] → ∀ b, m.ownBlock = some b → ¬ S b) (hd : s.d ≠ [] → ∀ b, d.ownBlock = some b → ¬ S b) : SnapIs w' (.agg #[.int .u64 i, .int .u64 t, m, d]) s := by
  obtain ⟨m', d', e, h1, h2⟩ := h
  simp only [Value.agg.injEq, Array.mk.injEq, List.cons.injEq, and_true] at e
  obtain ⟨e1, e2, rfl, rfl⟩ := e
  refine ⟨m, d, by rw [e1, e2], ?_, h2.keptIf hk hd⟩
  by_cases hl : s.ms = []
  · rw [hl] at h1 ⊢
    exact ⟨h1.shape, by obtain ⟨a, c, rfl, _⟩ := h1.shape; exact Reads.nil _ _ _ _, h1.small⟩
  · exact h1.kept hk (hm hl)
/-- Block b is none of the pair's. -/
def FarP (bo db mb tb : Nat) (p : Option Addr) (b : Nat) : Prop := ¬ Own3 db mb tb b ∧ b ≠ bo ∧ ∀ q, p = some q → q.block ≠ b
/-- The pair's disk and snapshot, as they stand between two calls. -/
structure PairS (w : World) (bo db mb tb : Nat) (p : Option Addr) (D : DiskS) (S : SnapS) : Prop where
  disk : DiskIs w db mb tb D
  good : DGood D
  sl : ∃ a n c am nm cm ad nd cd, D.files.length = n ∧ BS w bo db p D (.slice a n c) S.i S.t (.slice am nm cm) (.slice ad nd cd) ∧ SRow w 3 (.slice a n c) (D.files.map rfV) ∧ SnapIs w (.agg #[.int .u64 S.i, .int .u64 S.t, .slice am nm cm, .slice ad nd cd]) S ∧ (∀ b, (Value.slice a n c).ownBlock = some b → FarP bo db mb tb p b) ∧ (S.ms ≠ [] → ∀ b, (Value.slice am nm cm).ownBlock = some b → FarP bo db mb tb p b) ∧ (S.d ≠ [] → ∀ b, (Value.slice ad nd cd).ownBlock = some b → FarP bo db mb tb p b)
  no : ¬ Own3 db mb tb bo
  file : SFile D S
theorem PairS.below {w w' : World} {bo db mb tb : Nat} {p : Option Addr} {D : DiskS} {S : SnapS} (h : PairS w bo db mb tb p D S) (hb : Below w.heap.size w w') : PairS w' bo db mb tb p D S :=
  let ⟨a, n, c, am, nm, cm, ad, nd, cd, h1, h2, h3, h4, h5, h6, h7⟩ := h.sl
  ⟨h.disk.below hb, h.good, ⟨a, n, c, am, nm, cm, ad, nd, cd, h1, h2.below hb, h3.below hb, h4.below hb, h5, h6, h7⟩, h.no, h.file⟩
/-- Crash, boot and Open: what the disk is then. -/
def reG (D : DiskS) (ts : List (Nat × Nat)) : DiskS := (goneD (bootD (crashD D ts))).1
theorem reG_good {D : DiskS} (h : DGood D) (ts : List (Nat × Nat)) (hs : D.steps + 1 ≤ 1000000000) : DGood (reG D ts) ∧ (reG D ts).steps ≤ D.steps + 1 := goneD_good (h.crash ts).boot hs
theorem calm_boot27 (D : DiskS) : Calm (bootD D) := ⟨rfl, rfl⟩
set_option maxHeartbeats 1000000 in
theorem rboot_old27 (v : Value) (D : DiskS) (w : World) (h : RIs w v D) : Calls Tryz.prog 59 #[v] w fun e w' => ∃ v', e = .returned v' ∧ RIs w' v' (bootD D) ∧ Below w.heap.size w w' ∧ ∀ g, fsOwn v' = some g → fsOwn v = some g := by
  obtain ⟨a, c, rfl, hr⟩ := h
  obtain ⟨room, L, down, armed, steps⟩ := D
  simp only at hr ⊢
  have HR := Lib.hid hr
  clear hr
  go_enter Tryz.func59, Tryz.ntmps59
  go_wp2_with fail
  refine bodyPost_ret (v := .agg #[.int .i64 room, .slice a L.length c, .bool false, .int .i64 (-1), .int .u64 steps]) (by simp [results, Tryz.results59, go_sem]) rfl ?_
  exact ⟨_, rfl, ⟨a, c, rfl, HR.out.below (((Below.refl _ _).alloc (Nat.le_refl _) _).alloc (by simp) _)⟩, ((Below.refl _ _).alloc (Nat.le_refl _) _).alloc (by simp) _, fun g hg => hg⟩

set_option maxHeartbeats 2000000 in
set_option maxRecDepth 20000 in
theorem sreopen_any (bo db mb tb : Nat) (p : Option Addr) (D : DiskS) (S : SnapS) (tv : Value) (ts : List (Nat × Nat)) (w : World) (h : PairS w bo db mb tb p D S) (hT : TearsIs w tv ts) (htm : ts.length ≤ 1000) (hta : ts = [] ∨ ∀ b, tv.ownBlock = some b → ¬ Own3 db mb tb b) (hst : D.steps + 1 ≤ 1000000000) :
    Calls Tryz.prog 27 #[.pointer (some ⟨bo, 0, none⟩), tv] w fun e w' => e = .returned (.bool true) ∧ ∃ sb, PairS w' bo db mb tb (some ⟨sb, 0, none⟩) (reG D ts) S ∧ StoreL w' sb db mb tb S ∧ w.heap.size ≤ sb ∧ bo < sb ∧ ¬ Own3 db mb tb sb ∧ Kept w w' (fun k => Own3 db mb tb k ∨ k = bo) := by
  obtain ⟨hd, hg, ⟨a, n, c, am0, nm0, cm0, ad0, nd0, cd0, hn, hb, hs, _, hap, _, _⟩, hno, hfile⟩ := h
  have HRI : Hid (Rising D.files) := Lib.hid (by obtain ⟨_, h, _⟩ := hd.fs; exact h.rising)
  have HFI := Lib.hid hfile
  clear hfile
  have HD0 := Lib.hid hd
  have HG := Lib.hid hg
  have HN := Lib.hid hn
  have HB0 := Lib.hid hb
  have HS0 := Lib.hid hs
  have AP := Lib.hid hap
  have NO := Lib.hid hno
  have HTM := Lib.hid htm
  have HST := Lib.hid hst
  have B8 : Hid (Byt8 D.files) := Lib.hid (fun f hf => (hd.byt f hf).1)
  have HVD : Hid (reG D ts = (goneD (bootD (crashD D ts))).1 ∧ SFile (bootD (crashD D ts)) S) := Lib.hid ⟨rfl, (HFI.out.crash HRI.out ts).find rfl⟩
  obtain ⟨ta, tc, rfl, _⟩ := hT.1.shape
  rw [List.length_map] at hT hta ⊢
  have HT0 := Lib.hid hT
  obtain ⟨tn, htn⟩ : ∃ k, ts.length = k := ⟨_, rfl⟩
  have HTN := Lib.hid htn
  rw [htn] at HT0 hta ⊢
  have HTA := Lib.hid hta
  clear hd hg hn hb hs hap hno hT htm hta hst htn
  go_enter Tryz.func27, Tryz.ntmps27
  have q0 := HB0.out.c0
  go_wp2_with fail
  refine (dcrash_any db mb tb D _ ts w HD0.out HG.out HT0.out (by rcases HTA.out with h | h; exact .inl h; exact .inr (fun b hb => h b hb))).mono ?_
  rintro e w1 ⟨rfl, hd1, hk1⟩
  have HT1 : Hid (TearsIs w1 (.slice ta tn tc) ts) := Lib.hid ⟨HT0.out.1.kept hk1 (by rcases HTA.out with h | h; exact .inl (by rw [h]; rfl); exact .inr (fun b hb => h b hb)), HT0.out.2⟩
  have HD1 := Lib.hid hd1
  have HB1 := Lib.hid (HB0.out.kept hk1 NO.out)
  have HS1 : Hid (SRow w1 3 (.slice a n c) (D.files.map rfV)) := Lib.hid (HS0.out.kept hk1 (.inr fun b hb h => (AP.out b hb).1 h))
  have K1 : Hid (Kept w w1 (fun k => Own3 db mb tb k ∨ k = bo)) := Lib.hid (hk1.mono fun _ _ h => .inl h)
  clear hd1 hk1 q0
  simp only at HD1
  have HGC := Lib.hid (HG.out.crash ts)
  obtain ⟨E1, hE1⟩ : ∃ E, crashD D ts = E := ⟨_, rfl⟩
  have HE1 := Lib.hid hE1
  rw [hE1] at HD1 HGC HVD
  clear hE1
  have q0 := HB1.out.c0
  go_wp2_with fail
  refine (dboot_any db mb tb E1 w1 HD1.out).mono ?_
  rintro e w2 ⟨rfl, hd2, hk2⟩
  have HT2 : Hid (TearsIs w2 (.slice ta tn tc) ts) := Lib.hid ⟨HT1.out.1.kept hk2 (by rcases HTA.out with h | h; exact .inl (by rw [h]; rfl); exact .inr (fun b hb => h b hb)), HT1.out.2⟩
  have HD2 := Lib.hid hd2
  have HB2 := Lib.hid (HB1.out.kept hk2 NO.out)
  have HS2 : Hid (SRow w2 3 (.slice a n c) (D.files.map rfV)) := Lib.hid (HS1.out.kept hk2 (.inr fun b hb h => (AP.out b hb).1 h))
  have K2 : Hid (Kept w w2 (fun k => Own3 db mb tb k ∨ k = bo)) := Lib.hid (K1.out.trans (hk2.mono fun _ _ h => .inl h))
  clear hd2 hk2 q0
  simp only at HD2
  have G2 := Lib.hid HGC.out.boot
  have CA := Lib.hid (calm_boot27 E1)
  have ST2 : Hid ((bootD E1).steps + 1 ≤ 1000000000) := Lib.hid (by rw [← HE1.out]; exact HST.out)
  obtain ⟨E2, hE2⟩ : ∃ E, bootD E1 = E := ⟨_, rfl⟩
  have HE2 := Lib.hid hE2
  rw [hE2] at HD2 G2 CA ST2 HVD
  have B82 : Hid (Byt8 E2.files) := Lib.hid (fun f hf => (HD2.out.byt f hf).1)
  clear hE2 HD0 HB0 HS0 HT0 HD1 HB1 HS1 HT1 K1
  have ST := Stable.from w2
  go_wp2_with fail
  refine region_start [0, 0, 2, 6, 14, 0, 32, 126, 254, 511, 1023, 2047] 64 (fun w' => Below w2.heap.size w2 w') (by kernel_rfl) ?_
  refine stage_heads [0, 1, 2, 3, 4, 5] (by kernel_rfl) (L := #[true, true, true, true, true, true, false, false, false, false, false, false]) (by kernel_rfl) (f' := 6) rfl (fun _ _ _ _ h => h) (fun w o h => ST.alloc h o) (.inr (by first | exact (Below.refl _ _).drew | exact Below.refl _ _)) ?_
  simp only [List.flatMap_cons, List.flatMap_nil, List.drop_succ_cons, List.drop_zero, List.take_succ_cons, List.take_zero, List.cons_append, List.nil_append, List.append_nil]
  iterate 6 (first | (refine heads_load _ (by rfl) (fun w' hs => by obtain ⟨q0, q1, q2, q3, q4, q5, q6, _⟩ := HB2.out.below hs; go_simp; try with_reducible rfl) rfl ?_; simp only [Act.put, List.setIfInBounds_toArray, List.set_cons_zero, List.set_cons_succ]) | (refine heads_pure _ (by rfl) (fun w' => by go_simp; try with_reducible rfl) ?_; simp only [Act.put, List.setIfInBounds_toArray, List.set_cons_zero, List.set_cons_succ]))
  refine heads_nil ?_
  refine stage_op 6 (by kernel_rfl) (L := #[true, true, true, true, true, true, true, false, false, false, false, false]) (by kernel_rfl) ?_
  simp only [List.drop_succ_cons, List.drop_zero, List.take_succ_cons, List.take_zero]
  go_wp2_with fail; refine (ltears_any _ ts _ (by first | exact HT2.out | exact HT2.out.below ((Below.refl _ _).drew)) HTM.out).mono ?_; rintro e w6 ⟨v6, rfl, hT6, hb6⟩; have I6 : Hid (Below w2.heap.size w2 w6) := Lib.hid (by first | exact hb6 | exact ((Below.refl _ _).drew).trans hb6); obtain ⟨ta6, tc6, rfl, _⟩ := hT6.1.shape; rw [List.length_map, HTN.out] at hT6 ⊢; have HT6 := Lib.hid hT6; clear hT6 hb6; go_wp2_with fail
  refine step_post (fun _ => I6.out) ?_
  refine stage_op 7 (by kernel_rfl) (L := #[true, true, true, true, true, true, true, true, false, false, false, false]) (by kernel_rfl) ?_
  simp only [List.drop_succ_cons, List.drop_zero, List.take_succ_cons, List.take_zero]
  go_wp2_with fail; refine (rcrash_any _ _ D ts _ (RIs.new HN.out (HS2.out.below I6.out)) HG.out B8.out HT6.out HTM.out).mono ?_; rintro e w7 ⟨v7, rfl, hr7, hb7, hf7⟩; rw [HE1.out] at hr7; have I7 : Hid (Below w2.heap.size w2 w7) := Lib.hid (I6.out.trans (hb7.mono I6.out.size)); have HF7 : Hid (∀ g, fsOwn v7 = some g → w2.heap.size ≤ g ∧ g < w7.heap.size) := Lib.hid (fun g hg => ⟨Nat.le_trans I6.out.size (hf7 g hg).1, (hf7 g hg).2⟩); have HR7 := Lib.hid hr7; obtain ⟨a7, c7, rfl, _⟩ := hr7; clear hb7 hf7; go_wp2_with fail
  refine step_post nofun ?_
  refine stage_op 8 (by kernel_rfl) (L := #[true, true, true, true, true, true, true, true, true, false, false, false]) (by kernel_rfl) ?_
  simp only [List.drop_succ_cons, List.drop_zero, List.take_succ_cons, List.take_zero]
  go_wp2_with fail; refine (rboot_old27 _ E1 w7 HR7.out).mono ?_; rintro e w8 ⟨v8, rfl, hr8, hb8, hf8⟩; have I8 : Hid (Below w2.heap.size w2 w8) := Lib.hid (I7.out.trans (hb8.mono I7.out.size)); rw [HE2.out] at hr8; obtain ⟨a8, c8, rfl, hs8⟩ := hr8; obtain ⟨n8, hn8⟩ : ∃ k, E2.files.length = k := ⟨_, rfl⟩; have HN8 := Lib.hid hn8; rw [hn8] at hs8 hf8 ⊢; have FO8 : Hid (∀ g, (Value.slice a8 n8 c8).ownBlock = some g → w2.heap.size ≤ g ∧ g < w8.heap.size) := Lib.hid (fun g hg => ⟨(HF7.out g (hf8 g hg)).1, Nat.lt_of_lt_of_le (HF7.out g (hf8 g hg)).2 hb8.size⟩); have S8 := Lib.hid hs8; clear hs8 hf8 hn8 hb8; go_wp2_with fail
  refine step_post nofun ?_
  refine stage_heads [9, 10] (by kernel_rfl) (L := #[true, true, true, true, true, true, true, true, true, true, true, false]) (by kernel_rfl) (f' := 1) rfl (fun _ _ _ _ h => h) (fun w o h => ST.alloc h o) (.inl (by kernel_rfl)) ?_
  simp only [List.flatMap_cons, List.flatMap_nil, List.drop_succ_cons, List.drop_zero, List.take_succ_cons, List.take_zero, List.cons_append, List.nil_append, List.append_nil]
  iterate 2 (refine heads_pure _ (by rfl) (fun w' => by go_simp; try with_reducible rfl) ?_; simp only [Act.put, List.setIfInBounds_toArray, List.set_cons_zero, List.set_cons_succ])
  refine heads_nil ?_
  refine stage_op 11 (by kernel_rfl) (L := #[true, true, true, true, true, true, true, true, true, true, true, true]) (by kernel_rfl) ?_
  simp only [List.drop_succ_cons, List.drop_zero, List.take_succ_cons, List.take_zero]
  have HB8 := Lib.hid (HB2.out.below I8.out); obtain ⟨q0, q1, q2, q3, q4, q5, q6, _, _, _, _, fz⟩ := HB8.out; have g2 := fz 2 (by omega) (by omega); have g3 := fz 3 (by omega) (by omega); have g4 := fz 4 (by omega) (by omega); have g5 := fz 5 (by omega) (by omega); have g6 := fz 6 (by omega) (by omega); go_wp2_with fail
  refine step_post nofun ?_
  refine stage_done (by kernel_rfl) ?_
  clear q0 q1 q2 q3 q4 q5 q6 g2 g3 g4 g5 g6 fz
  have HB3a := HB8.out.setD E2 (.slice a8 n8 c8)
  have HD3a := (HD2.out.below I8.out).setPair HB8.out.bo NO.out E2 (.slice a8 n8 c8)
  have HS3a := S8.out.setPair HB8.out.bo E2 (.slice a8 n8 c8)
  have K3a : Kept w (setBO w8 bo E2 (.slice a8 n8 c8)) (fun k => Own3 db mb tb k ∨ k = bo) := (K2.out.trans (Kept.of_below I8.out (fun k h1 h2 => by omega))).trans ((Kept.setBO w8 bo E2 (.slice a8 n8 c8)).mono fun _ _ h => .inr h)
  have Z3a : w8.heap.size ≤ (setBO w8 bo E2 (.slice a8 n8 c8)).heap.size := (Kept.setBO w8 bo E2 (.slice a8 n8 c8)).size
  unfold setBO at HB3a HD3a HS3a K3a Z3a
  generalize World.setCell _ _ _ = w3 at *
  have HB3 := Lib.hid HB3a
  have HD3 := Lib.hid HD3a
  have HS3 := Lib.hid HS3a
  have K3 := Lib.hid K3a
  have Z3 := Lib.hid Z3a
  clear HB3a HD3a HS3a K3a Z3a ST
  have AP3 : Hid (∀ b, (Value.slice a8 n8 c8).ownBlock = some b → ¬ Own3 db mb tb b ∧ b ≠ bo ∧ b < w3.heap.size) := Lib.hid (fun b hb => by
    have h1 := FO8.out b hb
    have h2 := HB2.out.lt
    have h3 := Z3.out
    exact ⟨fun h => by have := HD2.out.lt3 b h; omega, by omega, by omega⟩)
  clear HB8 S8 HD2 HB2 HS2 HT2 K2 FO8 HF7 HR7
  have q0 := HB3.out.c0
  go_wp2_with fail
  refine (sopen_anyL db mb tb E2 w3 HD3.out G2.out).mono ?_
  have HSL := sopen_law CA.out HVD.out.2
  rintro e w4 ⟨-, hok, hd4, hk4⟩
  obtain ⟨sb, rfl, hbk, hbb⟩ := hok HSL.1
  rw [HSL.2.1] at hbk
  have HOE : Hid (openS27 E2 = S ∧ sopenE E2 = 0) := Lib.hid ⟨by unfold openS27; rw [HSL.1, if_pos rfl, HSL.2.1], HSL.1⟩
  have HSF := Lib.hid HSL.2.2.2
  have HK4 := Lib.hid hbk
  have HD4 := Lib.hid hd4
  have HB4 := Lib.hid (HB3.out.kept hk4 NO.out)
  have HS4 : Hid (SRow w4 3 (.slice a8 n8 c8) (E2.files.map rfV)) := Lib.hid (HS3.out.kept hk4 (.inr fun b hb h => (AP3.out b hb).1 h))
  have K4 : Hid (Kept w w4 (fun k => Own3 db mb tb k ∨ k = bo)) := Lib.hid (K3.out.trans (hk4.mono fun _ _ h => .inl h))
  have NB : Hid (¬ Own3 db mb tb sb ∧ bo < sb ∧ w3.heap.size ≤ sb ∧ sb < w4.heap.size ∧ w.heap.size ≤ sb) := Lib.hid ⟨fun h => by have := HD3.out.lt3 sb h; omega, by have := HB3.out.lt; omega, hbb, hbk.lt, Nat.le_trans K3.out.size hbb⟩
  clear hok hbk hbb hd4 hk4 q0 HD3 HB3 HS3 K3 HSL
  obtain ⟨q0, q1, q2, q3, q4, q5, q6, _⟩ := HB4.out
  go_wp2_with fail
  refine (ropen27_any _ E2 _ (RIs.new HN8.out HS4.out) G2.out CA.out ST2.out B82.out).mono ?_
  rintro e w5 ⟨v5, i5, t5, mv5, dv5, rfl, hr5, hi5, hb5, hf5, hn5⟩
  rw [HOE.out.1] at hi5
  rw [HOE.out.2]
  obtain ⟨a5, c5, rfl, hs5⟩ := hr5
  obtain ⟨mv', dv', hee, hm5, hd5⟩ := hi5
  obtain ⟨_, _, _, _, he6, hn1, hn2⟩ := hn5
  simp only [Value.agg.injEq, Array.mk.injEq, List.cons.injEq, and_true] at he6
  obtain ⟨rfl, rfl, rfl, rfl⟩ := he6
  simp only [Value.agg.injEq, Array.mk.injEq, List.cons.injEq, and_true, Value.int.injEq, true_and] at hee
  obtain ⟨rfl, rfl, rfl, rfl⟩ := hee
  obtain ⟨am, cm, rfl, _⟩ := hm5.shape
  obtain ⟨ad, cd, rfl, _⟩ := hd5.shape
  obtain ⟨nm, hnm⟩ : ∃ k, S.ms.length = k := ⟨_, rfl⟩
  obtain ⟨nd, hnd⟩ : ∃ k, S.d.length = k := ⟨_, rfl⟩
  have HI5 : Hid (SnapIs w5 (.agg #[.int .u64 S.i, .int .u64 S.t, .slice am S.ms.length cm, .slice ad S.d.length cd]) S) := Lib.hid ⟨_, _, rfl, hm5, hd5⟩
  rw [hnm] at hn1 HI5 ⊢
  rw [hnd] at hn2 HI5 ⊢
  have hgo := goneD_good G2.out ST2.out
  have G5 := Lib.hid hgo.1
  generalize (goneD E2).1 = DP at *
  obtain ⟨n5, hn5⟩ : ∃ k, DP.files.length = k := ⟨_, rfl⟩
  have HN5 := Lib.hid hn5
  rw [hn5] at hs5 hf5 ⊢
  have FR : Hid (∀ b, w4.heap.size ≤ b → FarP bo db mb tb (some ⟨sb, 0, none⟩) b) := Lib.hid (fun b h => by
    have h2 := HB4.out.lt
    have h3 := NB.out
    exact ⟨fun h1 => by have := HD4.out.lt3 b h1; omega, by omega, fun q hq => by obtain rfl := Option.some.inj hq; simp only; omega⟩)
  have AP5 : Hid (∀ b, (Value.slice a5 n5 c5).ownBlock = some b → FarP bo db mb tb (some ⟨sb, 0, none⟩) b) := Lib.hid (fun b hb => by
    have h3 := NB.out
    rcases hf5 b hb with h | h
    · have h1 := AP3.out b h
      exact ⟨h1.1, h1.2.1, fun q hq => by obtain rfl := Option.some.inj hq; simp only; omega⟩
    · exact FR.out b h)
  have AM5 : Hid ((∀ b, (Value.slice am nm cm).ownBlock = some b → FarP bo db mb tb (some ⟨sb, 0, none⟩) b) ∧ (∀ b, (Value.slice ad nd cd).ownBlock = some b → FarP bo db mb tb (some ⟨sb, 0, none⟩) b)) := Lib.hid ⟨fun b hb => FR.out b (hn1 b hb), fun b hb => FR.out b (hn2 b hb)⟩
  have HD5 := Lib.hid (HD4.out.below hb5)
  have HB5 := Lib.hid (HB4.out.below hb5)
  have HK5 := Lib.hid (HK4.out.below hb5)
  have HS5 := Lib.hid hs5
  have K5 : Hid (Kept w w5 (fun k => Own3 db mb tb k ∨ k = bo)) := Lib.hid (K4.out.trans (Kept.of_below hb5 (fun k h1 h2 => by omega)))
  obtain ⟨si, hsi⟩ : ∃ x, S.i = x := ⟨_, rfl⟩
  obtain ⟨st, hstt⟩ : ∃ x, S.t = x := ⟨_, rfl⟩
  have HSI := Lib.hid (And.intro hsi hstt)
  rw [hsi, hstt] at HI5 ⊢
  clear hs5 hb5 hf5 hgo hn5 hm5 hd5 hn1 hn2 hnm hnd hsi hstt HD4 HB4 HS4 HK4 K4 q0 q1 q2 q3 q4 q5 q6
  go_wp2_with fail
  have hxq := (RD.box w5 DP (.slice a5 n5 c5)).below ((Below.refl _ _).alloc (Nat.le_refl _) (.cells #[.int .u64 si, .int .u64 st, .slice am nm cm, .slice ad nd cd] 40))
  have htq := SBlk.box (w5.alloc (.cells #[.int .i64 DP.room, .slice a5 n5 c5, .bool DP.down, .int .i64 DP.armed, .int .u64 DP.steps] 29)) si st (.slice am nm cm) (.slice ad nd cd)
  have hbq : Below w5.heap.size w5 ((w5.alloc (.cells #[.int .i64 DP.room, .slice a5 n5 c5, .bool DP.down, .int .i64 DP.armed, .int .u64 DP.steps] 29)).alloc (.cells #[.int .u64 si, .int .u64 st, .slice am nm cm, .slice ad nd cd] 40)) := ((Below.refl _ _).alloc (Nat.le_refl _) _).alloc (by simp) _
  rw [World.size_alloc] at htq
  generalize World.alloc (World.alloc w5 _) _ = wQ at *
  have XQ := Lib.hid hxq
  have TQ := Lib.hid htq
  have HDQ := Lib.hid (HD5.out.below hbq)
  have HBQ := Lib.hid (HB5.out.below hbq)
  have HKQ := Lib.hid (HK5.out.below hbq)
  have HSQ := Lib.hid (HS5.out.below hbq)
  have HIQ := Lib.hid (HI5.out.below hbq)
  have KQ : Hid (Kept w wQ (fun k => Own3 db mb tb k ∨ k = bo)) := Lib.hid (K5.out.trans (Kept.of_below hbq (fun k h1 h2 => by omega)))
  have LB : Hid (bo < w5.heap.size) := Lib.hid HB5.out.lt
  clear hxq htq hbq HD5 HB5 HK5 HS5 HI5 K5
  obtain ⟨q0, q1, q2, q3, q4, q5, q6, q7, q8, q9, qx, fz⟩ := HBQ.out
  have g1 := fz 1 (by omega) (by omega)
  have g2 := fz 2 (by omega) (by omega)
  have g3 := fz 3 (by omega) (by omega)
  have g4 := fz 4 (by omega) (by omega)
  have g5 := fz 5 (by omega) (by omega)
  have g6 := fz 6 (by omega) (by omega)
  have g7 := fz 7 (by omega) (by omega)
  have g8 := fz 8 (by omega) (by omega)
  have g9 := fz 9 (by omega) (by omega)
  have gx := fz 10 (by omega) (by omega)
  clear fz
  have J1 : Hid (RD (wQ.setCell ⟨bo, 1, none⟩ (.pointer (some ⟨sb, 0, none⟩))) w5.heap.size DP (.slice a5 n5 c5) ∧ SBlk (wQ.setCell ⟨bo, 1, none⟩ (.pointer (some ⟨sb, 0, none⟩))) (w5.heap.size + 1) si st (.slice am nm cm) (.slice ad nd cd)) := Lib.hid ⟨XQ.out.kept (Kept.setCell wQ ⟨bo, 1, none⟩ _) (by have := LB.out; simp only; omega), TQ.out.kept (Kept.setCell wQ ⟨bo, 1, none⟩ _) (by have := LB.out; simp only; omega)⟩
  have J3 := (And.intro (J1.out.1.kept (Kept.setBO _ bo DP (.slice a5 n5 c5)) (by have := LB.out; omega)) (J1.out.2.kept (Kept.setBO _ bo DP (.slice a5 n5 c5)) (by have := LB.out; omega)))
  unfold setBO at J3
  have J5 := Lib.hid J3
  have J2 := Lib.hid (And.intro (J1.out.1.below ((Below.refl _ _).drew)) (J1.out.2.below ((Below.refl _ _).drew)))
  have J6 := Lib.hid (And.intro (J5.out.1.below ((Below.refl _ _).drew)) (J5.out.2.below ((Below.refl _ _).drew)))
  clear J3
  refine region_start [0, 0, 0, 0, 0, 0, 9, 73, 201, 475, 987, 2011, 4095, 8191, 16383] 3840 (fun w' => RD w' w5.heap.size DP (.slice a5 n5 c5) ∧ SBlk w' (w5.heap.size + 1) si st (.slice am nm cm) (.slice ad nd cd)) (by kernel_rfl) ?_
  refine stage_heads [0, 1, 2, 3, 4, 5, 6, 7] (by kernel_rfl) (L := #[true, true, true, true, true, true, true, true, false, false, false, false, false, false, false]) (by kernel_rfl) (f' := 7) rfl (fun _ _ _ _ h => h) (fun w o h => ⟨h.1.below ((Below.refl _ _).alloc (Nat.le_refl _) o), h.2.below ((Below.refl _ _).alloc (Nat.le_refl _) o)⟩) (.inr (by first | exact ⟨XQ.out.below ((Below.refl _ _).drew), TQ.out.below ((Below.refl _ _).drew)⟩ | exact ⟨XQ.out, TQ.out⟩)) ?_
  simp only [List.flatMap_cons, List.flatMap_nil, List.drop_succ_cons, List.drop_zero, List.take_succ_cons, List.take_zero, List.cons_append, List.nil_append, List.append_nil]
  iterate 8 (first | (refine heads_load _ (by rfl) (fun w' hs => by obtain ⟨⟨r0, r1, r2, r3, r4, _⟩, b0, b1, b2, b3, _⟩ := hs; go_simp; try with_reducible rfl) rfl ?_; simp only [Act.put, List.setIfInBounds_toArray, List.set_cons_zero, List.set_cons_succ]) | (refine heads_pure _ (by rfl) (fun w' => by go_simp; try with_reducible rfl) ?_; simp only [Act.put, List.setIfInBounds_toArray, List.set_cons_zero, List.set_cons_succ]))
  refine heads_nil ?_
  refine stage_op 8 (by kernel_rfl) (L := #[true, true, true, true, true, true, true, true, true, false, false, false, false, false, false]) (by kernel_rfl) ?_
  simp only [List.drop_succ_cons, List.drop_zero, List.take_succ_cons, List.take_zero]
  go_wp2_with fail
  refine step_post (fun _ => J2.out) ?_
  refine stage_heads [9, 10] (by kernel_rfl) (L := #[true, true, true, true, true, true, true, true, true, true, true, false, false, false, false]) (by kernel_rfl) (f' := 4) rfl (fun _ _ _ _ h => h) (fun w o h => ⟨h.1.below ((Below.refl _ _).alloc (Nat.le_refl _) o), h.2.below ((Below.refl _ _).alloc (Nat.le_refl _) o)⟩) (.inr (by first | exact J2.out | exact J6.out)) ?_
  simp only [List.flatMap_cons, List.flatMap_nil, List.drop_succ_cons, List.drop_zero, List.take_succ_cons, List.take_zero, List.cons_append, List.nil_append, List.append_nil]
  iterate 2 (refine heads_pure _ (by rfl) (fun w' => by go_simp; try with_reducible rfl) ?_; simp only [Act.put, List.setIfInBounds_toArray, List.set_cons_zero, List.set_cons_succ])
  refine heads_nil ?_
  refine stage_op 11 (by kernel_rfl) (L := #[true, true, true, true, true, true, true, true, true, true, true, true, false, false, false]) (by kernel_rfl) ?_
  simp only [List.drop_succ_cons, List.drop_zero, List.take_succ_cons, List.take_zero]
  go_wp2_with fail
  refine step_post (fun _ => J6.out) ?_
  refine stage_heads [12, 13] (by kernel_rfl) (L := #[true, true, true, true, true, true, true, true, true, true, true, true, true, true, false]) (by kernel_rfl) (f' := 1) rfl (fun _ _ _ _ h => h) (fun w o h => ⟨h.1.below ((Below.refl _ _).alloc (Nat.le_refl _) o), h.2.below ((Below.refl _ _).alloc (Nat.le_refl _) o)⟩) (.inl (by kernel_rfl)) ?_
  simp only [List.flatMap_cons, List.flatMap_nil, List.drop_succ_cons, List.drop_zero, List.take_succ_cons, List.take_zero, List.cons_append, List.nil_append, List.append_nil]
  iterate 2 (refine heads_pure _ (by rfl) (fun w' => by go_simp; try with_reducible rfl) ?_; simp only [Act.put, List.setIfInBounds_toArray, List.set_cons_zero, List.set_cons_succ])
  refine heads_nil ?_
  refine stage_op 14 (by kernel_rfl) (L := #[true, true, true, true, true, true, true, true, true, true, true, true, true, true, true]) (by kernel_rfl) ?_
  simp only [List.drop_succ_cons, List.drop_zero, List.take_succ_cons, List.take_zero]
  go_wp2_with fail
  refine step_post nofun ?_
  refine stage_done (by kernel_rfl) ?_
  generalize hwz : World.drew _ = wz
  have W1 : wz = (setV (setBO (wQ.setCell ⟨bo, 1, none⟩ (.pointer (some ⟨sb, 0, none⟩))) bo DP (.slice a5 n5 c5)) bo si st (.slice am nm cm) (.slice ad nd cd)).drew := hwz.symm
  have HBZ := (((HBQ.out.setP (some ⟨sb, 0, none⟩)).setD DP (.slice a5 n5 c5)).setS si st (.slice am nm cm) (.slice ad nd cd)).below ((Below.refl _ _).drew)
  have HDZ := ((((HDQ.out.setPS HBQ.out NO.out (.pointer (some ⟨sb, 0, none⟩))).setPair (HBQ.out.setP (some ⟨sb, 0, none⟩)).bo NO.out DP (.slice a5 n5 c5))).setVS ((HBQ.out.setP (some ⟨sb, 0, none⟩)).setD DP (.slice a5 n5 c5)) NO.out si st (.slice am nm cm) (.slice ad nd cd)).below ((Below.refl _ _).drew)
  have KB := (((Kept.setCell wQ ⟨bo, 1, none⟩ (.pointer (some ⟨sb, 0, none⟩))).trans (Kept.setBO _ bo DP (.slice a5 n5 c5))).trans (Kept.setV _ bo si st (.slice am nm cm) (.slice ad nd cd))).trans (Kept.drew _ _)
  rw [← W1] at HBZ HDZ KB
  have HSZ := HSQ.out.kept KB (.inr fun b hb h => (AP5.out b hb).2.1 h)
  have HKZ := HKQ.out.keptOff KB (fun k h => .inr (by rw [show k = bo from h]; exact NB.out.2.1))
  have HIZ := HIQ.out.keptIf KB (fun _ b hb h => (AM5.out.1 b hb).2.1 h) (fun _ b hb h => (AM5.out.2 b hb).2.1 h)
  have KZ : Kept w wz (fun k => Own3 db mb tb k ∨ k = bo) := KQ.out.trans (KB.mono fun _ _ h => .inr h)
  have ZZ := Lib.hid (And.intro HBZ (And.intro HDZ (And.intro HSZ (And.intro HKZ (And.intro HIZ KZ)))))
  clear HBZ HDZ HSZ HKZ HIZ KZ KB W1 hwz q0 q1 q2 q3 q4 q5 q6 q7 q8 q9 qx g1 g2 g3 g4 g5 g6 g7 g8 g9 gx J1 J2 J5 J6
  go_wp2_with fail
  go_ret
  rw [HVD.out.1]
  exact ⟨rfl, sb, ⟨ZZ.out.2.1, G5.out, ⟨a5, n5, c5, am, nm, cm, ad, nd, cd, HN5.out, by rw [HSI.out.1, HSI.out.2]; exact ZZ.out.1, ZZ.out.2.2.1, by rw [HSI.out.1, HSI.out.2]; exact ZZ.out.2.2.2.2.1, AP5.out, fun _ => AM5.out.1, fun _ => AM5.out.2⟩, NO.out, HSF.out⟩, ZZ.out.2.2.2.1, NB.out.2.2.2.2, NB.out.2.1, NB.out.1, ZZ.out.2.2.2.2.2⟩
end Go.Proofs.YtofhccpagnkalaaGreat

/- The document's Into: bytes written into a new file that then takes another one's place; contract; no conditions but the ranges. -/
namespace Go.Proofs.YtofhccpagnkalaaGreat
open Go.RowKit Go.Maps Go.Proofs.Own

theorem into_1 {D D1 : DiskS} {m to : ByteArray} {b : List Nat} {e : Nat} (h1 : vgoneD D m = (D1, e)) (he : e ≠ 0) : intoD D m to b = (D1, e) := by
  unfold intoD; rw [h1, if_pos he]
theorem into_2 {D D1 D2 : DiskS} {m to : ByteArray} {b : List Nat} {e : Nat} (h1 : vgoneD D m = (D1, 0)) (h2 : appendD D1 m b = (D2, e)) (he : e ≠ 0) : intoD D m to b = (D2, e) := by
  unfold intoD wrTo; rw [h1]; simp only [ne_eq, not_true_eq_false, if_false]; rw [h2, if_pos he, if_pos he]
theorem into_3 {D D1 D2 D3 : DiskS} {m to : ByteArray} {b : List Nat} {e : Nat} (h1 : vgoneD D m = (D1, 0)) (h2 : appendD D1 m b = (D2, 0)) (h3 : syncD D2 m = (D3, e)) (he : e ≠ 0) : intoD D m to b = (D3, e) := by
  unfold intoD wrTo; rw [h1]; simp only [ne_eq, not_true_eq_false, if_false]; rw [h2]; simp only [not_true_eq_false, if_false]; rw [h3, if_pos he]
theorem into_4 {D D1 D2 D3 : DiskS} {m to : ByteArray} {b : List Nat} (h1 : vgoneD D m = (D1, 0)) (h2 : appendD D1 m b = (D2, 0)) (h3 : syncD D2 m = (D3, 0)) : intoD D m to b = moveD D3 m to := by
  unfold intoD wrTo; rw [h1]; simp only [ne_eq, not_true_eq_false, if_false]; rw [h2]; simp only [not_true_eq_false, if_false]; rw [h3]; simp only [not_true_eq_false, if_false]

set_option maxHeartbeats 4000000 in
set_option maxRecDepth 20000 in
theorem rinto_new (v bv : Value) (D0 : DiskS) (to m : ByteArray) (b : List Nat) (w : World) (h : RIs w v D0) (hg : DGood D0) (hd : D0.down = false) (hs : D0.steps + 4 ≤ 1000000000) (hb : Bytes w bv b) (hbl : b.length ≤ 2097152) (hm : to ++ ⟨#[46, 110, 101, 119]⟩ = m) (hto : to.size ≤ 1000) (hms : m.size ≤ 1000) : Calls Tryz.prog 106 #[v, .string to, bv] w (RPostN (intoD D0 m to b) v w) := by
  obtain ⟨a0, c0, rfl, hr⟩ := h
  obtain ⟨n0, hn⟩ : ∃ n, D0.files.length = n := ⟨_, rfl⟩
  have HN0 := Lib.hid hn
  rw [hn] at hr ⊢
  have HS0 := Lib.hid hr
  have G0 := Lib.hid hg
  have DN := Lib.hid hd
  have ST0 := Lib.hid hs
  have HBB := Lib.hid hb
  have HBL := Lib.hid hbl
  have HM := Lib.hid hm
  have HTO := Lib.hid hto
  have HMS := Lib.hid hms
  obtain ⟨ba, bc, rfl, _⟩ := hb.shape
  have hcl : (to.size : Int) + 4 ≤ 9223372036854775807 := by omega
  clear hr hn hg hd hs hb hbl hto hms
  have BX : RD ((w.alloc (.cells #[.int .i64 D0.room, .slice a0 n0 c0, .bool D0.down, .int .i64 D0.armed, .int .u64 D0.steps] 29)).alloc (.cells #[.int .i64 0, .slice none 0 0, .bool false, .int .i64 0, .int .u64 0] 29)) w.heap.size D0 (.slice a0 n0 c0) := (RD.box w D0 (.slice a0 n0 c0)).below ((Below.refl _ _).alloc (Nat.le_refl _) _)
  have BZ := RD.zero (w.alloc (.cells #[.int .i64 D0.room, .slice a0 n0 c0, .bool D0.down, .int .i64 D0.armed, .int .u64 D0.steps] 29))
  have hsz : (w.alloc (.cells #[.int .i64 D0.room, .slice a0 n0 c0, .bool D0.down, .int .i64 D0.armed, .int .u64 D0.steps] 29)).heap.size = w.heap.size + 1 := by simp
  rw [hsz] at BZ
  have BB : Below w.heap.size w ((w.alloc (.cells #[.int .i64 D0.room, .slice a0 n0 c0, .bool D0.down, .int .i64 D0.armed, .int .u64 D0.steps] 29)).alloc (.cells #[.int .i64 0, .slice none 0 0, .bool false, .int .i64 0, .int .u64 0] 29)) := ((Below.refl _ _).alloc (Nat.le_refl _) _).alloc (by simp) _
  have SS := HS0.out.below BB
  clear hsz
  go_enter Tryz.func106, Tryz.ntmps106
  go_wp2_with fail
  generalize World.alloc (World.alloc w _) _ = w1 at *
  have X1 := Lib.hid BX
  have Z1 := Lib.hid BZ
  have B1 := Lib.hid BB
  have S1 := Lib.hid SS
  have F0 : Hid (∀ g, (.slice a0 n0 c0 : Value).ownBlock = some g → (.slice a0 n0 c0 : Value).ownBlock = some g ∨ w.heap.size ≤ g) := Lib.hid (fun g h => .inl h)
  clear BX BZ BB SS
  have hcat : to ++ ⟨#[46, 110, 101, 119]⟩ = m := HM.out
  go_wp2_with fail
  refine (rgone_new _ D0 m w1 (RIs.new HN0.out S1.out) G0.out DN.out).mono ?_
  rintro e w1r ⟨v1, rfl, hr1, hb1, hf1⟩
  have X1r := Lib.hid (X1.out.below hb1)
  have Z1r := Lib.hid (Z1.out.below hb1)
  have B1r : Hid (Below w.heap.size w w1r) := Lib.hid (B1.out.trans (hb1.mono B1.out.size))
  have GG := vgoneD_good m G0.out (by have := ST0.out; omega)
  obtain ⟨r, hr⟩ : ∃ r, vgoneD D0 m = r := ⟨_, rfl⟩
  have HR1 := Lib.hid hr
  rw [hr] at hr1 GG ⊢
  obtain ⟨D1, e1⟩ := r
  simp only at GG hr1 ⊢
  have G1 := Lib.hid GG.1
  have ST1 : Hid (D1.steps + 3 ≤ 1000000000) := Lib.hid (by have h1 := ST0.out; have h2 := GG.2; omega)
  obtain ⟨a1, c1, rfl, hs1⟩ := hr1
  obtain ⟨n1, hn1⟩ : ∃ n, D1.files.length = n := ⟨_, rfl⟩
  have HN1 := Lib.hid hn1
  rw [hn1] at hs1 hf1 ⊢
  have S1r := Lib.hid hs1
  have F1 : Hid (∀ g, (.slice a1 n1 c1 : Value).ownBlock = some g → (.slice a0 n0 c0 : Value).ownBlock = some g ∨ w.heap.size ≤ g) := Lib.hid (fun g hg => by
    rcases hf1 g hg with h | h
    · exact F0.out g h
    · exact .inr (by have := B1.out.size; omega))
  clear hr hs1 hn1 hb1 hf1 GG
  obtain ⟨r0, r1, r2, r3, r4, f0, f1, f2, f3, f4⟩ := X1r.out
  obtain ⟨z0, z1, z2, z3, z4, g0, g1, g2, g3, g4⟩ := Z1r.out
  have hlx := X1r.out.lt
  have hlz := Z1r.out.lt
  have X2a := X1r.out.set D1 (.slice a1 n1 c1)
  have KS := Kept.set5D w1r w.heap.size D1 (.slice a1 n1 c1)
  have Z2a := Z1r.out.kept KS (by omega)
  have S2a := S1r.out.setD X1r.out (fun s e => by cases e) D1 (.slice a1 n1 c1)
  have B2a := B1r.out.trans (KS.below B1r.out.size (fun k hk => by omega))
  unfold set5D at X2a Z2a S2a B2a
  have X2 := Lib.hid X2a
  have Z2 := Lib.hid Z2a
  have S2 := Lib.hid S2a
  have B2 := Lib.hid B2a
  clear X2a Z2a S2a B2a KS
  by_cases he : e1 = 0
  · subst he
    have y0 := (HBB.out.below B2.out).str Tryz.underlying22 Tryz.underlying5 Tryz.underlying9
    go_wp2_with fail
    generalize (((((w1r.setCell ⟨w.heap.size, 0, none⟩ (.int .i64 D1.room)).setCell ⟨w.heap.size, 1, none⟩ (.slice a1 n1 c1)).setCell ⟨w.heap.size, 2, none⟩ (.bool D1.down)).setCell ⟨w.heap.size, 3, none⟩ (.int .i64 D1.armed)).setCell ⟨w.heap.size, 4, none⟩ (.int .u64 D1.steps)) = w2 at *
    clear r0 r1 r2 r3 r4 f0 f1 f2 f3 f4 z0 z1 z2 z3 z4 g0 g1 g2 g3 g4 hlx hlz
    clear y0
    refine (rappend_new _ D1 m b w2 (RIs.new HN1.out S2.out) G1.out (by have := HMS.out; omega) HBL.out).mono ?_
    rintro e w2r ⟨v2, rfl, hr2, hb2, hf2⟩
    have X2r := Lib.hid (X2.out.below hb2)
    have Z2r := Lib.hid (Z2.out.below hb2)
    have B2r : Hid (Below w.heap.size w w2r) := Lib.hid (B2.out.trans (hb2.mono B2.out.size))
    have GG := G1.out.append m b (by have := ST1.out; omega)
    obtain ⟨r, hr⟩ : ∃ r, appendD D1 m b = r := ⟨_, rfl⟩
    have HR2 := Lib.hid hr
    rw [hr] at hr2 GG ⊢
    obtain ⟨D2, e2⟩ := r
    simp only at GG hr2 ⊢
    have G2 := Lib.hid GG.1
    have ST2 : Hid (D2.steps + 2 ≤ 1000000000) := Lib.hid (by have h1 := ST1.out; have h2 := GG.2; omega)
    obtain ⟨a2, c2, rfl, hs2⟩ := hr2
    obtain ⟨n2, hn2⟩ : ∃ n, D2.files.length = n := ⟨_, rfl⟩
    have HN2 := Lib.hid hn2
    rw [hn2] at hs2 hf2 ⊢
    have S2r := Lib.hid hs2
    have F2 : Hid (∀ g, (.slice a2 n2 c2 : Value).ownBlock = some g → (.slice a0 n0 c0 : Value).ownBlock = some g ∨ w.heap.size ≤ g) := Lib.hid (fun g hg => by
      rcases hf2 g hg with h | h
      · exact F1.out g h
      · exact .inr (by have := B2.out.size; omega))
    clear hr hs2 hn2 hb2 hf2 GG
    obtain ⟨r0, r1, r2, r3, r4, f0, f1, f2, f3, f4⟩ := X2r.out
    obtain ⟨z0, z1, z2, z3, z4, g0, g1, g2, g3, g4⟩ := Z2r.out
    have hlx := X2r.out.lt
    have hlz := Z2r.out.lt
    have X3a := X2r.out.set D2 (.slice a2 n2 c2)
    have KS := Kept.set5D w2r w.heap.size D2 (.slice a2 n2 c2)
    have Z3a := Z2r.out.kept KS (by omega)
    have S3a := S2r.out.setD X2r.out (fun s e => by cases e) D2 (.slice a2 n2 c2)
    have B3a := B2r.out.trans (KS.below B2r.out.size (fun k hk => by omega))
    unfold set5D at X3a Z3a S3a B3a
    have X3 := Lib.hid X3a
    have Z3 := Lib.hid Z3a
    have S3 := Lib.hid S3a
    have B3 := Lib.hid B3a
    clear X3a Z3a S3a B3a KS
    by_cases he : e2 = 0
    · subst he
      go_wp2_with fail
      generalize (((((w2r.setCell ⟨w.heap.size, 0, none⟩ (.int .i64 D2.room)).setCell ⟨w.heap.size, 1, none⟩ (.slice a2 n2 c2)).setCell ⟨w.heap.size, 2, none⟩ (.bool D2.down)).setCell ⟨w.heap.size, 3, none⟩ (.int .i64 D2.armed)).setCell ⟨w.heap.size, 4, none⟩ (.int .u64 D2.steps)) = w3 at *
      clear r0 r1 r2 r3 r4 f0 f1 f2 f3 f4 z0 z1 z2 z3 z4 g0 g1 g2 g3 g4 hlx hlz
      refine (rsync_new _ D2 m w3 (RIs.new HN2.out S3.out) G2.out).mono ?_
      rintro e w3r ⟨v3, rfl, hr3, hb3, hf3⟩
      have X3r := Lib.hid (X3.out.below hb3)
      have Z3r := Lib.hid (Z3.out.below hb3)
      have B3r : Hid (Below w.heap.size w w3r) := Lib.hid (B3.out.trans (hb3.mono B3.out.size))
      have GG := G2.out.sync m (by have := ST2.out; omega)
      obtain ⟨r, hr⟩ : ∃ r, syncD D2 m = r := ⟨_, rfl⟩
      have HR3 := Lib.hid hr
      rw [hr] at hr3 GG ⊢
      obtain ⟨D3, e3⟩ := r
      simp only at GG hr3 ⊢
      have G3 := Lib.hid GG.1
      have ST3 : Hid (D3.steps + 1 ≤ 1000000000) := Lib.hid (by have h1 := ST2.out; have h2 := GG.2; omega)
      obtain ⟨a3, c3, rfl, hs3⟩ := hr3
      obtain ⟨n3, hn3⟩ : ∃ n, D3.files.length = n := ⟨_, rfl⟩
      have HN3 := Lib.hid hn3
      rw [hn3] at hs3 hf3 ⊢
      have S3r := Lib.hid hs3
      have F3 : Hid (∀ g, (.slice a3 n3 c3 : Value).ownBlock = some g → (.slice a0 n0 c0 : Value).ownBlock = some g ∨ w.heap.size ≤ g) := Lib.hid (fun g hg => by
        rcases hf3 g hg with h | h
        · exact F2.out g h
        · exact .inr (by have := B3.out.size; omega))
      clear hr hs3 hn3 hb3 hf3 GG
      obtain ⟨r0, r1, r2, r3, r4, f0, f1, f2, f3, f4⟩ := X3r.out
      obtain ⟨z0, z1, z2, z3, z4, g0, g1, g2, g3, g4⟩ := Z3r.out
      have hlx := X3r.out.lt
      have hlz := Z3r.out.lt
      have X4a := X3r.out.set D3 (.slice a3 n3 c3)
      have KS := Kept.set5D w3r w.heap.size D3 (.slice a3 n3 c3)
      have Z4a := Z3r.out.kept KS (by omega)
      have S4a := S3r.out.setD X3r.out (fun s e => by cases e) D3 (.slice a3 n3 c3)
      have B4a := B3r.out.trans (KS.below B3r.out.size (fun k hk => by omega))
      unfold set5D at X4a Z4a S4a B4a
      have X4 := Lib.hid X4a
      have Z4 := Lib.hid Z4a
      have S4 := Lib.hid S4a
      have B4 := Lib.hid B4a
      clear X4a Z4a S4a B4a KS
      by_cases he : e3 = 0
      · subst he
        go_wp2_with fail
        generalize (((((w3r.setCell ⟨w.heap.size, 0, none⟩ (.int .i64 D3.room)).setCell ⟨w.heap.size, 1, none⟩ (.slice a3 n3 c3)).setCell ⟨w.heap.size, 2, none⟩ (.bool D3.down)).setCell ⟨w.heap.size, 3, none⟩ (.int .i64 D3.armed)).setCell ⟨w.heap.size, 4, none⟩ (.int .u64 D3.steps)) = w4 at *
        clear r0 r1 r2 r3 r4 f0 f1 f2 f3 f4 z0 z1 z2 z3 z4 g0 g1 g2 g3 g4 hlx hlz
        refine (rmove_new _ D3 m to w4 (RIs.new HN3.out S4.out) G3.out (by have := HTO.out; omega)).mono ?_
        rintro e w4r ⟨v4, rfl, hr4, hb4, hf4⟩
        have X4r := Lib.hid (X4.out.below hb4)
        have Z4r := Lib.hid (Z4.out.below hb4)
        have B4r : Hid (Below w.heap.size w w4r) := Lib.hid (B4.out.trans (hb4.mono B4.out.size))
        have GG := G3.out.move m to (by have := ST3.out; omega)
        obtain ⟨r, hr⟩ : ∃ r, moveD D3 m to = r := ⟨_, rfl⟩
        have HR4 := Lib.hid hr
        rw [hr] at hr4 GG ⊢
        obtain ⟨D4, e4⟩ := r
        simp only at GG hr4 ⊢
        have G4 := Lib.hid GG.1
        have ST4 : Hid (D4.steps + 0 ≤ 1000000000) := Lib.hid (by have h1 := ST3.out; have h2 := GG.2; omega)
        obtain ⟨a4, c4, rfl, hs4⟩ := hr4
        obtain ⟨n4, hn4⟩ : ∃ n, D4.files.length = n := ⟨_, rfl⟩
        have HN4 := Lib.hid hn4
        rw [hn4] at hs4 hf4 ⊢
        have S4r := Lib.hid hs4
        have F4 : Hid (∀ g, (.slice a4 n4 c4 : Value).ownBlock = some g → (.slice a0 n0 c0 : Value).ownBlock = some g ∨ w.heap.size ≤ g) := Lib.hid (fun g hg => by
          rcases hf4 g hg with h | h
          · exact F3.out g h
          · exact .inr (by have := B4.out.size; omega))
        clear hr hs4 hn4 hb4 hf4 GG
        obtain ⟨r0, r1, r2, r3, r4, f0, f1, f2, f3, f4⟩ := X4r.out
        obtain ⟨z0, z1, z2, z3, z4, g0, g1, g2, g3, g4⟩ := Z4r.out
        have hlx := X4r.out.lt
        have hlz := Z4r.out.lt
        have X5a := X4r.out.set D4 (.slice a4 n4 c4)
        have KS := Kept.set5D w4r w.heap.size D4 (.slice a4 n4 c4)
        have Z5a := Z4r.out.kept KS (by omega)
        have S5a := S4r.out.setD X4r.out (fun s e => by cases e) D4 (.slice a4 n4 c4)
        have B5a := B4r.out.trans (KS.below B4r.out.size (fun k hk => by omega))
        unfold set5D at X5a Z5a S5a B5a
        have X5 := Lib.hid X5a
        have Z5 := Lib.hid Z5a
        have S5 := Lib.hid S5a
        have B5 := Lib.hid B5a
        clear X5a Z5a S5a B5a KS
        have RFF0 := Z5.out.set D4 (.slice a4 n4 c4)
        have KS := Kept.set5D (((((w4r.setCell ⟨w.heap.size, 0, none⟩ (.int .i64 D4.room)).setCell ⟨w.heap.size, 1, none⟩ (.slice a4 n4 c4)).setCell ⟨w.heap.size, 2, none⟩ (.bool D4.down)).setCell ⟨w.heap.size, 3, none⟩ (.int .i64 D4.armed)).setCell ⟨w.heap.size, 4, none⟩ (.int .u64 D4.steps)) (w.heap.size + 1) D4 (.slice a4 n4 c4)
        have BF0 := B5.out.trans (KS.below B5.out.size (fun k hk => by omega))
        have SF0 := S5.out.setD Z5.out (fun s e => by cases e) D4 (.slice a4 n4 c4)
        unfold set5D at RFF0 BF0 SF0
        have RFF := Lib.hid RFF0
        have BF := Lib.hid BF0
        have SF := Lib.hid SF0
        clear KS RFF0 BF0 SF0
        go_wp2_with fail
        generalize ((((((((((w4r.setCell ⟨w.heap.size, 0, none⟩ (.int .i64 D4.room)).setCell ⟨w.heap.size, 1, none⟩ (.slice a4 n4 c4)).setCell ⟨w.heap.size, 2, none⟩ (.bool D4.down)).setCell ⟨w.heap.size, 3, none⟩ (.int .i64 D4.armed)).setCell ⟨w.heap.size, 4, none⟩ (.int .u64 D4.steps)).setCell ⟨(w.heap.size + 1), 0, none⟩ (.int .i64 D4.room)).setCell ⟨(w.heap.size + 1), 1, none⟩ (.slice a4 n4 c4)).setCell ⟨(w.heap.size + 1), 2, none⟩ (.bool D4.down)).setCell ⟨(w.heap.size + 1), 3, none⟩ (.int .i64 D4.armed)).setCell ⟨(w.heap.size + 1), 4, none⟩ (.int .u64 D4.steps)) = wF at *
        obtain ⟨q0, q1, q2, q3, q4, _⟩ := RFF.out
        refine bodyPost_ret (v := .tuple #[.agg #[.int .i64 D4.room, .slice a4 n4 c4, .bool D4.down, .int .i64 D4.armed, .int .u64 D4.steps], .int .i64 (e4 : Nat)]) (by simp [results, Tryz.results106, go_sem, q0, q1, q2, q3, q4]) rfl ?_
        have HV : intoD D0 m to b = (D4, e4) := (into_4 HR1.out HR2.out HR3.out).trans HR4.out
        rw [HV]
        exact ⟨_, rfl, RIs.new HN4.out SF.out, BF.out, F4.out⟩
      · have hb0 : ((e3 : Int) == 0) = false := beq_eq_false_iff_ne.2 (by omega)
        have HE := Lib.hid he
        clear he
        have RFF0 := Z4.out.set D3 (.slice a3 n3 c3)
        have KS := Kept.set5D (((((w3r.setCell ⟨w.heap.size, 0, none⟩ (.int .i64 D3.room)).setCell ⟨w.heap.size, 1, none⟩ (.slice a3 n3 c3)).setCell ⟨w.heap.size, 2, none⟩ (.bool D3.down)).setCell ⟨w.heap.size, 3, none⟩ (.int .i64 D3.armed)).setCell ⟨w.heap.size, 4, none⟩ (.int .u64 D3.steps)) (w.heap.size + 1) D3 (.slice a3 n3 c3)
        have BF0 := B4.out.trans (KS.below B4.out.size (fun k hk => by omega))
        have SF0 := S4.out.setD Z4.out (fun s e => by cases e) D3 (.slice a3 n3 c3)
        unfold set5D at RFF0 BF0 SF0
        have RFF := Lib.hid RFF0
        have BF := Lib.hid BF0
        have SF := Lib.hid SF0
        clear KS RFF0 BF0 SF0
        go_wp2_with fail
        generalize ((((((((((w3r.setCell ⟨w.heap.size, 0, none⟩ (.int .i64 D3.room)).setCell ⟨w.heap.size, 1, none⟩ (.slice a3 n3 c3)).setCell ⟨w.heap.size, 2, none⟩ (.bool D3.down)).setCell ⟨w.heap.size, 3, none⟩ (.int .i64 D3.armed)).setCell ⟨w.heap.size, 4, none⟩ (.int .u64 D3.steps)).setCell ⟨(w.heap.size + 1), 0, none⟩ (.int .i64 D3.room)).setCell ⟨(w.heap.size + 1), 1, none⟩ (.slice a3 n3 c3)).setCell ⟨(w.heap.size + 1), 2, none⟩ (.bool D3.down)).setCell ⟨(w.heap.size + 1), 3, none⟩ (.int .i64 D3.armed)).setCell ⟨(w.heap.size + 1), 4, none⟩ (.int .u64 D3.steps)) = wF at *
        obtain ⟨q0, q1, q2, q3, q4, _⟩ := RFF.out
        refine bodyPost_ret (v := .tuple #[.agg #[.int .i64 D3.room, .slice a3 n3 c3, .bool D3.down, .int .i64 D3.armed, .int .u64 D3.steps], .int .i64 (e3 : Nat)]) (by simp [results, Tryz.results106, go_sem, q0, q1, q2, q3, q4]) rfl ?_
        have HV : intoD D0 m to b = (D3, e3) := into_3 HR1.out HR2.out HR3.out HE.out
        rw [HV]
        exact ⟨_, rfl, RIs.new HN3.out SF.out, BF.out, F3.out⟩
    · have hb0 : ((e2 : Int) == 0) = false := beq_eq_false_iff_ne.2 (by omega)
      have HE := Lib.hid he
      clear he
      have RFF0 := Z3.out.set D2 (.slice a2 n2 c2)
      have KS := Kept.set5D (((((w2r.setCell ⟨w.heap.size, 0, none⟩ (.int .i64 D2.room)).setCell ⟨w.heap.size, 1, none⟩ (.slice a2 n2 c2)).setCell ⟨w.heap.size, 2, none⟩ (.bool D2.down)).setCell ⟨w.heap.size, 3, none⟩ (.int .i64 D2.armed)).setCell ⟨w.heap.size, 4, none⟩ (.int .u64 D2.steps)) (w.heap.size + 1) D2 (.slice a2 n2 c2)
      have BF0 := B3.out.trans (KS.below B3.out.size (fun k hk => by omega))
      have SF0 := S3.out.setD Z3.out (fun s e => by cases e) D2 (.slice a2 n2 c2)
      unfold set5D at RFF0 BF0 SF0
      have RFF := Lib.hid RFF0
      have BF := Lib.hid BF0
      have SF := Lib.hid SF0
      clear KS RFF0 BF0 SF0
      go_wp2_with fail
      generalize ((((((((((w2r.setCell ⟨w.heap.size, 0, none⟩ (.int .i64 D2.room)).setCell ⟨w.heap.size, 1, none⟩ (.slice a2 n2 c2)).setCell ⟨w.heap.size, 2, none⟩ (.bool D2.down)).setCell ⟨w.heap.size, 3, none⟩ (.int .i64 D2.armed)).setCell ⟨w.heap.size, 4, none⟩ (.int .u64 D2.steps)).setCell ⟨(w.heap.size + 1), 0, none⟩ (.int .i64 D2.room)).setCell ⟨(w.heap.size + 1), 1, none⟩ (.slice a2 n2 c2)).setCell ⟨(w.heap.size + 1), 2, none⟩ (.bool D2.down)).setCell ⟨(w.heap.size + 1), 3, none⟩ (.int .i64 D2.armed)).setCell ⟨(w.heap.size + 1), 4, none⟩ (.int .u64 D2.steps)) = wF at *
      obtain ⟨q0, q1, q2, q3, q4, _⟩ := RFF.out
      refine bodyPost_ret (v := .tuple #[.agg #[.int .i64 D2.room, .slice a2 n2 c2, .bool D2.down, .int .i64 D2.armed, .int .u64 D2.steps], .int .i64 (e2 : Nat)]) (by simp [results, Tryz.results106, go_sem, q0, q1, q2, q3, q4]) rfl ?_
      have HV : intoD D0 m to b = (D2, e2) := into_2 HR1.out HR2.out HE.out
      rw [HV]
      exact ⟨_, rfl, RIs.new HN2.out SF.out, BF.out, F2.out⟩
  · have hb0 : ((e1 : Int) == 0) = false := beq_eq_false_iff_ne.2 (by omega)
    have HE := Lib.hid he
    clear he
    have RFF0 := Z2.out.set D1 (.slice a1 n1 c1)
    have KS := Kept.set5D (((((w1r.setCell ⟨w.heap.size, 0, none⟩ (.int .i64 D1.room)).setCell ⟨w.heap.size, 1, none⟩ (.slice a1 n1 c1)).setCell ⟨w.heap.size, 2, none⟩ (.bool D1.down)).setCell ⟨w.heap.size, 3, none⟩ (.int .i64 D1.armed)).setCell ⟨w.heap.size, 4, none⟩ (.int .u64 D1.steps)) (w.heap.size + 1) D1 (.slice a1 n1 c1)
    have BF0 := B2.out.trans (KS.below B2.out.size (fun k hk => by omega))
    have SF0 := S2.out.setD Z2.out (fun s e => by cases e) D1 (.slice a1 n1 c1)
    unfold set5D at RFF0 BF0 SF0
    have RFF := Lib.hid RFF0
    have BF := Lib.hid BF0
    have SF := Lib.hid SF0
    clear KS RFF0 BF0 SF0
    go_wp2_with fail
    generalize ((((((((((w1r.setCell ⟨w.heap.size, 0, none⟩ (.int .i64 D1.room)).setCell ⟨w.heap.size, 1, none⟩ (.slice a1 n1 c1)).setCell ⟨w.heap.size, 2, none⟩ (.bool D1.down)).setCell ⟨w.heap.size, 3, none⟩ (.int .i64 D1.armed)).setCell ⟨w.heap.size, 4, none⟩ (.int .u64 D1.steps)).setCell ⟨(w.heap.size + 1), 0, none⟩ (.int .i64 D1.room)).setCell ⟨(w.heap.size + 1), 1, none⟩ (.slice a1 n1 c1)).setCell ⟨(w.heap.size + 1), 2, none⟩ (.bool D1.down)).setCell ⟨(w.heap.size + 1), 3, none⟩ (.int .i64 D1.armed)).setCell ⟨(w.heap.size + 1), 4, none⟩ (.int .u64 D1.steps)) = wF at *
    obtain ⟨q0, q1, q2, q3, q4, _⟩ := RFF.out
    refine bodyPost_ret (v := .tuple #[.agg #[.int .i64 D1.room, .slice a1 n1 c1, .bool D1.down, .int .i64 D1.armed, .int .u64 D1.steps], .int .i64 (e1 : Nat)]) (by simp [results, Tryz.results106, go_sem, q0, q1, q2, q3, q4]) rfl ?_
    have HV : intoD D0 m to b = (D1, e1) := into_1 HR1.out HE.out
    rw [HV]
    exact ⟨_, rfl, RIs.new HN1.out SF.out, BF.out, F1.out⟩
end Go.Proofs.YtofhccpagnkalaaGreat
