/- Several texts in one: Voa, Vol, VolH. What each proves stands ahead of it. -/
import Derived.Test.YtofhccpagnkalaaGreatBunRb
import Derived.Test.YtofhccpagnkalaaGreatBunVp
import Derived.Test.YtofhccpagnkalaaGreatBunVd
import Derived.Test.YtofhccpagnkalaaGreatBunRa
import Derived.Test.YtofhccpagnkalaaGreatBunC
/- Plain facts for the law VowOpens: what is appended to a calm disk; Open of the vow never fails on one. No conditions. -/
namespace Go.Proofs.YtofhccpagnkalaaGreat
open Go.RowKit Go.Maps Go.Proofs.Own

theorem appendD_calm {D : DiskS} (h : Calm D) (n : ByteArray) (b : List Nat) : Calm (appendD D n b).1 := by
  unfold appendD
  split
  · exact h
  · unfold Calm stepD
    rw [if_neg (by show ¬ (appD D n b).armed = 0; rw [show (appD D n b).armed = D.armed from rfl, h.2]; decide), if_neg (by rw [show (appD D n b).armed = D.armed from rfl, h.2]; decide)]
    exact h
theorem Byt8.append {D : DiskS} (h : Byt8 D.files) (n : ByteArray) (b : List Nat) (hb : ∀ c ∈ b, c < 256) : Byt8 (appendD D n b).1.files := by
  unfold appendD
  split
  · exact h
  · rw [stepD_files]
    intro f hf
    rcases mem_put.1 hf with rfl | ⟨hf, _⟩
    · intro c hc
      rcases List.mem_append.1 hc with hc | hc
      · unfold getF at hc
        cases hg : findFile n D.files with
        | some g => rw [hg] at hc; exact h g (find_name hg).2 c hc
        | none => rw [hg] at hc; cases hc
      · exact hb c hc
    · exact h f hf
theorem open0 {D : DiskS} (h : Calm D) : (vopenD D).2 = 0 := by
  obtain ⟨g1, g2, _⟩ := gone_calm h
  unfold vopenD
  rw [if_neg (by rw [g1]; decide)]
  generalize (vgoneD D nVowN).1 = E at *
  cases e : findFile nVow E.files with
  | none =>
    have h31 : fileE E nVow = 31 := by unfold fileE; rw [if_neg (by rw [g2.1]; decide), if_pos e]
    unfold settleD
    rw [if_pos h31]
  | some f =>
    have h0 : fileE E nVow = 0 := by unfold fileE; rw [if_neg (by rw [g2.1]; decide), if_neg (by rw [e]; exact nofun)]
    unfold settleD
    rw [if_neg (by rw [h0]; decide), if_neg (by rw [h0]; decide)]
    have hs : (settle1 E).2 = 0 ∧ Calm (settle1 E).1 ∧ ∃ f', findFile nVow (settle1 E).1.files = some f' := by
      unfold settle1
      rw [getF_some e]
      split
      · obtain ⟨c1, c2, c3⟩ := cut_calm g2 e (lastR f.all).g (by omega)
        exact ⟨c1, c2, _, c3⟩
      · exact ⟨rfl, g2, _, e⟩
    obtain ⟨s1, s2, f', s3⟩ := hs
    rw [if_neg (by rw [s1]; decide)]
    exact (sync_calm s2 s3).1
/-- Block b is the law's pair: the program's disk db, the document's disk D, its files' slice sl. -/
structure BO (w : World) (b db : Nat) (D : DiskS) (sl : Value) : Prop where
  c0 : w.cell? ⟨b, 0, none⟩ = some (.pointer (some ⟨db, 0, none⟩))
  c1 : ∃ p, w.cell? ⟨b, 1, none⟩ = some (.pointer p)
  c2 : w.cell? ⟨b, 2, none⟩ = some (.int .i64 D.room)
  c3 : w.cell? ⟨b, 3, none⟩ = some sl
  c4 : w.cell? ⟨b, 4, none⟩ = some (.bool D.down)
  c5 : w.cell? ⟨b, 5, none⟩ = some (.int .i64 D.armed)
  c6 : w.cell? ⟨b, 6, none⟩ = some (.int .u64 D.steps)
  f2 : w.frozen? ⟨b, 2, none⟩ = false
  f3 : w.frozen? ⟨b, 3, none⟩ = false
  f4 : w.frozen? ⟨b, 4, none⟩ = false
  f5 : w.frozen? ⟨b, 5, none⟩ = false
  f6 : w.frozen? ⟨b, 6, none⟩ = false
theorem BO.lt {w : World} {b db : Nat} {D : DiskS} {sl : Value} (h : BO w b db D sl) : b < w.heap.size := World.block_lt_of_cell? _ _ h.c0
theorem BO.kept {w w' : World} {b db : Nat} {D : DiskS} {sl : Value} {S : Nat → Prop} (h : BO w b db D sl) (hk : Kept w w' S) (hs : ¬ S b) : BO w' b db D sl :=
  have l := h.lt
  ⟨hk.cell h.c0 hs, h.c1.imp fun _ e => hk.cell e hs, hk.cell h.c2 hs, hk.cell h.c3 hs, hk.cell h.c4 hs, hk.cell h.c5 hs, hk.cell h.c6 hs, (hk.frozen (a := ⟨b, 2, none⟩) l hs).trans h.f2, (hk.frozen (a := ⟨b, 3, none⟩) l hs).trans h.f3, (hk.frozen (a := ⟨b, 4, none⟩) l hs).trans h.f4, (hk.frozen (a := ⟨b, 5, none⟩) l hs).trans h.f5, (hk.frozen (a := ⟨b, 6, none⟩) l hs).trans h.f6⟩
theorem BO.below {w w' : World} {b db : Nat} {D : DiskS} {sl : Value} (h : BO w b db D sl) (hb : Below w.heap.size w w') : BO w' b db D sl := h.kept (Kept.of_below hb (S := fun _ => False) fun k h1 h2 => by omega) (fun h => h)
theorem BO.box (w : World) (db : Nat) (D : DiskS) (sl : Value) : BO (w.alloc (.cells #[.pointer (some ⟨db, 0, none⟩), .pointer none, .int .i64 D.room, sl, .bool D.down, .int .i64 D.armed, .int .u64 D.steps, .int .u64 0, .int .i64 0] 54)) w.heap.size db D sl :=
  ⟨by go_cell, ⟨none, by go_cell⟩, by go_cell, by go_cell, by go_cell, by go_cell, by go_cell, by simp, by simp, by simp, by simp, by simp⟩
/-- The document's disk is stored into it. -/
def setBO (w : World) (b : Nat) (D : DiskS) (sl : Value) : World := ((((w.setCell ⟨b, 2, none⟩ (.int .i64 D.room)).setCell ⟨b, 3, none⟩ sl).setCell ⟨b, 4, none⟩ (.bool D.down)).setCell ⟨b, 5, none⟩ (.int .i64 D.armed)).setCell ⟨b, 6, none⟩ (.int .u64 D.steps)
theorem Kept.setBO (w : World) (b : Nat) (D : DiskS) (sl : Value) : Kept w (setBO w b D sl) (fun k => k = b) :=
  ((((Kept.setCell w ⟨b, 2, none⟩ _).trans (Kept.setCell _ ⟨b, 3, none⟩ _)).trans (Kept.setCell _ ⟨b, 4, none⟩ _)).trans (Kept.setCell _ ⟨b, 5, none⟩ _)).trans (Kept.setCell _ ⟨b, 6, none⟩ _)
theorem BO.set {w : World} {b db : Nat} {D : DiskS} {sl : Value} (h : BO w b db D sl) (E : DiskS) (sl' : Value) : BO (setBO w b E sl') b db E sl' := by
  obtain ⟨c0, ⟨p, c1⟩, c2, c3, c4, c5, c6, f2, f3, f4, f5, f6⟩ := h
  unfold setBO
  refine ⟨?_, ⟨p, ?_⟩, ?_, ?_, ?_, ?_, ?_, by simp [f2], by simp [f3], by simp [f4], by simp [f5], by simp [f6]⟩
  all_goals go_cell
theorem BO.no {w : World} {b db : Nat} {D : DiskS} {a : Option Addr} {n c : Nat} (h : BO w b db D (.slice a n c)) : ∀ k, k < 7 → ∃ x, w.cell? ⟨b, k, none⟩ = some x ∧ (∀ s, x ≠ .string s) ∧ ∀ y, x ≠ .int .u8 y := by
  intro k hk
  obtain ⟨p, c1⟩ := h.c1
  match k, hk with
  | 0, _ => exact ⟨_, h.c0, (fun s e => by cases e), (fun s e => by cases e)⟩
  | 1, _ => exact ⟨_, c1, (fun s e => by cases e), (fun s e => by cases e)⟩
  | 2, _ => exact ⟨_, h.c2, (fun s e => by cases e), (fun s e => by cases e)⟩
  | 3, _ => exact ⟨_, h.c3, (fun s e => by cases e), (fun s e => by cases e)⟩
  | 4, _ => exact ⟨_, h.c4, (fun s e => by cases e), (fun s e => by cases e)⟩
  | 5, _ => exact ⟨_, h.c5, (fun s e => by cases e), (fun s e => by cases e)⟩
  | 6, _ => exact ⟨_, h.c6, (fun s e => by cases e), (fun s e => by cases e)⟩
theorem setBO_far (w : World) (b : Nat) (D : DiskS) (sl : Value) (g i : Nat) (hg : g = b → 7 ≤ i) : (setBO w b D sl).cell? ⟨g, i, none⟩ = w.cell? ⟨g, i, none⟩ := by
  have hne : ∀ j, j < 7 → (⟨b, j, none⟩ : Addr) ≠ ⟨g, i, none⟩ := by
    intro j hj e
    simp only [Addr.mk.injEq, and_true] at e
    have := hg e.1.symm
    omega
  unfold setBO
  rw [World.cell?_setCell_other _ _ _ _ (hne 6 (by omega)), World.cell?_setCell_other _ _ _ _ (hne 5 (by omega)), World.cell?_setCell_other _ _ _ _ (hne 4 (by omega)), World.cell?_setCell_other _ _ _ _ (hne 3 (by omega)), World.cell?_setCell_other _ _ _ _ (hne 2 (by omega))]
theorem SRow.setPair {w : World} {b db : Nat} {E : DiskS} {a0 : Option Addr} {n0 c0 : Nat} {a : Option Addr} {n c : Nat} {L : List FileS} (h : SRow w 3 (.slice a n c) (L.map rfV)) (k : BO w b db E (.slice a0 n0 c0)) (D' : DiskS) (fv' : Value) : SRow (setBO w b D' fv') 3 (.slice a n c) (L.map rfV) :=
  h.far (fun i hi => let ⟨x, h1, h2, _⟩ := k.no i hi; ⟨x, h1, h2⟩) (fun g i hg => setBO_far w b D' fv' g i hg) (Kept.setBO w b D' fv').size
theorem DiskIs.setPair {w : World} {b db db' mb tb : Nat} {D E : DiskS} {a : Option Addr} {n c : Nat} (h : DiskIs w db mb tb D) (k : BO w b db' E (.slice a n c)) (hn : ¬ Own3 db mb tb b) (D' : DiskS) (fv' : Value) : DiskIs (setBO w b D' fv') db mb tb D := by
  have no : ∀ i, i < 7 → ∀ x, w.cell? ⟨b, i, none⟩ ≠ some (.int .u8 x) := fun i hi x e => by
    obtain ⟨y, h1, _, h2⟩ := k.no i hi
    rw [h1] at e
    exact h2 x (Option.some.inj e)
  unfold setBO
  refine ((((h.setOther _ hn (no 2 (by omega))).setOther _ hn (fun x => ?_)).setOther _ hn (fun x => ?_)).setOther _ hn (fun x => ?_)).setOther _ hn (fun x => ?_)
  · rw [World.cell?_setCell_other _ _ _ _ (by simp)]; exact no 3 (by omega) x
  · rw [World.cell?_setCell_other _ _ _ _ (by simp), World.cell?_setCell_other _ _ _ _ (by simp)]; exact no 4 (by omega) x
  · rw [World.cell?_setCell_other _ _ _ _ (by simp), World.cell?_setCell_other _ _ _ _ (by simp), World.cell?_setCell_other _ _ _ _ (by simp)]; exact no 5 (by omega) x
  · rw [World.cell?_setCell_other _ _ _ _ (by simp), World.cell?_setCell_other _ _ _ _ (by simp), World.cell?_setCell_other _ _ _ _ (by simp), World.cell?_setCell_other _ _ _ _ (by simp)]; exact no 6 (by omega) x
end Go.Proofs.YtofhccpagnkalaaGreat

/- The law VowOpens, walked; no conditions. -/
namespace Go.Proofs.YtofhccpagnkalaaGreat
open Go.RowKit Go.Maps Go.Proofs.Own Go.Shelf

set_option maxHeartbeats 1000000 in
theorem rnew_is (room : Int) (w : World) : Calls Tryz.prog 9 #[.int .i64 room] w fun e w' => e = .returned (.agg #[.int .i64 room, .slice none 0 0, .bool false, .int .i64 (-1), .int .u64 0]) ∧ Below w.heap.size w w' := by
  go_enter Tryz.func9, Tryz.ntmps9
  go_wp2_with fail
  refine bodyPost_ret (v := .agg #[.int .i64 room, .slice none 0 0, .bool false, .int .i64 (-1), .int .u64 0]) (by simp [results, Tryz.results9, go_sem]) rfl ?_
  exact ⟨rfl, (Below.refl _ _).alloc (Nat.le_refl _) _⟩
set_option maxHeartbeats 4000000 in
set_option maxRecDepth 20000 in
theorem vopens_tt (l1 l2 : List Nat) (v1 v2 : Value) (w : World) (h1 : Bytes w v1 l1) (h2 : Bytes w v2 l2) (hs : l1.length + l2.length ≤ 20000) :
    Calls Tryz.prog 4 #[v1, v2, .bool true, .bool true] w fun e w' => e = .returned (.bool true) ∧ Below w.heap.size w w' := by
  have HX1 := Lib.hid h1
  have HX2 := Lib.hid h2
  have HSZ1 : Hid (l1.length ≤ 2097152) := Lib.hid (by omega)
  have HSZ2 : Hid (l2.length ≤ 2097152) := Lib.hid (by omega)
  obtain ⟨x1, y1, rfl, _⟩ := h1.shape
  obtain ⟨x2, y2, rfl, _⟩ := h2.shape
  obtain ⟨n1, hn1⟩ : ∃ n, l1.length = n := ⟨_, rfl⟩
  obtain ⟨n2, hn2⟩ : ∃ n, l2.length = n := ⟨_, rfl⟩
  rw [hn1, hn2] at hs
  rw [hn1] at HX1 ⊢
  rw [hn2] at HX2 ⊢
  have hsi : (n1 : Int) + (n2 : Int) ≤ 20000 := by omega
  clear h1 h2 hs hn1 hn2
  go_enter Tryz.func4, Tryz.ntmps4
  go_wp2_with fail
  refine (dnew 1048576 _ (by decide) (by decide)).mono ?_
  rintro e w1 ⟨db, mb, tb, rfl, hd1, hb1, nd, nm, nt⟩
  have HD1 := Lib.hid hd1
  have B1 := Lib.hid hb1
  have ND : Hid (∀ k, Own3 db mb tb k → w.heap.size ≤ k) := Lib.hid (fun k hk => by rcases hk with rfl | rfl | rfl <;> assumption)
  clear hd1 hb1 nd nm nt
  go_wp2_with fail
  refine (rnew_is 1048576 w1).mono ?_
  rintro e w2 ⟨rfl, hb2⟩
  obtain ⟨aA, haA⟩ : ∃ a : Option Addr, a = none := ⟨_, rfl⟩
  have HAA := Lib.hid haA
  obtain ⟨cA, hcA⟩ : ∃ c : Nat, c = 0 := ⟨_, rfl⟩
  have hsA : SRow w2 3 (.slice aA 0 cA) (([] : List FileS).map rfV) := by rw [haA, hcA]; exact SRow.nil _ _
  rw [show (Value.slice none 0 0) = .slice aA 0 cA by rw [haA, hcA]]
  have B2 : Hid (Below w.heap.size w w2) := Lib.hid (B1.out.trans (hb2.mono B1.out.size))
  have HD2 := Lib.hid (HD1.out.below hb2)
  have HSb := Lib.hid hsA
  clear hb2 hsA haA hcA
  go_wp2_with fail
  have hbx := BO.box w2 db ⟨1048576, [], false, -1, 0⟩ (.slice aA 0 cA)
  have hal : Below w2.heap.size w2 (w2.alloc (.cells #[.pointer (some ⟨db, 0, none⟩), .pointer none, .int .i64 1048576, .slice aA 0 cA, .bool false, .int .i64 (-1), .int .u64 0, .int .u64 0, .int .i64 0] 54)) := (Below.refl _ _).alloc (Nat.le_refl _) _
  simp only at hbx
  have BLA := Lib.hid (B2.out.trans (hal.mono B2.out.size))
  have HDA := Lib.hid (HD2.out.below hal)
  have HSa := Lib.hid (HSb.out.below hal)
  have NO : Hid (¬ Own3 db mb tb w2.heap.size) := Lib.hid (fun h => by have := HD2.out.lt3 _ h; omega)
  have BO1 : Hid (w.heap.size ≤ w2.heap.size) := Lib.hid B2.out.size
  have OB : Hid (∀ k, Own3 db mb tb k → w.heap.size ≤ k) := ND
  have HBA := Lib.hid hbx
  clear hbx hal
  generalize World.alloc w2 _ = wA at *
  generalize w2.heap.size = bo at *
  obtain ⟨nA, hnA⟩ : ∃ n, n = 0 := ⟨_, rfl⟩
  have APA : Hid (∀ b, (Value.slice aA nA cA).ownBlock = some b → ¬ Own3 db mb tb b) := Lib.hid (fun b hb h3 => by rw [HAA.out] at hb; cases hb)
  obtain ⟨DA, hDA⟩ : ∃ D, D = (⟨1048576, [], false, -1, 0⟩ : DiskS) := ⟨_, rfl⟩
  rw [← hnA] at HBA HSa
  rw [← hDA] at HBA HDA
  have HSA : Hid (SRow wA 3 (.slice aA nA cA) (DA.files.map rfV)) := Lib.hid (by rw [hDA]; exact HSa.out)
  have GDA : Hid (DGood DA) := Lib.hid (by rw [hDA]; exact ⟨⟨by decide, by decide, by decide, by decide, by decide, by decide, by decide, fun f h => by cases h⟩, by decide, by decide⟩)
  have SZA : Hid (DA.steps ≤ 5) := Lib.hid (by rw [hDA]; decide)
  have CAA : Hid (Calm DA) := Lib.hid (by rw [hDA]; exact ⟨rfl, rfl⟩)
  have B8A : Hid (Byt8 DA.files) := Lib.hid (by rw [hDA]; exact fun f h => by cases h)
  have HNA : Hid (DA.files.length = nA) := Lib.hid (by rw [hDA, hnA]; rfl)
  clear HSa HD2 HSb HD1 hDA hnA
  have q0 := HBA.out.c0
  go_wp2_with fail
  refine (dapp_any db mb tb DA nVow _ l1 _ HDA.out GDA.out (HX1.out.below BLA.out) (by decide)).mono ?_
  rintro e wAm ⟨rfl, hd, hk⟩
  have HDAm := Lib.hid hd
  have HBAm := Lib.hid (HBA.out.kept hk NO.out)
  have HSAm : Hid (SRow wAm 3 (.slice aA nA cA) (DA.files.map rfV)) := Lib.hid (HSA.out.kept hk (.inr APA.out))
  have BLAm : Hid (Below w.heap.size w wAm) := Lib.hid (BLA.out.trans (hk.below BLA.out.size OB.out))
  have STAm := Stable.from wAm
  clear hd hk q0
  go_wp2_with fail
  refine region_start [0, 0, 2, 6, 14, 0, 32, 126, 254, 510, 510, 1023, 3071, 7167] 0 (fun w' => Below wAm.heap.size wAm w') (by kernel_rfl) ?_
  refine stage_heads [0, 1, 2, 3, 4, 5, 6] (by kernel_rfl) (L := #[true, true, true, true, true, true, true, false, false, false, false, false, false, false]) (by kernel_rfl) (f' := 7) rfl (fun _ _ _ _ h => h) (fun w o h => STAm.alloc h o) (.inr (by first | exact Below.refl _ _ | exact (Below.refl _ _).drew)) ?_
  simp only [List.flatMap_cons, List.flatMap_nil, List.drop_succ_cons, List.drop_zero, List.take_succ_cons, List.take_zero, List.cons_append, List.nil_append, List.append_nil]
  iterate 7 (first | (refine heads_load _ (by rfl) (fun w' hs => by obtain ⟨r0, ⟨rp, r1⟩, r2, r3, r4, r5, r6, _⟩ := HBAm.out.below hs; have y0 := ((HX1.out.below BLAm.out).below hs).str Tryz.underlying22 Tryz.underlying5 Tryz.underlying9; go_simp; try with_reducible rfl) rfl ?_; simp only [Act.put, List.setIfInBounds_toArray, List.set_cons_zero, List.set_cons_succ]) | (refine heads_pure _ (by rfl) (fun w' => by go_simp; try with_reducible rfl) ?_; simp only [Act.put, List.setIfInBounds_toArray, List.set_cons_zero, List.set_cons_succ]))
  refine heads_nil ?_
  refine stage_op 7 (by kernel_rfl) (L := #[true, true, true, true, true, true, true, true, false, false, false, false, false, false]) (by kernel_rfl) ?_
  simp only [List.drop_succ_cons, List.drop_zero, List.take_succ_cons, List.take_zero]
  go_wp2_with fail; refine (rappend_new _ DA nVow l1 _ (by first | exact (RIs.new HNA.out HSAm.out) | exact (RIs.new HNA.out HSAm.out).below ((Below.refl _ _).drew)) GDA.out (by decide) HSZ1.out).mono ?_; rintro e wAr ⟨vAr, rfl, hrAr, hbAr, hfAr⟩; have BAr : Hid (Below wAm.heap.size wAm wAr) := Lib.hid (by first | exact hbAr | exact ((Below.refl _ _).drew).trans hbAr); have FAr : Hid (∀ g, fsOwn vAr = some g → (Value.slice aA nA cA).ownBlock = some g ∨ wAm.heap.size ≤ g) := Lib.hid hfAr; obtain ⟨aB, cB, rfl, hsAr⟩ := hrAr; have SAr := Lib.hid hsAr; clear hbAr hfAr hsAr; go_wp2_with fail
  refine step_post nofun ?_
  refine stage_heads [8, 9, 10, 11, 12] (by kernel_rfl) (L := #[true, true, true, true, true, true, true, true, true, true, true, true, true, false]) (by kernel_rfl) (f' := 1) rfl (fun _ _ _ _ h => h) (fun w o h => STAm.alloc h o) (.inl (by kernel_rfl)) ?_
  simp only [List.flatMap_cons, List.flatMap_nil, List.drop_succ_cons, List.drop_zero, List.take_succ_cons, List.take_zero, List.cons_append, List.nil_append, List.append_nil]
  iterate 5 (refine heads_pure _ (by rfl) (fun w' => by go_simp; try with_reducible rfl) ?_; simp only [Act.put, List.setIfInBounds_toArray, List.set_cons_zero, List.set_cons_succ])
  refine heads_nil ?_
  refine stage_op 13 (by kernel_rfl) (L := #[true, true, true, true, true, true, true, true, true, true, true, true, true, true]) (by kernel_rfl) ?_
  simp only [List.drop_succ_cons, List.drop_zero, List.take_succ_cons, List.take_zero]
  have HBAr := Lib.hid (HBAm.out.below BAr.out); obtain ⟨q0, ⟨qp, q1⟩, q2, q3, q4, q5, q6, g2, g3, g4, g5, g6⟩ := HBAr.out; go_wp2_with fail
  refine step_post nofun ?_
  refine stage_done (by kernel_rfl) ?_
  clear q0 q1 q2 q3 q4 q5 q6 g2 g3 g4 g5 g6
  have HBAq := HBAr.out.set (appendD DA nVow l1).1 (.slice aB (appendD DA nVow l1).1.files.length cB)
  have HDAq := (HDAm.out.below BAr.out).setPair HBAr.out NO.out (appendD DA nVow l1).1 (.slice aB (appendD DA nVow l1).1.files.length cB)
  have HSAq := SAr.out.setPair HBAr.out (appendD DA nVow l1).1 (.slice aB (appendD DA nVow l1).1.files.length cB)
  have BLAq : Below w.heap.size w (setBO wAr bo (appendD DA nVow l1).1 (.slice aB (appendD DA nVow l1).1.files.length cB)) := (BLAm.out.trans (BAr.out.mono BLAm.out.size)).trans ((Kept.setBO wAr bo (appendD DA nVow l1).1 (.slice aB (appendD DA nVow l1).1.files.length cB)).below (Nat.le_trans BLAm.out.size BAr.out.size) (fun k hk => by rw [hk]; exact BO1.out))
  have APB : Hid (∀ b, (Value.slice aB (appendD DA nVow l1).1.files.length cB).ownBlock = some b → ¬ Own3 db mb tb b) := Lib.hid (fun b hb h3 => by
    rcases FAr.out b hb with e | e
    · exact APA.out b e h3
    · have := HDAm.out.lt3 b h3; omega)
  have hgd := GDA.out.append nVow l1 (by have := SZA.out; omega)
  have GDB := Lib.hid hgd.1
  have SZB : Hid ((appendD DA nVow l1).1.steps ≤ 6) := Lib.hid (by have := hgd.2; have := SZA.out; omega)
  have CAB := Lib.hid (appendD_calm CAA.out nVow l1)
  have B8B := Lib.hid (B8A.out.append nVow l1 HX1.out.lt)
  unfold setBO at HBAq HDAq HSAq BLAq
  generalize (appendD DA nVow l1).1 = DB at *
  obtain ⟨nB, hnB⟩ : ∃ n, DB.files.length = n := ⟨_, rfl⟩
  have HNB := Lib.hid hnB
  rw [hnB] at HBAq HDAq HSAq BLAq APB ⊢
  generalize World.setCell _ _ _ = wB at *
  have HBB := Lib.hid HBAq
  have HDB := Lib.hid HDAq
  have HSB := Lib.hid HSAq
  have BLB := Lib.hid BLAq
  clear HBAq HDAq HSAq BLAq hnB hgd
  have q0 := HBB.out.c0
  go_wp2_with fail
  refine (dapp_any db mb tb DB nVowN _ l2 _ HDB.out GDB.out (HX2.out.below BLB.out) (by decide)).mono ?_
  rintro e wBm ⟨rfl, hd, hk⟩
  have HDBm := Lib.hid hd
  have HBBm := Lib.hid (HBB.out.kept hk NO.out)
  have HSBm : Hid (SRow wBm 3 (.slice aB nB cB) (DB.files.map rfV)) := Lib.hid (HSB.out.kept hk (.inr APB.out))
  have BLBm : Hid (Below w.heap.size w wBm) := Lib.hid (BLB.out.trans (hk.below BLB.out.size OB.out))
  have STBm := Stable.from wBm
  clear hd hk q0
  go_wp2_with fail
  refine region_start [0, 0, 2, 6, 14, 0, 32, 126, 254, 510, 510, 1023, 3071, 7167] 0 (fun w' => Below wBm.heap.size wBm w') (by kernel_rfl) ?_
  refine stage_heads [0, 1, 2, 3, 4, 5, 6] (by kernel_rfl) (L := #[true, true, true, true, true, true, true, false, false, false, false, false, false, false]) (by kernel_rfl) (f' := 7) rfl (fun _ _ _ _ h => h) (fun w o h => STBm.alloc h o) (.inr (by first | exact Below.refl _ _ | exact (Below.refl _ _).drew)) ?_
  simp only [List.flatMap_cons, List.flatMap_nil, List.drop_succ_cons, List.drop_zero, List.take_succ_cons, List.take_zero, List.cons_append, List.nil_append, List.append_nil]
  iterate 7 (first | (refine heads_load _ (by rfl) (fun w' hs => by obtain ⟨r0, ⟨rp, r1⟩, r2, r3, r4, r5, r6, _⟩ := HBBm.out.below hs; have y0 := ((HX2.out.below BLBm.out).below hs).str Tryz.underlying22 Tryz.underlying5 Tryz.underlying9; go_simp; try with_reducible rfl) rfl ?_; simp only [Act.put, List.setIfInBounds_toArray, List.set_cons_zero, List.set_cons_succ]) | (refine heads_pure _ (by rfl) (fun w' => by go_simp; try with_reducible rfl) ?_; simp only [Act.put, List.setIfInBounds_toArray, List.set_cons_zero, List.set_cons_succ]))
  refine heads_nil ?_
  refine stage_op 7 (by kernel_rfl) (L := #[true, true, true, true, true, true, true, true, false, false, false, false, false, false]) (by kernel_rfl) ?_
  simp only [List.drop_succ_cons, List.drop_zero, List.take_succ_cons, List.take_zero]
  go_wp2_with fail; refine (rappend_new _ DB nVowN l2 _ (by first | exact (RIs.new HNB.out HSBm.out) | exact (RIs.new HNB.out HSBm.out).below ((Below.refl _ _).drew)) GDB.out (by decide) HSZ2.out).mono ?_; rintro e wBr ⟨vBr, rfl, hrBr, hbBr, hfBr⟩; have BBr : Hid (Below wBm.heap.size wBm wBr) := Lib.hid (by first | exact hbBr | exact ((Below.refl _ _).drew).trans hbBr); have FBr : Hid (∀ g, fsOwn vBr = some g → (Value.slice aB nB cB).ownBlock = some g ∨ wBm.heap.size ≤ g) := Lib.hid hfBr; obtain ⟨aC, cC, rfl, hsBr⟩ := hrBr; have SBr := Lib.hid hsBr; clear hbBr hfBr hsBr; go_wp2_with fail
  refine step_post nofun ?_
  refine stage_heads [8, 9, 10, 11, 12] (by kernel_rfl) (L := #[true, true, true, true, true, true, true, true, true, true, true, true, true, false]) (by kernel_rfl) (f' := 1) rfl (fun _ _ _ _ h => h) (fun w o h => STBm.alloc h o) (.inl (by kernel_rfl)) ?_
  simp only [List.flatMap_cons, List.flatMap_nil, List.drop_succ_cons, List.drop_zero, List.take_succ_cons, List.take_zero, List.cons_append, List.nil_append, List.append_nil]
  iterate 5 (refine heads_pure _ (by rfl) (fun w' => by go_simp; try with_reducible rfl) ?_; simp only [Act.put, List.setIfInBounds_toArray, List.set_cons_zero, List.set_cons_succ])
  refine heads_nil ?_
  refine stage_op 13 (by kernel_rfl) (L := #[true, true, true, true, true, true, true, true, true, true, true, true, true, true]) (by kernel_rfl) ?_
  simp only [List.drop_succ_cons, List.drop_zero, List.take_succ_cons, List.take_zero]
  have HBBr := Lib.hid (HBBm.out.below BBr.out); obtain ⟨q0, ⟨qp, q1⟩, q2, q3, q4, q5, q6, g2, g3, g4, g5, g6⟩ := HBBr.out; go_wp2_with fail
  refine step_post nofun ?_
  refine stage_done (by kernel_rfl) ?_
  clear q0 q1 q2 q3 q4 q5 q6 g2 g3 g4 g5 g6
  have HBBq := HBBr.out.set (appendD DB nVowN l2).1 (.slice aC (appendD DB nVowN l2).1.files.length cC)
  have HDBq := (HDBm.out.below BBr.out).setPair HBBr.out NO.out (appendD DB nVowN l2).1 (.slice aC (appendD DB nVowN l2).1.files.length cC)
  have HSBq := SBr.out.setPair HBBr.out (appendD DB nVowN l2).1 (.slice aC (appendD DB nVowN l2).1.files.length cC)
  have BLBq : Below w.heap.size w (setBO wBr bo (appendD DB nVowN l2).1 (.slice aC (appendD DB nVowN l2).1.files.length cC)) := (BLBm.out.trans (BBr.out.mono BLBm.out.size)).trans ((Kept.setBO wBr bo (appendD DB nVowN l2).1 (.slice aC (appendD DB nVowN l2).1.files.length cC)).below (Nat.le_trans BLBm.out.size BBr.out.size) (fun k hk => by rw [hk]; exact BO1.out))
  have APC : Hid (∀ b, (Value.slice aC (appendD DB nVowN l2).1.files.length cC).ownBlock = some b → ¬ Own3 db mb tb b) := Lib.hid (fun b hb h3 => by
    rcases FBr.out b hb with e | e
    · exact APB.out b e h3
    · have := HDBm.out.lt3 b h3; omega)
  have hgd := GDB.out.append nVowN l2 (by have := SZB.out; omega)
  have GDC := Lib.hid hgd.1
  have SZC : Hid ((appendD DB nVowN l2).1.steps ≤ 7) := Lib.hid (by have := hgd.2; have := SZB.out; omega)
  have CAC := Lib.hid (appendD_calm CAB.out nVowN l2)
  have B8C := Lib.hid (B8B.out.append nVowN l2 HX2.out.lt)
  unfold setBO at HBBq HDBq HSBq BLBq
  generalize (appendD DB nVowN l2).1 = DC at *
  obtain ⟨nC, hnC⟩ : ∃ n, DC.files.length = n := ⟨_, rfl⟩
  have HNC := Lib.hid hnC
  rw [hnC] at HBBq HDBq HSBq BLBq APC ⊢
  generalize World.setCell _ _ _ = wC at *
  have HBC := Lib.hid HBBq
  have HDC := Lib.hid HDBq
  have HSC := Lib.hid HSBq
  have BLC := Lib.hid BLBq
  clear HBBq HDBq HSBq BLBq hnC hgd
  have q0 := HBC.out.c0
  go_wp2_with fail
  refine (vopen_any db mb tb DC _ HDC.out GDC.out (by have := SZC.out; omega)).mono ?_
  rintro e wO ⟨-, hok, hdO, hkO⟩
  obtain ⟨bc, rfl, hbk, -⟩ := hok (open0 CAC.out)
  have KO := Lib.hid hbk
  have HDO := Lib.hid hdO
  have HBO := Lib.hid (HBC.out.kept hkO NO.out)
  have HSO : Hid (SRow wO 3 (.slice aC nC cC) (DC.files.map rfV)) := Lib.hid (HSC.out.kept hkO (.inr APC.out))
  have BLO : Hid (Below w.heap.size w wO) := Lib.hid (BLC.out.trans (hkO.below BLC.out.size OB.out))
  have OE : Hid ((vopenD DC).2 = 0) := Lib.hid (open0 CAC.out)
  clear hok hbk hdO hkO q0
  obtain ⟨q0, ⟨qp, q1⟩, q2, q3, q4, q5, q6, _⟩ := HBO.out
  go_wp2_with fail
  refine (ropen_any _ DC _ (RIs.new HNC.out HSO.out) GDC.out CAC.out (by have := SZC.out; omega) B8C.out).mono ?_
  rintro e wP ⟨v', rfl, hrP, hbP⟩
  obtain ⟨aR, cR, rfl, hsR⟩ := hrP
  have KP := Lib.hid (KO.out.below hbP)
  have HDP := Lib.hid (HDO.out.below hbP)
  have HBP := Lib.hid (HBO.out.below hbP)
  have HSP := Lib.hid hsR
  have BLP := Lib.hid (BLO.out.trans (hbP.mono BLO.out.size))
  have hgo := vopenD_good GDC.out (by have := SZC.out; omega)
  have GDP := Lib.hid hgo.1
  clear hsR hbP hgo q0 q1 q2 q3 q4 q5 q6
  generalize (vopenD DC).1 = DP at *
  generalize (vopenS DC).t = st at *
  generalize (vopenS DC).v = sv at *
  go_wp2_with fail
  have hxq := (RD.box wP DP (.slice aR DP.files.length cR)).below ((Below.refl _ _).alloc (Nat.le_refl _) (.cells #[.int .u64 st, .int .i64 sv] 52))
  have htq := SC.box26 (wP.alloc (.cells #[.int .i64 DP.room, .slice aR DP.files.length cR, .bool DP.down, .int .i64 DP.armed, .int .u64 DP.steps] 29)) st sv
  have hbq : Below wP.heap.size wP ((wP.alloc (.cells #[.int .i64 DP.room, .slice aR DP.files.length cR, .bool DP.down, .int .i64 DP.armed, .int .u64 DP.steps] 29)).alloc (.cells #[.int .u64 st, .int .i64 sv] 52)) := ((Below.refl _ _).alloc (Nat.le_refl _) _).alloc (by simp) _
  rw [World.size_alloc] at htq
  generalize World.alloc (World.alloc wP _) _ = wQ at *
  have XQ := Lib.hid hxq
  have TQ := Lib.hid htq
  have KQ := Lib.hid (KP.out.below hbq)
  have HDQ := Lib.hid (HDP.out.below hbq)
  have HBQ := Lib.hid (HBP.out.below hbq)
  have HSQ := Lib.hid (HSP.out.below hbq)
  have BLQ := Lib.hid (BLP.out.trans (hbq.mono BLP.out.size))
  have STQ := Stable.from wQ
  clear hxq htq hbq
  refine region_start [0, 0, 3, 7, 15, 31, 15, 127, 255, 511, 1023, 2047, 4095, 8191, 16383, 1023, 33791, 131071, 262143, 524287, 1048575, 2097151, 4194303] 130080 (fun w' => Below wQ.heap.size wQ w') (by kernel_rfl) ?_
  refine stage_heads [0, 1, 2, 3, 4, 6] (by kernel_rfl) (L := #[true, true, true, true, true, false, true, false, false, false, false, false, false, false, false, false, false, false, false, false, false, false, false]) (by kernel_rfl) (f' := 17) rfl (fun _ _ _ _ h => h) (fun w o h => STQ.alloc h o) (.inr (by first | exact Below.refl _ _ | exact (Below.refl _ _).drew)) ?_
  simp only [List.flatMap_cons, List.flatMap_nil, List.drop_succ_cons, List.drop_zero, List.take_succ_cons, List.take_zero, List.cons_append, List.nil_append, List.append_nil]
  iterate 6 (first | (refine heads_load _ (by rfl) (fun w' hs => by obtain ⟨r0, r1, r2, r3, r4, _⟩ := XQ.out.below hs; obtain ⟨t0, t1, _, _⟩ := TQ.out.below hs; have b0 := (HBQ.out.below hs).c0; go_simp; try with_reducible rfl) rfl ?_; simp only [Act.put, List.setIfInBounds_toArray, List.set_cons_zero, List.set_cons_succ]) | (refine heads_pure _ (by rfl) (fun w' => by go_simp; try with_reducible rfl) ?_; simp only [Act.put, List.setIfInBounds_toArray, List.set_cons_zero, List.set_cons_succ]) | (refine heads_skip (by rfl) ?_; simp only [Act.put, List.setIfInBounds_toArray, List.set_cons_zero, List.set_cons_succ]))
  refine heads_nil ?_
  refine stage_op 5 (by kernel_rfl) (L := #[true, true, true, true, true, true, true, false, false, false, false, false, false, false, false, false, false, false, false, false, false, false, false]) (by kernel_rfl) ?_
  simp only [List.drop_succ_cons, List.drop_zero, List.take_succ_cons, List.take_zero]
  go_wp2_with fail; refine (vstate_any bc db _ _ _ (by first | exact KQ.out | exact (KQ.out).below ((Below.refl _ _).drew))).mono ?_; rintro e u5 ⟨rfl, hb⟩; have I5 : Hid (Below wQ.heap.size wQ u5) := Lib.hid (by first | exact hb | exact ((Below.refl _ _).drew).trans hb); clear hb; go_wp2_with fail
  refine step_post (fun _ => I5.out) ?_
  refine stage_heads [7, 8, 9, 10, 11, 12, 13, 15, 16] (by kernel_rfl) (L := #[true, true, true, true, true, true, true, true, true, true, true, true, true, true, false, true, true, false, false, false, false, false, false]) (by kernel_rfl) (f' := 7) rfl (fun _ _ _ _ h => h) (fun w o h => STQ.alloc h o) (.inr (by first | exact I5.out | exact STQ.drew I5.out)) ?_
  simp only [List.flatMap_cons, List.flatMap_nil, List.drop_succ_cons, List.drop_zero, List.take_succ_cons, List.take_zero, List.cons_append, List.nil_append, List.append_nil]
  iterate 9 (first | (refine heads_load _ (by rfl) (fun w' hs => by obtain ⟨r0, r1, r2, r3, r4, _⟩ := XQ.out.below hs; obtain ⟨t0, t1, _, _⟩ := TQ.out.below hs; have b0 := (HBQ.out.below hs).c0; go_simp; try with_reducible rfl) rfl ?_; simp only [Act.put, List.setIfInBounds_toArray, List.set_cons_zero, List.set_cons_succ]) | (refine heads_pure _ (by rfl) (fun w' => by go_simp; try with_reducible rfl) ?_; simp only [Act.put, List.setIfInBounds_toArray, List.set_cons_zero, List.set_cons_succ]) | (refine heads_skip (by rfl) ?_; simp only [Act.put, List.setIfInBounds_toArray, List.set_cons_zero, List.set_cons_succ]))
  refine heads_nil ?_
  refine stage_op 14 (by kernel_rfl) (L := #[true, true, true, true, true, true, true, true, true, true, true, true, true, true, true, true, true, false, false, false, false, false, false]) (by kernel_rfl) ?_
  simp only [List.drop_succ_cons, List.drop_zero, List.take_succ_cons, List.take_zero]
  go_wp2_with fail; refine (lfiles_any db mb tb DP _ (by first | exact HDQ.out.below I5.out | exact (HDQ.out.below I5.out).below ((Below.refl _ _).drew)) GDP.out.wf).mono ?_; rintro e u14 ⟨v14, rfl, hs14, hb⟩; have I14 : Hid (Below wQ.heap.size wQ u14) := Lib.hid (by first | exact I5.out.trans (hb.mono I5.out.size) | exact I5.out.trans (((Below.refl _ _).drew.trans hb).mono I5.out.size)); clear hb; have S14 := Lib.hid hs14; clear hs14; go_wp2_with fail
  refine step_post (fun _ => I14.out) ?_
  refine stage_op 17 (by kernel_rfl) (L := #[true, true, true, true, true, true, true, true, true, true, true, true, true, true, true, true, true, true, false, false, false, false, false]) (by kernel_rfl) ?_
  simp only [List.drop_succ_cons, List.drop_zero, List.take_succ_cons, List.take_zero]
  go_wp2_with fail; refine (rsameL_any _ _ DP.files _ (by first | exact S14.out | exact (S14.out).below ((Below.refl _ _).drew)) (by first | exact HSQ.out.below I14.out | exact (HSQ.out.below I14.out).below ((Below.refl _ _).drew)) (by have := GDP.out.few; omega)).mono ?_; rintro e u17 ⟨rfl, hb⟩; have I17 : Hid (Below wQ.heap.size wQ u17) := Lib.hid (by first | exact I14.out.trans (hb.mono I14.out.size) | exact I14.out.trans (((Below.refl _ _).drew.trans hb).mono I14.out.size)); clear hb; go_wp2_with fail
  refine step_post nofun ?_
  refine stage_heads [18, 19] (by kernel_rfl) (L := #[true, true, true, true, true, true, true, true, true, true, true, true, true, true, true, true, true, true, true, true, false, false, false]) (by kernel_rfl) (f' := 3) rfl (fun _ _ _ _ h => h) (fun w o h => STQ.alloc h o) (.inl (by kernel_rfl)) ?_
  simp only [List.flatMap_cons, List.flatMap_nil, List.drop_succ_cons, List.drop_zero, List.take_succ_cons, List.take_zero, List.cons_append, List.nil_append, List.append_nil]
  iterate 2 (refine heads_pure _ (by rfl) (fun w' => by go_simp; try with_reducible rfl) ?_; simp only [Act.put, List.setIfInBounds_toArray, List.set_cons_zero, List.set_cons_succ])
  refine heads_nil ?_
  refine stage_op 20 (by kernel_rfl) (L := #[true, true, true, true, true, true, true, true, true, true, true, true, true, true, true, true, true, true, true, true, true, false, false]) (by kernel_rfl) ?_
  simp only [List.drop_succ_cons, List.drop_zero, List.take_succ_cons, List.take_zero]
  go_wp2_with fail; refine (vlives_any _).mono ?_; rintro e u20 ⟨rfl, hb⟩; have I20 : Hid (Below wQ.heap.size wQ u20) := Lib.hid (by first | exact I17.out.trans (hb.mono I17.out.size) | exact I17.out.trans (((Below.refl _ _).drew.trans hb).mono I17.out.size)); clear hb; go_wp2_with fail
  refine step_post nofun ?_
  refine stage_heads [21, 22] (by kernel_rfl) (L := #[true, true, true, true, true, true, true, true, true, true, true, true, true, true, true, true, true, true, true, true, true, true, true]) (by kernel_rfl) (f' := 0) rfl (fun _ _ _ _ h => h) (fun w o h => STQ.alloc h o) (.inl (by kernel_rfl)) ?_
  simp only [List.flatMap_cons, List.flatMap_nil, List.drop_succ_cons, List.drop_zero, List.take_succ_cons, List.take_zero, List.cons_append, List.nil_append, List.append_nil]
  iterate 2 (refine heads_pure _ (by rfl) (fun w' => by go_simp; try with_reducible rfl) ?_; simp only [Act.put, List.setIfInBounds_toArray, List.set_cons_zero, List.set_cons_succ])
  refine heads_nil ?_
  refine stage_done (by kernel_rfl) ?_
  go_wp2_with fail
  go_ret
  exact ⟨rfl, BLQ.out.trans (I20.out.mono BLQ.out.size)⟩
set_option maxHeartbeats 4000000 in
set_option maxRecDepth 20000 in
theorem vopens_tf (l1 l2 : List Nat) (v1 v2 : Value) (w : World) (h1 : Bytes w v1 l1) (h2 : Bytes w v2 l2) (hs : l1.length + l2.length ≤ 20000) :
    Calls Tryz.prog 4 #[v1, v2, .bool true, .bool false] w fun e w' => e = .returned (.bool true) ∧ Below w.heap.size w w' := by
  have HX1 := Lib.hid h1
  have HX2 := Lib.hid h2
  have HSZ1 : Hid (l1.length ≤ 2097152) := Lib.hid (by omega)
  have HSZ2 : Hid (l2.length ≤ 2097152) := Lib.hid (by omega)
  obtain ⟨x1, y1, rfl, _⟩ := h1.shape
  obtain ⟨x2, y2, rfl, _⟩ := h2.shape
  obtain ⟨n1, hn1⟩ : ∃ n, l1.length = n := ⟨_, rfl⟩
  obtain ⟨n2, hn2⟩ : ∃ n, l2.length = n := ⟨_, rfl⟩
  rw [hn1, hn2] at hs
  rw [hn1] at HX1 ⊢
  rw [hn2] at HX2 ⊢
  have hsi : (n1 : Int) + (n2 : Int) ≤ 20000 := by omega
  clear h1 h2 hs hn1 hn2
  go_enter Tryz.func4, Tryz.ntmps4
  go_wp2_with fail
  refine (dnew 1048576 _ (by decide) (by decide)).mono ?_
  rintro e w1 ⟨db, mb, tb, rfl, hd1, hb1, nd, nm, nt⟩
  have HD1 := Lib.hid hd1
  have B1 := Lib.hid hb1
  have ND : Hid (∀ k, Own3 db mb tb k → w.heap.size ≤ k) := Lib.hid (fun k hk => by rcases hk with rfl | rfl | rfl <;> assumption)
  clear hd1 hb1 nd nm nt
  go_wp2_with fail
  refine (rnew_is 1048576 w1).mono ?_
  rintro e w2 ⟨rfl, hb2⟩
  obtain ⟨aA, haA⟩ : ∃ a : Option Addr, a = none := ⟨_, rfl⟩
  have HAA := Lib.hid haA
  obtain ⟨cA, hcA⟩ : ∃ c : Nat, c = 0 := ⟨_, rfl⟩
  have hsA : SRow w2 3 (.slice aA 0 cA) (([] : List FileS).map rfV) := by rw [haA, hcA]; exact SRow.nil _ _
  rw [show (Value.slice none 0 0) = .slice aA 0 cA by rw [haA, hcA]]
  have B2 : Hid (Below w.heap.size w w2) := Lib.hid (B1.out.trans (hb2.mono B1.out.size))
  have HD2 := Lib.hid (HD1.out.below hb2)
  have HSb := Lib.hid hsA
  clear hb2 hsA haA hcA
  go_wp2_with fail
  have hbx := BO.box w2 db ⟨1048576, [], false, -1, 0⟩ (.slice aA 0 cA)
  have hal : Below w2.heap.size w2 (w2.alloc (.cells #[.pointer (some ⟨db, 0, none⟩), .pointer none, .int .i64 1048576, .slice aA 0 cA, .bool false, .int .i64 (-1), .int .u64 0, .int .u64 0, .int .i64 0] 54)) := (Below.refl _ _).alloc (Nat.le_refl _) _
  simp only at hbx
  have BLA := Lib.hid (B2.out.trans (hal.mono B2.out.size))
  have HDA := Lib.hid (HD2.out.below hal)
  have HSa := Lib.hid (HSb.out.below hal)
  have NO : Hid (¬ Own3 db mb tb w2.heap.size) := Lib.hid (fun h => by have := HD2.out.lt3 _ h; omega)
  have BO1 : Hid (w.heap.size ≤ w2.heap.size) := Lib.hid B2.out.size
  have OB : Hid (∀ k, Own3 db mb tb k → w.heap.size ≤ k) := ND
  have HBA := Lib.hid hbx
  clear hbx hal
  generalize World.alloc w2 _ = wA at *
  generalize w2.heap.size = bo at *
  obtain ⟨nA, hnA⟩ : ∃ n, n = 0 := ⟨_, rfl⟩
  have APA : Hid (∀ b, (Value.slice aA nA cA).ownBlock = some b → ¬ Own3 db mb tb b) := Lib.hid (fun b hb h3 => by rw [HAA.out] at hb; cases hb)
  obtain ⟨DA, hDA⟩ : ∃ D, D = (⟨1048576, [], false, -1, 0⟩ : DiskS) := ⟨_, rfl⟩
  rw [← hnA] at HBA HSa
  rw [← hDA] at HBA HDA
  have HSA : Hid (SRow wA 3 (.slice aA nA cA) (DA.files.map rfV)) := Lib.hid (by rw [hDA]; exact HSa.out)
  have GDA : Hid (DGood DA) := Lib.hid (by rw [hDA]; exact ⟨⟨by decide, by decide, by decide, by decide, by decide, by decide, by decide, fun f h => by cases h⟩, by decide, by decide⟩)
  have SZA : Hid (DA.steps ≤ 5) := Lib.hid (by rw [hDA]; decide)
  have CAA : Hid (Calm DA) := Lib.hid (by rw [hDA]; exact ⟨rfl, rfl⟩)
  have B8A : Hid (Byt8 DA.files) := Lib.hid (by rw [hDA]; exact fun f h => by cases h)
  have HNA : Hid (DA.files.length = nA) := Lib.hid (by rw [hDA, hnA]; rfl)
  clear HSa HD2 HSb HD1 hDA hnA
  have q0 := HBA.out.c0
  go_wp2_with fail
  refine (dapp_any db mb tb DA nVow _ l1 _ HDA.out GDA.out (HX1.out.below BLA.out) (by decide)).mono ?_
  rintro e wAm ⟨rfl, hd, hk⟩
  have HDAm := Lib.hid hd
  have HBAm := Lib.hid (HBA.out.kept hk NO.out)
  have HSAm : Hid (SRow wAm 3 (.slice aA nA cA) (DA.files.map rfV)) := Lib.hid (HSA.out.kept hk (.inr APA.out))
  have BLAm : Hid (Below w.heap.size w wAm) := Lib.hid (BLA.out.trans (hk.below BLA.out.size OB.out))
  have STAm := Stable.from wAm
  clear hd hk q0
  go_wp2_with fail
  refine region_start [0, 0, 2, 6, 14, 0, 32, 126, 254, 510, 510, 1023, 3071, 7167] 0 (fun w' => Below wAm.heap.size wAm w') (by kernel_rfl) ?_
  refine stage_heads [0, 1, 2, 3, 4, 5, 6] (by kernel_rfl) (L := #[true, true, true, true, true, true, true, false, false, false, false, false, false, false]) (by kernel_rfl) (f' := 7) rfl (fun _ _ _ _ h => h) (fun w o h => STAm.alloc h o) (.inr (by first | exact Below.refl _ _ | exact (Below.refl _ _).drew)) ?_
  simp only [List.flatMap_cons, List.flatMap_nil, List.drop_succ_cons, List.drop_zero, List.take_succ_cons, List.take_zero, List.cons_append, List.nil_append, List.append_nil]
  iterate 7 (first | (refine heads_load _ (by rfl) (fun w' hs => by obtain ⟨r0, ⟨rp, r1⟩, r2, r3, r4, r5, r6, _⟩ := HBAm.out.below hs; have y0 := ((HX1.out.below BLAm.out).below hs).str Tryz.underlying22 Tryz.underlying5 Tryz.underlying9; go_simp; try with_reducible rfl) rfl ?_; simp only [Act.put, List.setIfInBounds_toArray, List.set_cons_zero, List.set_cons_succ]) | (refine heads_pure _ (by rfl) (fun w' => by go_simp; try with_reducible rfl) ?_; simp only [Act.put, List.setIfInBounds_toArray, List.set_cons_zero, List.set_cons_succ]))
  refine heads_nil ?_
  refine stage_op 7 (by kernel_rfl) (L := #[true, true, true, true, true, true, true, true, false, false, false, false, false, false]) (by kernel_rfl) ?_
  simp only [List.drop_succ_cons, List.drop_zero, List.take_succ_cons, List.take_zero]
  go_wp2_with fail; refine (rappend_new _ DA nVow l1 _ (by first | exact (RIs.new HNA.out HSAm.out) | exact (RIs.new HNA.out HSAm.out).below ((Below.refl _ _).drew)) GDA.out (by decide) HSZ1.out).mono ?_; rintro e wAr ⟨vAr, rfl, hrAr, hbAr, hfAr⟩; have BAr : Hid (Below wAm.heap.size wAm wAr) := Lib.hid (by first | exact hbAr | exact ((Below.refl _ _).drew).trans hbAr); have FAr : Hid (∀ g, fsOwn vAr = some g → (Value.slice aA nA cA).ownBlock = some g ∨ wAm.heap.size ≤ g) := Lib.hid hfAr; obtain ⟨aB, cB, rfl, hsAr⟩ := hrAr; have SAr := Lib.hid hsAr; clear hbAr hfAr hsAr; go_wp2_with fail
  refine step_post nofun ?_
  refine stage_heads [8, 9, 10, 11, 12] (by kernel_rfl) (L := #[true, true, true, true, true, true, true, true, true, true, true, true, true, false]) (by kernel_rfl) (f' := 1) rfl (fun _ _ _ _ h => h) (fun w o h => STAm.alloc h o) (.inl (by kernel_rfl)) ?_
  simp only [List.flatMap_cons, List.flatMap_nil, List.drop_succ_cons, List.drop_zero, List.take_succ_cons, List.take_zero, List.cons_append, List.nil_append, List.append_nil]
  iterate 5 (refine heads_pure _ (by rfl) (fun w' => by go_simp; try with_reducible rfl) ?_; simp only [Act.put, List.setIfInBounds_toArray, List.set_cons_zero, List.set_cons_succ])
  refine heads_nil ?_
  refine stage_op 13 (by kernel_rfl) (L := #[true, true, true, true, true, true, true, true, true, true, true, true, true, true]) (by kernel_rfl) ?_
  simp only [List.drop_succ_cons, List.drop_zero, List.take_succ_cons, List.take_zero]
  have HBAr := Lib.hid (HBAm.out.below BAr.out); obtain ⟨q0, ⟨qp, q1⟩, q2, q3, q4, q5, q6, g2, g3, g4, g5, g6⟩ := HBAr.out; go_wp2_with fail
  refine step_post nofun ?_
  refine stage_done (by kernel_rfl) ?_
  clear q0 q1 q2 q3 q4 q5 q6 g2 g3 g4 g5 g6
  have HBAq := HBAr.out.set (appendD DA nVow l1).1 (.slice aB (appendD DA nVow l1).1.files.length cB)
  have HDAq := (HDAm.out.below BAr.out).setPair HBAr.out NO.out (appendD DA nVow l1).1 (.slice aB (appendD DA nVow l1).1.files.length cB)
  have HSAq := SAr.out.setPair HBAr.out (appendD DA nVow l1).1 (.slice aB (appendD DA nVow l1).1.files.length cB)
  have BLAq : Below w.heap.size w (setBO wAr bo (appendD DA nVow l1).1 (.slice aB (appendD DA nVow l1).1.files.length cB)) := (BLAm.out.trans (BAr.out.mono BLAm.out.size)).trans ((Kept.setBO wAr bo (appendD DA nVow l1).1 (.slice aB (appendD DA nVow l1).1.files.length cB)).below (Nat.le_trans BLAm.out.size BAr.out.size) (fun k hk => by rw [hk]; exact BO1.out))
  have APB : Hid (∀ b, (Value.slice aB (appendD DA nVow l1).1.files.length cB).ownBlock = some b → ¬ Own3 db mb tb b) := Lib.hid (fun b hb h3 => by
    rcases FAr.out b hb with e | e
    · exact APA.out b e h3
    · have := HDAm.out.lt3 b h3; omega)
  have hgd := GDA.out.append nVow l1 (by have := SZA.out; omega)
  have GDB := Lib.hid hgd.1
  have SZB : Hid ((appendD DA nVow l1).1.steps ≤ 6) := Lib.hid (by have := hgd.2; have := SZA.out; omega)
  have CAB := Lib.hid (appendD_calm CAA.out nVow l1)
  have B8B := Lib.hid (B8A.out.append nVow l1 HX1.out.lt)
  unfold setBO at HBAq HDAq HSAq BLAq
  generalize (appendD DA nVow l1).1 = DB at *
  obtain ⟨nB, hnB⟩ : ∃ n, DB.files.length = n := ⟨_, rfl⟩
  have HNB := Lib.hid hnB
  rw [hnB] at HBAq HDAq HSAq BLAq APB ⊢
  generalize World.setCell _ _ _ = wB at *
  have HBB := Lib.hid HBAq
  have HDB := Lib.hid HDAq
  have HSB := Lib.hid HSAq
  have BLB := Lib.hid BLAq
  clear HBAq HDAq HSAq BLAq hnB hgd
  have q0 := HBB.out.c0
  go_wp2_with fail
  refine (vopen_any db mb tb DB _ HDB.out GDB.out (by have := SZB.out; omega)).mono ?_
  rintro e wO ⟨-, hok, hdO, hkO⟩
  obtain ⟨bc, rfl, hbk, -⟩ := hok (open0 CAB.out)
  have KO := Lib.hid hbk
  have HDO := Lib.hid hdO
  have HBO := Lib.hid (HBB.out.kept hkO NO.out)
  have HSO : Hid (SRow wO 3 (.slice aB nB cB) (DB.files.map rfV)) := Lib.hid (HSB.out.kept hkO (.inr APB.out))
  have BLO : Hid (Below w.heap.size w wO) := Lib.hid (BLB.out.trans (hkO.below BLB.out.size OB.out))
  have OE : Hid ((vopenD DB).2 = 0) := Lib.hid (open0 CAB.out)
  clear hok hbk hdO hkO q0
  obtain ⟨q0, ⟨qp, q1⟩, q2, q3, q4, q5, q6, _⟩ := HBO.out
  go_wp2_with fail
  refine (ropen_any _ DB _ (RIs.new HNB.out HSO.out) GDB.out CAB.out (by have := SZB.out; omega) B8B.out).mono ?_
  rintro e wP ⟨v', rfl, hrP, hbP⟩
  obtain ⟨aR, cR, rfl, hsR⟩ := hrP
  have KP := Lib.hid (KO.out.below hbP)
  have HDP := Lib.hid (HDO.out.below hbP)
  have HBP := Lib.hid (HBO.out.below hbP)
  have HSP := Lib.hid hsR
  have BLP := Lib.hid (BLO.out.trans (hbP.mono BLO.out.size))
  have hgo := vopenD_good GDB.out (by have := SZB.out; omega)
  have GDP := Lib.hid hgo.1
  clear hsR hbP hgo q0 q1 q2 q3 q4 q5 q6
  generalize (vopenD DB).1 = DP at *
  generalize (vopenS DB).t = st at *
  generalize (vopenS DB).v = sv at *
  go_wp2_with fail
  have hxq := (RD.box wP DP (.slice aR DP.files.length cR)).below ((Below.refl _ _).alloc (Nat.le_refl _) (.cells #[.int .u64 st, .int .i64 sv] 52))
  have htq := SC.box26 (wP.alloc (.cells #[.int .i64 DP.room, .slice aR DP.files.length cR, .bool DP.down, .int .i64 DP.armed, .int .u64 DP.steps] 29)) st sv
  have hbq : Below wP.heap.size wP ((wP.alloc (.cells #[.int .i64 DP.room, .slice aR DP.files.length cR, .bool DP.down, .int .i64 DP.armed, .int .u64 DP.steps] 29)).alloc (.cells #[.int .u64 st, .int .i64 sv] 52)) := ((Below.refl _ _).alloc (Nat.le_refl _) _).alloc (by simp) _
  rw [World.size_alloc] at htq
  generalize World.alloc (World.alloc wP _) _ = wQ at *
  have XQ := Lib.hid hxq
  have TQ := Lib.hid htq
  have KQ := Lib.hid (KP.out.below hbq)
  have HDQ := Lib.hid (HDP.out.below hbq)
  have HBQ := Lib.hid (HBP.out.below hbq)
  have HSQ := Lib.hid (HSP.out.below hbq)
  have BLQ := Lib.hid (BLP.out.trans (hbq.mono BLP.out.size))
  have STQ := Stable.from wQ
  clear hxq htq hbq
  refine region_start [0, 0, 3, 7, 15, 31, 15, 127, 255, 511, 1023, 2047, 4095, 8191, 16383, 1023, 33791, 131071, 262143, 524287, 1048575, 2097151, 4194303] 130080 (fun w' => Below wQ.heap.size wQ w') (by kernel_rfl) ?_
  refine stage_heads [0, 1, 2, 3, 4, 6] (by kernel_rfl) (L := #[true, true, true, true, true, false, true, false, false, false, false, false, false, false, false, false, false, false, false, false, false, false, false]) (by kernel_rfl) (f' := 17) rfl (fun _ _ _ _ h => h) (fun w o h => STQ.alloc h o) (.inr (by first | exact Below.refl _ _ | exact (Below.refl _ _).drew)) ?_
  simp only [List.flatMap_cons, List.flatMap_nil, List.drop_succ_cons, List.drop_zero, List.take_succ_cons, List.take_zero, List.cons_append, List.nil_append, List.append_nil]
  iterate 6 (first | (refine heads_load _ (by rfl) (fun w' hs => by obtain ⟨r0, r1, r2, r3, r4, _⟩ := XQ.out.below hs; obtain ⟨t0, t1, _, _⟩ := TQ.out.below hs; have b0 := (HBQ.out.below hs).c0; go_simp; try with_reducible rfl) rfl ?_; simp only [Act.put, List.setIfInBounds_toArray, List.set_cons_zero, List.set_cons_succ]) | (refine heads_pure _ (by rfl) (fun w' => by go_simp; try with_reducible rfl) ?_; simp only [Act.put, List.setIfInBounds_toArray, List.set_cons_zero, List.set_cons_succ]) | (refine heads_skip (by rfl) ?_; simp only [Act.put, List.setIfInBounds_toArray, List.set_cons_zero, List.set_cons_succ]))
  refine heads_nil ?_
  refine stage_op 5 (by kernel_rfl) (L := #[true, true, true, true, true, true, true, false, false, false, false, false, false, false, false, false, false, false, false, false, false, false, false]) (by kernel_rfl) ?_
  simp only [List.drop_succ_cons, List.drop_zero, List.take_succ_cons, List.take_zero]
  go_wp2_with fail; refine (vstate_any bc db _ _ _ (by first | exact KQ.out | exact (KQ.out).below ((Below.refl _ _).drew))).mono ?_; rintro e u5 ⟨rfl, hb⟩; have I5 : Hid (Below wQ.heap.size wQ u5) := Lib.hid (by first | exact hb | exact ((Below.refl _ _).drew).trans hb); clear hb; go_wp2_with fail
  refine step_post (fun _ => I5.out) ?_
  refine stage_heads [7, 8, 9, 10, 11, 12, 13, 15, 16] (by kernel_rfl) (L := #[true, true, true, true, true, true, true, true, true, true, true, true, true, true, false, true, true, false, false, false, false, false, false]) (by kernel_rfl) (f' := 7) rfl (fun _ _ _ _ h => h) (fun w o h => STQ.alloc h o) (.inr (by first | exact I5.out | exact STQ.drew I5.out)) ?_
  simp only [List.flatMap_cons, List.flatMap_nil, List.drop_succ_cons, List.drop_zero, List.take_succ_cons, List.take_zero, List.cons_append, List.nil_append, List.append_nil]
  iterate 9 (first | (refine heads_load _ (by rfl) (fun w' hs => by obtain ⟨r0, r1, r2, r3, r4, _⟩ := XQ.out.below hs; obtain ⟨t0, t1, _, _⟩ := TQ.out.below hs; have b0 := (HBQ.out.below hs).c0; go_simp; try with_reducible rfl) rfl ?_; simp only [Act.put, List.setIfInBounds_toArray, List.set_cons_zero, List.set_cons_succ]) | (refine heads_pure _ (by rfl) (fun w' => by go_simp; try with_reducible rfl) ?_; simp only [Act.put, List.setIfInBounds_toArray, List.set_cons_zero, List.set_cons_succ]) | (refine heads_skip (by rfl) ?_; simp only [Act.put, List.setIfInBounds_toArray, List.set_cons_zero, List.set_cons_succ]))
  refine heads_nil ?_
  refine stage_op 14 (by kernel_rfl) (L := #[true, true, true, true, true, true, true, true, true, true, true, true, true, true, true, true, true, false, false, false, false, false, false]) (by kernel_rfl) ?_
  simp only [List.drop_succ_cons, List.drop_zero, List.take_succ_cons, List.take_zero]
  go_wp2_with fail; refine (lfiles_any db mb tb DP _ (by first | exact HDQ.out.below I5.out | exact (HDQ.out.below I5.out).below ((Below.refl _ _).drew)) GDP.out.wf).mono ?_; rintro e u14 ⟨v14, rfl, hs14, hb⟩; have I14 : Hid (Below wQ.heap.size wQ u14) := Lib.hid (by first | exact I5.out.trans (hb.mono I5.out.size) | exact I5.out.trans (((Below.refl _ _).drew.trans hb).mono I5.out.size)); clear hb; have S14 := Lib.hid hs14; clear hs14; go_wp2_with fail
  refine step_post (fun _ => I14.out) ?_
  refine stage_op 17 (by kernel_rfl) (L := #[true, true, true, true, true, true, true, true, true, true, true, true, true, true, true, true, true, true, false, false, false, false, false]) (by kernel_rfl) ?_
  simp only [List.drop_succ_cons, List.drop_zero, List.take_succ_cons, List.take_zero]
  go_wp2_with fail; refine (rsameL_any _ _ DP.files _ (by first | exact S14.out | exact (S14.out).below ((Below.refl _ _).drew)) (by first | exact HSQ.out.below I14.out | exact (HSQ.out.below I14.out).below ((Below.refl _ _).drew)) (by have := GDP.out.few; omega)).mono ?_; rintro e u17 ⟨rfl, hb⟩; have I17 : Hid (Below wQ.heap.size wQ u17) := Lib.hid (by first | exact I14.out.trans (hb.mono I14.out.size) | exact I14.out.trans (((Below.refl _ _).drew.trans hb).mono I14.out.size)); clear hb; go_wp2_with fail
  refine step_post nofun ?_
  refine stage_heads [18, 19] (by kernel_rfl) (L := #[true, true, true, true, true, true, true, true, true, true, true, true, true, true, true, true, true, true, true, true, false, false, false]) (by kernel_rfl) (f' := 3) rfl (fun _ _ _ _ h => h) (fun w o h => STQ.alloc h o) (.inl (by kernel_rfl)) ?_
  simp only [List.flatMap_cons, List.flatMap_nil, List.drop_succ_cons, List.drop_zero, List.take_succ_cons, List.take_zero, List.cons_append, List.nil_append, List.append_nil]
  iterate 2 (refine heads_pure _ (by rfl) (fun w' => by go_simp; try with_reducible rfl) ?_; simp only [Act.put, List.setIfInBounds_toArray, List.set_cons_zero, List.set_cons_succ])
  refine heads_nil ?_
  refine stage_op 20 (by kernel_rfl) (L := #[true, true, true, true, true, true, true, true, true, true, true, true, true, true, true, true, true, true, true, true, true, false, false]) (by kernel_rfl) ?_
  simp only [List.drop_succ_cons, List.drop_zero, List.take_succ_cons, List.take_zero]
  go_wp2_with fail; refine (vlives_any _).mono ?_; rintro e u20 ⟨rfl, hb⟩; have I20 : Hid (Below wQ.heap.size wQ u20) := Lib.hid (by first | exact I17.out.trans (hb.mono I17.out.size) | exact I17.out.trans (((Below.refl _ _).drew.trans hb).mono I17.out.size)); clear hb; go_wp2_with fail
  refine step_post nofun ?_
  refine stage_heads [21, 22] (by kernel_rfl) (L := #[true, true, true, true, true, true, true, true, true, true, true, true, true, true, true, true, true, true, true, true, true, true, true]) (by kernel_rfl) (f' := 0) rfl (fun _ _ _ _ h => h) (fun w o h => STQ.alloc h o) (.inl (by kernel_rfl)) ?_
  simp only [List.flatMap_cons, List.flatMap_nil, List.drop_succ_cons, List.drop_zero, List.take_succ_cons, List.take_zero, List.cons_append, List.nil_append, List.append_nil]
  iterate 2 (refine heads_pure _ (by rfl) (fun w' => by go_simp; try with_reducible rfl) ?_; simp only [Act.put, List.setIfInBounds_toArray, List.set_cons_zero, List.set_cons_succ])
  refine heads_nil ?_
  refine stage_done (by kernel_rfl) ?_
  go_wp2_with fail
  go_ret
  exact ⟨rfl, BLQ.out.trans (I20.out.mono BLQ.out.size)⟩
set_option maxHeartbeats 4000000 in
set_option maxRecDepth 20000 in
theorem vopens_ft (l1 l2 : List Nat) (v1 v2 : Value) (w : World) (h1 : Bytes w v1 l1) (h2 : Bytes w v2 l2) (hs : l1.length + l2.length ≤ 20000) :
    Calls Tryz.prog 4 #[v1, v2, .bool false, .bool true] w fun e w' => e = .returned (.bool true) ∧ Below w.heap.size w w' := by
  have HX1 := Lib.hid h1
  have HX2 := Lib.hid h2
  have HSZ1 : Hid (l1.length ≤ 2097152) := Lib.hid (by omega)
  have HSZ2 : Hid (l2.length ≤ 2097152) := Lib.hid (by omega)
  obtain ⟨x1, y1, rfl, _⟩ := h1.shape
  obtain ⟨x2, y2, rfl, _⟩ := h2.shape
  obtain ⟨n1, hn1⟩ : ∃ n, l1.length = n := ⟨_, rfl⟩
  obtain ⟨n2, hn2⟩ : ∃ n, l2.length = n := ⟨_, rfl⟩
  rw [hn1, hn2] at hs
  rw [hn1] at HX1 ⊢
  rw [hn2] at HX2 ⊢
  have hsi : (n1 : Int) + (n2 : Int) ≤ 20000 := by omega
  clear h1 h2 hs hn1 hn2
  go_enter Tryz.func4, Tryz.ntmps4
  go_wp2_with fail
  refine (dnew 1048576 _ (by decide) (by decide)).mono ?_
  rintro e w1 ⟨db, mb, tb, rfl, hd1, hb1, nd, nm, nt⟩
  have HD1 := Lib.hid hd1
  have B1 := Lib.hid hb1
  have ND : Hid (∀ k, Own3 db mb tb k → w.heap.size ≤ k) := Lib.hid (fun k hk => by rcases hk with rfl | rfl | rfl <;> assumption)
  clear hd1 hb1 nd nm nt
  go_wp2_with fail
  refine (rnew_is 1048576 w1).mono ?_
  rintro e w2 ⟨rfl, hb2⟩
  obtain ⟨aA, haA⟩ : ∃ a : Option Addr, a = none := ⟨_, rfl⟩
  have HAA := Lib.hid haA
  obtain ⟨cA, hcA⟩ : ∃ c : Nat, c = 0 := ⟨_, rfl⟩
  have hsA : SRow w2 3 (.slice aA 0 cA) (([] : List FileS).map rfV) := by rw [haA, hcA]; exact SRow.nil _ _
  rw [show (Value.slice none 0 0) = .slice aA 0 cA by rw [haA, hcA]]
  have B2 : Hid (Below w.heap.size w w2) := Lib.hid (B1.out.trans (hb2.mono B1.out.size))
  have HD2 := Lib.hid (HD1.out.below hb2)
  have HSb := Lib.hid hsA
  clear hb2 hsA haA hcA
  go_wp2_with fail
  have hbx := BO.box w2 db ⟨1048576, [], false, -1, 0⟩ (.slice aA 0 cA)
  have hal : Below w2.heap.size w2 (w2.alloc (.cells #[.pointer (some ⟨db, 0, none⟩), .pointer none, .int .i64 1048576, .slice aA 0 cA, .bool false, .int .i64 (-1), .int .u64 0, .int .u64 0, .int .i64 0] 54)) := (Below.refl _ _).alloc (Nat.le_refl _) _
  simp only at hbx
  have BLA := Lib.hid (B2.out.trans (hal.mono B2.out.size))
  have HDA := Lib.hid (HD2.out.below hal)
  have HSa := Lib.hid (HSb.out.below hal)
  have NO : Hid (¬ Own3 db mb tb w2.heap.size) := Lib.hid (fun h => by have := HD2.out.lt3 _ h; omega)
  have BO1 : Hid (w.heap.size ≤ w2.heap.size) := Lib.hid B2.out.size
  have OB : Hid (∀ k, Own3 db mb tb k → w.heap.size ≤ k) := ND
  have HBA := Lib.hid hbx
  clear hbx hal
  generalize World.alloc w2 _ = wA at *
  generalize w2.heap.size = bo at *
  obtain ⟨nA, hnA⟩ : ∃ n, n = 0 := ⟨_, rfl⟩
  have APA : Hid (∀ b, (Value.slice aA nA cA).ownBlock = some b → ¬ Own3 db mb tb b) := Lib.hid (fun b hb h3 => by rw [HAA.out] at hb; cases hb)
  obtain ⟨DA, hDA⟩ : ∃ D, D = (⟨1048576, [], false, -1, 0⟩ : DiskS) := ⟨_, rfl⟩
  rw [← hnA] at HBA HSa
  rw [← hDA] at HBA HDA
  have HSA : Hid (SRow wA 3 (.slice aA nA cA) (DA.files.map rfV)) := Lib.hid (by rw [hDA]; exact HSa.out)
  have GDA : Hid (DGood DA) := Lib.hid (by rw [hDA]; exact ⟨⟨by decide, by decide, by decide, by decide, by decide, by decide, by decide, fun f h => by cases h⟩, by decide, by decide⟩)
  have SZA : Hid (DA.steps ≤ 5) := Lib.hid (by rw [hDA]; decide)
  have CAA : Hid (Calm DA) := Lib.hid (by rw [hDA]; exact ⟨rfl, rfl⟩)
  have B8A : Hid (Byt8 DA.files) := Lib.hid (by rw [hDA]; exact fun f h => by cases h)
  have HNA : Hid (DA.files.length = nA) := Lib.hid (by rw [hDA, hnA]; rfl)
  clear HSa HD2 HSb HD1 hDA hnA
  have q0 := HBA.out.c0
  go_wp2_with fail
  refine (dapp_any db mb tb DA nVowN _ l2 _ HDA.out GDA.out (HX2.out.below BLA.out) (by decide)).mono ?_
  rintro e wAm ⟨rfl, hd, hk⟩
  have HDAm := Lib.hid hd
  have HBAm := Lib.hid (HBA.out.kept hk NO.out)
  have HSAm : Hid (SRow wAm 3 (.slice aA nA cA) (DA.files.map rfV)) := Lib.hid (HSA.out.kept hk (.inr APA.out))
  have BLAm : Hid (Below w.heap.size w wAm) := Lib.hid (BLA.out.trans (hk.below BLA.out.size OB.out))
  have STAm := Stable.from wAm
  clear hd hk q0
  go_wp2_with fail
  refine region_start [0, 0, 2, 6, 14, 0, 32, 126, 254, 510, 510, 1023, 3071, 7167] 0 (fun w' => Below wAm.heap.size wAm w') (by kernel_rfl) ?_
  refine stage_heads [0, 1, 2, 3, 4, 5, 6] (by kernel_rfl) (L := #[true, true, true, true, true, true, true, false, false, false, false, false, false, false]) (by kernel_rfl) (f' := 7) rfl (fun _ _ _ _ h => h) (fun w o h => STAm.alloc h o) (.inr (by first | exact Below.refl _ _ | exact (Below.refl _ _).drew)) ?_
  simp only [List.flatMap_cons, List.flatMap_nil, List.drop_succ_cons, List.drop_zero, List.take_succ_cons, List.take_zero, List.cons_append, List.nil_append, List.append_nil]
  iterate 7 (first | (refine heads_load _ (by rfl) (fun w' hs => by obtain ⟨r0, ⟨rp, r1⟩, r2, r3, r4, r5, r6, _⟩ := HBAm.out.below hs; have y0 := ((HX2.out.below BLAm.out).below hs).str Tryz.underlying22 Tryz.underlying5 Tryz.underlying9; go_simp; try with_reducible rfl) rfl ?_; simp only [Act.put, List.setIfInBounds_toArray, List.set_cons_zero, List.set_cons_succ]) | (refine heads_pure _ (by rfl) (fun w' => by go_simp; try with_reducible rfl) ?_; simp only [Act.put, List.setIfInBounds_toArray, List.set_cons_zero, List.set_cons_succ]))
  refine heads_nil ?_
  refine stage_op 7 (by kernel_rfl) (L := #[true, true, true, true, true, true, true, true, false, false, false, false, false, false]) (by kernel_rfl) ?_
  simp only [List.drop_succ_cons, List.drop_zero, List.take_succ_cons, List.take_zero]
  go_wp2_with fail; refine (rappend_new _ DA nVowN l2 _ (by first | exact (RIs.new HNA.out HSAm.out) | exact (RIs.new HNA.out HSAm.out).below ((Below.refl _ _).drew)) GDA.out (by decide) HSZ2.out).mono ?_; rintro e wAr ⟨vAr, rfl, hrAr, hbAr, hfAr⟩; have BAr : Hid (Below wAm.heap.size wAm wAr) := Lib.hid (by first | exact hbAr | exact ((Below.refl _ _).drew).trans hbAr); have FAr : Hid (∀ g, fsOwn vAr = some g → (Value.slice aA nA cA).ownBlock = some g ∨ wAm.heap.size ≤ g) := Lib.hid hfAr; obtain ⟨aB, cB, rfl, hsAr⟩ := hrAr; have SAr := Lib.hid hsAr; clear hbAr hfAr hsAr; go_wp2_with fail
  refine step_post nofun ?_
  refine stage_heads [8, 9, 10, 11, 12] (by kernel_rfl) (L := #[true, true, true, true, true, true, true, true, true, true, true, true, true, false]) (by kernel_rfl) (f' := 1) rfl (fun _ _ _ _ h => h) (fun w o h => STAm.alloc h o) (.inl (by kernel_rfl)) ?_
  simp only [List.flatMap_cons, List.flatMap_nil, List.drop_succ_cons, List.drop_zero, List.take_succ_cons, List.take_zero, List.cons_append, List.nil_append, List.append_nil]
  iterate 5 (refine heads_pure _ (by rfl) (fun w' => by go_simp; try with_reducible rfl) ?_; simp only [Act.put, List.setIfInBounds_toArray, List.set_cons_zero, List.set_cons_succ])
  refine heads_nil ?_
  refine stage_op 13 (by kernel_rfl) (L := #[true, true, true, true, true, true, true, true, true, true, true, true, true, true]) (by kernel_rfl) ?_
  simp only [List.drop_succ_cons, List.drop_zero, List.take_succ_cons, List.take_zero]
  have HBAr := Lib.hid (HBAm.out.below BAr.out); obtain ⟨q0, ⟨qp, q1⟩, q2, q3, q4, q5, q6, g2, g3, g4, g5, g6⟩ := HBAr.out; go_wp2_with fail
  refine step_post nofun ?_
  refine stage_done (by kernel_rfl) ?_
  clear q0 q1 q2 q3 q4 q5 q6 g2 g3 g4 g5 g6
  have HBAq := HBAr.out.set (appendD DA nVowN l2).1 (.slice aB (appendD DA nVowN l2).1.files.length cB)
  have HDAq := (HDAm.out.below BAr.out).setPair HBAr.out NO.out (appendD DA nVowN l2).1 (.slice aB (appendD DA nVowN l2).1.files.length cB)
  have HSAq := SAr.out.setPair HBAr.out (appendD DA nVowN l2).1 (.slice aB (appendD DA nVowN l2).1.files.length cB)
  have BLAq : Below w.heap.size w (setBO wAr bo (appendD DA nVowN l2).1 (.slice aB (appendD DA nVowN l2).1.files.length cB)) := (BLAm.out.trans (BAr.out.mono BLAm.out.size)).trans ((Kept.setBO wAr bo (appendD DA nVowN l2).1 (.slice aB (appendD DA nVowN l2).1.files.length cB)).below (Nat.le_trans BLAm.out.size BAr.out.size) (fun k hk => by rw [hk]; exact BO1.out))
  have APB : Hid (∀ b, (Value.slice aB (appendD DA nVowN l2).1.files.length cB).ownBlock = some b → ¬ Own3 db mb tb b) := Lib.hid (fun b hb h3 => by
    rcases FAr.out b hb with e | e
    · exact APA.out b e h3
    · have := HDAm.out.lt3 b h3; omega)
  have hgd := GDA.out.append nVowN l2 (by have := SZA.out; omega)
  have GDB := Lib.hid hgd.1
  have SZB : Hid ((appendD DA nVowN l2).1.steps ≤ 6) := Lib.hid (by have := hgd.2; have := SZA.out; omega)
  have CAB := Lib.hid (appendD_calm CAA.out nVowN l2)
  have B8B := Lib.hid (B8A.out.append nVowN l2 HX2.out.lt)
  unfold setBO at HBAq HDAq HSAq BLAq
  generalize (appendD DA nVowN l2).1 = DB at *
  obtain ⟨nB, hnB⟩ : ∃ n, DB.files.length = n := ⟨_, rfl⟩
  have HNB := Lib.hid hnB
  rw [hnB] at HBAq HDAq HSAq BLAq APB ⊢
  generalize World.setCell _ _ _ = wB at *
  have HBB := Lib.hid HBAq
  have HDB := Lib.hid HDAq
  have HSB := Lib.hid HSAq
  have BLB := Lib.hid BLAq
  clear HBAq HDAq HSAq BLAq hnB hgd
  have q0 := HBB.out.c0
  go_wp2_with fail
  refine (vopen_any db mb tb DB _ HDB.out GDB.out (by have := SZB.out; omega)).mono ?_
  rintro e wO ⟨-, hok, hdO, hkO⟩
  obtain ⟨bc, rfl, hbk, -⟩ := hok (open0 CAB.out)
  have KO := Lib.hid hbk
  have HDO := Lib.hid hdO
  have HBO := Lib.hid (HBB.out.kept hkO NO.out)
  have HSO : Hid (SRow wO 3 (.slice aB nB cB) (DB.files.map rfV)) := Lib.hid (HSB.out.kept hkO (.inr APB.out))
  have BLO : Hid (Below w.heap.size w wO) := Lib.hid (BLB.out.trans (hkO.below BLB.out.size OB.out))
  have OE : Hid ((vopenD DB).2 = 0) := Lib.hid (open0 CAB.out)
  clear hok hbk hdO hkO q0
  obtain ⟨q0, ⟨qp, q1⟩, q2, q3, q4, q5, q6, _⟩ := HBO.out
  go_wp2_with fail
  refine (ropen_any _ DB _ (RIs.new HNB.out HSO.out) GDB.out CAB.out (by have := SZB.out; omega) B8B.out).mono ?_
  rintro e wP ⟨v', rfl, hrP, hbP⟩
  obtain ⟨aR, cR, rfl, hsR⟩ := hrP
  have KP := Lib.hid (KO.out.below hbP)
  have HDP := Lib.hid (HDO.out.below hbP)
  have HBP := Lib.hid (HBO.out.below hbP)
  have HSP := Lib.hid hsR
  have BLP := Lib.hid (BLO.out.trans (hbP.mono BLO.out.size))
  have hgo := vopenD_good GDB.out (by have := SZB.out; omega)
  have GDP := Lib.hid hgo.1
  clear hsR hbP hgo q0 q1 q2 q3 q4 q5 q6
  generalize (vopenD DB).1 = DP at *
  generalize (vopenS DB).t = st at *
  generalize (vopenS DB).v = sv at *
  go_wp2_with fail
  have hxq := (RD.box wP DP (.slice aR DP.files.length cR)).below ((Below.refl _ _).alloc (Nat.le_refl _) (.cells #[.int .u64 st, .int .i64 sv] 52))
  have htq := SC.box26 (wP.alloc (.cells #[.int .i64 DP.room, .slice aR DP.files.length cR, .bool DP.down, .int .i64 DP.armed, .int .u64 DP.steps] 29)) st sv
  have hbq : Below wP.heap.size wP ((wP.alloc (.cells #[.int .i64 DP.room, .slice aR DP.files.length cR, .bool DP.down, .int .i64 DP.armed, .int .u64 DP.steps] 29)).alloc (.cells #[.int .u64 st, .int .i64 sv] 52)) := ((Below.refl _ _).alloc (Nat.le_refl _) _).alloc (by simp) _
  rw [World.size_alloc] at htq
  generalize World.alloc (World.alloc wP _) _ = wQ at *
  have XQ := Lib.hid hxq
  have TQ := Lib.hid htq
  have KQ := Lib.hid (KP.out.below hbq)
  have HDQ := Lib.hid (HDP.out.below hbq)
  have HBQ := Lib.hid (HBP.out.below hbq)
  have HSQ := Lib.hid (HSP.out.below hbq)
  have BLQ := Lib.hid (BLP.out.trans (hbq.mono BLP.out.size))
  have STQ := Stable.from wQ
  clear hxq htq hbq
  refine region_start [0, 0, 3, 7, 15, 31, 15, 127, 255, 511, 1023, 2047, 4095, 8191, 16383, 1023, 33791, 131071, 262143, 524287, 1048575, 2097151, 4194303] 130080 (fun w' => Below wQ.heap.size wQ w') (by kernel_rfl) ?_
  refine stage_heads [0, 1, 2, 3, 4, 6] (by kernel_rfl) (L := #[true, true, true, true, true, false, true, false, false, false, false, false, false, false, false, false, false, false, false, false, false, false, false]) (by kernel_rfl) (f' := 17) rfl (fun _ _ _ _ h => h) (fun w o h => STQ.alloc h o) (.inr (by first | exact Below.refl _ _ | exact (Below.refl _ _).drew)) ?_
  simp only [List.flatMap_cons, List.flatMap_nil, List.drop_succ_cons, List.drop_zero, List.take_succ_cons, List.take_zero, List.cons_append, List.nil_append, List.append_nil]
  iterate 6 (first | (refine heads_load _ (by rfl) (fun w' hs => by obtain ⟨r0, r1, r2, r3, r4, _⟩ := XQ.out.below hs; obtain ⟨t0, t1, _, _⟩ := TQ.out.below hs; have b0 := (HBQ.out.below hs).c0; go_simp; try with_reducible rfl) rfl ?_; simp only [Act.put, List.setIfInBounds_toArray, List.set_cons_zero, List.set_cons_succ]) | (refine heads_pure _ (by rfl) (fun w' => by go_simp; try with_reducible rfl) ?_; simp only [Act.put, List.setIfInBounds_toArray, List.set_cons_zero, List.set_cons_succ]) | (refine heads_skip (by rfl) ?_; simp only [Act.put, List.setIfInBounds_toArray, List.set_cons_zero, List.set_cons_succ]))
  refine heads_nil ?_
  refine stage_op 5 (by kernel_rfl) (L := #[true, true, true, true, true, true, true, false, false, false, false, false, false, false, false, false, false, false, false, false, false, false, false]) (by kernel_rfl) ?_
  simp only [List.drop_succ_cons, List.drop_zero, List.take_succ_cons, List.take_zero]
  go_wp2_with fail; refine (vstate_any bc db _ _ _ (by first | exact KQ.out | exact (KQ.out).below ((Below.refl _ _).drew))).mono ?_; rintro e u5 ⟨rfl, hb⟩; have I5 : Hid (Below wQ.heap.size wQ u5) := Lib.hid (by first | exact hb | exact ((Below.refl _ _).drew).trans hb); clear hb; go_wp2_with fail
  refine step_post (fun _ => I5.out) ?_
  refine stage_heads [7, 8, 9, 10, 11, 12, 13, 15, 16] (by kernel_rfl) (L := #[true, true, true, true, true, true, true, true, true, true, true, true, true, true, false, true, true, false, false, false, false, false, false]) (by kernel_rfl) (f' := 7) rfl (fun _ _ _ _ h => h) (fun w o h => STQ.alloc h o) (.inr (by first | exact I5.out | exact STQ.drew I5.out)) ?_
  simp only [List.flatMap_cons, List.flatMap_nil, List.drop_succ_cons, List.drop_zero, List.take_succ_cons, List.take_zero, List.cons_append, List.nil_append, List.append_nil]
  iterate 9 (first | (refine heads_load _ (by rfl) (fun w' hs => by obtain ⟨r0, r1, r2, r3, r4, _⟩ := XQ.out.below hs; obtain ⟨t0, t1, _, _⟩ := TQ.out.below hs; have b0 := (HBQ.out.below hs).c0; go_simp; try with_reducible rfl) rfl ?_; simp only [Act.put, List.setIfInBounds_toArray, List.set_cons_zero, List.set_cons_succ]) | (refine heads_pure _ (by rfl) (fun w' => by go_simp; try with_reducible rfl) ?_; simp only [Act.put, List.setIfInBounds_toArray, List.set_cons_zero, List.set_cons_succ]) | (refine heads_skip (by rfl) ?_; simp only [Act.put, List.setIfInBounds_toArray, List.set_cons_zero, List.set_cons_succ]))
  refine heads_nil ?_
  refine stage_op 14 (by kernel_rfl) (L := #[true, true, true, true, true, true, true, true, true, true, true, true, true, true, true, true, true, false, false, false, false, false, false]) (by kernel_rfl) ?_
  simp only [List.drop_succ_cons, List.drop_zero, List.take_succ_cons, List.take_zero]
  go_wp2_with fail; refine (lfiles_any db mb tb DP _ (by first | exact HDQ.out.below I5.out | exact (HDQ.out.below I5.out).below ((Below.refl _ _).drew)) GDP.out.wf).mono ?_; rintro e u14 ⟨v14, rfl, hs14, hb⟩; have I14 : Hid (Below wQ.heap.size wQ u14) := Lib.hid (by first | exact I5.out.trans (hb.mono I5.out.size) | exact I5.out.trans (((Below.refl _ _).drew.trans hb).mono I5.out.size)); clear hb; have S14 := Lib.hid hs14; clear hs14; go_wp2_with fail
  refine step_post (fun _ => I14.out) ?_
  refine stage_op 17 (by kernel_rfl) (L := #[true, true, true, true, true, true, true, true, true, true, true, true, true, true, true, true, true, true, false, false, false, false, false]) (by kernel_rfl) ?_
  simp only [List.drop_succ_cons, List.drop_zero, List.take_succ_cons, List.take_zero]
  go_wp2_with fail; refine (rsameL_any _ _ DP.files _ (by first | exact S14.out | exact (S14.out).below ((Below.refl _ _).drew)) (by first | exact HSQ.out.below I14.out | exact (HSQ.out.below I14.out).below ((Below.refl _ _).drew)) (by have := GDP.out.few; omega)).mono ?_; rintro e u17 ⟨rfl, hb⟩; have I17 : Hid (Below wQ.heap.size wQ u17) := Lib.hid (by first | exact I14.out.trans (hb.mono I14.out.size) | exact I14.out.trans (((Below.refl _ _).drew.trans hb).mono I14.out.size)); clear hb; go_wp2_with fail
  refine step_post nofun ?_
  refine stage_heads [18, 19] (by kernel_rfl) (L := #[true, true, true, true, true, true, true, true, true, true, true, true, true, true, true, true, true, true, true, true, false, false, false]) (by kernel_rfl) (f' := 3) rfl (fun _ _ _ _ h => h) (fun w o h => STQ.alloc h o) (.inl (by kernel_rfl)) ?_
  simp only [List.flatMap_cons, List.flatMap_nil, List.drop_succ_cons, List.drop_zero, List.take_succ_cons, List.take_zero, List.cons_append, List.nil_append, List.append_nil]
  iterate 2 (refine heads_pure _ (by rfl) (fun w' => by go_simp; try with_reducible rfl) ?_; simp only [Act.put, List.setIfInBounds_toArray, List.set_cons_zero, List.set_cons_succ])
  refine heads_nil ?_
  refine stage_op 20 (by kernel_rfl) (L := #[true, true, true, true, true, true, true, true, true, true, true, true, true, true, true, true, true, true, true, true, true, false, false]) (by kernel_rfl) ?_
  simp only [List.drop_succ_cons, List.drop_zero, List.take_succ_cons, List.take_zero]
  go_wp2_with fail; refine (vlives_any _).mono ?_; rintro e u20 ⟨rfl, hb⟩; have I20 : Hid (Below wQ.heap.size wQ u20) := Lib.hid (by first | exact I17.out.trans (hb.mono I17.out.size) | exact I17.out.trans (((Below.refl _ _).drew.trans hb).mono I17.out.size)); clear hb; go_wp2_with fail
  refine step_post nofun ?_
  refine stage_heads [21, 22] (by kernel_rfl) (L := #[true, true, true, true, true, true, true, true, true, true, true, true, true, true, true, true, true, true, true, true, true, true, true]) (by kernel_rfl) (f' := 0) rfl (fun _ _ _ _ h => h) (fun w o h => STQ.alloc h o) (.inl (by kernel_rfl)) ?_
  simp only [List.flatMap_cons, List.flatMap_nil, List.drop_succ_cons, List.drop_zero, List.take_succ_cons, List.take_zero, List.cons_append, List.nil_append, List.append_nil]
  iterate 2 (refine heads_pure _ (by rfl) (fun w' => by go_simp; try with_reducible rfl) ?_; simp only [Act.put, List.setIfInBounds_toArray, List.set_cons_zero, List.set_cons_succ])
  refine heads_nil ?_
  refine stage_done (by kernel_rfl) ?_
  go_wp2_with fail
  go_ret
  exact ⟨rfl, BLQ.out.trans (I20.out.mono BLQ.out.size)⟩
set_option maxHeartbeats 4000000 in
set_option maxRecDepth 20000 in
theorem vopens_ff (l1 l2 : List Nat) (v1 v2 : Value) (w : World) (h1 : Bytes w v1 l1) (h2 : Bytes w v2 l2) (hs : l1.length + l2.length ≤ 20000) :
    Calls Tryz.prog 4 #[v1, v2, .bool false, .bool false] w fun e w' => e = .returned (.bool true) ∧ Below w.heap.size w w' := by
  have HX1 := Lib.hid h1
  have HX2 := Lib.hid h2
  have HSZ1 : Hid (l1.length ≤ 2097152) := Lib.hid (by omega)
  have HSZ2 : Hid (l2.length ≤ 2097152) := Lib.hid (by omega)
  obtain ⟨x1, y1, rfl, _⟩ := h1.shape
  obtain ⟨x2, y2, rfl, _⟩ := h2.shape
  obtain ⟨n1, hn1⟩ : ∃ n, l1.length = n := ⟨_, rfl⟩
  obtain ⟨n2, hn2⟩ : ∃ n, l2.length = n := ⟨_, rfl⟩
  rw [hn1, hn2] at hs
  rw [hn1] at HX1 ⊢
  rw [hn2] at HX2 ⊢
  have hsi : (n1 : Int) + (n2 : Int) ≤ 20000 := by omega
  clear h1 h2 hs hn1 hn2
  go_enter Tryz.func4, Tryz.ntmps4
  go_wp2_with fail
  refine (dnew 1048576 _ (by decide) (by decide)).mono ?_
  rintro e w1 ⟨db, mb, tb, rfl, hd1, hb1, nd, nm, nt⟩
  have HD1 := Lib.hid hd1
  have B1 := Lib.hid hb1
  have ND : Hid (∀ k, Own3 db mb tb k → w.heap.size ≤ k) := Lib.hid (fun k hk => by rcases hk with rfl | rfl | rfl <;> assumption)
  clear hd1 hb1 nd nm nt
  go_wp2_with fail
  refine (rnew_is 1048576 w1).mono ?_
  rintro e w2 ⟨rfl, hb2⟩
  obtain ⟨aA, haA⟩ : ∃ a : Option Addr, a = none := ⟨_, rfl⟩
  have HAA := Lib.hid haA
  obtain ⟨cA, hcA⟩ : ∃ c : Nat, c = 0 := ⟨_, rfl⟩
  have hsA : SRow w2 3 (.slice aA 0 cA) (([] : List FileS).map rfV) := by rw [haA, hcA]; exact SRow.nil _ _
  rw [show (Value.slice none 0 0) = .slice aA 0 cA by rw [haA, hcA]]
  have B2 : Hid (Below w.heap.size w w2) := Lib.hid (B1.out.trans (hb2.mono B1.out.size))
  have HD2 := Lib.hid (HD1.out.below hb2)
  have HSb := Lib.hid hsA
  clear hb2 hsA haA hcA
  go_wp2_with fail
  have hbx := BO.box w2 db ⟨1048576, [], false, -1, 0⟩ (.slice aA 0 cA)
  have hal : Below w2.heap.size w2 (w2.alloc (.cells #[.pointer (some ⟨db, 0, none⟩), .pointer none, .int .i64 1048576, .slice aA 0 cA, .bool false, .int .i64 (-1), .int .u64 0, .int .u64 0, .int .i64 0] 54)) := (Below.refl _ _).alloc (Nat.le_refl _) _
  simp only at hbx
  have BLA := Lib.hid (B2.out.trans (hal.mono B2.out.size))
  have HDA := Lib.hid (HD2.out.below hal)
  have HSa := Lib.hid (HSb.out.below hal)
  have NO : Hid (¬ Own3 db mb tb w2.heap.size) := Lib.hid (fun h => by have := HD2.out.lt3 _ h; omega)
  have BO1 : Hid (w.heap.size ≤ w2.heap.size) := Lib.hid B2.out.size
  have OB : Hid (∀ k, Own3 db mb tb k → w.heap.size ≤ k) := ND
  have HBA := Lib.hid hbx
  clear hbx hal
  generalize World.alloc w2 _ = wA at *
  generalize w2.heap.size = bo at *
  obtain ⟨nA, hnA⟩ : ∃ n, n = 0 := ⟨_, rfl⟩
  have APA : Hid (∀ b, (Value.slice aA nA cA).ownBlock = some b → ¬ Own3 db mb tb b) := Lib.hid (fun b hb h3 => by rw [HAA.out] at hb; cases hb)
  obtain ⟨DA, hDA⟩ : ∃ D, D = (⟨1048576, [], false, -1, 0⟩ : DiskS) := ⟨_, rfl⟩
  rw [← hnA] at HBA HSa
  rw [← hDA] at HBA HDA
  have HSA : Hid (SRow wA 3 (.slice aA nA cA) (DA.files.map rfV)) := Lib.hid (by rw [hDA]; exact HSa.out)
  have GDA : Hid (DGood DA) := Lib.hid (by rw [hDA]; exact ⟨⟨by decide, by decide, by decide, by decide, by decide, by decide, by decide, fun f h => by cases h⟩, by decide, by decide⟩)
  have SZA : Hid (DA.steps ≤ 5) := Lib.hid (by rw [hDA]; decide)
  have CAA : Hid (Calm DA) := Lib.hid (by rw [hDA]; exact ⟨rfl, rfl⟩)
  have B8A : Hid (Byt8 DA.files) := Lib.hid (by rw [hDA]; exact fun f h => by cases h)
  have HNA : Hid (DA.files.length = nA) := Lib.hid (by rw [hDA, hnA]; rfl)
  clear HSa HD2 HSb HD1 hDA hnA
  have q0 := HBA.out.c0
  go_wp2_with fail
  refine (vopen_any db mb tb DA _ HDA.out GDA.out (by have := SZA.out; omega)).mono ?_
  rintro e wO ⟨-, hok, hdO, hkO⟩
  obtain ⟨bc, rfl, hbk, -⟩ := hok (open0 CAA.out)
  have KO := Lib.hid hbk
  have HDO := Lib.hid hdO
  have HBO := Lib.hid (HBA.out.kept hkO NO.out)
  have HSO : Hid (SRow wO 3 (.slice aA nA cA) (DA.files.map rfV)) := Lib.hid (HSA.out.kept hkO (.inr APA.out))
  have BLO : Hid (Below w.heap.size w wO) := Lib.hid (BLA.out.trans (hkO.below BLA.out.size OB.out))
  have OE : Hid ((vopenD DA).2 = 0) := Lib.hid (open0 CAA.out)
  clear hok hbk hdO hkO q0
  obtain ⟨q0, ⟨qp, q1⟩, q2, q3, q4, q5, q6, _⟩ := HBO.out
  go_wp2_with fail
  refine (ropen_any _ DA _ (RIs.new HNA.out HSO.out) GDA.out CAA.out (by have := SZA.out; omega) B8A.out).mono ?_
  rintro e wP ⟨v', rfl, hrP, hbP⟩
  obtain ⟨aR, cR, rfl, hsR⟩ := hrP
  have KP := Lib.hid (KO.out.below hbP)
  have HDP := Lib.hid (HDO.out.below hbP)
  have HBP := Lib.hid (HBO.out.below hbP)
  have HSP := Lib.hid hsR
  have BLP := Lib.hid (BLO.out.trans (hbP.mono BLO.out.size))
  have hgo := vopenD_good GDA.out (by have := SZA.out; omega)
  have GDP := Lib.hid hgo.1
  clear hsR hbP hgo q0 q1 q2 q3 q4 q5 q6
  generalize (vopenD DA).1 = DP at *
  generalize (vopenS DA).t = st at *
  generalize (vopenS DA).v = sv at *
  go_wp2_with fail
  have hxq := (RD.box wP DP (.slice aR DP.files.length cR)).below ((Below.refl _ _).alloc (Nat.le_refl _) (.cells #[.int .u64 st, .int .i64 sv] 52))
  have htq := SC.box26 (wP.alloc (.cells #[.int .i64 DP.room, .slice aR DP.files.length cR, .bool DP.down, .int .i64 DP.armed, .int .u64 DP.steps] 29)) st sv
  have hbq : Below wP.heap.size wP ((wP.alloc (.cells #[.int .i64 DP.room, .slice aR DP.files.length cR, .bool DP.down, .int .i64 DP.armed, .int .u64 DP.steps] 29)).alloc (.cells #[.int .u64 st, .int .i64 sv] 52)) := ((Below.refl _ _).alloc (Nat.le_refl _) _).alloc (by simp) _
  rw [World.size_alloc] at htq
  generalize World.alloc (World.alloc wP _) _ = wQ at *
  have XQ := Lib.hid hxq
  have TQ := Lib.hid htq
  have KQ := Lib.hid (KP.out.below hbq)
  have HDQ := Lib.hid (HDP.out.below hbq)
  have HBQ := Lib.hid (HBP.out.below hbq)
  have HSQ := Lib.hid (HSP.out.below hbq)
  have BLQ := Lib.hid (BLP.out.trans (hbq.mono BLP.out.size))
  have STQ := Stable.from wQ
  clear hxq htq hbq
  refine region_start [0, 0, 3, 7, 15, 31, 15, 127, 255, 511, 1023, 2047, 4095, 8191, 16383, 1023, 33791, 131071, 262143, 524287, 1048575, 2097151, 4194303] 130080 (fun w' => Below wQ.heap.size wQ w') (by kernel_rfl) ?_
  refine stage_heads [0, 1, 2, 3, 4, 6] (by kernel_rfl) (L := #[true, true, true, true, true, false, true, false, false, false, false, false, false, false, false, false, false, false, false, false, false, false, false]) (by kernel_rfl) (f' := 17) rfl (fun _ _ _ _ h => h) (fun w o h => STQ.alloc h o) (.inr (by first | exact Below.refl _ _ | exact (Below.refl _ _).drew)) ?_
  simp only [List.flatMap_cons, List.flatMap_nil, List.drop_succ_cons, List.drop_zero, List.take_succ_cons, List.take_zero, List.cons_append, List.nil_append, List.append_nil]
  iterate 6 (first | (refine heads_load _ (by rfl) (fun w' hs => by obtain ⟨r0, r1, r2, r3, r4, _⟩ := XQ.out.below hs; obtain ⟨t0, t1, _, _⟩ := TQ.out.below hs; have b0 := (HBQ.out.below hs).c0; go_simp; try with_reducible rfl) rfl ?_; simp only [Act.put, List.setIfInBounds_toArray, List.set_cons_zero, List.set_cons_succ]) | (refine heads_pure _ (by rfl) (fun w' => by go_simp; try with_reducible rfl) ?_; simp only [Act.put, List.setIfInBounds_toArray, List.set_cons_zero, List.set_cons_succ]) | (refine heads_skip (by rfl) ?_; simp only [Act.put, List.setIfInBounds_toArray, List.set_cons_zero, List.set_cons_succ]))
  refine heads_nil ?_
  refine stage_op 5 (by kernel_rfl) (L := #[true, true, true, true, true, true, true, false, false, false, false, false, false, false, false, false, false, false, false, false, false, false, false]) (by kernel_rfl) ?_
  simp only [List.drop_succ_cons, List.drop_zero, List.take_succ_cons, List.take_zero]
  go_wp2_with fail; refine (vstate_any bc db _ _ _ (by first | exact KQ.out | exact (KQ.out).below ((Below.refl _ _).drew))).mono ?_; rintro e u5 ⟨rfl, hb⟩; have I5 : Hid (Below wQ.heap.size wQ u5) := Lib.hid (by first | exact hb | exact ((Below.refl _ _).drew).trans hb); clear hb; go_wp2_with fail
  refine step_post (fun _ => I5.out) ?_
  refine stage_heads [7, 8, 9, 10, 11, 12, 13, 15, 16] (by kernel_rfl) (L := #[true, true, true, true, true, true, true, true, true, true, true, true, true, true, false, true, true, false, false, false, false, false, false]) (by kernel_rfl) (f' := 7) rfl (fun _ _ _ _ h => h) (fun w o h => STQ.alloc h o) (.inr (by first | exact I5.out | exact STQ.drew I5.out)) ?_
  simp only [List.flatMap_cons, List.flatMap_nil, List.drop_succ_cons, List.drop_zero, List.take_succ_cons, List.take_zero, List.cons_append, List.nil_append, List.append_nil]
  iterate 9 (first | (refine heads_load _ (by rfl) (fun w' hs => by obtain ⟨r0, r1, r2, r3, r4, _⟩ := XQ.out.below hs; obtain ⟨t0, t1, _, _⟩ := TQ.out.below hs; have b0 := (HBQ.out.below hs).c0; go_simp; try with_reducible rfl) rfl ?_; simp only [Act.put, List.setIfInBounds_toArray, List.set_cons_zero, List.set_cons_succ]) | (refine heads_pure _ (by rfl) (fun w' => by go_simp; try with_reducible rfl) ?_; simp only [Act.put, List.setIfInBounds_toArray, List.set_cons_zero, List.set_cons_succ]) | (refine heads_skip (by rfl) ?_; simp only [Act.put, List.setIfInBounds_toArray, List.set_cons_zero, List.set_cons_succ]))
  refine heads_nil ?_
  refine stage_op 14 (by kernel_rfl) (L := #[true, true, true, true, true, true, true, true, true, true, true, true, true, true, true, true, true, false, false, false, false, false, false]) (by kernel_rfl) ?_
  simp only [List.drop_succ_cons, List.drop_zero, List.take_succ_cons, List.take_zero]
  go_wp2_with fail; refine (lfiles_any db mb tb DP _ (by first | exact HDQ.out.below I5.out | exact (HDQ.out.below I5.out).below ((Below.refl _ _).drew)) GDP.out.wf).mono ?_; rintro e u14 ⟨v14, rfl, hs14, hb⟩; have I14 : Hid (Below wQ.heap.size wQ u14) := Lib.hid (by first | exact I5.out.trans (hb.mono I5.out.size) | exact I5.out.trans (((Below.refl _ _).drew.trans hb).mono I5.out.size)); clear hb; have S14 := Lib.hid hs14; clear hs14; go_wp2_with fail
  refine step_post (fun _ => I14.out) ?_
  refine stage_op 17 (by kernel_rfl) (L := #[true, true, true, true, true, true, true, true, true, true, true, true, true, true, true, true, true, true, false, false, false, false, false]) (by kernel_rfl) ?_
  simp only [List.drop_succ_cons, List.drop_zero, List.take_succ_cons, List.take_zero]
  go_wp2_with fail; refine (rsameL_any _ _ DP.files _ (by first | exact S14.out | exact (S14.out).below ((Below.refl _ _).drew)) (by first | exact HSQ.out.below I14.out | exact (HSQ.out.below I14.out).below ((Below.refl _ _).drew)) (by have := GDP.out.few; omega)).mono ?_; rintro e u17 ⟨rfl, hb⟩; have I17 : Hid (Below wQ.heap.size wQ u17) := Lib.hid (by first | exact I14.out.trans (hb.mono I14.out.size) | exact I14.out.trans (((Below.refl _ _).drew.trans hb).mono I14.out.size)); clear hb; go_wp2_with fail
  refine step_post nofun ?_
  refine stage_heads [18, 19] (by kernel_rfl) (L := #[true, true, true, true, true, true, true, true, true, true, true, true, true, true, true, true, true, true, true, true, false, false, false]) (by kernel_rfl) (f' := 3) rfl (fun _ _ _ _ h => h) (fun w o h => STQ.alloc h o) (.inl (by kernel_rfl)) ?_
  simp only [List.flatMap_cons, List.flatMap_nil, List.drop_succ_cons, List.drop_zero, List.take_succ_cons, List.take_zero, List.cons_append, List.nil_append, List.append_nil]
  iterate 2 (refine heads_pure _ (by rfl) (fun w' => by go_simp; try with_reducible rfl) ?_; simp only [Act.put, List.setIfInBounds_toArray, List.set_cons_zero, List.set_cons_succ])
  refine heads_nil ?_
  refine stage_op 20 (by kernel_rfl) (L := #[true, true, true, true, true, true, true, true, true, true, true, true, true, true, true, true, true, true, true, true, true, false, false]) (by kernel_rfl) ?_
  simp only [List.drop_succ_cons, List.drop_zero, List.take_succ_cons, List.take_zero]
  go_wp2_with fail; refine (vlives_any _).mono ?_; rintro e u20 ⟨rfl, hb⟩; have I20 : Hid (Below wQ.heap.size wQ u20) := Lib.hid (by first | exact I17.out.trans (hb.mono I17.out.size) | exact I17.out.trans (((Below.refl _ _).drew.trans hb).mono I17.out.size)); clear hb; go_wp2_with fail
  refine step_post nofun ?_
  refine stage_heads [21, 22] (by kernel_rfl) (L := #[true, true, true, true, true, true, true, true, true, true, true, true, true, true, true, true, true, true, true, true, true, true, true]) (by kernel_rfl) (f' := 0) rfl (fun _ _ _ _ h => h) (fun w o h => STQ.alloc h o) (.inl (by kernel_rfl)) ?_
  simp only [List.flatMap_cons, List.flatMap_nil, List.drop_succ_cons, List.drop_zero, List.take_succ_cons, List.take_zero, List.cons_append, List.nil_append, List.append_nil]
  iterate 2 (refine heads_pure _ (by rfl) (fun w' => by go_simp; try with_reducible rfl) ?_; simp only [Act.put, List.setIfInBounds_toArray, List.set_cons_zero, List.set_cons_succ])
  refine heads_nil ?_
  refine stage_done (by kernel_rfl) ?_
  go_wp2_with fail
  go_ret
  exact ⟨rfl, BLQ.out.trans (I20.out.mono BLQ.out.size)⟩
set_option maxHeartbeats 1000000 in
set_option maxRecDepth 20000 in
theorem vopens_big (x1 x2 : Option Addr) (n1 y1 n2 y2 : Nat) (t2 t3 : Bool) (w : World) (b1 : n1 ≤ 140737488355328) (b2 : n2 ≤ 140737488355328) (hs : ¬ n1 + n2 ≤ 20000) :
    Calls Tryz.prog 4 #[.slice x1 n1 y1, .slice x2 n2 y2, .bool t2, .bool t3] w fun e w' => e = .returned (.bool true) ∧ Below w.heap.size w w' := by
  have hsi : (20000 : Int) < (n1 : Int) + (n2 : Int) := by omega
  have i1 : (n1 : Int) + (n2 : Int) ≤ 9223372036854775807 := by omega
  clear hs b1 b2
  go_enter Tryz.func4, Tryz.ntmps4
  go_wp2_with fail
  refine (vlives_any _).mono ?_
  rintro e w1 ⟨rfl, hb1⟩
  have B1 := Lib.hid hb1
  clear hb1
  go_wp2_with fail
  go_ret
  exact ⟨rfl, B1.out⟩
theorem vopens_any (x1 x2 : Option Addr) (n1 y1 n2 y2 : Nat) (t2 t3 : Bool) (w : World) (b1 : n1 ≤ 140737488355328) (b2 : n2 ≤ 140737488355328) (h1 : n1 ≤ 2097152 → ∃ l, l.length = n1 ∧ Bytes w (.slice x1 n1 y1) l) (h2 : n2 ≤ 2097152 → ∃ l, l.length = n2 ∧ Bytes w (.slice x2 n2 y2) l) :
    Calls Tryz.prog 4 #[.slice x1 n1 y1, .slice x2 n2 y2, .bool t2, .bool t3] w fun e w' => e = .returned (.bool true) ∧ Below w.heap.size w w' := by
  by_cases hs : n1 + n2 ≤ 20000
  · obtain ⟨l1, e1, k1⟩ := h1 (by omega)
    obtain ⟨l2, e2, k2⟩ := h2 (by omega)
    have hs2 : l1.length + l2.length ≤ 20000 := by omega
    cases t2 <;> cases t3
    · exact vopens_ff l1 l2 _ _ w k1 k2 hs2
    · exact vopens_ft l1 l2 _ _ w k1 k2 hs2
    · exact vopens_tf l1 l2 _ _ w k1 k2 hs2
    · exact vopens_tt l1 l2 _ _ w k1 k2 hs2
  · exact vopens_big x1 x2 _ y1 _ y2 t2 t3 w b1 b2 hs
end Go.Proofs.YtofhccpagnkalaaGreat

/- THE STATEMENT VowOpens: the document opens its vow as the program does. For every input; no conditions. -/
namespace Go.Proofs.YtofhccpagnkalaaGreat
open Go.ChangeShapes Go.WideShapes Go.ChangeAt Go.RowKit Go.Deep Go.Proofs.Own

theorem open_bytesM {H : Type} {enc : TypeId × Value → H} {W : World} {fuel : Nat} {a : Option Addr} {n c : Nat} {d : DataW H} {p : List MemPlace} (hf : DataW.trod enc Tryz.prog W 0 (fun _ => true) true fuel 22 [.slice a n c] = some (d, p)) (hz : ∀ el sp, d = .slice el sp → (el.length + sp.length) * Tryz.prog.bytesOf 5 ≤ reachBytes) : n ≤ 140737488355328 ∧ (n ≤ 2097152 → ∃ l, l.length = n ∧ Bytes W (.slice a n c) l) := by
  obtain ⟨a1, n1, c1, e1, h⟩ := open_bytes1 hf
  cases e1
  refine ⟨?_, h⟩
  rcases open_slice1 Tryz.underlying22 cellsU8 hf with ⟨hcs, _⟩ | ⟨a', len, cap, m, k, V, D, Pl, hcs, _, hl, hm, hmm, hx, hi⟩
  · have h0 : n = 0 := by simp at hcs; exact hcs.2.1
    omega
  · have h0 : n = len := by simp at hcs; exact hcs.2.1
    have h1 := hz _ _ (congrArg Prod.fst hx)
    have h2 : Tryz.prog.bytesOf 5 = 1 := by kernel_rfl
    have h3 := reachBytes_lt
    rw [h2] at h1
    simp only [List.length_map, List.length_range] at h1
    omega

set_option maxRecDepth 100000 in
theorem vopens_law_lifted (os : Os) (started : os.Started) (H : Type) (enc : TypeId × Value → H) :
    ReturnsInHanded {} Tryz.checked os 4 .any (Rows.vowOpensSpec.pre6 enc Tryz.prog Tryz.f4 Rows.vowOpensRow.domain false) (Rows.vowOpensSpec.post enc Tryz.prog Tryz.f4 false true false false) := by
  refine returnsInHanded_of_change_sized (C := Tryz.checked) own started (by kernel_rfl) Tryz.func4
    (ChangeSpec.witness6 (enc := enc) (C := Tryz.checked) false ⟨#[], #[.slice none 0 0, .slice none 0 0, .bool false, .bool false], []⟩ 8 (by kernel_rfl) (by kernel_rfl) (by kernel_rfl) (by kernel_rfl)) ?_
  intro W base args ds gs before hval0 hW hcnd hsz _
  have hval : ∀ (j : Nat) t v, Tryz.f4.params[j]? = some t → args[j]? = some v → Value.okWide Tryz.prog W .any base t v := hval0
  have hW' := hW
  obtain ⟨p, q, hA0, hV, _, hfz, hnd⟩ := hW
  have hA : DataW.TrodAll enc Tryz.prog W 0 (fun _ => true) true Tryz.f4.params.toList args.toList ds p := hA0
  rw [Tryz.params4] at hA hval
  obtain ⟨v0, v1, v2, v3, d0, d1, d2, d3, p0, p1, p2, p3, rfl, rfl, rfl, h0, h1, h2, h3⟩ := trodAll_four hA
  obtain ⟨q0, n0, c0, rfl⟩ := okWide_slice Tryz.underlying22 (hval 0 22 v0 rfl rfl); obtain ⟨f0, g0⟩ := h0; obtain ⟨m0, b0⟩ := open_bytesM g0 (fun el sp he => sized_slice hsz (j := 0) (t := 22) (e := 5) rfl (congrArg some he) Tryz.underlying22)
  obtain ⟨q1, n1, c1, rfl⟩ := okWide_slice Tryz.underlying22 (hval 1 22 v1 rfl rfl); obtain ⟨f1, g1⟩ := h1; obtain ⟨m1, b1⟩ := open_bytesM g1 (fun el sp he => sized_slice hsz (j := 1) (t := 22) (e := 5) rfl (congrArg some he) Tryz.underlying22)
  obtain ⟨t2, rfl⟩ := okWide_bool Tryz.underlying4 (hval 2 4 v2 rfl rfl)
  obtain ⟨t3, rfl⟩ := okWide_bool Tryz.underlying4 (hval 3 4 v3 rfl rfl)
  refine (vopens_any q0 q1 n0 c0 n1 c1 t2 t3 W m0 m1 b0 b1).mono fun e W' ⟨he, hb⟩ => ?_
  exact ⟨_, he, law_post laid (by kernel_rfl) ⟨4, rfl, Tryz.underlying4⟩ rfl (fun ds hds => by
    match ds, hds with
    | [x0, x1, x2, x3], _ => rfl) hW' hb⟩

theorem vopens_law_holds : Rows.VowOpensSaid :=
  OpenClaim.holds_of_wide 4 Tryz.f4 rfl rfl rfl rfl rfl rfl rfl ⟨rfl, rfl, rfl, rfl, rfl⟩ rfl rfl rfl rfl rfl (by kernel_rfl) Tryz.func4 (by kernel_rfl)
    (of_decide_eq_true (by kernel_rfl)) (by unfold Func.isWrapper; first | (rw [if_pos (by decide +kernel)]; kernel_rfl) | (rw [if_neg (by decide +kernel)]; exact ⟨rfl, rfl⟩))
    (fun os started H enc _ => vopens_law_lifted os started H enc)
#print axioms vopens_law_holds
end Go.Proofs.YtofhccpagnkalaaGreat
