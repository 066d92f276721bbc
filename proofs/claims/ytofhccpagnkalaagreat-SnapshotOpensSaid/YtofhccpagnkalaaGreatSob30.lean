/- Several texts in one: Sol. What each proves stands ahead of it; together they serve sopens_law_holds. No conditions but those stated. -/
import Derived.Test.YtofhccpagnkalaaGreatSob29
import Derived.Test.YtofhccpagnkalaaGreatSob21
/- The law SnapshotOpens, walked; no conditions. -/
namespace Go.Proofs.YtofhccpagnkalaaGreat
open Go.RowKit Go.Maps Go.Proofs.Own Go.Shelf

/-- The document's disk is stored into its box: the program's disk stays. -/
theorem DiskIs.setRD {w : World} {b db mb tb : Nat} {D E : DiskS} {a : Option Addr} {n c : Nat} (h : DiskIs w db mb tb D) (k : RD w b E (.slice a n c)) (hn : ¬ Own3 db mb tb b) (E' : DiskS) (fv : Value) : DiskIs (set5D w b E' fv) db mb tb D := by
  unfold set5D
  refine ((((h.setOther _ hn (fun x => ?_)).setOther _ hn (fun x => ?_)).setOther _ hn (fun x => ?_)).setOther _ hn (fun x => ?_)).setOther _ hn (fun x => ?_)
  · intro e; rw [k.c0] at e; cases e
  · intro e; rw [World.cell?_setCell_other _ _ _ _ (by simp), k.c1] at e; cases e
  · intro e; rw [World.cell?_setCell_other _ _ _ _ (by simp), World.cell?_setCell_other _ _ _ _ (by simp), k.c2] at e; cases e
  · intro e; rw [World.cell?_setCell_other _ _ _ _ (by simp), World.cell?_setCell_other _ _ _ _ (by simp), World.cell?_setCell_other _ _ _ _ (by simp), k.c3] at e; cases e
  · intro e; rw [World.cell?_setCell_other _ _ _ _ (by simp), World.cell?_setCell_other _ _ _ _ (by simp), World.cell?_setCell_other _ _ _ _ (by simp), World.cell?_setCell_other _ _ _ _ (by simp), k.c4] at e; cases e

set_option maxHeartbeats 4000000 in
set_option maxRecDepth 20000 in
theorem sopens_tt (l1 l2 : List Nat) (v1 v2 : Value) (w : World) (h1 : Bytes w v1 l1) (h2 : Bytes w v2 l2) (hs : l1.length + l2.length ≤ 80000) :
    Calls Tryz.prog 3 #[v1, v2, .bool true, .bool true] w fun e w' => e = .returned (.bool true) ∧ Below w.heap.size w w' := by
  have HX1 := Lib.hid h1
  have HX2 := Lib.hid h2
  have HSZ1 : Hid (l1.length ≤ 2097152) := Lib.hid (by omega)
  have HSZ2 : Hid (l2.length ≤ 2097152) := Lib.hid (by omega)
  obtain ⟨x1, y1, rfl, _⟩ := h1.shape
  obtain ⟨x2, y2, rfl, _⟩ := h2.shape
  obtain ⟨n1, hn1⟩ : ∃ n, l1.length = n := ⟨_, rfl⟩
  obtain ⟨n2, hn2⟩ : ∃ n, l2.length = n := ⟨_, rfl⟩
  rw [hn1, hn2] at hs
  rw [hn1] at HX1 ⊢
  rw [hn2] at HX2 ⊢
  have hsi : (n1 : Int) + (n2 : Int) ≤ 80000 := by omega
  clear h1 h2 hs hn1 hn2
  go_enter Tryz.func3, Tryz.ntmps3
  go_wp2_with fail
  refine (dnew 1048576 _ (by decide) (by decide)).mono ?_
  rintro e w1 ⟨db, mb, tb, rfl, hd1, hb1, nd, nm, nt⟩
  have HD1 := Lib.hid hd1
  have B1 := Lib.hid hb1
  have OB : Hid (∀ k, Own3 db mb tb k → w.heap.size ≤ k) := Lib.hid (fun k hk => by rcases hk with rfl | rfl | rfl <;> assumption)
  clear hd1 hb1 nd nm nt
  go_wp2_with fail
  refine (rnew_at 1048576 w1).mono ?_
  rintro e w2 ⟨rfl, hb2⟩
  have B2 : Hid (Below w.heap.size w w2) := Lib.hid (B1.out.trans (hb2.mono B1.out.size))
  have HD2 := Lib.hid (HD1.out.below hb2)
  clear hb2
  obtain ⟨DA, hDA⟩ : ∃ D, D = (⟨1048576, [], false, -1, 0⟩ : DiskS) := ⟨_, rfl⟩
  obtain ⟨aA, haA⟩ : ∃ a : Option Addr, a = none := ⟨_, rfl⟩
  have HAA := Lib.hid haA
  obtain ⟨cA, hcA⟩ : ∃ c : Nat, c = 0 := ⟨_, rfl⟩
  have hsA : SRow w2 3 (.slice aA 0 cA) (([] : List FileS).map rfV) := by rw [haA, hcA]; exact SRow.nil _ _
  rw [show (Value.slice none 0 0) = .slice aA 0 cA by rw [haA, hcA]]
  have HSb := Lib.hid hsA
  clear hsA haA hcA
  have hal : Below w2.heap.size w2 (w2.alloc (.cells #[.int .i64 1048576, .slice aA 0 cA, .bool false, .int .i64 (-1), .int .u64 0] 29)) := (Below.refl _ _).alloc (Nat.le_refl _) _
  have hxa : RD (w2.alloc (.cells #[.int .i64 1048576, .slice aA 0 cA, .bool false, .int .i64 (-1), .int .u64 0] 29)) w2.heap.size DA (.slice aA 0 cA) := by rw [hDA]; exact RD.box w2 ⟨1048576, [], false, -1, 0⟩ (.slice aA 0 cA)
  have BLAA := Lib.hid (B2.out.trans (hal.mono B2.out.size))
  have HDA : Hid (DiskIs _ db mb tb DA) := Lib.hid (by rw [hDA]; exact HD2.out.below hal)
  have HSa := Lib.hid (HSb.out.below hal)
  have NO : Hid (¬ Own3 db mb tb w2.heap.size) := Lib.hid (fun h => by have := HD2.out.lt3 _ h; omega)
  have HXBB : Hid (w.heap.size ≤ w2.heap.size) := Lib.hid B2.out.size
  have XA := Lib.hid hxa
  go_wp2_with fail
  clear hxa hal
  generalize World.alloc w2 _ = wA at *
  generalize w2.heap.size = xb at *
  have BLA := BLAA
  clear BLAA
  obtain ⟨nA, hnA⟩ : ∃ n, n = 0 := ⟨_, rfl⟩
  have APA : Hid (∀ b, (Value.slice aA nA cA).ownBlock = some b → ¬ Own3 db mb tb b) := Lib.hid (fun b hb h3 => by rw [HAA.out] at hb; cases hb)
  rw [← hnA] at XA HSa
  have HSA : Hid (SRow wA 3 (.slice aA nA cA) (DA.files.map rfV)) := Lib.hid (by rw [hDA]; exact HSa.out)
  have GDA : Hid (DGood DA) := Lib.hid (by rw [hDA]; exact ⟨⟨by decide, by decide, by decide, by decide, by decide, by decide, by decide, fun f h => by cases h⟩, by decide, by decide⟩)
  have SZA : Hid (DA.steps ≤ 4) := Lib.hid (by rw [hDA]; decide)
  have CAA : Hid (Calm DA) := Lib.hid (by rw [hDA]; exact ⟨rfl, rfl⟩)
  have B8A : Hid (Byt8 DA.files) := Lib.hid (by rw [hDA]; exact fun f h => by cases h)
  have HNA : Hid (DA.files.length = nA) := Lib.hid (by rw [hDA, hnA]; rfl)
  clear HSa HD2 HSb HD1 hDA hnA B1 B2
  refine (dapp_any db mb tb DA nSnap _ l1 _ HDA.out GDA.out (HX1.out.below BLA.out) (by decide)).mono ?_
  rintro e wAm ⟨rfl, hd, hk⟩
  have HDAm := Lib.hid hd
  have XAm := Lib.hid (XA.out.kept hk NO.out)
  have HSAm : Hid (SRow wAm 3 (.slice aA nA cA) (DA.files.map rfV)) := Lib.hid (HSA.out.kept hk (.inr APA.out))
  have BLAm : Hid (Below w.heap.size w wAm) := Lib.hid (BLA.out.trans (hk.below BLA.out.size OB.out))
  clear hd hk
  obtain ⟨r0, r1, r2, r3, r4, _⟩ := XAm.out
  have y0 := (HX1.out.below BLAm.out).str Tryz.underlying22 Tryz.underlying5 Tryz.underlying9
  go_wp2_with fail
  refine (rappend_new _ DA nSnap l1 _ (RIs.new HNA.out HSAm.out) GDA.out (by decide) HSZ1.out).mono ?_
  rintro e wAr ⟨vAr, rfl, hrAr, hbAr, hfAr⟩
  obtain ⟨aB, cB, rfl, hsAr⟩ := hrAr
  clear y0 r0 r1 r2 r3 r4
  have GG := GDA.out.append nSnap l1 (by have := SZA.out; omega)
  have CAB := Lib.hid (appendD_calm CAA.out nSnap l1)
  have B8B := Lib.hid (B8A.out.append nSnap l1 HX1.out.lt)
  generalize (appendD DA nSnap l1).1 = DB at *
  have GDB := Lib.hid GG.1
  have SZB : Hid (DB.steps ≤ 5) := Lib.hid (by have := GG.2; have := SZA.out; omega)
  obtain ⟨nB, hnB⟩ : ∃ n, DB.files.length = n := ⟨_, rfl⟩
  have HNB := Lib.hid hnB
  rw [hnB] at hsAr hfAr ⊢
  have HSAr := Lib.hid hsAr
  have YtofhccpagnkalaaGreatAr := Lib.hid (XAm.out.below hbAr)
  have APB : Hid (∀ b, (Value.slice aB nB cB).ownBlock = some b → ¬ Own3 db mb tb b) := Lib.hid (fun b hb h3 => by
    rcases hfAr b hb with e | e
    · exact APA.out b e h3
    · have := HDAm.out.lt3 b h3; omega)
  have BLAr : Hid (Below w.heap.size w wAr) := Lib.hid (BLAm.out.trans (hbAr.mono BLAm.out.size))
  have XBa := YtofhccpagnkalaaGreatAr.out.set DB (.slice aB nB cB)
  have HDBa := (HDAm.out.below hbAr).setRD YtofhccpagnkalaaGreatAr.out NO.out DB (.slice aB nB cB)
  have HSBa := HSAr.out.setD YtofhccpagnkalaaGreatAr.out (fun s e => by cases e) DB (.slice aB nB cB)
  have BLBa := BLAr.out.trans ((Kept.set5D wAr xb DB (.slice aB nB cB)).below BLAr.out.size (fun k hk => by rw [hk]; exact HXBB.out))
  unfold set5D at XBa HDBa HSBa BLBa
  have XB := Lib.hid XBa
  have HDB := Lib.hid HDBa
  have HSB := Lib.hid HSBa
  have BLB := Lib.hid BLBa
  clear XBa HDBa HSBa BLBa hbAr hfAr hsAr hnB GG
  obtain ⟨r0, r1, r2, r3, r4, f0, f1, f2, f3, f4⟩ := YtofhccpagnkalaaGreatAr.out
  go_wp2_with fail
  generalize (((((wAr.setCell ⟨xb, 0, none⟩ (.int .i64 DB.room)).setCell ⟨xb, 1, none⟩ (.slice aB nB cB)).setCell ⟨xb, 2, none⟩ (.bool DB.down)).setCell ⟨xb, 3, none⟩ (.int .i64 DB.armed)).setCell ⟨xb, 4, none⟩ (.int .u64 DB.steps)) = wB at *
  clear r0 r1 r2 r3 r4 f0 f1 f2 f3 f4
  refine (dapp_any db mb tb DB nOther _ l2 _ HDB.out GDB.out (HX2.out.below BLB.out) (by decide)).mono ?_
  rintro e wBm ⟨rfl, hd, hk⟩
  have HDBm := Lib.hid hd
  have XBm := Lib.hid (XB.out.kept hk NO.out)
  have HSBm : Hid (SRow wBm 3 (.slice aB nB cB) (DB.files.map rfV)) := Lib.hid (HSB.out.kept hk (.inr APB.out))
  have BLBm : Hid (Below w.heap.size w wBm) := Lib.hid (BLB.out.trans (hk.below BLB.out.size OB.out))
  clear hd hk
  obtain ⟨r0, r1, r2, r3, r4, _⟩ := XBm.out
  have y0 := (HX2.out.below BLBm.out).str Tryz.underlying22 Tryz.underlying5 Tryz.underlying9
  go_wp2_with fail
  refine (rappend_new _ DB nOther l2 _ (RIs.new HNB.out HSBm.out) GDB.out (by decide) HSZ2.out).mono ?_
  rintro e wBr ⟨vBr, rfl, hrBr, hbBr, hfBr⟩
  obtain ⟨aC, cC, rfl, hsBr⟩ := hrBr
  clear y0 r0 r1 r2 r3 r4
  have GG := GDB.out.append nOther l2 (by have := SZB.out; omega)
  have CAC := Lib.hid (appendD_calm CAB.out nOther l2)
  have B8C := Lib.hid (B8B.out.append nOther l2 HX2.out.lt)
  generalize (appendD DB nOther l2).1 = DC at *
  have GDC := Lib.hid GG.1
  have SZC : Hid (DC.steps ≤ 6) := Lib.hid (by have := GG.2; have := SZB.out; omega)
  obtain ⟨nC, hnC⟩ : ∃ n, DC.files.length = n := ⟨_, rfl⟩
  have HNC := Lib.hid hnC
  rw [hnC] at hsBr hfBr ⊢
  have HSBr := Lib.hid hsBr
  have XBr := Lib.hid (XBm.out.below hbBr)
  have APC : Hid (∀ b, (Value.slice aC nC cC).ownBlock = some b → ¬ Own3 db mb tb b) := Lib.hid (fun b hb h3 => by
    rcases hfBr b hb with e | e
    · exact APB.out b e h3
    · have := HDBm.out.lt3 b h3; omega)
  have BLBr : Hid (Below w.heap.size w wBr) := Lib.hid (BLBm.out.trans (hbBr.mono BLBm.out.size))
  have XCa := XBr.out.set DC (.slice aC nC cC)
  have HDCa := (HDBm.out.below hbBr).setRD XBr.out NO.out DC (.slice aC nC cC)
  have HSCa := HSBr.out.setD XBr.out (fun s e => by cases e) DC (.slice aC nC cC)
  have BLCa := BLBr.out.trans ((Kept.set5D wBr xb DC (.slice aC nC cC)).below BLBr.out.size (fun k hk => by rw [hk]; exact HXBB.out))
  unfold set5D at XCa HDCa HSCa BLCa
  have XC := Lib.hid XCa
  have HDC := Lib.hid HDCa
  have HSC := Lib.hid HSCa
  have BLC := Lib.hid BLCa
  clear XCa HDCa HSCa BLCa hbBr hfBr hsBr hnC GG
  obtain ⟨r0, r1, r2, r3, r4, f0, f1, f2, f3, f4⟩ := XBr.out
  go_wp2_with fail
  generalize (((((wBr.setCell ⟨xb, 0, none⟩ (.int .i64 DC.room)).setCell ⟨xb, 1, none⟩ (.slice aC nC cC)).setCell ⟨xb, 2, none⟩ (.bool DC.down)).setCell ⟨xb, 3, none⟩ (.int .i64 DC.armed)).setCell ⟨xb, 4, none⟩ (.int .u64 DC.steps)) = wC at *
  clear r0 r1 r2 r3 r4 f0 f1 f2 f3 f4
  refine (sopen_any db mb tb DC _ HDC.out GDC.out).mono ?_
  rintro e wO ⟨hno, hok, hdO, hkO⟩
  have hE : ∃ p, e = .returned (.tuple #[.pointer p, .int .i64 (sopenE DC)]) ∧ OptStore wO p db mb tb (openS27 DC) ∧ ((p = none ∧ sopenE DC ≠ 0) ∨ ∃ sb, p = some ⟨sb, 0, none⟩ ∧ sopenE DC = 0) := by
    by_cases h0 : sopenE DC = 0
    · obtain ⟨sb, h1, h2, h3⟩ := hok h0
      refine ⟨_, by rw [h1, h0]; rfl, .inr ⟨sb, rfl, ?_, ?_⟩, .inr ⟨sb, rfl, h0⟩⟩
      · unfold openS27; rw [if_pos h0]; exact h2
      · unfold openS27; rw [if_pos h0]; exact sopenS_ok _
    · exact ⟨none, hno h0, .inl ⟨rfl, by unfold openS27; rw [if_neg h0]⟩, .inl ⟨rfl, h0⟩⟩
  obtain ⟨p, rfl, hst, hpc⟩ := hE
  have HPC := Lib.hid hpc
  have HST := Lib.hid hst
  have HDO := Lib.hid hdO
  have XO := Lib.hid (XC.out.kept hkO NO.out)
  have HSO : Hid (SRow wO 3 (.slice aC nC cC) (DC.files.map rfV)) := Lib.hid (HSC.out.kept hkO (.inr APC.out))
  have BLO : Hid (Below w.heap.size w wO) := Lib.hid (BLC.out.trans (hkO.below BLC.out.size OB.out))
  have hgo := goneD_good GDC.out (by have := SZC.out; omega)
  clear hno hok hpc hst hdO hkO
  obtain ⟨r0, r1, r2, r3, r4, _⟩ := XO.out
  go_wp2_with fail
  refine (ropen27_any _ DC _ (RIs.new HNC.out HSO.out) GDC.out CAC.out (by have := SZC.out; omega) B8C.out).mono ?_
  rintro e wP ⟨v', i, t, mv, dv, rfl, hrP, hiP, hbP, _, _⟩
  obtain ⟨aR, cR, rfl, hsR⟩ := hrP
  obtain ⟨mv', dv', hee, hmP, hdP⟩ := hiP
  simp only [Value.agg.injEq, Array.mk.injEq, List.cons.injEq, and_true, Value.int.injEq, true_and] at hee
  obtain ⟨rfl, rfl, rfl, rfl⟩ := hee
  obtain ⟨am, cm, rfl, _⟩ := hmP.shape
  obtain ⟨ad, cd, rfl, _⟩ := hdP.shape
  have HIP : Hid (SnapIs wP (.agg #[.int .u64 (openS27 DC).i, .int .u64 (openS27 DC).t, .slice am (openS27 DC).ms.length cm, .slice ad (openS27 DC).d.length cd]) (openS27 DC)) := Lib.hid ⟨_, _, rfl, hmP, hdP⟩
  have HDP := Lib.hid (HDO.out.below hbP)
  have HSP := Lib.hid hsR
  have HSTP := Lib.hid (HST.out.below hbP)
  have BLP := Lib.hid (BLO.out.trans (hbP.mono BLO.out.size))
  have GDP := Lib.hid hgo.1
  clear hsR hbP hgo hmP hdP r0 r1 r2 r3 r4 XO HDO HSO HST BLO
  generalize (goneD DC).1 = DP at *
  obtain ⟨nR, hnR⟩ : ∃ k, DP.files.length = k := ⟨_, rfl⟩
  rw [hnR] at HSP ⊢
  clear hnR
  obtain ⟨SS, hSS⟩ : ∃ s, openS27 DC = s := ⟨_, rfl⟩
  rw [hSS] at HIP HSTP ⊢
  obtain ⟨et, het⟩ : ∃ k, sopenE DC = k := ⟨_, rfl⟩
  rw [het] at HPC ⊢
  clear hSS het
  obtain ⟨nm', hnm⟩ : ∃ k, SS.ms.length = k := ⟨_, rfl⟩
  obtain ⟨nd', hnd⟩ : ∃ k, SS.d.length = k := ⟨_, rfl⟩
  rw [hnm, hnd] at HIP ⊢
  clear hnm hnd
  go_wp2_with fail
  have hxq := (RD.box wP DP (.slice aR nR cR)).below ((Below.refl _ _).alloc (Nat.le_refl _) (.cells #[.int .u64 SS.i, .int .u64 SS.t, .slice am nm' cm, .slice ad nd' cd] 40))
  have hvq := SBlk.box (wP.alloc (.cells #[.int .i64 DP.room, .slice aR nR cR, .bool DP.down, .int .i64 DP.armed, .int .u64 DP.steps] 29)) SS.i SS.t (.slice am nm' cm) (.slice ad nd' cd)
  have hbq : Below wP.heap.size wP ((wP.alloc (.cells #[.int .i64 DP.room, .slice aR nR cR, .bool DP.down, .int .i64 DP.armed, .int .u64 DP.steps] 29)).alloc (.cells #[.int .u64 SS.i, .int .u64 SS.t, .slice am nm' cm, .slice ad nd' cd] 40)) := ((Below.refl _ _).alloc (Nat.le_refl _) _).alloc (by simp) _
  rw [World.size_alloc] at hvq
  generalize World.alloc (World.alloc wP _) _ = wQ at *
  have XQ := Lib.hid hxq
  have VQ := Lib.hid hvq
  have HIQ := Lib.hid (HIP.out.below hbq)
  have HDQ := Lib.hid (HDP.out.below hbq)
  have HSQ := Lib.hid (HSP.out.below hbq)
  have HSTQ := Lib.hid (HSTP.out.below hbq)
  have BLQ := Lib.hid (BLP.out.trans (hbq.mono BLP.out.size))
  clear hxq hvq hbq HIP HDP HSP HSTP BLP
  refine (sget_all p db mb tb SS wQ HSTQ.out).mono ?_
  rintro e wG ⟨i2, t2, mv2, dv2, rfl, hi2, hb2⟩
  obtain ⟨mv', dv', hee, hmG, hdG⟩ := hi2
  simp only [Value.agg.injEq, Array.mk.injEq, List.cons.injEq, and_true, Value.int.injEq, true_and] at hee
  obtain ⟨rfl, rfl, rfl, rfl⟩ := hee
  obtain ⟨am2, cm2, rfl, _⟩ := hmG.shape
  obtain ⟨ad2, cd2, rfl, _⟩ := hdG.shape
  have HIG : Hid (SnapIs wG (.agg #[.int .u64 SS.i, .int .u64 SS.t, .slice am2 SS.ms.length cm2, .slice ad2 SS.d.length cd2]) SS) := Lib.hid ⟨_, _, rfl, hmG, hdG⟩
  have BQG := Lib.hid hb2
  clear hmG hdG hb2
  obtain ⟨nm2, hnm⟩ : ∃ k, SS.ms.length = k := ⟨_, rfl⟩
  obtain ⟨nd2, hnd⟩ : ∃ k, SS.d.length = k := ⟨_, rfl⟩
  rw [hnm, hnd] at HIG ⊢
  clear hnm hnd
  obtain ⟨okb, hokb⟩ : ∃ x, decide (0 < SS.i) = x := ⟨_, rfl⟩
  have HOKB := Lib.hid hokb
  rw [hokb]
  clear hokb
  go_wp2_with fail
  have hsb := SBlk.box wG SS.i SS.t (.slice am2 nm2 cm2) (.slice ad2 nd2 cd2)
  have hbg : Below wG.heap.size wG (wG.alloc (.cells #[.int .u64 SS.i, .int .u64 SS.t, .slice am2 nm2 cm2, .slice ad2 nd2 cd2] 40)) := (Below.refl _ _).alloc (Nat.le_refl _) _
  have hqg := BQG.out.trans (hbg.mono BQG.out.size)
  generalize World.alloc wG _ = wH at *
  have XH := Lib.hid (XQ.out.below hqg)
  have VH := Lib.hid (VQ.out.below hqg)
  have SH := Lib.hid hsb
  have IS2 := Lib.hid (HIQ.out.below hqg)
  have IS1 := Lib.hid (HIG.out.below hbg)
  have HDH := Lib.hid (HDQ.out.below hqg)
  have HSH := Lib.hid (HSQ.out.below hqg)
  have BLH := Lib.hid (BLQ.out.trans (hqg.mono BLQ.out.size))
  have ST := Stable.from wH
  clear hsb hbg hqg HIG HIQ XQ VQ HDQ HSQ HSTQ BLQ BQG
  obtain ⟨si, hsi⟩ : ∃ x, SS.i = x := ⟨_, rfl⟩
  have HSI := Lib.hid hsi
  obtain ⟨st, hstt⟩ : ∃ x, SS.t = x := ⟨_, rfl⟩
  rw [hsi, hstt] at VH SH IS1 IS2 ⊢
  rw [hsi] at HOKB
  clear hsi hstt
  have hokd : (okb == decide (0 < si)) = true := by rw [HOKB.out]; exact beq_self_eq_true _
  have hete : ((et : Int) == (et : Int)) = true := beq_self_eq_true _
  rcases HPC.out with ⟨hp, he0⟩ | ⟨sb, hp, he0⟩
  all_goals
    subst hp
    first | (have hne : ((et : Int) != 0) = true := bne_iff_ne.2 (by omega)) | (have hne : ((et : Int) != 0) = false := bne_eq_false_iff_eq.2 (by omega))
    clear he0
    refine region_start [0, 0, 3, 7, 15, 31, 15, 79, 255, 511, 1023, 2047, 2047, 6143, 14335, 32767, 65535, 131071, 262143, 262143, 1048575, 2097151, 4194303, 8388607, 16777215, 8388607, 41943039, 134217727, 268435455, 536870911, 1073741823, 2147483647, 4294967295] 125829120 (fun w' => Below wH.heap.size wH w') (by kernel_rfl) ?_
    refine stage_heads [0, 1, 2, 3, 4, 5, 6, 7, 8, 9, 10, 11, 12, 13, 14, 15, 16, 17, 18, 19] (by kernel_rfl) (L := #[true, true, true, true, true, true, true, true, true, true, true, true, true, true, true, true, true, true, true, true, false, false, false, false, false, false, false, false, false, false, false, false, false]) (by kernel_rfl) (f' := 13) rfl (fun _ _ _ _ h => h) (fun w o h => ST.alloc h o) (.inr (by first | exact (Below.refl _ _).drew | exact Below.refl _ _)) ?_
    simp only [List.flatMap_cons, List.flatMap_nil, List.drop_succ_cons, List.drop_zero, List.take_succ_cons, List.take_zero, List.cons_append, List.nil_append, List.append_nil]
    iterate 20 (first | (refine heads_load _ (by rfl) (fun w' hs => by obtain ⟨r0, r1, r2, r3, r4, _⟩ := XH.out.below hs; obtain ⟨s0, s1, s2, s3, _⟩ := VH.out.below hs; obtain ⟨t0, t1, t2, t3, _⟩ := SH.out.below hs; go_simp; try with_reducible rfl) rfl ?_; simp only [Act.put, List.setIfInBounds_toArray, List.set_cons_zero, List.set_cons_succ]) | (refine heads_pure _ (by rfl) (fun w' => by go_simp; try with_reducible rfl) ?_; simp only [Act.put, List.setIfInBounds_toArray, List.set_cons_zero, List.set_cons_succ]) | (refine heads_skip (by rfl) ?_; simp only [Act.put, List.setIfInBounds_toArray, List.set_cons_zero, List.set_cons_succ]))
    refine heads_nil ?_
    refine stage_op 20 (by kernel_rfl) (L := #[true, true, true, true, true, true, true, true, true, true, true, true, true, true, true, true, true, true, true, true, true, false, false, false, false, false, false, false, false, false, false, false, false]) (by kernel_rfl) ?_
    simp only [List.drop_succ_cons, List.drop_zero, List.take_succ_cons, List.take_zero]
    go_wp2_with fail; refine (rsame_any _ _ SS SS _ (by first | exact IS1.out.below ((Below.refl _ _).drew) | exact IS1.out) (by first | exact IS2.out.below ((Below.refl _ _).drew) | exact IS2.out)).mono ?_; rintro e u20 ⟨rfl, hb20⟩; rw [SnapS.sameB_refl]; have I20 : Hid (Below wH.heap.size wH u20) := Lib.hid (by first | exact ((Below.refl _ _).drew).trans hb20 | exact hb20); clear hb20; go_wp2_with fail
    refine step_post nofun ?_
    refine stage_heads [21, 22, 23, 25, 26] (by kernel_rfl) (L := #[true, true, true, true, true, true, true, true, true, true, true, true, true, true, true, true, true, true, true, true, true, true, true, true, false, true, true, false, false, false, false, false, false]) (by kernel_rfl) (f' := 7) rfl (fun _ _ _ _ h => h) (fun w o h => ST.alloc h o) (.inr I20.out) ?_
    simp only [List.flatMap_cons, List.flatMap_nil, List.drop_succ_cons, List.drop_zero, List.take_succ_cons, List.take_zero, List.cons_append, List.nil_append, List.append_nil]
    iterate 5 (first | (refine heads_load _ (by rfl) (fun w' hs => by obtain ⟨r0, r1, r2, r3, r4, _⟩ := XH.out.below hs; obtain ⟨s0, s1, s2, s3, _⟩ := VH.out.below hs; obtain ⟨t0, t1, t2, t3, _⟩ := SH.out.below hs; go_simp; try with_reducible rfl) rfl ?_; simp only [Act.put, List.setIfInBounds_toArray, List.set_cons_zero, List.set_cons_succ]) | (refine heads_pure _ (by rfl) (fun w' => by go_simp; try with_reducible rfl) ?_; simp only [Act.put, List.setIfInBounds_toArray, List.set_cons_zero, List.set_cons_succ]) | (refine heads_skip (by rfl) ?_; simp only [Act.put, List.setIfInBounds_toArray, List.set_cons_zero, List.set_cons_succ]))
    refine heads_nil ?_
    refine stage_op 24 (by kernel_rfl) (L := #[true, true, true, true, true, true, true, true, true, true, true, true, true, true, true, true, true, true, true, true, true, true, true, true, true, true, true, false, false, false, false, false, false]) (by kernel_rfl) ?_
    simp only [List.drop_succ_cons, List.drop_zero, List.take_succ_cons, List.take_zero]
    go_wp2_with fail; refine (lfiles_any db mb tb DP _ (HDH.out.below I20.out) GDP.out.wf).mono ?_; rintro e u24 ⟨v24, rfl, hs24, hb24⟩; have I24 : Hid (Below wH.heap.size wH u24) := Lib.hid (I20.out.trans (hb24.mono I20.out.size)); have S24 := Lib.hid hs24; clear hs24 hb24; go_wp2_with fail
    refine step_post (fun _ => I24.out) ?_
    refine stage_op 27 (by kernel_rfl) (L := #[true, true, true, true, true, true, true, true, true, true, true, true, true, true, true, true, true, true, true, true, true, true, true, true, true, true, true, true, false, false, false, false, false]) (by kernel_rfl) ?_
    simp only [List.drop_succ_cons, List.drop_zero, List.take_succ_cons, List.take_zero]
    go_wp2_with fail; refine (rsameL_any _ _ DP.files _ S24.out (HSH.out.below I24.out) (by have := GDP.out.few; omega)).mono ?_; rintro e u27 ⟨rfl, hb27⟩; have I27 : Hid (Below wH.heap.size wH u27) := Lib.hid (I24.out.trans (hb27.mono I24.out.size)); clear hb27; go_wp2_with fail
    refine step_post nofun ?_
    refine stage_heads [28, 29] (by kernel_rfl) (L := #[true, true, true, true, true, true, true, true, true, true, true, true, true, true, true, true, true, true, true, true, true, true, true, true, true, true, true, true, true, true, false, false, false]) (by kernel_rfl) (f' := 3) rfl (fun _ _ _ _ h => h) (fun w o h => ST.alloc h o) (.inl (by kernel_rfl)) ?_
    simp only [List.flatMap_cons, List.flatMap_nil, List.drop_succ_cons, List.drop_zero, List.take_succ_cons, List.take_zero, List.cons_append, List.nil_append, List.append_nil]
    iterate 2 (refine heads_pure _ (by rfl) (fun w' => by go_simp; try with_reducible rfl) ?_; simp only [Act.put, List.setIfInBounds_toArray, List.set_cons_zero, List.set_cons_succ])
    refine heads_nil ?_
    refine stage_op 30 (by kernel_rfl) (L := #[true, true, true, true, true, true, true, true, true, true, true, true, true, true, true, true, true, true, true, true, true, true, true, true, true, true, true, true, true, true, true, false, false]) (by kernel_rfl) ?_
    simp only [List.drop_succ_cons, List.drop_zero, List.take_succ_cons, List.take_zero]
    go_wp2_with fail; refine (lives_any _).mono ?_; rintro e u30 ⟨rfl, hb30⟩; have I30 : Hid (Below wH.heap.size wH u30) := Lib.hid (I27.out.trans (hb30.mono I27.out.size)); clear hb30; go_wp2_with fail
    refine step_post nofun ?_
    refine stage_heads [31, 32] (by kernel_rfl) (L := #[true, true, true, true, true, true, true, true, true, true, true, true, true, true, true, true, true, true, true, true, true, true, true, true, true, true, true, true, true, true, true, true, true]) (by kernel_rfl) (f' := 0) rfl (fun _ _ _ _ h => h) (fun w o h => ST.alloc h o) (.inl (by kernel_rfl)) ?_
    simp only [List.flatMap_cons, List.flatMap_nil, List.drop_succ_cons, List.drop_zero, List.take_succ_cons, List.take_zero, List.cons_append, List.nil_append, List.append_nil]
    iterate 2 (refine heads_pure _ (by rfl) (fun w' => by go_simp; try with_reducible rfl) ?_; simp only [Act.put, List.setIfInBounds_toArray, List.set_cons_zero, List.set_cons_succ])
    refine heads_nil ?_
    refine stage_done (by kernel_rfl) ?_
    go_wp2_with fail
    go_ret
    exact ⟨rfl, BLH.out.trans (I30.out.mono BLH.out.size)⟩
set_option maxHeartbeats 4000000 in
set_option maxRecDepth 20000 in
theorem sopens_tf (l1 l2 : List Nat) (v1 v2 : Value) (w : World) (h1 : Bytes w v1 l1) (h2 : Bytes w v2 l2) (hs : l1.length + l2.length ≤ 80000) :
    Calls Tryz.prog 3 #[v1, v2, .bool true, .bool false] w fun e w' => e = .returned (.bool true) ∧ Below w.heap.size w w' := by
  have HX1 := Lib.hid h1
  have HX2 := Lib.hid h2
  have HSZ1 : Hid (l1.length ≤ 2097152) := Lib.hid (by omega)
  have HSZ2 : Hid (l2.length ≤ 2097152) := Lib.hid (by omega)
  obtain ⟨x1, y1, rfl, _⟩ := h1.shape
  obtain ⟨x2, y2, rfl, _⟩ := h2.shape
  obtain ⟨n1, hn1⟩ : ∃ n, l1.length = n := ⟨_, rfl⟩
  obtain ⟨n2, hn2⟩ : ∃ n, l2.length = n := ⟨_, rfl⟩
  rw [hn1, hn2] at hs
  rw [hn1] at HX1 ⊢
  rw [hn2] at HX2 ⊢
  have hsi : (n1 : Int) + (n2 : Int) ≤ 80000 := by omega
  clear h1 h2 hs hn1 hn2
  go_enter Tryz.func3, Tryz.ntmps3
  go_wp2_with fail
  refine (dnew 1048576 _ (by decide) (by decide)).mono ?_
  rintro e w1 ⟨db, mb, tb, rfl, hd1, hb1, nd, nm, nt⟩
  have HD1 := Lib.hid hd1
  have B1 := Lib.hid hb1
  have OB : Hid (∀ k, Own3 db mb tb k → w.heap.size ≤ k) := Lib.hid (fun k hk => by rcases hk with rfl | rfl | rfl <;> assumption)
  clear hd1 hb1 nd nm nt
  go_wp2_with fail
  refine (rnew_at 1048576 w1).mono ?_
  rintro e w2 ⟨rfl, hb2⟩
  have B2 : Hid (Below w.heap.size w w2) := Lib.hid (B1.out.trans (hb2.mono B1.out.size))
  have HD2 := Lib.hid (HD1.out.below hb2)
  clear hb2
  obtain ⟨DA, hDA⟩ : ∃ D, D = (⟨1048576, [], false, -1, 0⟩ : DiskS) := ⟨_, rfl⟩
  obtain ⟨aA, haA⟩ : ∃ a : Option Addr, a = none := ⟨_, rfl⟩
  have HAA := Lib.hid haA
  obtain ⟨cA, hcA⟩ : ∃ c : Nat, c = 0 := ⟨_, rfl⟩
  have hsA : SRow w2 3 (.slice aA 0 cA) (([] : List FileS).map rfV) := by rw [haA, hcA]; exact SRow.nil _ _
  rw [show (Value.slice none 0 0) = .slice aA 0 cA by rw [haA, hcA]]
  have HSb := Lib.hid hsA
  clear hsA haA hcA
  have hal : Below w2.heap.size w2 (w2.alloc (.cells #[.int .i64 1048576, .slice aA 0 cA, .bool false, .int .i64 (-1), .int .u64 0] 29)) := (Below.refl _ _).alloc (Nat.le_refl _) _
  have hxa : RD (w2.alloc (.cells #[.int .i64 1048576, .slice aA 0 cA, .bool false, .int .i64 (-1), .int .u64 0] 29)) w2.heap.size DA (.slice aA 0 cA) := by rw [hDA]; exact RD.box w2 ⟨1048576, [], false, -1, 0⟩ (.slice aA 0 cA)
  have BLAA := Lib.hid (B2.out.trans (hal.mono B2.out.size))
  have HDA : Hid (DiskIs _ db mb tb DA) := Lib.hid (by rw [hDA]; exact HD2.out.below hal)
  have HSa := Lib.hid (HSb.out.below hal)
  have NO : Hid (¬ Own3 db mb tb w2.heap.size) := Lib.hid (fun h => by have := HD2.out.lt3 _ h; omega)
  have HXBB : Hid (w.heap.size ≤ w2.heap.size) := Lib.hid B2.out.size
  have XA := Lib.hid hxa
  go_wp2_with fail
  clear hxa hal
  generalize World.alloc w2 _ = wA at *
  generalize w2.heap.size = xb at *
  have BLA := BLAA
  clear BLAA
  obtain ⟨nA, hnA⟩ : ∃ n, n = 0 := ⟨_, rfl⟩
  have APA : Hid (∀ b, (Value.slice aA nA cA).ownBlock = some b → ¬ Own3 db mb tb b) := Lib.hid (fun b hb h3 => by rw [HAA.out] at hb; cases hb)
  rw [← hnA] at XA HSa
  have HSA : Hid (SRow wA 3 (.slice aA nA cA) (DA.files.map rfV)) := Lib.hid (by rw [hDA]; exact HSa.out)
  have GDA : Hid (DGood DA) := Lib.hid (by rw [hDA]; exact ⟨⟨by decide, by decide, by decide, by decide, by decide, by decide, by decide, fun f h => by cases h⟩, by decide, by decide⟩)
  have SZA : Hid (DA.steps ≤ 4) := Lib.hid (by rw [hDA]; decide)
  have CAA : Hid (Calm DA) := Lib.hid (by rw [hDA]; exact ⟨rfl, rfl⟩)
  have B8A : Hid (Byt8 DA.files) := Lib.hid (by rw [hDA]; exact fun f h => by cases h)
  have HNA : Hid (DA.files.length = nA) := Lib.hid (by rw [hDA, hnA]; rfl)
  clear HSa HD2 HSb HD1 hDA hnA B1 B2
  refine (dapp_any db mb tb DA nSnap _ l1 _ HDA.out GDA.out (HX1.out.below BLA.out) (by decide)).mono ?_
  rintro e wAm ⟨rfl, hd, hk⟩
  have HDAm := Lib.hid hd
  have XAm := Lib.hid (XA.out.kept hk NO.out)
  have HSAm : Hid (SRow wAm 3 (.slice aA nA cA) (DA.files.map rfV)) := Lib.hid (HSA.out.kept hk (.inr APA.out))
  have BLAm : Hid (Below w.heap.size w wAm) := Lib.hid (BLA.out.trans (hk.below BLA.out.size OB.out))
  clear hd hk
  obtain ⟨r0, r1, r2, r3, r4, _⟩ := XAm.out
  have y0 := (HX1.out.below BLAm.out).str Tryz.underlying22 Tryz.underlying5 Tryz.underlying9
  go_wp2_with fail
  refine (rappend_new _ DA nSnap l1 _ (RIs.new HNA.out HSAm.out) GDA.out (by decide) HSZ1.out).mono ?_
  rintro e wAr ⟨vAr, rfl, hrAr, hbAr, hfAr⟩
  obtain ⟨aB, cB, rfl, hsAr⟩ := hrAr
  clear y0 r0 r1 r2 r3 r4
  have GG := GDA.out.append nSnap l1 (by have := SZA.out; omega)
  have CAB := Lib.hid (appendD_calm CAA.out nSnap l1)
  have B8B := Lib.hid (B8A.out.append nSnap l1 HX1.out.lt)
  generalize (appendD DA nSnap l1).1 = DB at *
  have GDB := Lib.hid GG.1
  have SZB : Hid (DB.steps ≤ 5) := Lib.hid (by have := GG.2; have := SZA.out; omega)
  obtain ⟨nB, hnB⟩ : ∃ n, DB.files.length = n := ⟨_, rfl⟩
  have HNB := Lib.hid hnB
  rw [hnB] at hsAr hfAr ⊢
  have HSAr := Lib.hid hsAr
  have YtofhccpagnkalaaGreatAr := Lib.hid (XAm.out.below hbAr)
  have APB : Hid (∀ b, (Value.slice aB nB cB).ownBlock = some b → ¬ Own3 db mb tb b) := Lib.hid (fun b hb h3 => by
    rcases hfAr b hb with e | e
    · exact APA.out b e h3
    · have := HDAm.out.lt3 b h3; omega)
  have BLAr : Hid (Below w.heap.size w wAr) := Lib.hid (BLAm.out.trans (hbAr.mono BLAm.out.size))
  have XBa := YtofhccpagnkalaaGreatAr.out.set DB (.slice aB nB cB)
  have HDBa := (HDAm.out.below hbAr).setRD YtofhccpagnkalaaGreatAr.out NO.out DB (.slice aB nB cB)
  have HSBa := HSAr.out.setD YtofhccpagnkalaaGreatAr.out (fun s e => by cases e) DB (.slice aB nB cB)
  have BLBa := BLAr.out.trans ((Kept.set5D wAr xb DB (.slice aB nB cB)).below BLAr.out.size (fun k hk => by rw [hk]; exact HXBB.out))
  unfold set5D at XBa HDBa HSBa BLBa
  have XB := Lib.hid XBa
  have HDB := Lib.hid HDBa
  have HSB := Lib.hid HSBa
  have BLB := Lib.hid BLBa
  clear XBa HDBa HSBa BLBa hbAr hfAr hsAr hnB GG
  obtain ⟨r0, r1, r2, r3, r4, f0, f1, f2, f3, f4⟩ := YtofhccpagnkalaaGreatAr.out
  go_wp2_with fail
  generalize (((((wAr.setCell ⟨xb, 0, none⟩ (.int .i64 DB.room)).setCell ⟨xb, 1, none⟩ (.slice aB nB cB)).setCell ⟨xb, 2, none⟩ (.bool DB.down)).setCell ⟨xb, 3, none⟩ (.int .i64 DB.armed)).setCell ⟨xb, 4, none⟩ (.int .u64 DB.steps)) = wB at *
  clear r0 r1 r2 r3 r4 f0 f1 f2 f3 f4
  refine (sopen_any db mb tb DB _ HDB.out GDB.out).mono ?_
  rintro e wO ⟨hno, hok, hdO, hkO⟩
  have hE : ∃ p, e = .returned (.tuple #[.pointer p, .int .i64 (sopenE DB)]) ∧ OptStore wO p db mb tb (openS27 DB) ∧ ((p = none ∧ sopenE DB ≠ 0) ∨ ∃ sb, p = some ⟨sb, 0, none⟩ ∧ sopenE DB = 0) := by
    by_cases h0 : sopenE DB = 0
    · obtain ⟨sb, h1, h2, h3⟩ := hok h0
      refine ⟨_, by rw [h1, h0]; rfl, .inr ⟨sb, rfl, ?_, ?_⟩, .inr ⟨sb, rfl, h0⟩⟩
      · unfold openS27; rw [if_pos h0]; exact h2
      · unfold openS27; rw [if_pos h0]; exact sopenS_ok _
    · exact ⟨none, hno h0, .inl ⟨rfl, by unfold openS27; rw [if_neg h0]⟩, .inl ⟨rfl, h0⟩⟩
  obtain ⟨p, rfl, hst, hpc⟩ := hE
  have HPC := Lib.hid hpc
  have HST := Lib.hid hst
  have HDO := Lib.hid hdO
  have XO := Lib.hid (XB.out.kept hkO NO.out)
  have HSO : Hid (SRow wO 3 (.slice aB nB cB) (DB.files.map rfV)) := Lib.hid (HSB.out.kept hkO (.inr APB.out))
  have BLO : Hid (Below w.heap.size w wO) := Lib.hid (BLB.out.trans (hkO.below BLB.out.size OB.out))
  have hgo := goneD_good GDB.out (by have := SZB.out; omega)
  clear hno hok hpc hst hdO hkO
  obtain ⟨r0, r1, r2, r3, r4, _⟩ := XO.out
  go_wp2_with fail
  refine (ropen27_any _ DB _ (RIs.new HNB.out HSO.out) GDB.out CAB.out (by have := SZB.out; omega) B8B.out).mono ?_
  rintro e wP ⟨v', i, t, mv, dv, rfl, hrP, hiP, hbP, _, _⟩
  obtain ⟨aR, cR, rfl, hsR⟩ := hrP
  obtain ⟨mv', dv', hee, hmP, hdP⟩ := hiP
  simp only [Value.agg.injEq, Array.mk.injEq, List.cons.injEq, and_true, Value.int.injEq, true_and] at hee
  obtain ⟨rfl, rfl, rfl, rfl⟩ := hee
  obtain ⟨am, cm, rfl, _⟩ := hmP.shape
  obtain ⟨ad, cd, rfl, _⟩ := hdP.shape
  have HIP : Hid (SnapIs wP (.agg #[.int .u64 (openS27 DB).i, .int .u64 (openS27 DB).t, .slice am (openS27 DB).ms.length cm, .slice ad (openS27 DB).d.length cd]) (openS27 DB)) := Lib.hid ⟨_, _, rfl, hmP, hdP⟩
  have HDP := Lib.hid (HDO.out.below hbP)
  have HSP := Lib.hid hsR
  have HSTP := Lib.hid (HST.out.below hbP)
  have BLP := Lib.hid (BLO.out.trans (hbP.mono BLO.out.size))
  have GDP := Lib.hid hgo.1
  clear hsR hbP hgo hmP hdP r0 r1 r2 r3 r4 XO HDO HSO HST BLO
  generalize (goneD DB).1 = DP at *
  obtain ⟨nR, hnR⟩ : ∃ k, DP.files.length = k := ⟨_, rfl⟩
  rw [hnR] at HSP ⊢
  clear hnR
  obtain ⟨SS, hSS⟩ : ∃ s, openS27 DB = s := ⟨_, rfl⟩
  rw [hSS] at HIP HSTP ⊢
  obtain ⟨et, het⟩ : ∃ k, sopenE DB = k := ⟨_, rfl⟩
  rw [het] at HPC ⊢
  clear hSS het
  obtain ⟨nm', hnm⟩ : ∃ k, SS.ms.length = k := ⟨_, rfl⟩
  obtain ⟨nd', hnd⟩ : ∃ k, SS.d.length = k := ⟨_, rfl⟩
  rw [hnm, hnd] at HIP ⊢
  clear hnm hnd
  go_wp2_with fail
  have hxq := (RD.box wP DP (.slice aR nR cR)).below ((Below.refl _ _).alloc (Nat.le_refl _) (.cells #[.int .u64 SS.i, .int .u64 SS.t, .slice am nm' cm, .slice ad nd' cd] 40))
  have hvq := SBlk.box (wP.alloc (.cells #[.int .i64 DP.room, .slice aR nR cR, .bool DP.down, .int .i64 DP.armed, .int .u64 DP.steps] 29)) SS.i SS.t (.slice am nm' cm) (.slice ad nd' cd)
  have hbq : Below wP.heap.size wP ((wP.alloc (.cells #[.int .i64 DP.room, .slice aR nR cR, .bool DP.down, .int .i64 DP.armed, .int .u64 DP.steps] 29)).alloc (.cells #[.int .u64 SS.i, .int .u64 SS.t, .slice am nm' cm, .slice ad nd' cd] 40)) := ((Below.refl _ _).alloc (Nat.le_refl _) _).alloc (by simp) _
  rw [World.size_alloc] at hvq
  generalize World.alloc (World.alloc wP _) _ = wQ at *
  have XQ := Lib.hid hxq
  have VQ := Lib.hid hvq
  have HIQ := Lib.hid (HIP.out.below hbq)
  have HDQ := Lib.hid (HDP.out.below hbq)
  have HSQ := Lib.hid (HSP.out.below hbq)
  have HSTQ := Lib.hid (HSTP.out.below hbq)
  have BLQ := Lib.hid (BLP.out.trans (hbq.mono BLP.out.size))
  clear hxq hvq hbq HIP HDP HSP HSTP BLP
  refine (sget_all p db mb tb SS wQ HSTQ.out).mono ?_
  rintro e wG ⟨i2, t2, mv2, dv2, rfl, hi2, hb2⟩
  obtain ⟨mv', dv', hee, hmG, hdG⟩ := hi2
  simp only [Value.agg.injEq, Array.mk.injEq, List.cons.injEq, and_true, Value.int.injEq, true_and] at hee
  obtain ⟨rfl, rfl, rfl, rfl⟩ := hee
  obtain ⟨am2, cm2, rfl, _⟩ := hmG.shape
  obtain ⟨ad2, cd2, rfl, _⟩ := hdG.shape
  have HIG : Hid (SnapIs wG (.agg #[.int .u64 SS.i, .int .u64 SS.t, .slice am2 SS.ms.length cm2, .slice ad2 SS.d.length cd2]) SS) := Lib.hid ⟨_, _, rfl, hmG, hdG⟩
  have BQG := Lib.hid hb2
  clear hmG hdG hb2
  obtain ⟨nm2, hnm⟩ : ∃ k, SS.ms.length = k := ⟨_, rfl⟩
  obtain ⟨nd2, hnd⟩ : ∃ k, SS.d.length = k := ⟨_, rfl⟩
  rw [hnm, hnd] at HIG ⊢
  clear hnm hnd
  obtain ⟨okb, hokb⟩ : ∃ x, decide (0 < SS.i) = x := ⟨_, rfl⟩
  have HOKB := Lib.hid hokb
  rw [hokb]
  clear hokb
  go_wp2_with fail
  have hsb := SBlk.box wG SS.i SS.t (.slice am2 nm2 cm2) (.slice ad2 nd2 cd2)
  have hbg : Below wG.heap.size wG (wG.alloc (.cells #[.int .u64 SS.i, .int .u64 SS.t, .slice am2 nm2 cm2, .slice ad2 nd2 cd2] 40)) := (Below.refl _ _).alloc (Nat.le_refl _) _
  have hqg := BQG.out.trans (hbg.mono BQG.out.size)
  generalize World.alloc wG _ = wH at *
  have XH := Lib.hid (XQ.out.below hqg)
  have VH := Lib.hid (VQ.out.below hqg)
  have SH := Lib.hid hsb
  have IS2 := Lib.hid (HIQ.out.below hqg)
  have IS1 := Lib.hid (HIG.out.below hbg)
  have HDH := Lib.hid (HDQ.out.below hqg)
  have HSH := Lib.hid (HSQ.out.below hqg)
  have BLH := Lib.hid (BLQ.out.trans (hqg.mono BLQ.out.size))
  have ST := Stable.from wH
  clear hsb hbg hqg HIG HIQ XQ VQ HDQ HSQ HSTQ BLQ BQG
  obtain ⟨si, hsi⟩ : ∃ x, SS.i = x := ⟨_, rfl⟩
  have HSI := Lib.hid hsi
  obtain ⟨st, hstt⟩ : ∃ x, SS.t = x := ⟨_, rfl⟩
  rw [hsi, hstt] at VH SH IS1 IS2 ⊢
  rw [hsi] at HOKB
  clear hsi hstt
  have hokd : (okb == decide (0 < si)) = true := by rw [HOKB.out]; exact beq_self_eq_true _
  have hete : ((et : Int) == (et : Int)) = true := beq_self_eq_true _
  rcases HPC.out with ⟨hp, he0⟩ | ⟨sb, hp, he0⟩
  all_goals
    subst hp
    first | (have hne : ((et : Int) != 0) = true := bne_iff_ne.2 (by omega)) | (have hne : ((et : Int) != 0) = false := bne_eq_false_iff_eq.2 (by omega))
    clear he0
    refine region_start [0, 0, 3, 7, 15, 31, 15, 79, 255, 511, 1023, 2047, 2047, 6143, 14335, 32767, 65535, 131071, 262143, 262143, 1048575, 2097151, 4194303, 8388607, 16777215, 8388607, 41943039, 134217727, 268435455, 536870911, 1073741823, 2147483647, 4294967295] 125829120 (fun w' => Below wH.heap.size wH w') (by kernel_rfl) ?_
    refine stage_heads [0, 1, 2, 3, 4, 5, 6, 7, 8, 9, 10, 11, 12, 13, 14, 15, 16, 17, 18, 19] (by kernel_rfl) (L := #[true, true, true, true, true, true, true, true, true, true, true, true, true, true, true, true, true, true, true, true, false, false, false, false, false, false, false, false, false, false, false, false, false]) (by kernel_rfl) (f' := 13) rfl (fun _ _ _ _ h => h) (fun w o h => ST.alloc h o) (.inr (by first | exact (Below.refl _ _).drew | exact Below.refl _ _)) ?_
    simp only [List.flatMap_cons, List.flatMap_nil, List.drop_succ_cons, List.drop_zero, List.take_succ_cons, List.take_zero, List.cons_append, List.nil_append, List.append_nil]
    iterate 20 (first | (refine heads_load _ (by rfl) (fun w' hs => by obtain ⟨r0, r1, r2, r3, r4, _⟩ := XH.out.below hs; obtain ⟨s0, s1, s2, s3, _⟩ := VH.out.below hs; obtain ⟨t0, t1, t2, t3, _⟩ := SH.out.below hs; go_simp; try with_reducible rfl) rfl ?_; simp only [Act.put, List.setIfInBounds_toArray, List.set_cons_zero, List.set_cons_succ]) | (refine heads_pure _ (by rfl) (fun w' => by go_simp; try with_reducible rfl) ?_; simp only [Act.put, List.setIfInBounds_toArray, List.set_cons_zero, List.set_cons_succ]) | (refine heads_skip (by rfl) ?_; simp only [Act.put, List.setIfInBounds_toArray, List.set_cons_zero, List.set_cons_succ]))
    refine heads_nil ?_
    refine stage_op 20 (by kernel_rfl) (L := #[true, true, true, true, true, true, true, true, true, true, true, true, true, true, true, true, true, true, true, true, true, false, false, false, false, false, false, false, false, false, false, false, false]) (by kernel_rfl) ?_
    simp only [List.drop_succ_cons, List.drop_zero, List.take_succ_cons, List.take_zero]
    go_wp2_with fail; refine (rsame_any _ _ SS SS _ (by first | exact IS1.out.below ((Below.refl _ _).drew) | exact IS1.out) (by first | exact IS2.out.below ((Below.refl _ _).drew) | exact IS2.out)).mono ?_; rintro e u20 ⟨rfl, hb20⟩; rw [SnapS.sameB_refl]; have I20 : Hid (Below wH.heap.size wH u20) := Lib.hid (by first | exact ((Below.refl _ _).drew).trans hb20 | exact hb20); clear hb20; go_wp2_with fail
    refine step_post nofun ?_
    refine stage_heads [21, 22, 23, 25, 26] (by kernel_rfl) (L := #[true, true, true, true, true, true, true, true, true, true, true, true, true, true, true, true, true, true, true, true, true, true, true, true, false, true, true, false, false, false, false, false, false]) (by kernel_rfl) (f' := 7) rfl (fun _ _ _ _ h => h) (fun w o h => ST.alloc h o) (.inr I20.out) ?_
    simp only [List.flatMap_cons, List.flatMap_nil, List.drop_succ_cons, List.drop_zero, List.take_succ_cons, List.take_zero, List.cons_append, List.nil_append, List.append_nil]
    iterate 5 (first | (refine heads_load _ (by rfl) (fun w' hs => by obtain ⟨r0, r1, r2, r3, r4, _⟩ := XH.out.below hs; obtain ⟨s0, s1, s2, s3, _⟩ := VH.out.below hs; obtain ⟨t0, t1, t2, t3, _⟩ := SH.out.below hs; go_simp; try with_reducible rfl) rfl ?_; simp only [Act.put, List.setIfInBounds_toArray, List.set_cons_zero, List.set_cons_succ]) | (refine heads_pure _ (by rfl) (fun w' => by go_simp; try with_reducible rfl) ?_; simp only [Act.put, List.setIfInBounds_toArray, List.set_cons_zero, List.set_cons_succ]) | (refine heads_skip (by rfl) ?_; simp only [Act.put, List.setIfInBounds_toArray, List.set_cons_zero, List.set_cons_succ]))
    refine heads_nil ?_
    refine stage_op 24 (by kernel_rfl) (L := #[true, true, true, true, true, true, true, true, true, true, true, true, true, true, true, true, true, true, true, true, true, true, true, true, true, true, true, false, false, false, false, false, false]) (by kernel_rfl) ?_
    simp only [List.drop_succ_cons, List.drop_zero, List.take_succ_cons, List.take_zero]
    go_wp2_with fail; refine (lfiles_any db mb tb DP _ (HDH.out.below I20.out) GDP.out.wf).mono ?_; rintro e u24 ⟨v24, rfl, hs24, hb24⟩; have I24 : Hid (Below wH.heap.size wH u24) := Lib.hid (I20.out.trans (hb24.mono I20.out.size)); have S24 := Lib.hid hs24; clear hs24 hb24; go_wp2_with fail
    refine step_post (fun _ => I24.out) ?_
    refine stage_op 27 (by kernel_rfl) (L := #[true, true, true, true, true, true, true, true, true, true, true, true, true, true, true, true, true, true, true, true, true, true, true, true, true, true, true, true, false, false, false, false, false]) (by kernel_rfl) ?_
    simp only [List.drop_succ_cons, List.drop_zero, List.take_succ_cons, List.take_zero]
    go_wp2_with fail; refine (rsameL_any _ _ DP.files _ S24.out (HSH.out.below I24.out) (by have := GDP.out.few; omega)).mono ?_; rintro e u27 ⟨rfl, hb27⟩; have I27 : Hid (Below wH.heap.size wH u27) := Lib.hid (I24.out.trans (hb27.mono I24.out.size)); clear hb27; go_wp2_with fail
    refine step_post nofun ?_
    refine stage_heads [28, 29] (by kernel_rfl) (L := #[true, true, true, true, true, true, true, true, true, true, true, true, true, true, true, true, true, true, true, true, true, true, true, true, true, true, true, true, true, true, false, false, false]) (by kernel_rfl) (f' := 3) rfl (fun _ _ _ _ h => h) (fun w o h => ST.alloc h o) (.inl (by kernel_rfl)) ?_
    simp only [List.flatMap_cons, List.flatMap_nil, List.drop_succ_cons, List.drop_zero, List.take_succ_cons, List.take_zero, List.cons_append, List.nil_append, List.append_nil]
    iterate 2 (refine heads_pure _ (by rfl) (fun w' => by go_simp; try with_reducible rfl) ?_; simp only [Act.put, List.setIfInBounds_toArray, List.set_cons_zero, List.set_cons_succ])
    refine heads_nil ?_
    refine stage_op 30 (by kernel_rfl) (L := #[true, true, true, true, true, true, true, true, true, true, true, true, true, true, true, true, true, true, true, true, true, true, true, true, true, true, true, true, true, true, true, false, false]) (by kernel_rfl) ?_
    simp only [List.drop_succ_cons, List.drop_zero, List.take_succ_cons, List.take_zero]
    go_wp2_with fail; refine (lives_any _).mono ?_; rintro e u30 ⟨rfl, hb30⟩; have I30 : Hid (Below wH.heap.size wH u30) := Lib.hid (I27.out.trans (hb30.mono I27.out.size)); clear hb30; go_wp2_with fail
    refine step_post nofun ?_
    refine stage_heads [31, 32] (by kernel_rfl) (L := #[true, true, true, true, true, true, true, true, true, true, true, true, true, true, true, true, true, true, true, true, true, true, true, true, true, true, true, true, true, true, true, true, true]) (by kernel_rfl) (f' := 0) rfl (fun _ _ _ _ h => h) (fun w o h => ST.alloc h o) (.inl (by kernel_rfl)) ?_
    simp only [List.flatMap_cons, List.flatMap_nil, List.drop_succ_cons, List.drop_zero, List.take_succ_cons, List.take_zero, List.cons_append, List.nil_append, List.append_nil]
    iterate 2 (refine heads_pure _ (by rfl) (fun w' => by go_simp; try with_reducible rfl) ?_; simp only [Act.put, List.setIfInBounds_toArray, List.set_cons_zero, List.set_cons_succ])
    refine heads_nil ?_
    refine stage_done (by kernel_rfl) ?_
    go_wp2_with fail
    go_ret
    exact ⟨rfl, BLH.out.trans (I30.out.mono BLH.out.size)⟩
set_option maxHeartbeats 4000000 in
set_option maxRecDepth 20000 in
theorem sopens_ft (l1 l2 : List Nat) (v1 v2 : Value) (w : World) (h1 : Bytes w v1 l1) (h2 : Bytes w v2 l2) (hs : l1.length + l2.length ≤ 80000) :
    Calls Tryz.prog 3 #[v1, v2, .bool false, .bool true] w fun e w' => e = .returned (.bool true) ∧ Below w.heap.size w w' := by
  have HX1 := Lib.hid h1
  have HX2 := Lib.hid h2
  have HSZ1 : Hid (l1.length ≤ 2097152) := Lib.hid (by omega)
  have HSZ2 : Hid (l2.length ≤ 2097152) := Lib.hid (by omega)
  obtain ⟨x1, y1, rfl, _⟩ := h1.shape
  obtain ⟨x2, y2, rfl, _⟩ := h2.shape
  obtain ⟨n1, hn1⟩ : ∃ n, l1.length = n := ⟨_, rfl⟩
  obtain ⟨n2, hn2⟩ : ∃ n, l2.length = n := ⟨_, rfl⟩
  rw [hn1, hn2] at hs
  rw [hn1] at HX1 ⊢
  rw [hn2] at HX2 ⊢
  have hsi : (n1 : Int) + (n2 : Int) ≤ 80000 := by omega
  clear h1 h2 hs hn1 hn2
  go_enter Tryz.func3, Tryz.ntmps3
  go_wp2_with fail
  refine (dnew 1048576 _ (by decide) (by decide)).mono ?_
  rintro e w1 ⟨db, mb, tb, rfl, hd1, hb1, nd, nm, nt⟩
  have HD1 := Lib.hid hd1
  have B1 := Lib.hid hb1
  have OB : Hid (∀ k, Own3 db mb tb k → w.heap.size ≤ k) := Lib.hid (fun k hk => by rcases hk with rfl | rfl | rfl <;> assumption)
  clear hd1 hb1 nd nm nt
  go_wp2_with fail
  refine (rnew_at 1048576 w1).mono ?_
  rintro e w2 ⟨rfl, hb2⟩
  have B2 : Hid (Below w.heap.size w w2) := Lib.hid (B1.out.trans (hb2.mono B1.out.size))
  have HD2 := Lib.hid (HD1.out.below hb2)
  clear hb2
  obtain ⟨DA, hDA⟩ : ∃ D, D = (⟨1048576, [], false, -1, 0⟩ : DiskS) := ⟨_, rfl⟩
  obtain ⟨aA, haA⟩ : ∃ a : Option Addr, a = none := ⟨_, rfl⟩
  have HAA := Lib.hid haA
  obtain ⟨cA, hcA⟩ : ∃ c : Nat, c = 0 := ⟨_, rfl⟩
  have hsA : SRow w2 3 (.slice aA 0 cA) (([] : List FileS).map rfV) := by rw [haA, hcA]; exact SRow.nil _ _
  rw [show (Value.slice none 0 0) = .slice aA 0 cA by rw [haA, hcA]]
  have HSb := Lib.hid hsA
  clear hsA haA hcA
  have hal : Below w2.heap.size w2 (w2.alloc (.cells #[.int .i64 1048576, .slice aA 0 cA, .bool false, .int .i64 (-1), .int .u64 0] 29)) := (Below.refl _ _).alloc (Nat.le_refl _) _
  have hxa : RD (w2.alloc (.cells #[.int .i64 1048576, .slice aA 0 cA, .bool false, .int .i64 (-1), .int .u64 0] 29)) w2.heap.size DA (.slice aA 0 cA) := by rw [hDA]; exact RD.box w2 ⟨1048576, [], false, -1, 0⟩ (.slice aA 0 cA)
  have BLAA := Lib.hid (B2.out.trans (hal.mono B2.out.size))
  have HDA : Hid (DiskIs _ db mb tb DA) := Lib.hid (by rw [hDA]; exact HD2.out.below hal)
  have HSa := Lib.hid (HSb.out.below hal)
  have NO : Hid (¬ Own3 db mb tb w2.heap.size) := Lib.hid (fun h => by have := HD2.out.lt3 _ h; omega)
  have HXBB : Hid (w.heap.size ≤ w2.heap.size) := Lib.hid B2.out.size
  have XA := Lib.hid hxa
  go_wp2_with fail
  clear hxa hal
  generalize World.alloc w2 _ = wA at *
  generalize w2.heap.size = xb at *
  have BLA := BLAA
  clear BLAA
  obtain ⟨nA, hnA⟩ : ∃ n, n = 0 := ⟨_, rfl⟩
  have APA : Hid (∀ b, (Value.slice aA nA cA).ownBlock = some b → ¬ Own3 db mb tb b) := Lib.hid (fun b hb h3 => by rw [HAA.out] at hb; cases hb)
  rw [← hnA] at XA HSa
  have HSA : Hid (SRow wA 3 (.slice aA nA cA) (DA.files.map rfV)) := Lib.hid (by rw [hDA]; exact HSa.out)
  have GDA : Hid (DGood DA) := Lib.hid (by rw [hDA]; exact ⟨⟨by decide, by decide, by decide, by decide, by decide, by decide, by decide, fun f h => by cases h⟩, by decide, by decide⟩)
  have SZA : Hid (DA.steps ≤ 4) := Lib.hid (by rw [hDA]; decide)
  have CAA : Hid (Calm DA) := Lib.hid (by rw [hDA]; exact ⟨rfl, rfl⟩)
  have B8A : Hid (Byt8 DA.files) := Lib.hid (by rw [hDA]; exact fun f h => by cases h)
  have HNA : Hid (DA.files.length = nA) := Lib.hid (by rw [hDA, hnA]; rfl)
  clear HSa HD2 HSb HD1 hDA hnA B1 B2
  refine (dapp_any db mb tb DA nOther _ l2 _ HDA.out GDA.out (HX2.out.below BLA.out) (by decide)).mono ?_
  rintro e wAm ⟨rfl, hd, hk⟩
  have HDAm := Lib.hid hd
  have XAm := Lib.hid (XA.out.kept hk NO.out)
  have HSAm : Hid (SRow wAm 3 (.slice aA nA cA) (DA.files.map rfV)) := Lib.hid (HSA.out.kept hk (.inr APA.out))
  have BLAm : Hid (Below w.heap.size w wAm) := Lib.hid (BLA.out.trans (hk.below BLA.out.size OB.out))
  clear hd hk
  obtain ⟨r0, r1, r2, r3, r4, _⟩ := XAm.out
  have y0 := (HX2.out.below BLAm.out).str Tryz.underlying22 Tryz.underlying5 Tryz.underlying9
  go_wp2_with fail
  refine (rappend_new _ DA nOther l2 _ (RIs.new HNA.out HSAm.out) GDA.out (by decide) HSZ2.out).mono ?_
  rintro e wAr ⟨vAr, rfl, hrAr, hbAr, hfAr⟩
  obtain ⟨aB, cB, rfl, hsAr⟩ := hrAr
  clear y0 r0 r1 r2 r3 r4
  have GG := GDA.out.append nOther l2 (by have := SZA.out; omega)
  have CAB := Lib.hid (appendD_calm CAA.out nOther l2)
  have B8B := Lib.hid (B8A.out.append nOther l2 HX2.out.lt)
  generalize (appendD DA nOther l2).1 = DB at *
  have GDB := Lib.hid GG.1
  have SZB : Hid (DB.steps ≤ 5) := Lib.hid (by have := GG.2; have := SZA.out; omega)
  obtain ⟨nB, hnB⟩ : ∃ n, DB.files.length = n := ⟨_, rfl⟩
  have HNB := Lib.hid hnB
  rw [hnB] at hsAr hfAr ⊢
  have HSAr := Lib.hid hsAr
  have YtofhccpagnkalaaGreatAr := Lib.hid (XAm.out.below hbAr)
  have APB : Hid (∀ b, (Value.slice aB nB cB).ownBlock = some b → ¬ Own3 db mb tb b) := Lib.hid (fun b hb h3 => by
    rcases hfAr b hb with e | e
    · exact APA.out b e h3
    · have := HDAm.out.lt3 b h3; omega)
  have BLAr : Hid (Below w.heap.size w wAr) := Lib.hid (BLAm.out.trans (hbAr.mono BLAm.out.size))
  have XBa := YtofhccpagnkalaaGreatAr.out.set DB (.slice aB nB cB)
  have HDBa := (HDAm.out.below hbAr).setRD YtofhccpagnkalaaGreatAr.out NO.out DB (.slice aB nB cB)
  have HSBa := HSAr.out.setD YtofhccpagnkalaaGreatAr.out (fun s e => by cases e) DB (.slice aB nB cB)
  have BLBa := BLAr.out.trans ((Kept.set5D wAr xb DB (.slice aB nB cB)).below BLAr.out.size (fun k hk => by rw [hk]; exact HXBB.out))
  unfold set5D at XBa HDBa HSBa BLBa
  have XB := Lib.hid XBa
  have HDB := Lib.hid HDBa
  have HSB := Lib.hid HSBa
  have BLB := Lib.hid BLBa
  clear XBa HDBa HSBa BLBa hbAr hfAr hsAr hnB GG
  obtain ⟨r0, r1, r2, r3, r4, f0, f1, f2, f3, f4⟩ := YtofhccpagnkalaaGreatAr.out
  go_wp2_with fail
  generalize (((((wAr.setCell ⟨xb, 0, none⟩ (.int .i64 DB.room)).setCell ⟨xb, 1, none⟩ (.slice aB nB cB)).setCell ⟨xb, 2, none⟩ (.bool DB.down)).setCell ⟨xb, 3, none⟩ (.int .i64 DB.armed)).setCell ⟨xb, 4, none⟩ (.int .u64 DB.steps)) = wB at *
  clear r0 r1 r2 r3 r4 f0 f1 f2 f3 f4
  refine (sopen_any db mb tb DB _ HDB.out GDB.out).mono ?_
  rintro e wO ⟨hno, hok, hdO, hkO⟩
  have hE : ∃ p, e = .returned (.tuple #[.pointer p, .int .i64 (sopenE DB)]) ∧ OptStore wO p db mb tb (openS27 DB) ∧ ((p = none ∧ sopenE DB ≠ 0) ∨ ∃ sb, p = some ⟨sb, 0, none⟩ ∧ sopenE DB = 0) := by
    by_cases h0 : sopenE DB = 0
    · obtain ⟨sb, h1, h2, h3⟩ := hok h0
      refine ⟨_, by rw [h1, h0]; rfl, .inr ⟨sb, rfl, ?_, ?_⟩, .inr ⟨sb, rfl, h0⟩⟩
      · unfold openS27; rw [if_pos h0]; exact h2
      · unfold openS27; rw [if_pos h0]; exact sopenS_ok _
    · exact ⟨none, hno h0, .inl ⟨rfl, by unfold openS27; rw [if_neg h0]⟩, .inl ⟨rfl, h0⟩⟩
  obtain ⟨p, rfl, hst, hpc⟩ := hE
  have HPC := Lib.hid hpc
  have HST := Lib.hid hst
  have HDO := Lib.hid hdO
  have XO := Lib.hid (XB.out.kept hkO NO.out)
  have HSO : Hid (SRow wO 3 (.slice aB nB cB) (DB.files.map rfV)) := Lib.hid (HSB.out.kept hkO (.inr APB.out))
  have BLO : Hid (Below w.heap.size w wO) := Lib.hid (BLB.out.trans (hkO.below BLB.out.size OB.out))
  have hgo := goneD_good GDB.out (by have := SZB.out; omega)
  clear hno hok hpc hst hdO hkO
  obtain ⟨r0, r1, r2, r3, r4, _⟩ := XO.out
  go_wp2_with fail
  refine (ropen27_any _ DB _ (RIs.new HNB.out HSO.out) GDB.out CAB.out (by have := SZB.out; omega) B8B.out).mono ?_
  rintro e wP ⟨v', i, t, mv, dv, rfl, hrP, hiP, hbP, _, _⟩
  obtain ⟨aR, cR, rfl, hsR⟩ := hrP
  obtain ⟨mv', dv', hee, hmP, hdP⟩ := hiP
  simp only [Value.agg.injEq, Array.mk.injEq, List.cons.injEq, and_true, Value.int.injEq, true_and] at hee
  obtain ⟨rfl, rfl, rfl, rfl⟩ := hee
  obtain ⟨am, cm, rfl, _⟩ := hmP.shape
  obtain ⟨ad, cd, rfl, _⟩ := hdP.shape
  have HIP : Hid (SnapIs wP (.agg #[.int .u64 (openS27 DB).i, .int .u64 (openS27 DB).t, .slice am (openS27 DB).ms.length cm, .slice ad (openS27 DB).d.length cd]) (openS27 DB)) := Lib.hid ⟨_, _, rfl, hmP, hdP⟩
  have HDP := Lib.hid (HDO.out.below hbP)
  have HSP := Lib.hid hsR
  have HSTP := Lib.hid (HST.out.below hbP)
  have BLP := Lib.hid (BLO.out.trans (hbP.mono BLO.out.size))
  have GDP := Lib.hid hgo.1
  clear hsR hbP hgo hmP hdP r0 r1 r2 r3 r4 XO HDO HSO HST BLO
  generalize (goneD DB).1 = DP at *
  obtain ⟨nR, hnR⟩ : ∃ k, DP.files.length = k := ⟨_, rfl⟩
  rw [hnR] at HSP ⊢
  clear hnR
  obtain ⟨SS, hSS⟩ : ∃ s, openS27 DB = s := ⟨_, rfl⟩
  rw [hSS] at HIP HSTP ⊢
  obtain ⟨et, het⟩ : ∃ k, sopenE DB = k := ⟨_, rfl⟩
  rw [het] at HPC ⊢
  clear hSS het
  obtain ⟨nm', hnm⟩ : ∃ k, SS.ms.length = k := ⟨_, rfl⟩
  obtain ⟨nd', hnd⟩ : ∃ k, SS.d.length = k := ⟨_, rfl⟩
  rw [hnm, hnd] at HIP ⊢
  clear hnm hnd
  go_wp2_with fail
  have hxq := (RD.box wP DP (.slice aR nR cR)).below ((Below.refl _ _).alloc (Nat.le_refl _) (.cells #[.int .u64 SS.i, .int .u64 SS.t, .slice am nm' cm, .slice ad nd' cd] 40))
  have hvq := SBlk.box (wP.alloc (.cells #[.int .i64 DP.room, .slice aR nR cR, .bool DP.down, .int .i64 DP.armed, .int .u64 DP.steps] 29)) SS.i SS.t (.slice am nm' cm) (.slice ad nd' cd)
  have hbq : Below wP.heap.size wP ((wP.alloc (.cells #[.int .i64 DP.room, .slice aR nR cR, .bool DP.down, .int .i64 DP.armed, .int .u64 DP.steps] 29)).alloc (.cells #[.int .u64 SS.i, .int .u64 SS.t, .slice am nm' cm, .slice ad nd' cd] 40)) := ((Below.refl _ _).alloc (Nat.le_refl _) _).alloc (by simp) _
  rw [World.size_alloc] at hvq
  generalize World.alloc (World.alloc wP _) _ = wQ at *
  have XQ := Lib.hid hxq
  have VQ := Lib.hid hvq
  have HIQ := Lib.hid (HIP.out.below hbq)
  have HDQ := Lib.hid (HDP.out.below hbq)
  have HSQ := Lib.hid (HSP.out.below hbq)
  have HSTQ := Lib.hid (HSTP.out.below hbq)
  have BLQ := Lib.hid (BLP.out.trans (hbq.mono BLP.out.size))
  clear hxq hvq hbq HIP HDP HSP HSTP BLP
  refine (sget_all p db mb tb SS wQ HSTQ.out).mono ?_
  rintro e wG ⟨i2, t2, mv2, dv2, rfl, hi2, hb2⟩
  obtain ⟨mv', dv', hee, hmG, hdG⟩ := hi2
  simp only [Value.agg.injEq, Array.mk.injEq, List.cons.injEq, and_true, Value.int.injEq, true_and] at hee
  obtain ⟨rfl, rfl, rfl, rfl⟩ := hee
  obtain ⟨am2, cm2, rfl, _⟩ := hmG.shape
  obtain ⟨ad2, cd2, rfl, _⟩ := hdG.shape
  have HIG : Hid (SnapIs wG (.agg #[.int .u64 SS.i, .int .u64 SS.t, .slice am2 SS.ms.length cm2, .slice ad2 SS.d.length cd2]) SS) := Lib.hid ⟨_, _, rfl, hmG, hdG⟩
  have BQG := Lib.hid hb2
  clear hmG hdG hb2
  obtain ⟨nm2, hnm⟩ : ∃ k, SS.ms.length = k := ⟨_, rfl⟩
  obtain ⟨nd2, hnd⟩ : ∃ k, SS.d.length = k := ⟨_, rfl⟩
  rw [hnm, hnd] at HIG ⊢
  clear hnm hnd
  obtain ⟨okb, hokb⟩ : ∃ x, decide (0 < SS.i) = x := ⟨_, rfl⟩
  have HOKB := Lib.hid hokb
  rw [hokb]
  clear hokb
  go_wp2_with fail
  have hsb := SBlk.box wG SS.i SS.t (.slice am2 nm2 cm2) (.slice ad2 nd2 cd2)
  have hbg : Below wG.heap.size wG (wG.alloc (.cells #[.int .u64 SS.i, .int .u64 SS.t, .slice am2 nm2 cm2, .slice ad2 nd2 cd2] 40)) := (Below.refl _ _).alloc (Nat.le_refl _) _
  have hqg := BQG.out.trans (hbg.mono BQG.out.size)
  generalize World.alloc wG _ = wH at *
  have XH := Lib.hid (XQ.out.below hqg)
  have VH := Lib.hid (VQ.out.below hqg)
  have SH := Lib.hid hsb
  have IS2 := Lib.hid (HIQ.out.below hqg)
  have IS1 := Lib.hid (HIG.out.below hbg)
  have HDH := Lib.hid (HDQ.out.below hqg)
  have HSH := Lib.hid (HSQ.out.below hqg)
  have BLH := Lib.hid (BLQ.out.trans (hqg.mono BLQ.out.size))
  have ST := Stable.from wH
  clear hsb hbg hqg HIG HIQ XQ VQ HDQ HSQ HSTQ BLQ BQG
  obtain ⟨si, hsi⟩ : ∃ x, SS.i = x := ⟨_, rfl⟩
  have HSI := Lib.hid hsi
  obtain ⟨st, hstt⟩ : ∃ x, SS.t = x := ⟨_, rfl⟩
  rw [hsi, hstt] at VH SH IS1 IS2 ⊢
  rw [hsi] at HOKB
  clear hsi hstt
  have hokd : (okb == decide (0 < si)) = true := by rw [HOKB.out]; exact beq_self_eq_true _
  have hete : ((et : Int) == (et : Int)) = true := beq_self_eq_true _
  rcases HPC.out with ⟨hp, he0⟩ | ⟨sb, hp, he0⟩
  all_goals
    subst hp
    first | (have hne : ((et : Int) != 0) = true := bne_iff_ne.2 (by omega)) | (have hne : ((et : Int) != 0) = false := bne_eq_false_iff_eq.2 (by omega))
    clear he0
    refine region_start [0, 0, 3, 7, 15, 31, 15, 79, 255, 511, 1023, 2047, 2047, 6143, 14335, 32767, 65535, 131071, 262143, 262143, 1048575, 2097151, 4194303, 8388607, 16777215, 8388607, 41943039, 134217727, 268435455, 536870911, 1073741823, 2147483647, 4294967295] 125829120 (fun w' => Below wH.heap.size wH w') (by kernel_rfl) ?_
    refine stage_heads [0, 1, 2, 3, 4, 5, 6, 7, 8, 9, 10, 11, 12, 13, 14, 15, 16, 17, 18, 19] (by kernel_rfl) (L := #[true, true, true, true, true, true, true, true, true, true, true, true, true, true, true, true, true, true, true, true, false, false, false, false, false, false, false, false, false, false, false, false, false]) (by kernel_rfl) (f' := 13) rfl (fun _ _ _ _ h => h) (fun w o h => ST.alloc h o) (.inr (by first | exact (Below.refl _ _).drew | exact Below.refl _ _)) ?_
    simp only [List.flatMap_cons, List.flatMap_nil, List.drop_succ_cons, List.drop_zero, List.take_succ_cons, List.take_zero, List.cons_append, List.nil_append, List.append_nil]
    iterate 20 (first | (refine heads_load _ (by rfl) (fun w' hs => by obtain ⟨r0, r1, r2, r3, r4, _⟩ := XH.out.below hs; obtain ⟨s0, s1, s2, s3, _⟩ := VH.out.below hs; obtain ⟨t0, t1, t2, t3, _⟩ := SH.out.below hs; go_simp; try with_reducible rfl) rfl ?_; simp only [Act.put, List.setIfInBounds_toArray, List.set_cons_zero, List.set_cons_succ]) | (refine heads_pure _ (by rfl) (fun w' => by go_simp; try with_reducible rfl) ?_; simp only [Act.put, List.setIfInBounds_toArray, List.set_cons_zero, List.set_cons_succ]) | (refine heads_skip (by rfl) ?_; simp only [Act.put, List.setIfInBounds_toArray, List.set_cons_zero, List.set_cons_succ]))
    refine heads_nil ?_
    refine stage_op 20 (by kernel_rfl) (L := #[true, true, true, true, true, true, true, true, true, true, true, true, true, true, true, true, true, true, true, true, true, false, false, false, false, false, false, false, false, false, false, false, false]) (by kernel_rfl) ?_
    simp only [List.drop_succ_cons, List.drop_zero, List.take_succ_cons, List.take_zero]
    go_wp2_with fail; refine (rsame_any _ _ SS SS _ (by first | exact IS1.out.below ((Below.refl _ _).drew) | exact IS1.out) (by first | exact IS2.out.below ((Below.refl _ _).drew) | exact IS2.out)).mono ?_; rintro e u20 ⟨rfl, hb20⟩; rw [SnapS.sameB_refl]; have I20 : Hid (Below wH.heap.size wH u20) := Lib.hid (by first | exact ((Below.refl _ _).drew).trans hb20 | exact hb20); clear hb20; go_wp2_with fail
    refine step_post nofun ?_
    refine stage_heads [21, 22, 23, 25, 26] (by kernel_rfl) (L := #[true, true, true, true, true, true, true, true, true, true, true, true, true, true, true, true, true, true, true, true, true, true, true, true, false, true, true, false, false, false, false, false, false]) (by kernel_rfl) (f' := 7) rfl (fun _ _ _ _ h => h) (fun w o h => ST.alloc h o) (.inr I20.out) ?_
    simp only [List.flatMap_cons, List.flatMap_nil, List.drop_succ_cons, List.drop_zero, List.take_succ_cons, List.take_zero, List.cons_append, List.nil_append, List.append_nil]
    iterate 5 (first | (refine heads_load _ (by rfl) (fun w' hs => by obtain ⟨r0, r1, r2, r3, r4, _⟩ := XH.out.below hs; obtain ⟨s0, s1, s2, s3, _⟩ := VH.out.below hs; obtain ⟨t0, t1, t2, t3, _⟩ := SH.out.below hs; go_simp; try with_reducible rfl) rfl ?_; simp only [Act.put, List.setIfInBounds_toArray, List.set_cons_zero, List.set_cons_succ]) | (refine heads_pure _ (by rfl) (fun w' => by go_simp; try with_reducible rfl) ?_; simp only [Act.put, List.setIfInBounds_toArray, List.set_cons_zero, List.set_cons_succ]) | (refine heads_skip (by rfl) ?_; simp only [Act.put, List.setIfInBounds_toArray, List.set_cons_zero, List.set_cons_succ]))
    refine heads_nil ?_
    refine stage_op 24 (by kernel_rfl) (L := #[true, true, true, true, true, true, true, true, true, true, true, true, true, true, true, true, true, true, true, true, true, true, true, true, true, true, true, false, false, false, false, false, false]) (by kernel_rfl) ?_
    simp only [List.drop_succ_cons, List.drop_zero, List.take_succ_cons, List.take_zero]
    go_wp2_with fail; refine (lfiles_any db mb tb DP _ (HDH.out.below I20.out) GDP.out.wf).mono ?_; rintro e u24 ⟨v24, rfl, hs24, hb24⟩; have I24 : Hid (Below wH.heap.size wH u24) := Lib.hid (I20.out.trans (hb24.mono I20.out.size)); have S24 := Lib.hid hs24; clear hs24 hb24; go_wp2_with fail
    refine step_post (fun _ => I24.out) ?_
    refine stage_op 27 (by kernel_rfl) (L := #[true, true, true, true, true, true, true, true, true, true, true, true, true, true, true, true, true, true, true, true, true, true, true, true, true, true, true, true, false, false, false, false, false]) (by kernel_rfl) ?_
    simp only [List.drop_succ_cons, List.drop_zero, List.take_succ_cons, List.take_zero]
    go_wp2_with fail; refine (rsameL_any _ _ DP.files _ S24.out (HSH.out.below I24.out) (by have := GDP.out.few; omega)).mono ?_; rintro e u27 ⟨rfl, hb27⟩; have I27 : Hid (Below wH.heap.size wH u27) := Lib.hid (I24.out.trans (hb27.mono I24.out.size)); clear hb27; go_wp2_with fail
    refine step_post nofun ?_
    refine stage_heads [28, 29] (by kernel_rfl) (L := #[true, true, true, true, true, true, true, true, true, true, true, true, true, true, true, true, true, true, true, true, true, true, true, true, true, true, true, true, true, true, false, false, false]) (by kernel_rfl) (f' := 3) rfl (fun _ _ _ _ h => h) (fun w o h => ST.alloc h o) (.inl (by kernel_rfl)) ?_
    simp only [List.flatMap_cons, List.flatMap_nil, List.drop_succ_cons, List.drop_zero, List.take_succ_cons, List.take_zero, List.cons_append, List.nil_append, List.append_nil]
    iterate 2 (refine heads_pure _ (by rfl) (fun w' => by go_simp; try with_reducible rfl) ?_; simp only [Act.put, List.setIfInBounds_toArray, List.set_cons_zero, List.set_cons_succ])
    refine heads_nil ?_
    refine stage_op 30 (by kernel_rfl) (L := #[true, true, true, true, true, true, true, true, true, true, true, true, true, true, true, true, true, true, true, true, true, true, true, true, true, true, true, true, true, true, true, false, false]) (by kernel_rfl) ?_
    simp only [List.drop_succ_cons, List.drop_zero, List.take_succ_cons, List.take_zero]
    go_wp2_with fail; refine (lives_any _).mono ?_; rintro e u30 ⟨rfl, hb30⟩; have I30 : Hid (Below wH.heap.size wH u30) := Lib.hid (I27.out.trans (hb30.mono I27.out.size)); clear hb30; go_wp2_with fail
    refine step_post nofun ?_
    refine stage_heads [31, 32] (by kernel_rfl) (L := #[true, true, true, true, true, true, true, true, true, true, true, true, true, true, true, true, true, true, true, true, true, true, true, true, true, true, true, true, true, true, true, true, true]) (by kernel_rfl) (f' := 0) rfl (fun _ _ _ _ h => h) (fun w o h => ST.alloc h o) (.inl (by kernel_rfl)) ?_
    simp only [List.flatMap_cons, List.flatMap_nil, List.drop_succ_cons, List.drop_zero, List.take_succ_cons, List.take_zero, List.cons_append, List.nil_append, List.append_nil]
    iterate 2 (refine heads_pure _ (by rfl) (fun w' => by go_simp; try with_reducible rfl) ?_; simp only [Act.put, List.setIfInBounds_toArray, List.set_cons_zero, List.set_cons_succ])
    refine heads_nil ?_
    refine stage_done (by kernel_rfl) ?_
    go_wp2_with fail
    go_ret
    exact ⟨rfl, BLH.out.trans (I30.out.mono BLH.out.size)⟩
set_option maxHeartbeats 4000000 in
set_option maxRecDepth 20000 in
theorem sopens_ff (l1 l2 : List Nat) (v1 v2 : Value) (w : World) (h1 : Bytes w v1 l1) (h2 : Bytes w v2 l2) (hs : l1.length + l2.length ≤ 80000) :
    Calls Tryz.prog 3 #[v1, v2, .bool false, .bool false] w fun e w' => e = .returned (.bool true) ∧ Below w.heap.size w w' := by
  have HX1 := Lib.hid h1
  have HX2 := Lib.hid h2
  have HSZ1 : Hid (l1.length ≤ 2097152) := Lib.hid (by omega)
  have HSZ2 : Hid (l2.length ≤ 2097152) := Lib.hid (by omega)
  obtain ⟨x1, y1, rfl, _⟩ := h1.shape
  obtain ⟨x2, y2, rfl, _⟩ := h2.shape
  obtain ⟨n1, hn1⟩ : ∃ n, l1.length = n := ⟨_, rfl⟩
  obtain ⟨n2, hn2⟩ : ∃ n, l2.length = n := ⟨_, rfl⟩
  rw [hn1, hn2] at hs
  rw [hn1] at HX1 ⊢
  rw [hn2] at HX2 ⊢
  have hsi : (n1 : Int) + (n2 : Int) ≤ 80000 := by omega
  clear h1 h2 hs hn1 hn2
  go_enter Tryz.func3, Tryz.ntmps3
  go_wp2_with fail
  refine (dnew 1048576 _ (by decide) (by decide)).mono ?_
  rintro e w1 ⟨db, mb, tb, rfl, hd1, hb1, nd, nm, nt⟩
  have HD1 := Lib.hid hd1
  have B1 := Lib.hid hb1
  have OB : Hid (∀ k, Own3 db mb tb k → w.heap.size ≤ k) := Lib.hid (fun k hk => by rcases hk with rfl | rfl | rfl <;> assumption)
  clear hd1 hb1 nd nm nt
  go_wp2_with fail
  refine (rnew_at 1048576 w1).mono ?_
  rintro e w2 ⟨rfl, hb2⟩
  have B2 : Hid (Below w.heap.size w w2) := Lib.hid (B1.out.trans (hb2.mono B1.out.size))
  have HD2 := Lib.hid (HD1.out.below hb2)
  clear hb2
  obtain ⟨DA, hDA⟩ : ∃ D, D = (⟨1048576, [], false, -1, 0⟩ : DiskS) := ⟨_, rfl⟩
  obtain ⟨aA, haA⟩ : ∃ a : Option Addr, a = none := ⟨_, rfl⟩
  have HAA := Lib.hid haA
  obtain ⟨cA, hcA⟩ : ∃ c : Nat, c = 0 := ⟨_, rfl⟩
  have hsA : SRow w2 3 (.slice aA 0 cA) (([] : List FileS).map rfV) := by rw [haA, hcA]; exact SRow.nil _ _
  rw [show (Value.slice none 0 0) = .slice aA 0 cA by rw [haA, hcA]]
  have HSb := Lib.hid hsA
  clear hsA haA hcA
  have hal : Below w2.heap.size w2 (w2.alloc (.cells #[.int .i64 1048576, .slice aA 0 cA, .bool false, .int .i64 (-1), .int .u64 0] 29)) := (Below.refl _ _).alloc (Nat.le_refl _) _
  have hxa : RD (w2.alloc (.cells #[.int .i64 1048576, .slice aA 0 cA, .bool false, .int .i64 (-1), .int .u64 0] 29)) w2.heap.size DA (.slice aA 0 cA) := by rw [hDA]; exact RD.box w2 ⟨1048576, [], false, -1, 0⟩ (.slice aA 0 cA)
  have BLAA := Lib.hid (B2.out.trans (hal.mono B2.out.size))
  have HDA : Hid (DiskIs _ db mb tb DA) := Lib.hid (by rw [hDA]; exact HD2.out.below hal)
  have HSa := Lib.hid (HSb.out.below hal)
  have NO : Hid (¬ Own3 db mb tb w2.heap.size) := Lib.hid (fun h => by have := HD2.out.lt3 _ h; omega)
  have HXBB : Hid (w.heap.size ≤ w2.heap.size) := Lib.hid B2.out.size
  have XA := Lib.hid hxa
  go_wp2_with fail
  clear hxa hal
  generalize World.alloc w2 _ = wA at *
  generalize w2.heap.size = xb at *
  have BLA := BLAA
  clear BLAA
  obtain ⟨nA, hnA⟩ : ∃ n, n = 0 := ⟨_, rfl⟩
  have APA : Hid (∀ b, (Value.slice aA nA cA).ownBlock = some b → ¬ Own3 db mb tb b) := Lib.hid (fun b hb h3 => by rw [HAA.out] at hb; cases hb)
  rw [← hnA] at XA HSa
  have HSA : Hid (SRow wA 3 (.slice aA nA cA) (DA.files.map rfV)) := Lib.hid (by rw [hDA]; exact HSa.out)
  have GDA : Hid (DGood DA) := Lib.hid (by rw [hDA]; exact ⟨⟨by decide, by decide, by decide, by decide, by decide, by decide, by decide, fun f h => by cases h⟩, by decide, by decide⟩)
  have SZA : Hid (DA.steps ≤ 4) := Lib.hid (by rw [hDA]; decide)
  have CAA : Hid (Calm DA) := Lib.hid (by rw [hDA]; exact ⟨rfl, rfl⟩)
  have B8A : Hid (Byt8 DA.files) := Lib.hid (by rw [hDA]; exact fun f h => by cases h)
  have HNA : Hid (DA.files.length = nA) := Lib.hid (by rw [hDA, hnA]; rfl)
  clear HSa HD2 HSb HD1 hDA hnA B1 B2
  refine (sopen_any db mb tb DA _ HDA.out GDA.out).mono ?_
  rintro e wO ⟨hno, hok, hdO, hkO⟩
  have hE : ∃ p, e = .returned (.tuple #[.pointer p, .int .i64 (sopenE DA)]) ∧ OptStore wO p db mb tb (openS27 DA) ∧ ((p = none ∧ sopenE DA ≠ 0) ∨ ∃ sb, p = some ⟨sb, 0, none⟩ ∧ sopenE DA = 0) := by
    by_cases h0 : sopenE DA = 0
    · obtain ⟨sb, h1, h2, h3⟩ := hok h0
      refine ⟨_, by rw [h1, h0]; rfl, .inr ⟨sb, rfl, ?_, ?_⟩, .inr ⟨sb, rfl, h0⟩⟩
      · unfold openS27; rw [if_pos h0]; exact h2
      · unfold openS27; rw [if_pos h0]; exact sopenS_ok _
    · exact ⟨none, hno h0, .inl ⟨rfl, by unfold openS27; rw [if_neg h0]⟩, .inl ⟨rfl, h0⟩⟩
  obtain ⟨p, rfl, hst, hpc⟩ := hE
  have HPC := Lib.hid hpc
  have HST := Lib.hid hst
  have HDO := Lib.hid hdO
  have XO := Lib.hid (XA.out.kept hkO NO.out)
  have HSO : Hid (SRow wO 3 (.slice aA nA cA) (DA.files.map rfV)) := Lib.hid (HSA.out.kept hkO (.inr APA.out))
  have BLO : Hid (Below w.heap.size w wO) := Lib.hid (BLA.out.trans (hkO.below BLA.out.size OB.out))
  have hgo := goneD_good GDA.out (by have := SZA.out; omega)
  clear hno hok hpc hst hdO hkO
  obtain ⟨r0, r1, r2, r3, r4, _⟩ := XO.out
  go_wp2_with fail
  refine (ropen27_any _ DA _ (RIs.new HNA.out HSO.out) GDA.out CAA.out (by have := SZA.out; omega) B8A.out).mono ?_
  rintro e wP ⟨v', i, t, mv, dv, rfl, hrP, hiP, hbP, _, _⟩
  obtain ⟨aR, cR, rfl, hsR⟩ := hrP
  obtain ⟨mv', dv', hee, hmP, hdP⟩ := hiP
  simp only [Value.agg.injEq, Array.mk.injEq, List.cons.injEq, and_true, Value.int.injEq, true_and] at hee
  obtain ⟨rfl, rfl, rfl, rfl⟩ := hee
  obtain ⟨am, cm, rfl, _⟩ := hmP.shape
  obtain ⟨ad, cd, rfl, _⟩ := hdP.shape
  have HIP : Hid (SnapIs wP (.agg #[.int .u64 (openS27 DA).i, .int .u64 (openS27 DA).t, .slice am (openS27 DA).ms.length cm, .slice ad (openS27 DA).d.length cd]) (openS27 DA)) := Lib.hid ⟨_, _, rfl, hmP, hdP⟩
  have HDP := Lib.hid (HDO.out.below hbP)
  have HSP := Lib.hid hsR
  have HSTP := Lib.hid (HST.out.below hbP)
  have BLP := Lib.hid (BLO.out.trans (hbP.mono BLO.out.size))
  have GDP := Lib.hid hgo.1
  clear hsR hbP hgo hmP hdP r0 r1 r2 r3 r4 XO HDO HSO HST BLO
  generalize (goneD DA).1 = DP at *
  obtain ⟨nR, hnR⟩ : ∃ k, DP.files.length = k := ⟨_, rfl⟩
  rw [hnR] at HSP ⊢
  clear hnR
  obtain ⟨SS, hSS⟩ : ∃ s, openS27 DA = s := ⟨_, rfl⟩
  rw [hSS] at HIP HSTP ⊢
  obtain ⟨et, het⟩ : ∃ k, sopenE DA = k := ⟨_, rfl⟩
  rw [het] at HPC ⊢
  clear hSS het
  obtain ⟨nm', hnm⟩ : ∃ k, SS.ms.length = k := ⟨_, rfl⟩
  obtain ⟨nd', hnd⟩ : ∃ k, SS.d.length = k := ⟨_, rfl⟩
  rw [hnm, hnd] at HIP ⊢
  clear hnm hnd
  go_wp2_with fail
  have hxq := (RD.box wP DP (.slice aR nR cR)).below ((Below.refl _ _).alloc (Nat.le_refl _) (.cells #[.int .u64 SS.i, .int .u64 SS.t, .slice am nm' cm, .slice ad nd' cd] 40))
  have hvq := SBlk.box (wP.alloc (.cells #[.int .i64 DP.room, .slice aR nR cR, .bool DP.down, .int .i64 DP.armed, .int .u64 DP.steps] 29)) SS.i SS.t (.slice am nm' cm) (.slice ad nd' cd)
  have hbq : Below wP.heap.size wP ((wP.alloc (.cells #[.int .i64 DP.room, .slice aR nR cR, .bool DP.down, .int .i64 DP.armed, .int .u64 DP.steps] 29)).alloc (.cells #[.int .u64 SS.i, .int .u64 SS.t, .slice am nm' cm, .slice ad nd' cd] 40)) := ((Below.refl _ _).alloc (Nat.le_refl _) _).alloc (by simp) _
  rw [World.size_alloc] at hvq
  generalize World.alloc (World.alloc wP _) _ = wQ at *
  have XQ := Lib.hid hxq
  have VQ := Lib.hid hvq
  have HIQ := Lib.hid (HIP.out.below hbq)
  have HDQ := Lib.hid (HDP.out.below hbq)
  have HSQ := Lib.hid (HSP.out.below hbq)
  have HSTQ := Lib.hid (HSTP.out.below hbq)
  have BLQ := Lib.hid (BLP.out.trans (hbq.mono BLP.out.size))
  clear hxq hvq hbq HIP HDP HSP HSTP BLP
  refine (sget_all p db mb tb SS wQ HSTQ.out).mono ?_
  rintro e wG ⟨i2, t2, mv2, dv2, rfl, hi2, hb2⟩
  obtain ⟨mv', dv', hee, hmG, hdG⟩ := hi2
  simp only [Value.agg.injEq, Array.mk.injEq, List.cons.injEq, and_true, Value.int.injEq, true_and] at hee
  obtain ⟨rfl, rfl, rfl, rfl⟩ := hee
  obtain ⟨am2, cm2, rfl, _⟩ := hmG.shape
  obtain ⟨ad2, cd2, rfl, _⟩ := hdG.shape
  have HIG : Hid (SnapIs wG (.agg #[.int .u64 SS.i, .int .u64 SS.t, .slice am2 SS.ms.length cm2, .slice ad2 SS.d.length cd2]) SS) := Lib.hid ⟨_, _, rfl, hmG, hdG⟩
  have BQG := Lib.hid hb2
  clear hmG hdG hb2
  obtain ⟨nm2, hnm⟩ : ∃ k, SS.ms.length = k := ⟨_, rfl⟩
  obtain ⟨nd2, hnd⟩ : ∃ k, SS.d.length = k := ⟨_, rfl⟩
  rw [hnm, hnd] at HIG ⊢
  clear hnm hnd
  obtain ⟨okb, hokb⟩ : ∃ x, decide (0 < SS.i) = x := ⟨_, rfl⟩
  have HOKB := Lib.hid hokb
  rw [hokb]
  clear hokb
  go_wp2_with fail
  have hsb := SBlk.box wG SS.i SS.t (.slice am2 nm2 cm2) (.slice ad2 nd2 cd2)
  have hbg : Below wG.heap.size wG (wG.alloc (.cells #[.int .u64 SS.i, .int .u64 SS.t, .slice am2 nm2 cm2, .slice ad2 nd2 cd2] 40)) := (Below.refl _ _).alloc (Nat.le_refl _) _
  have hqg := BQG.out.trans (hbg.mono BQG.out.size)
  generalize World.alloc wG _ = wH at *
  have XH := Lib.hid (XQ.out.below hqg)
  have VH := Lib.hid (VQ.out.below hqg)
  have SH := Lib.hid hsb
  have IS2 := Lib.hid (HIQ.out.below hqg)
  have IS1 := Lib.hid (HIG.out.below hbg)
  have HDH := Lib.hid (HDQ.out.below hqg)
  have HSH := Lib.hid (HSQ.out.below hqg)
  have BLH := Lib.hid (BLQ.out.trans (hqg.mono BLQ.out.size))
  have ST := Stable.from wH
  clear hsb hbg hqg HIG HIQ XQ VQ HDQ HSQ HSTQ BLQ BQG
  obtain ⟨si, hsi⟩ : ∃ x, SS.i = x := ⟨_, rfl⟩
  have HSI := Lib.hid hsi
  obtain ⟨st, hstt⟩ : ∃ x, SS.t = x := ⟨_, rfl⟩
  rw [hsi, hstt] at VH SH IS1 IS2 ⊢
  rw [hsi] at HOKB
  clear hsi hstt
  have hokd : (okb == decide (0 < si)) = true := by rw [HOKB.out]; exact beq_self_eq_true _
  have hete : ((et : Int) == (et : Int)) = true := beq_self_eq_true _
  rcases HPC.out with ⟨hp, he0⟩ | ⟨sb, hp, he0⟩
  all_goals
    subst hp
    first | (have hne : ((et : Int) != 0) = true := bne_iff_ne.2 (by omega)) | (have hne : ((et : Int) != 0) = false := bne_eq_false_iff_eq.2 (by omega))
    clear he0
    refine region_start [0, 0, 3, 7, 15, 31, 15, 79, 255, 511, 1023, 2047, 2047, 6143, 14335, 32767, 65535, 131071, 262143, 262143, 1048575, 2097151, 4194303, 8388607, 16777215, 8388607, 41943039, 134217727, 268435455, 536870911, 1073741823, 2147483647, 4294967295] 125829120 (fun w' => Below wH.heap.size wH w') (by kernel_rfl) ?_
    refine stage_heads [0, 1, 2, 3, 4, 5, 6, 7, 8, 9, 10, 11, 12, 13, 14, 15, 16, 17, 18, 19] (by kernel_rfl) (L := #[true, true, true, true, true, true, true, true, true, true, true, true, true, true, true, true, true, true, true, true, false, false, false, false, false, false, false, false, false, false, false, false, false]) (by kernel_rfl) (f' := 13) rfl (fun _ _ _ _ h => h) (fun w o h => ST.alloc h o) (.inr (by first | exact (Below.refl _ _).drew | exact Below.refl _ _)) ?_
    simp only [List.flatMap_cons, List.flatMap_nil, List.drop_succ_cons, List.drop_zero, List.take_succ_cons, List.take_zero, List.cons_append, List.nil_append, List.append_nil]
    iterate 20 (first | (refine heads_load _ (by rfl) (fun w' hs => by obtain ⟨r0, r1, r2, r3, r4, _⟩ := XH.out.below hs; obtain ⟨s0, s1, s2, s3, _⟩ := VH.out.below hs; obtain ⟨t0, t1, t2, t3, _⟩ := SH.out.below hs; go_simp; try with_reducible rfl) rfl ?_; simp only [Act.put, List.setIfInBounds_toArray, List.set_cons_zero, List.set_cons_succ]) | (refine heads_pure _ (by rfl) (fun w' => by go_simp; try with_reducible rfl) ?_; simp only [Act.put, List.setIfInBounds_toArray, List.set_cons_zero, List.set_cons_succ]) | (refine heads_skip (by rfl) ?_; simp only [Act.put, List.setIfInBounds_toArray, List.set_cons_zero, List.set_cons_succ]))
    refine heads_nil ?_
    refine stage_op 20 (by kernel_rfl) (L := #[true, true, true, true, true, true, true, true, true, true, true, true, true, true, true, true, true, true, true, true, true, false, false, false, false, false, false, false, false, false, false, false, false]) (by kernel_rfl) ?_
    simp only [List.drop_succ_cons, List.drop_zero, List.take_succ_cons, List.take_zero]
    go_wp2_with fail; refine (rsame_any _ _ SS SS _ (by first | exact IS1.out.below ((Below.refl _ _).drew) | exact IS1.out) (by first | exact IS2.out.below ((Below.refl _ _).drew) | exact IS2.out)).mono ?_; rintro e u20 ⟨rfl, hb20⟩; rw [SnapS.sameB_refl]; have I20 : Hid (Below wH.heap.size wH u20) := Lib.hid (by first | exact ((Below.refl _ _).drew).trans hb20 | exact hb20); clear hb20; go_wp2_with fail
    refine step_post nofun ?_
    refine stage_heads [21, 22, 23, 25, 26] (by kernel_rfl) (L := #[true, true, true, true, true, true, true, true, true, true, true, true, true, true, true, true, true, true, true, true, true, true, true, true, false, true, true, false, false, false, false, false, false]) (by kernel_rfl) (f' := 7) rfl (fun _ _ _ _ h => h) (fun w o h => ST.alloc h o) (.inr I20.out) ?_
    simp only [List.flatMap_cons, List.flatMap_nil, List.drop_succ_cons, List.drop_zero, List.take_succ_cons, List.take_zero, List.cons_append, List.nil_append, List.append_nil]
    iterate 5 (first | (refine heads_load _ (by rfl) (fun w' hs => by obtain ⟨r0, r1, r2, r3, r4, _⟩ := XH.out.below hs; obtain ⟨s0, s1, s2, s3, _⟩ := VH.out.below hs; obtain ⟨t0, t1, t2, t3, _⟩ := SH.out.below hs; go_simp; try with_reducible rfl) rfl ?_; simp only [Act.put, List.setIfInBounds_toArray, List.set_cons_zero, List.set_cons_succ]) | (refine heads_pure _ (by rfl) (fun w' => by go_simp; try with_reducible rfl) ?_; simp only [Act.put, List.setIfInBounds_toArray, List.set_cons_zero, List.set_cons_succ]) | (refine heads_skip (by rfl) ?_; simp only [Act.put, List.setIfInBounds_toArray, List.set_cons_zero, List.set_cons_succ]))
    refine heads_nil ?_
    refine stage_op 24 (by kernel_rfl) (L := #[true, true, true, true, true, true, true, true, true, true, true, true, true, true, true, true, true, true, true, true, true, true, true, true, true, true, true, false, false, false, false, false, false]) (by kernel_rfl) ?_
    simp only [List.drop_succ_cons, List.drop_zero, List.take_succ_cons, List.take_zero]
    go_wp2_with fail; refine (lfiles_any db mb tb DP _ (HDH.out.below I20.out) GDP.out.wf).mono ?_; rintro e u24 ⟨v24, rfl, hs24, hb24⟩; have I24 : Hid (Below wH.heap.size wH u24) := Lib.hid (I20.out.trans (hb24.mono I20.out.size)); have S24 := Lib.hid hs24; clear hs24 hb24; go_wp2_with fail
    refine step_post (fun _ => I24.out) ?_
    refine stage_op 27 (by kernel_rfl) (L := #[true, true, true, true, true, true, true, true, true, true, true, true, true, true, true, true, true, true, true, true, true, true, true, true, true, true, true, true, false, false, false, false, false]) (by kernel_rfl) ?_
    simp only [List.drop_succ_cons, List.drop_zero, List.take_succ_cons, List.take_zero]
    go_wp2_with fail; refine (rsameL_any _ _ DP.files _ S24.out (HSH.out.below I24.out) (by have := GDP.out.few; omega)).mono ?_; rintro e u27 ⟨rfl, hb27⟩; have I27 : Hid (Below wH.heap.size wH u27) := Lib.hid (I24.out.trans (hb27.mono I24.out.size)); clear hb27; go_wp2_with fail
    refine step_post nofun ?_
    refine stage_heads [28, 29] (by kernel_rfl) (L := #[true, true, true, true, true, true, true, true, true, true, true, true, true, true, true, true, true, true, true, true, true, true, true, true, true, true, true, true, true, true, false, false, false]) (by kernel_rfl) (f' := 3) rfl (fun _ _ _ _ h => h) (fun w o h => ST.alloc h o) (.inl (by kernel_rfl)) ?_
    simp only [List.flatMap_cons, List.flatMap_nil, List.drop_succ_cons, List.drop_zero, List.take_succ_cons, List.take_zero, List.cons_append, List.nil_append, List.append_nil]
    iterate 2 (refine heads_pure _ (by rfl) (fun w' => by go_simp; try with_reducible rfl) ?_; simp only [Act.put, List.setIfInBounds_toArray, List.set_cons_zero, List.set_cons_succ])
    refine heads_nil ?_
    refine stage_op 30 (by kernel_rfl) (L := #[true, true, true, true, true, true, true, true, true, true, true, true, true, true, true, true, true, true, true, true, true, true, true, true, true, true, true, true, true, true, true, false, false]) (by kernel_rfl) ?_
    simp only [List.drop_succ_cons, List.drop_zero, List.take_succ_cons, List.take_zero]
    go_wp2_with fail; refine (lives_any _).mono ?_; rintro e u30 ⟨rfl, hb30⟩; have I30 : Hid (Below wH.heap.size wH u30) := Lib.hid (I27.out.trans (hb30.mono I27.out.size)); clear hb30; go_wp2_with fail
    refine step_post nofun ?_
    refine stage_heads [31, 32] (by kernel_rfl) (L := #[true, true, true, true, true, true, true, true, true, true, true, true, true, true, true, true, true, true, true, true, true, true, true, true, true, true, true, true, true, true, true, true, true]) (by kernel_rfl) (f' := 0) rfl (fun _ _ _ _ h => h) (fun w o h => ST.alloc h o) (.inl (by kernel_rfl)) ?_
    simp only [List.flatMap_cons, List.flatMap_nil, List.drop_succ_cons, List.drop_zero, List.take_succ_cons, List.take_zero, List.cons_append, List.nil_append, List.append_nil]
    iterate 2 (refine heads_pure _ (by rfl) (fun w' => by go_simp; try with_reducible rfl) ?_; simp only [Act.put, List.setIfInBounds_toArray, List.set_cons_zero, List.set_cons_succ])
    refine heads_nil ?_
    refine stage_done (by kernel_rfl) ?_
    go_wp2_with fail
    go_ret
    exact ⟨rfl, BLH.out.trans (I30.out.mono BLH.out.size)⟩
set_option maxHeartbeats 1000000 in
set_option maxRecDepth 20000 in
theorem sopens_big (x1 x2 : Option Addr) (n1 y1 n2 y2 : Nat) (t2 t3 : Bool) (w : World) (b1 : n1 ≤ 140737488355328) (b2 : n2 ≤ 140737488355328) (hs : ¬ n1 + n2 ≤ 80000) :
    Calls Tryz.prog 3 #[.slice x1 n1 y1, .slice x2 n2 y2, .bool t2, .bool t3] w fun e w' => e = .returned (.bool true) ∧ Below w.heap.size w w' := by
  have hsi : (80000 : Int) < (n1 : Int) + (n2 : Int) := by omega
  have i1 : (n1 : Int) + (n2 : Int) ≤ 9223372036854775807 := by omega
  clear hs b1 b2
  go_enter Tryz.func3, Tryz.ntmps3
  go_wp2_with fail
  refine (lives_any _).mono ?_
  rintro e w1 ⟨rfl, hb1⟩
  have B1 := Lib.hid hb1
  clear hb1
  go_wp2_with fail
  go_ret
  exact ⟨rfl, B1.out⟩
theorem sopens_any (x1 x2 : Option Addr) (n1 y1 n2 y2 : Nat) (t2 t3 : Bool) (w : World) (b1 : n1 ≤ 140737488355328) (b2 : n2 ≤ 140737488355328) (h1 : n1 ≤ 2097152 → ∃ l, l.length = n1 ∧ Bytes w (.slice x1 n1 y1) l) (h2 : n2 ≤ 2097152 → ∃ l, l.length = n2 ∧ Bytes w (.slice x2 n2 y2) l) :
    Calls Tryz.prog 3 #[.slice x1 n1 y1, .slice x2 n2 y2, .bool t2, .bool t3] w fun e w' => e = .returned (.bool true) ∧ Below w.heap.size w w' := by
  by_cases hs : n1 + n2 ≤ 80000
  · obtain ⟨l1, e1, k1⟩ := h1 (by omega)
    obtain ⟨l2, e2, k2⟩ := h2 (by omega)
    have hs2 : l1.length + l2.length ≤ 80000 := by omega
    cases t2 <;> cases t3
    · exact sopens_ff l1 l2 _ _ w k1 k2 hs2
    · exact sopens_ft l1 l2 _ _ w k1 k2 hs2
    · exact sopens_tf l1 l2 _ _ w k1 k2 hs2
    · exact sopens_tt l1 l2 _ _ w k1 k2 hs2
  · exact sopens_big x1 x2 _ y1 _ y2 t2 t3 w b1 b2 hs
end Go.Proofs.YtofhccpagnkalaaGreat
