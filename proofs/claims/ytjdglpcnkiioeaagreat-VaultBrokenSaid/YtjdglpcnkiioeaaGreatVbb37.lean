/- Several texts in one: Wxn, Wya, Wxp, Wys, Wxq. What each proves stands ahead of it; together they serve vbroken_law_holds. No conditions but those stated. -/
import Derived.Test.YtjdglpcnkiioeaaGreatVbb36
namespace Go.Proofs.YtjdglpcnkiioeaaGreat
open Go.Lib (hid)
open Go.RowKit Go.Maps Go.Proofs.Own Go.Shelf

theorem wsync {lb db mb tb : Nat} {ev fv : Value} {el : EntR} {D : DiskS} {L : WalS} {w : World} (h : LogAt w lb db mb tb ev fv el D L) (hw : DWf D) (hok : LOk L) (hs : L.fs.length <= 1000000) (hne : L.safe ≠ L.es.length -> L.fs ≠ []) :
    Calls Tryz.prog 58 #[.pointer (some ⟨lb, 0, none⟩)] w (LogPost lb db mb tb ev fv (syncW D L) w) := by
  by_cases hq : L.safe = L.es.length
  . exact wsync_same h hq
  . cases e : L.fs.getLast? with
    | none => exact absurd (List.getLast?_eq_none_iff.1 e) (hne hq)
    | some f => exact wsync_go h hw hok.nm e hq hs
theorem syncW_log (D : DiskS) (L : WalS) : (syncW D L).2.1.b = L.b /\ (syncW D L).2.1.es = L.es /\ (syncW D L).2.1.fs = L.fs := by
  unfold syncW
  split
  . exact ⟨rfl, rfl, rfl⟩
  . split
    . exact ⟨rfl, rfl, rfl⟩
    . split <;> exact ⟨rfl, rfl, rfl⟩
theorem syncW_good {D : DiskS} (L : WalS) (h : DGood D) (hs : D.steps + 1 <= 1000000000) : DGood (syncW D L).1 := by
  have := (reach_sync D L).good h (by simpa using hs)
  exact this.1
structure FC (W : World) (b : Nat) (x : Int) : Prop where
  c0 : W.cell? ⟨b, 0, none⟩ = some (.int .u64 x)
  c1 : W.cell? ⟨b, 1, none⟩ = some (.int .i64 0)
  c2 : W.cell? ⟨b, 2, none⟩ = some (.int .i64 0)
theorem FC.kept {W W' : World} {b : Nat} {x : Int} {S : Nat -> Prop} (h : FC W b x) (hk : Kept W W' S) (hs : ¬ S b) : FC W' b x := ⟨hk.cell h.c0 hs, hk.cell h.c1 hs, hk.cell h.c2 hs⟩
theorem FC.below {W W' : World} {b : Nat} {x : Int} (h : FC W b x) (hb : Below W.heap.size W W') : FC W' b x := h.kept (Kept.of_below hb (S := fun _ => False) fun k h1 h2 => by omega) id
theorem LogAt.own_lt {w : World} {lb db mb tb : Nat} {ev fv : Value} {el : EntR} {D : DiskS} {L : WalS} (h : LogAt w lb db mb tb ev fv el D L) {b : Nat} (hb : LOwn lb db mb tb ev fv b) : b < w.heap.size := by
  rcases hb with rfl | hb | hb | hb
  . exact h.lt
  . exact h.disk.lt3 b hb
  . exact h.er.lt b hb
  . exact h.fr.lt b hb
theorem headW_small {n : Nat} (hn : (n : Int) < 18446744073709551616) : (headW n).length <= 100 /\ ∀ c ∈ headW n, c < 256 := by
  have h1 := numW_len hn
  unfold headW
  exact ⟨by rw [length_frP]; omega, frP_lt (by decide) (by omega) (numW_lt hn)⟩
theorem wopen_full {lb db mb tb : Nat} {ev fv : Value} {el : EntR} {D : DiskS} {L : WalS} {w : World} (h : LogAt w lb db mb tb ev fv el D L) (hnf : ∀ f, L.fs.getLast? = some f -> 1024 <= f.s) (hs : L.fs.length <= 1000000) :
    Calls Tryz.prog 113 #[.pointer (some ⟨lb, 0, none⟩)] w fun e w' => ∃ p, e = .returned (.pointer p) /\ Below w.heap.size w w' /\ (p = none \/ ∃ g m s : Nat, p = some ⟨g, m * 3, none⟩ /\ w'.cell? ⟨g, m * 3 + 2, none⟩ = some (.int .i64 s) /\ 1024 <= s) := by
  by_cases hn : L.fs = []
  . refine (wopen_nil h hn).mono ?_
    rintro e w' ⟨rfl, rfl⟩
    exact ⟨_, rfl, Below.refl _ _, .inl rfl⟩
  . obtain ⟨m, hmm⟩ : ∃ m, L.fs.length = m + 1 := ⟨L.fs.length - 1, by have := List.length_pos_iff.2 hn; omega⟩
    obtain ⟨f, hf⟩ : ∃ f, L.fs.getLast? = some f := ⟨_, List.getLast?_eq_some_getLast hn⟩
    obtain ⟨g, c, rfl, hcc, hgg⟩ := OwnL.some h.fr (by simpa using hn)
    refine (wopen_some h (m := m) (by rw [List.length_map]; exact hmm) (by rw [List.length_map]; omega)).mono ?_
    rintro e w' ⟨rfl, hb⟩
    exact ⟨_, rfl, hb, .inr ⟨g, m, f.s, rfl, ((h.below hb).cellL hf hmm).2.2, hnf f hf⟩⟩

set_option maxHeartbeats 8000000 in
set_option maxRecDepth 20000 in
theorem wappend_new {lb db mb tb : Nat} {ev fv mv : Value} {el ml : EntR} {D : DiskS} {L : WalS} {w : World} (h : LogAt w lb db mb tb ev fv el D L) (hm : ArgE w (LOwn lb db mb tb ev fv) mv ml) (hl : L.last <= H59) (hlen : (linesW (L.last + 1) (ml.map (·.1))).length <= 2000000) (hn : ml.length <= 2147483648)
    (hg : DGood D) (hst : D.steps + 1 <= 1000000000) (hok : LOk L) (hfs : L.fs.length <= 1000000) (hes : L.es.length + ml.length <= 4294967296) (hsy : L.safe ≠ L.es.length -> L.fs ≠ []) (hnf : ∀ f, L.fs.getLast? = some f -> 1024 <= f.s) (hall : ∀ e ∈ ml.map (·.1), e.ok) (hbig : ¬ H59 < L.last + ml.length) (hml : ml ≠ []) :
    Calls Tryz.prog 57 #[.pointer (some ⟨lb, 0, none⟩), mv] w (LogPost lb db mb tb ev fv (appendW D L (ml.map (·.1))) w) := by
  have HR : Hid (appendW D L (ml.map (·.1)) = newW D L (ml.map (·.1))) := hid (by
    unfold appendW
    rw [if_neg (fun q => q hall), if_neg (by have : leftW L.last = H59 - L.last := (by unfold leftW H59 at *; omega); rw [this, List.length_map]; omega), if_neg (by simpa using hml)]
    cases e : L.fs.getLast? with
    | none => rfl
    | some f =>
      simp only
      rw [if_neg (by have := hnf f e; omega)])
  have HNEW : Hid (newW D L (ml.map (·.1)) = if (syncW D L).2.2 ≠ 0 then ((syncW D L).1, (syncW D L).2.1, (syncW D L).2.2)
  else if (appendD (syncW D L).1 (nameW (L.last + 1)) (segW (L.last + 1) (ml.map (·.1)))).2 ≠ 0 then ((appendD (syncW D L).1 (nameW (L.last + 1)) (segW (L.last + 1) (ml.map (·.1)))).1, (syncW D L).2.1, (appendD (syncW D L).1 (nameW (L.last + 1)) (segW (L.last + 1) (ml.map (·.1)))).2)
  else ((appendD (syncW D L).1 (nameW (L.last + 1)) (segW (L.last + 1) (ml.map (·.1)))).1, ⟨L.b, L.es ++ ml.map (·.1), L.fs ++ [⟨L.last + 1, (ml.map (·.1)).length, (segW (L.last + 1) (ml.map (·.1))).length⟩], (syncW D L).2.1.safe⟩, 0)) := hid rfl
  have HG1 := hid (syncW_good L hg hst)
  have HSL := hid (syncW_log D L)
  have HGW := hid hg.wf
  have HOK := hid hok
  have HFL := hid hfs
  have HSY := hid hsy
  have HNF := hid hnf
  have HNX1 : Hid (1 <= L.last + 1) := hid (by omega)
  have HNX2 : Hid (L.last + 1 < 1152921504606846976) := hid (by unfold H59 at hl; omega)
  have HNS : Hid ((nameW (L.last + 1)).size <= maxLen) := hid (Nat.le_trans (size_nameW_le _) (by decide))
  have HES := hid hes
  have HMLN : Hid (ml.length <= 2147483648) := hid hn
  have HALL := hid hall
  have HL20 := hid hlen
  have hlen : (linesW (L.last + 1) (ml.map (·.1))).length <= 2097152 := by omega
  have hc : True := trivial
  have hbig' : ¬ H59 < L.last + ml.length := hbig
  have hmlen : 0 < ml.length := List.length_pos_iff.2 hml
  clear hg hst hok hfs hes hsy hnf hall
  have HH := hid h
  have HM := hid hm
  obtain ⟨ma, mc, rfl, _⟩ := hm.row.shape
  obtain ⟨la, hla⟩ : ∃ la, L.last = la := ⟨_, rfl⟩
  have HLA := hid hla
  have hlf : leftW L.last = H59 - la := by unfold leftW H59 at *; omega
  have HLF := hid hlf
  obtain ⟨lz, hlz⟩ : ∃ lz : Int, (la : Int) = lz := ⟨_, rfl⟩
  have HLZ := hid hlz
  have hl0 : 0 <= lz := by omega
  have hl1 : lz <= 576460752303423488 := by unfold H59 at hl; omega
  have HB := hid (show (L.last : Int) < 18446744073709551616 by omega)
  obtain ⟨n, hnn⟩ : ∃ n, ml.length = n := ⟨_, rfl⟩
  have HN := hid hnn
  rw [entRows_length, hnn] at HM ⊢
  have hn' : (n : Int) <= 2147483648 := by omega
  have HLN := hid hlen
  have HBIG : Hid (¬ H59 < la + n) := hid (by rw [<- hla, <- hnn]; exact hbig')
  have hn0 : ((n : Int) == 0) = false := beq_eq_false_iff_ne.2 (by omega)
  have HN2 : Hid ((ml.map (·.1)).length <= 2147483648) := hid (by rw [List.length_map]; exact hn)
  have HL6 : Hid (L.last + 1 <= 1152921506754330625) := hid (by unfold H59 at hl; omega)
  have hnx : ((L.last + 1 : Nat) : Int) = lz + 1 := by rw [<- hlz, <- hla]; rfl
  have HNX := hid hnx
  have ew : IntKind.u64.wrap (n : Int) = (n : Int) := by rw [wrap_u64]; omega
  have es : IntKind.u64.wrap (576460752303423488 - lz) = 576460752303423488 - lz := by rw [wrap_u64]; omega
  have HNC : Hid (H59 < la + n ↔ 576460752303423488 - lz < (n : Int)) := hid (by unfold H59; omega)
  have HNL : Hid (H59 - la < n ↔ H59 < la + n) := hid (by unfold H59 at *; omega)
  have hbd : decide (576460752303423488 - lz < (n : Int)) = false := decide_eq_false (fun q => HBIG.out (HNC.out.2 q))
  clear h hm hla hlf hlz hlen hn hc hnn hnx hl hbig' hbig hml hmlen
  go_enter Tryz.func57, Tryz.ntmps57
  go_wp2_with fail
  refine (wnone HH.out).mono ?_
  rintro e w1 ⟨rfl, rfl⟩
  go_wp2_with fail
  refine (wlast HH.out HB.out).mono ?_
  rintro e w2 ⟨rfl, hb2⟩
  rw [HLA.out, HLZ.out]
  have B2 := hid hb2
  have L2 := hid (HH.out.below hb2)
  have M2 := hid (HM.out.kept (Kept.of_below hb2 fun k h1 h2 => by omega))
  clear hb2
  go_wp2_with fail
  have WL := wlines M2.out.row M2.out.loose rfl HLN.out HN2.out HL6.out
  rw [HNX.out] at WL
  refine WL.mono ?_
  clear WL
  rintro e w3 ⟨hb3, hyes, hno⟩
  have B3 : Hid (Below w.heap.size w w3) := hid (B2.out.trans (hb3.mono B2.out.size))
  have L3 := hid (HH.out.below B3.out)
  clear hb3
  obtain ⟨bv, rfl, hown, hblt⟩ := hyes HALL.out
  have BV3 : Hid (Bytes w3 bv (linesW (L.last + 1) (ml.map (·.1)))) := hid (Bytes.of_owns hown hblt HLN.out)
  have HNB : Hid (∀ b, bv.ownBlock = some b -> w.heap.size <= b) := hid (fun b hb => Nat.le_trans B2.out.size (hown.lt b hb).1)
  have HBL := hid hblt
  obtain ⟨ba, bc, rfl⟩ := hown.shape
  obtain ⟨bn, hbn⟩ : ∃ bn, (ints (linesW (L.last + 1) (ml.map (·.1)))).length = bn := ⟨_, rfl⟩
  have HBN : Hid ((linesW (L.last + 1) (ml.map (·.1))).length = bn) := hid (by rw [<- hbn, length_ints])
  rw [hbn] at BV3 HNB ⊢
  clear hyes hno hown hblt hbn
  go_wp2_with fail
  refine (wlast L3.out HB.out).mono ?_
  rintro e w4 ⟨rfl, hb4⟩
  rw [HLA.out, HLZ.out]
  have B4 : Hid (Below w.heap.size w w4) := hid (B3.out.trans (hb4.mono B3.out.size))
  have L4 := hid (HH.out.below B4.out)
  have BV4 := hid (BV3.out.below hb4)
  clear hb4
  go_wp2_with fail
  refine (wopen_full L4.out HNF.out HFL.out).mono ?_
  rintro e w5 ⟨p, rfl, hb5, hp⟩
  have B5 : Hid (Below w.heap.size w w5) := hid (B4.out.trans (hb5.mono B4.out.size))
  have L5 := hid (HH.out.below B5.out)
  have BV5 := hid (BV4.out.below hb5)
  clear hb5
  rcases hp with rfl | ⟨pg, pm, ps, rfl, q2, hs1⟩
  . go_wp2_with fail
    refine (wsync L5.out HGW.out HOK.out HFL.out HSY.out).mono ?_
    rintro e w6 ⟨rfl, ev1, fv1, el1, hl6, hs6⟩
    have HFSL : Hid ((syncW D L).2.1.fs.length = L.fs.length) := hid (by rw [HSL.out.2.2])
    have HESL : Hid ((syncW D L).2.1.es.length = L.es.length) := hid (by rw [HSL.out.2.1])
    have S6 : Hid (LStep lb db mb tb w ev fv w6 ev1 fv1) := hid ((LStep.below B5.out).trans hs6)
    have HNO : Hid (∀ b, (Value.slice ba bn bc).ownBlock = some b -> ¬ LOwn lb db mb tb ev fv b) := hid (fun b hb hs => by have := HNB.out b hb; have := HH.out.own_lt hs; omega)
    have BV6 : Hid (Bytes w6 (.slice ba bn bc) (linesW (L.last + 1) (ml.map (·.1)))) := hid (BV5.out.kept hs6.1 HNO.out)
    have L6 := hid hl6
    clear hl6 hs6
    generalize (syncW D L).1 = D1 at *
    generalize (syncW D L).2.1 = L1 at *
    generalize (syncW D L).2.2 = k1 at *
    by_cases hk1 : k1 = 0
    . have hkb : ((k1 : Int) != 0) = false := by rw [hk1]; rfl
      have HK1 := hid hk1
      clear hk1
      go_wp2_with fail
      have X7 : Hid (FC (w6.alloc (.cells #[.int .u64 (lz + 1), .int .i64 0, .int .i64 0] 188)) w6.heap.size (lz + 1)) := hid ⟨by go_cell, by go_cell, by go_cell⟩
      have WG := ghead_any (L.last + 1) (w6.alloc (.cells #[.int .u64 (lz + 1), .int .i64 0, .int .i64 0] 188)) (by have := HNX2.out; omega)
      rw [HNX.out] at WG
      refine WG.mono ?_
      clear WG
      rintro e w7 ⟨hv, rfl, ho7, hb7⟩
      have HG7 : Hid (Below w6.heap.size w6 w7) := hid (((Below.refl w6.heap.size w6).alloc (Nat.le_refl _) _).trans (hb7.mono (by simp)))
      have HLT7 : Hid (w6.heap.size < (w6.alloc (.cells #[.int .u64 (lz + 1), .int .i64 0, .int .i64 0] 188)).heap.size) := hid (by simp)
      have HSZ7 : Hid ((w6.alloc (.cells #[.int .u64 (lz + 1), .int .i64 0, .int .i64 0] 188)).heap.size <= w7.heap.size) := hid hb7.size
      have X8a := hid (X7.out.below hb7)
      have O7 := hid ho7
      have BV7 := hid (BV6.out.below HG7.out)
      have HHL : Hid ((headW (L.last + 1)).length <= 100 /\ ∀ c ∈ headW (L.last + 1), c < 256) := hid (headW_small (by have := HNX2.out; omega))
      have HL2 : Hid ((ints (headW (L.last + 1))).length + (ints (linesW (L.last + 1) (ml.map (·.1)))).length <= 4294967296) := hid (by rw [length_ints, length_ints]; have := HHL.out.1; have := HLN.out; omega)
      clear ho7 hb7 X7
      go_wp2_with (at_builtin; refine wpList_append_ints Tryz.u8s _ _ rfl (w6.alloc (.cells #[.int .u64 (lz + 1), .int .i64 0, .int .i64 0] 188)).heap.size hv (.slice ba bn bc) (ints (headW (L.last + 1))) (ints (linesW (L.last + 1) (ml.map (·.1)))) rfl rfl O7.out BV7.out.rd (by decide) HL2.out HSZ7.out rfl ?_; intro v8 w8 hown8 hgr8 hat8 hnil8 hbel8; have HO8 := hid hown8; have B8 := hid hbel8; obtain ⟨sa, sc, rfl⟩ := hown8.shape; obtain ⟨sn, hsn⟩ : ∃ sn, (ints (headW (L.last + 1)) ++ ints (linesW (L.last + 1) (ml.map (·.1)))).length = sn := ⟨_, rfl⟩; have HSN0 := hid hsn; rw [hsn] at HO8 ⊢; clear hown8 hgr8 hat8 hnil8 hbel8 hsn)
      have HS8 : Hid ((segW (L.last + 1) (ml.map (·.1))).length <= 2001000) := hid (by unfold segW; rw [List.length_append]; have := HHL.out.1; have := HL20.out; omega)
      have BV8 : Hid (Bytes w8 (.slice sa sn sc) (segW (L.last + 1) (ml.map (·.1)))) := hid (by
        have e : ints (headW (L.last + 1)) ++ ints (linesW (L.last + 1) (ml.map (·.1))) = ints (segW (L.last + 1) (ml.map (·.1))) := by unfold segW ints; rw [List.map_append]
        have h := HO8.out
        rw [e] at h
        refine Bytes.of_owns h (fun c hc => ?_) (by have := HS8.out; omega)
        rcases List.mem_append.1 hc with hc | hc
        . exact HHL.out.2 c hc
        . exact HBL.out c hc)
      have HSN : Hid ((segW (L.last + 1) (ml.map (·.1))).length = sn) := hid (by rw [<- HSN0.out]; unfold segW; rw [List.length_append, List.length_append, length_ints, length_ints])
      have hsn2 : (sn : Int) <= 2001000 := by have := HSN.out; have := HS8.out; omega
      have B68 : Hid (Below w6.heap.size w6 w8) := hid (HG7.out.trans (B8.out.mono (Nat.le_of_lt HLT7.out)))
      have X8 : Hid (FC w8 w6.heap.size (lz + 1)) := hid (X8a.out.kept (Kept.of_below B8.out (S := fun b => (w6.alloc (.cells #[.int .u64 (lz + 1), .int .i64 0, .int .i64 0] 188)).heap.size <= b) fun k h1 h2 => h2) (by have := HLT7.out; omega))
      have HNB3 : Hid (¬ Own3 db mb tb w6.heap.size) := hid (fun h => by have := L6.out.disk.lt3 _ h; omega)
      have HGL : Hid (w.heap.size <= w6.heap.size) := hid S6.out.1.size
      have L8 := hid (L6.out.below B68.out)
      have S8 : Hid (LStep lb db mb tb w ev fv w8 ev1 fv1) := hid (S6.out.trans (LStep.below B68.out))
      have HG6 : Hid (w6.heap.size < w8.heap.size) := hid (by have := HLT7.out; have := HSZ7.out; have := B8.out.size; omega)
      have ST := Stable.from w8
      clear HSN0 HG7 HLT7 HSZ7 X8a O7 BV7 HHL HL2 HO8 B8 B68 BV6
      generalize w6.heap.size = g at *
      go_wp2_with fail
      refine region_start [0, 1, 3, 7, 0, 16, 48, 112, 0, 511, 1023] 128 (fun w' => Below w8.heap.size w8 w') (by kernel_rfl) ?_
      refine stage_heads [0, 1, 2, 3, 4, 5, 6, 8] (by kernel_rfl) (L := #[true, true, true, true, true, true, true, false, true, false, false]) (by kernel_rfl) (f' := 3) rfl (fun _ _ _ _ h => h) (fun w o h => ST.alloc h o) (.inr (by first | exact Below.refl _ _ | exact (Below.refl _ _).drew)) ?_
      simp only [sF, sL]
      iterate 8 (first | (refine heads_load _ (by rfl) (fun w' hs => by have Y := L8.out.below hs; have b0 := Y.c0; obtain ⟨q0, q1, q2⟩ := X8.out.below hs; go_simp; try with_reducible rfl) rfl ?_; simp only [Act.put, sA]) | (refine heads_pure _ (by rfl) (fun w' => by go_simp; try with_reducible rfl) ?_; simp only [Act.put, sA]))
      refine heads_nil ?_
      refine stage_op 7 (by kernel_rfl) (L := #[true, true, true, true, true, true, true, true, true, false, false]) (by kernel_rfl) ?_
      simp only [sL]
      go_wp2_with fail; have WN := wname (L.last + 1) 0 0 w8.drew HNX1.out HNX2.out; rw [HNX.out] at WN; refine WN.mono ?_; clear WN; rintro e u9 ⟨rfl, hb9⟩; have I9 : Hid (Below w8.heap.size w8 u9) := hid (((Below.refl w8.heap.size w8).drew).trans hb9); clear hb9; go_wp2_with fail
      refine step_post (fun _ => I9.out) ?_
      refine stage_op 9 (by kernel_rfl) (L := #[true, true, true, true, true, true, true, true, true, true, false]) (by kernel_rfl) ?_
      simp only [sL]
      go_wp2_with fail; have L9 := hid (L8.out.below I9.out); refine (dapp_any db mb tb D1 (nameW (L.last + 1)) _ (segW (L.last + 1) (ml.map (·.1))) u9 L9.out.disk HG1.out (BV8.out.below I9.out) HNS.out).mono ?_; rintro e w10 ⟨rfl, hd10, hk10⟩; have L10 : Hid (LogAt w10 lb db mb tb ev1 fv1 el1 (appendD D1 (nameW (L.last + 1)) (segW (L.last + 1) (ml.map (·.1)))).1 L1) := hid (L9.out.disked hd10 hk10); have S10 : Hid (LStep lb db mb tb w ev fv w10 ev1 fv1) := hid (S8.out.trans ((LStep.below I9.out).trans (LStep.disk hk10))); have X10 := hid ((X8.out.below I9.out).kept hk10 HNB3.out); clear hd10 hk10; generalize (appendD D1 (nameW (L.last + 1)) (segW (L.last + 1) (ml.map (·.1)))).1 = D10 at *; generalize (appendD D1 (nameW (L.last + 1)) (segW (L.last + 1) (ml.map (·.1)))).2 = k10 at *; go_wp2_with fail
      refine step_post nofun ?_
      refine stage_heads [10] (by kernel_rfl) (L := #[true, true, true, true, true, true, true, true, true, true, true]) (by kernel_rfl) (f' := 0) rfl (fun _ _ _ _ h => h) (fun w o h => ST.alloc h o) (.inl (by kernel_rfl)) ?_
      simp only [sF, sL]
      iterate 1 (refine heads_pure _ (by rfl) (fun w' => by go_simp; try with_reducible rfl) ?_; simp only [Act.put, sA])
      refine heads_nil ?_
      refine stage_done (by kernel_rfl) ?_
      by_cases hk0 : k10 = 0
      . have hkb : ((k10 : Int) != 0) = false := by rw [hk0]; rfl
        have HK0 := hid hk0
        have y6 := X10.out.c2
        clear hk0
        go_wp2_with fail
        obtain ⟨fa, fc, rfl, _⟩ := L10.out.shapeF
        obtain ⟨ea, ec, rfl, _⟩ := L10.out.shapeE
        obtain ⟨fn, hfn⟩ : ∃ fn, L1.fs.length = fn := ⟨_, rfl⟩
        have HFN := hid hfn
        obtain ⟨en, hen⟩ : ∃ en, L1.es.length = en := ⟨_, rfl⟩
        have HEN := hid hen
        obtain ⟨ff, hff⟩ : ∃ ff : WF, ff = ⟨L.last + 1, 0, 0⟩ := ⟨_, rfl⟩
        have HFF := hid hff
        have hf1 : (ff.f : Int) = lz + 1 := by rw [hff]; exact HNX.out
        have hf2 : (ff.m : Int) = 0 := by rw [hff]; rfl
        have hf3 : (ff.s : Int) = 0 := by rw [hff]; rfl
        have SR : Hid (∀ W : World, W.heap.size = w10.heap.size -> SRow (W.alloc (.cells #[.int .u64 (lz + 1), .int .i64 0, .int .i64 0] 188)) 3 (.slice (some ⟨w10.heap.size, 0, none⟩) 1 1) [wfRow ff]) := hid (fun W hW => by
          have h := srow_lit3 W (.int .u64 (lz + 1)) (.int .i64 0) (.int .i64 0) 188
          rw [hW] at h
          unfold wfRow
          rw [hf1, hf2, hf3]
          exact h)
        rw [hfn] at L10 S10
        rw [hen] at L10 S10
        have ST10 := Stable.from w10
        have M10 := hid (HM.out.kept S10.out.1)
        have HF1 := hid hf1
        have HF2 := hid hf2
        have HF3 := hid hf3
        clear hff hfn hen y6 hf1 hf2 hf3
        refine region_start [0, 0, 2, 6, 14, 0, 32, 96, 224, 510, 1023, 2047, 4095] 0 (fun w' => Below w10.heap.size w10 w') (by kernel_rfl) ?_
        refine stage_heads [0, 1, 2, 3, 4, 5, 6, 7] (by kernel_rfl) (L := #[true, true, true, true, true, true, true, true, false, false, false, false, false]) (by kernel_rfl) (f' := 5) rfl (fun _ _ _ _ h => h) (fun w o h => ST10.alloc h o) (.inr (by first | exact Below.refl _ _ | exact (Below.refl _ _).drew)) ?_
        simp only [sF, sL]
        iterate 8 (first | (refine heads_load _ (by rfl) (fun w' hs => by have Y := L10.out.below hs; have b3 := Y.c3; obtain ⟨q0, q1, q2⟩ := X10.out.below hs; go_simp; try with_reducible rfl) rfl ?_; simp only [Act.put, sA]) | (refine heads_pure _ (by rfl) (fun w' => by go_simp; try with_reducible rfl) ?_; simp only [Act.put, sA]))
        refine heads_nil ?_
        refine stage_op 8 (by kernel_rfl) (L := #[true, true, true, true, true, true, true, true, true, false, false, false, false]) (by kernel_rfl) ?_
        simp only [sL]
        go_wp2_with fail
        refine step_post nofun ?_
        refine stage_op 9 (by kernel_rfl) (L := #[true, true, true, true, true, true, true, true, true, true, false, false, false]) (by kernel_rfl) ?_
        simp only [sL]
        go_wp2_with (at_builtin; refine wpList_append_ownl wfile3 _ _ rfl (.slice fa fn fc) (.slice (some ⟨w10.heap.size, 0, none⟩) 1 1) (L1.fs.map wfRow) [wfRow ff] rfl rfl (L10.out.fr.below ((Below.refl _ _).drew.alloc (Nat.le_refl _) _)) (SR.out _ (by simp)) (by intro r hr; obtain rfl := List.mem_singleton.1 hr; rfl) (by intro r hr u hu; obtain rfl := List.mem_singleton.1 hr; simp only [wfRow, List.mem_cons, List.not_mem_nil, or_false] at hu; rcases hu with rfl | rfl | rfl <;> rfl) (by intro x hx; simp [wfRow] at hx) wfile8 (by rw [List.length_map]; have := HFL.out; have := HFSL.out; simp only [List.length_cons, List.length_nil]; omega) rfl ?_; intro v11 w11 ho11 hg11 ha11; obtain ⟨g11, c11, rfl, hc11, hl11⟩ := OwnL.some ho11 (by simp); obtain ⟨kf, hkf⟩ : ∃ kf, (L1.fs.map wfRow ++ [wfRow ff]).length = kf := ⟨_, rfl⟩; have HKF := hid hkf; rw [hkf] at ho11 ha11 ⊢; have LA := (L10.out.below ((Below.refl w10.heap.size w10).drew.alloc (Nat.le_refl _) (.cells #[.int .u64 (lz + 1), .int .i64 0, .int .i64 0] 188))); have G11 := hid (LA.grownF (fs := L1.fs ++ [ff]) hg11 (by rw [List.map_append]; exact ho11) ha11); have A11 := hid ha11; have q2 := (LA.grown3 hg11).1; have q3 := (LA.grown3 hg11).2; clear ho11 hg11 ha11 LA hc11 hl11 hkf)
        refine step_post nofun ?_
        refine stage_heads [10, 11] (by kernel_rfl) (L := #[true, true, true, true, true, true, true, true, true, true, true, true, false]) (by kernel_rfl) (f' := 1) rfl (fun _ _ _ _ h => h) (fun w o h => ST10.alloc h o) (.inl (by kernel_rfl)) ?_
        simp only [sF, sL]
        iterate 2 (refine heads_pure _ (by rfl) (fun w' => by go_simp; try with_reducible rfl) ?_; simp only [Act.put, sA])
        refine heads_nil ?_
        refine stage_op 12 (by kernel_rfl) (L := #[true, true, true, true, true, true, true, true, true, true, true, true, true]) (by kernel_rfl) ?_
        simp only [sL]
        go_wp2_with fail
        refine step_post nofun ?_
        refine stage_done (by kernel_rfl) ?_
        have sA : LStep lb db mb tb w10 (.slice ea en ec) (.slice fa fn fc) (w10.drew.alloc (.cells #[.int .u64 (lz + 1), .int .i64 0, .int .i64 0] 188)) (.slice ea en ec) (.slice fa fn fc) := LStep.below ((Below.refl _ _).drew.alloc (Nat.le_refl _) _)
        have sF : LStep lb db mb tb (w10.drew.alloc (.cells #[.int .u64 (lz + 1), .int .i64 0, .int .i64 0] 188)) (.slice ea en ec) (.slice fa fn fc) (w11.setCell ⟨lb, 3, none⟩ (.slice (some ⟨g11, 0, none⟩) kf c11)) (.slice ea en ec) (.slice (some ⟨g11, 0, none⟩) kf c11) := ⟨G11.out.2, fun b hb => .inl hb, own_ats A11.out⟩
        have S12 := hid (S10.out.trans (sA.trans sF))
        obtain ⟨L2, hL2⟩ : ∃ L2 : WalS, L2 = ⟨L1.b, L1.es, L1.fs ++ [ff], L1.safe⟩ := ⟨_, rfl⟩
        have HL2 : Hid (L2.b = L.b /\ L2.es = L.es /\ L2.fs = L.fs ++ [ff] /\ L2.safe = L1.safe) := hid (by rw [hL2]; exact ⟨HSL.out.1, HSL.out.2.1, by rw [<- HSL.out.2.2], rfl⟩)
        have L12 : Hid (LogAt (w11.setCell ⟨lb, 3, none⟩ (.slice (some ⟨g11, 0, none⟩) kf c11)) lb db mb tb (.slice ea en ec) (.slice (some ⟨g11, 0, none⟩) kf c11) el1 D10 L2) := hid (by rw [hL2]; exact G11.out.1)
        obtain ⟨m, hmm⟩ : ∃ m, L2.fs.length = m + 1 := ⟨L2.fs.length - 1, by rw [hL2]; simp⟩
        have HMM := hid hmm
        have HF : Hid (L2.fs.getLast? = some ff) := hid (by rw [hL2]; simp)
        have hkm : kf = m + 1 := by rw [<- HKF.out, <- hmm, hL2]; simp
        have HM6 : Hid (m <= 1000000) := hid (by have h1 : L2.fs.length = L1.fs.length + 1 := (by rw [hL2]; simp); have := HFL.out; have := HFSL.out; omega)
        have hs' : (kf : Int) <= 4294967296 := by have := HM6.out; omega
        generalize w11.setCell ⟨lb, 3, none⟩ (.slice (some ⟨g11, 0, none⟩) kf c11) = w12 at *
        clear sA sF G11 A11 q2 q3 hL2 hmm SR
        go_wp2_with fail
        refine (wopen_some L12.out hkm hs').mono ?_
        rintro e w13 ⟨rfl, hb13⟩
        have L13 := hid (L12.out.below hb13)
        have S13 := hid (S12.out.trans (LStep.below hb13))
        clear hb13
        have y6 := (L13.out.cellL HF.out HMM.out).2.2
        obtain ⟨mA, hmA⟩ : ∃ mA : Nat, ff.m + n = mA := ⟨_, rfl⟩
        obtain ⟨sB, hsB⟩ : ∃ sB : Nat, ff.s + sn = sB := ⟨_, rfl⟩
        have HMA := hid hmA
        have HSB := hid hsB
        have hf2 := HF2.out
        have hf3 := HF3.out
        have am : (ff.m : Int) + (n : Int) = (mA : Int) := by omega
        have asb : (ff.s : Int) + (sn : Int) = (sB : Int) := by omega
        have wm : IntKind.i64.wrap (mA : Int) = (mA : Int) := by simp only [IntKind.wrap_i64]; omega
        have ws : IntKind.i64.wrap (sB : Int) = (sB : Int) := by simp only [IntKind.wrap_i64]; omega
        have ST6 := Stable.from w13
        clear hmA hsB hf2 hf3
        go_wp2_with fail
        refine region_start [0, 0, 0, 4, 12, 28, 0, 64, 252, 0, 512, 1536, 3584, 0, 8192, 32256, 8189, 73725, 204797, 524287, 1048575, 2097151] 0 (fun w' => Below w13.heap.size w13 w') (by kernel_rfl) ?_
        refine stage_heads [0, 1, 2, 3, 4, 5, 6, 7, 8, 9, 10, 11, 12, 13, 14, 15, 16, 17] (by kernel_rfl) (L := #[true, true, true, true, true, true, true, true, true, true, true, true, true, true, true, true, true, true, false, false, false, false]) (by kernel_rfl) (f' := 4) rfl (fun _ _ _ _ h => h) (fun w o h => ST6.alloc h o) (.inr (by first | exact Below.refl _ _ | exact (Below.refl _ _).drew)) ?_
        simp only [sF, sL]
        iterate 18 (first | (refine heads_load _ (by rfl) (fun w' hs => by have Y := L13.out.below hs; obtain ⟨q0, q1, q2⟩ := Y.cellL HF.out HMM.out; go_simp; try with_reducible rfl) rfl ?_; simp only [Act.put, sA]) | (refine heads_pure _ (by rfl) (fun w' => by go_simp; try with_reducible rfl) ?_; simp only [Act.put, sA]))
        refine heads_nil ?_
        refine stage_op 18 (by kernel_rfl) (L := #[true, true, true, true, true, true, true, true, true, true, true, true, true, true, true, true, true, true, true, false, false, false]) (by kernel_rfl) ?_
        simp only [sL]
        obtain ⟨y0, y1, y2⟩ := L13.out.cellL HF.out HMM.out; have z1 := OwnL.unfrozen L13.out.fr (m * 3 + 1); have z2 := OwnL.unfrozen L13.out.fr (m * 3 + 2); go_wp2_with fail
        refine step_post nofun ?_
        refine stage_heads [19, 20] (by kernel_rfl) (L := #[true, true, true, true, true, true, true, true, true, true, true, true, true, true, true, true, true, true, true, true, true, false]) (by kernel_rfl) (f' := 1) rfl (fun _ _ _ _ h => h) (fun w o h => ST6.alloc h o) (.inl (by kernel_rfl)) ?_
        simp only [sF, sL]
        iterate 2 (refine heads_pure _ (by rfl) (fun w' => by go_simp; try with_reducible rfl) ?_; simp only [Act.put, sA])
        refine heads_nil ?_
        refine stage_op 21 (by kernel_rfl) (L := #[true, true, true, true, true, true, true, true, true, true, true, true, true, true, true, true, true, true, true, true, true, true]) (by kernel_rfl) ?_
        simp only [sL]
        go_wp2_with fail
        refine step_post nofun ?_
        refine stage_done (by kernel_rfl) ?_
        clear y0 y1 y2 z1 z2 y6
        have L7x := hid (L13.out.stored2 HF.out HMM.out mA sB)
        have K7x : Hid (Kept w13 ((w13.setCell ⟨g11, m * 3 + 1, none⟩ (.int .i64 (mA : Nat))).setCell ⟨g11, m * 3 + 2, none⟩ (.int .i64 (sB : Nat))) (fun b => b = g11)) := hid ((Kept.setCell w13 ⟨g11, m * 3 + 1, none⟩ _).trans (Kept.setCell _ ⟨g11, m * 3 + 2, none⟩ _))
        have L8' := hid (L7x.out.below ((Below.refl _ _).drew))
        have S8' : Hid (LStep lb db mb tb w13 (.slice ea en ec) (.slice (some ⟨g11, 0, none⟩) kf c11) ((w13.setCell ⟨g11, m * 3 + 1, none⟩ (.int .i64 (mA : Nat))).setCell ⟨g11, m * 3 + 2, none⟩ (.int .i64 (sB : Nat))).drew (.slice ea en ec) (.slice (some ⟨g11, 0, none⟩) kf c11)) := hid ⟨((K7x.out.trans (Kept.drew _ _))).mono fun b _ e => .inr (.inr (.inr (by rw [e]; rfl))), fun b hb => .inl hb, fun b hb => .inl hb⟩
        generalize hw14 : ((w13.setCell ⟨g11, m * 3 + 1, none⟩ (.int .i64 (mA : Nat))).setCell ⟨g11, m * 3 + 2, none⟩ (.int .i64 (sB : Nat))).drew = w14 at *
        have L14 := L8'
        have S14 := hid (S13.out.trans S8'.out)
        have M14 := hid (HM.out.kept S14.out.1)
        have ST8 := Stable.from w14
        clear hw14 L7x K7x L8' S8'
        go_wp2_with fail
        refine region_start [0, 0, 2, 6, 14, 0, 32, 126, 255, 511, 1023] 64 (fun w' => Below w14.heap.size w14 w') (by kernel_rfl) ?_
        refine stage_heads [0, 1, 2, 3, 4, 5] (by kernel_rfl) (L := #[true, true, true, true, true, true, false, false, false, false, false]) (by kernel_rfl) (f' := 5) rfl (fun _ _ _ _ h => h) (fun w o h => ST8.alloc h o) (.inr (by first | exact Below.refl _ _ | exact (Below.refl _ _).drew)) ?_
        simp only [sF, sL]
        iterate 6 (first | (refine heads_load _ (by rfl) (fun w' hs => by have Y := L14.out.below hs; have b2 := Y.c2; go_simp; try with_reducible rfl) rfl ?_; simp only [Act.put, sA]) | (refine heads_pure _ (by rfl) (fun w' => by go_simp; try with_reducible rfl) ?_; simp only [Act.put, sA]))
        refine heads_nil ?_
        refine stage_op 6 (by kernel_rfl) (L := #[true, true, true, true, true, true, true, false, false, false, false]) (by kernel_rfl) ?_
        simp only [sL]
        go_wp2_with fail; refine (gcopy_any _ ml _ (M14.out.row.below ((Below.refl w14.heap.size w14).drew)) ((ArgE.kept M14.out (Kept.drew w14 _)).loose) HMLN.out).mono ?_; rintro e w15 ⟨cv, rfl, cl, hoc, hcm, hcd, hcb, hbc⟩; have B9 : Hid (Below w14.heap.size w14 w15) := hid (((Below.refl w14.heap.size w14).drew).trans hbc); have OC := hid hoc; have CM := hid hcm; have L15 := hid (L14.out.below B9.out); have DC : Hid (Datas w15 (Own3 db mb tb) cl) := hid (hcd.mono fun p _ b _ hb => L14.out.disk.lt3 b hb); have H32 : Hid ((entRows el1).length + (entRows cl).length <= 4294967296) := hid (by rw [entRows_length, entRows_length, L14.out.lenE, show cl.length = ml.length by rw [<- List.length_map (f := fun x : EntS × Value => x.1), hcm, List.length_map]]; have h1 : L2.es.length = L.es.length := (by rw [HL2.out.2.1]); have := HES.out; simp only; omega); obtain ⟨ca, cn, cc, rfl⟩ := ownl_slice hoc; clear hoc hcm hcd hcb hbc; go_wp2_with fail
        refine step_post (fun _ => B9.out) ?_
        refine stage_op 7 (by kernel_rfl) (L := #[true, true, true, true, true, true, true, true, false, false, false]) (by kernel_rfl) ?_
        simp only [sL]
        go_wp2_with (at_builtin; refine wpList_append_ownl entry3 _ _ rfl (.slice ea en ec) (.slice ca cn cc) (entRows el1) (entRows cl) rfl rfl L15.out.er OC.out.srow (entRows_each cl) DC.out.oneCell (entRows_no8 DC.out) entry8 H32.out rfl ?_; intro v10 w16 ho10 hg10 ha10; obtain ⟨a10, n10, c10, rfl⟩ := ownl_slice ho10; have G10 := hid (L15.out.grownE (el' := el1 ++ cl) hg10 (by rw [entRows_app]; exact ho10) ha10 ((L15.out.dat.keptN (Kept.of_grown hg10) (noB_own L15.out.er)).app (DC.out.keptN (Kept.of_grown hg10) (noB_own L15.out.er)))); have A10 := hid ha10; have e2 := (L15.out.grown2 hg10).1; have e3 := (L15.out.grown2 hg10).2; clear ho10 hg10 ha10)
        refine step_post nofun ?_
        refine stage_heads [8, 9] (by kernel_rfl) (L := #[true, true, true, true, true, true, true, true, true, true, false]) (by kernel_rfl) (f' := 1) rfl (fun _ _ _ _ h => h) (fun w o h => ST8.alloc h o) (.inl (by kernel_rfl)) ?_
        simp only [sF, sL]
        iterate 2 (refine heads_pure _ (by rfl) (fun w' => by go_simp; try with_reducible rfl) ?_; simp only [Act.put, sA])
        refine heads_nil ?_
        refine stage_op 10 (by kernel_rfl) (L := #[true, true, true, true, true, true, true, true, true, true, true]) (by kernel_rfl) ?_
        simp only [sL]
        go_wp2_with fail
        refine step_post nofun ?_
        refine stage_done (by kernel_rfl) ?_
        go_wp2_with fail
        go_ret
        rw [HR.out, HNEW.out, if_neg fun q => q HK1.out, if_neg fun q => q HK0.out]
        have hfin := G10.out.1
        have eL : (⟨L2.b, (el1 ++ cl).map (·.1), L2.fs.dropLast ++ [⟨ff.f, mA, sB⟩], L2.safe⟩ : WalS) = ⟨L.b, L.es ++ ml.map (·.1), L.fs ++ [⟨L.last + 1, (ml.map (·.1)).length, (segW (L.last + 1) (ml.map (·.1))).length⟩], L1.safe⟩ := by
          have h1 : el1.map (·.1) = L2.es := L14.out.es
          have h2 : (ml.map (·.1)).length = mA := by rw [List.length_map, HN.out, <- HMA.out, HFF.out]; simp
          have h3 : (segW (L.last + 1) (ml.map (·.1))).length = sB := by rw [HSN.out, <- HSB.out, HFF.out]; simp
          have h4 : ff.f = L.last + 1 := by rw [HFF.out]
          rw [List.map_append, h1, CM.out, HL2.out.1, HL2.out.2.1, HL2.out.2.2.1, HL2.out.2.2.2, List.dropLast_concat, h2, h3, h4]
        have hL : LogAt (w16.setCell ⟨lb, 2, none⟩ (.slice a10 n10 c10)) lb db mb tb (.slice a10 n10 c10) (.slice (some ⟨g11, 0, none⟩) kf c11) (el1 ++ cl) D10 ⟨L.b, L.es ++ ml.map (·.1), L.fs ++ [⟨L.last + 1, (ml.map (·.1)).length, (segW (L.last + 1) (ml.map (·.1))).length⟩], L1.safe⟩ := by
          rw [<- eL]
          exact hfin
        have sE : LStep lb db mb tb w15 (.slice ea en ec) (.slice (some ⟨g11, 0, none⟩) kf c11) (w16.setCell ⟨lb, 2, none⟩ (.slice a10 n10 c10)) (.slice a10 n10 c10) (.slice (some ⟨g11, 0, none⟩) kf c11) := ⟨G10.out.2, own_ats A10.out, fun b hb => .inl hb⟩
        have sF := S14.out.trans ((LStep.below B9.out).trans sE)
        first
          | exact ⟨rfl, _, _, _, hL, sF.1, sF.2.1, sF.2.2⟩
          | (have sG := sF.trans (LStep.below ((Below.refl (w16.setCell ⟨lb, 2, none⟩ (.slice a10 n10 c10)).heap.size (w16.setCell ⟨lb, 2, none⟩ (.slice a10 n10 c10))).drew)); exact ⟨rfl, _, _, _, hL.below ((Below.refl _ _).drew), sG.1, sG.2.1, sG.2.2⟩)
      . have hkb : ((k10 : Int) != 0) = true := by simp; omega
        have HK0 := hid hk0
        clear hk0
        go_wp2_with fail
        go_ret
        rw [HR.out, HNEW.out, if_neg fun q => q HK1.out, if_pos HK0.out]
        exact ⟨rfl, _, _, _, L10.out, S10.out.1, S10.out.2.1, S10.out.2.2⟩
    . have hkb : ((k1 : Int) != 0) = true := by simp; omega
      have HK1 := hid hk1
      clear hk1
      go_wp2_with fail
      go_ret
      rw [HR.out, HNEW.out, if_pos HK1.out]
      exact ⟨rfl, _, _, _, L6.out, S6.out.1, S6.out.2.1, S6.out.2.2⟩
  . have hz1 : decide (1024 <= (ps : Int)) = true := decide_eq_true (by omega)
    clear hs1
    go_wp2_with fail
    clear q2 hz1
    refine (wsync L5.out HGW.out HOK.out HFL.out HSY.out).mono ?_
    rintro e w6 ⟨rfl, ev1, fv1, el1, hl6, hs6⟩
    have HFSL : Hid ((syncW D L).2.1.fs.length = L.fs.length) := hid (by rw [HSL.out.2.2])
    have HESL : Hid ((syncW D L).2.1.es.length = L.es.length) := hid (by rw [HSL.out.2.1])
    have S6 : Hid (LStep lb db mb tb w ev fv w6 ev1 fv1) := hid ((LStep.below B5.out).trans hs6)
    have HNO : Hid (∀ b, (Value.slice ba bn bc).ownBlock = some b -> ¬ LOwn lb db mb tb ev fv b) := hid (fun b hb hs => by have := HNB.out b hb; have := HH.out.own_lt hs; omega)
    have BV6 : Hid (Bytes w6 (.slice ba bn bc) (linesW (L.last + 1) (ml.map (·.1)))) := hid (BV5.out.kept hs6.1 HNO.out)
    have L6 := hid hl6
    clear hl6 hs6
    generalize (syncW D L).1 = D1 at *
    generalize (syncW D L).2.1 = L1 at *
    generalize (syncW D L).2.2 = k1 at *
    by_cases hk1 : k1 = 0
    . have hkb : ((k1 : Int) != 0) = false := by rw [hk1]; rfl
      have HK1 := hid hk1
      clear hk1
      go_wp2_with fail
      have X7 : Hid (FC (w6.alloc (.cells #[.int .u64 (lz + 1), .int .i64 0, .int .i64 0] 188)) w6.heap.size (lz + 1)) := hid ⟨by go_cell, by go_cell, by go_cell⟩
      have WG := ghead_any (L.last + 1) (w6.alloc (.cells #[.int .u64 (lz + 1), .int .i64 0, .int .i64 0] 188)) (by have := HNX2.out; omega)
      rw [HNX.out] at WG
      refine WG.mono ?_
      clear WG
      rintro e w7 ⟨hv, rfl, ho7, hb7⟩
      have HG7 : Hid (Below w6.heap.size w6 w7) := hid (((Below.refl w6.heap.size w6).alloc (Nat.le_refl _) _).trans (hb7.mono (by simp)))
      have HLT7 : Hid (w6.heap.size < (w6.alloc (.cells #[.int .u64 (lz + 1), .int .i64 0, .int .i64 0] 188)).heap.size) := hid (by simp)
      have HSZ7 : Hid ((w6.alloc (.cells #[.int .u64 (lz + 1), .int .i64 0, .int .i64 0] 188)).heap.size <= w7.heap.size) := hid hb7.size
      have X8a := hid (X7.out.below hb7)
      have O7 := hid ho7
      have BV7 := hid (BV6.out.below HG7.out)
      have HHL : Hid ((headW (L.last + 1)).length <= 100 /\ ∀ c ∈ headW (L.last + 1), c < 256) := hid (headW_small (by have := HNX2.out; omega))
      have HL2 : Hid ((ints (headW (L.last + 1))).length + (ints (linesW (L.last + 1) (ml.map (·.1)))).length <= 4294967296) := hid (by rw [length_ints, length_ints]; have := HHL.out.1; have := HLN.out; omega)
      clear ho7 hb7 X7
      go_wp2_with (at_builtin; refine wpList_append_ints Tryz.u8s _ _ rfl (w6.alloc (.cells #[.int .u64 (lz + 1), .int .i64 0, .int .i64 0] 188)).heap.size hv (.slice ba bn bc) (ints (headW (L.last + 1))) (ints (linesW (L.last + 1) (ml.map (·.1)))) rfl rfl O7.out BV7.out.rd (by decide) HL2.out HSZ7.out rfl ?_; intro v8 w8 hown8 hgr8 hat8 hnil8 hbel8; have HO8 := hid hown8; have B8 := hid hbel8; obtain ⟨sa, sc, rfl⟩ := hown8.shape; obtain ⟨sn, hsn⟩ : ∃ sn, (ints (headW (L.last + 1)) ++ ints (linesW (L.last + 1) (ml.map (·.1)))).length = sn := ⟨_, rfl⟩; have HSN0 := hid hsn; rw [hsn] at HO8 ⊢; clear hown8 hgr8 hat8 hnil8 hbel8 hsn)
      have HS8 : Hid ((segW (L.last + 1) (ml.map (·.1))).length <= 2001000) := hid (by unfold segW; rw [List.length_append]; have := HHL.out.1; have := HL20.out; omega)
      have BV8 : Hid (Bytes w8 (.slice sa sn sc) (segW (L.last + 1) (ml.map (·.1)))) := hid (by
        have e : ints (headW (L.last + 1)) ++ ints (linesW (L.last + 1) (ml.map (·.1))) = ints (segW (L.last + 1) (ml.map (·.1))) := by unfold segW ints; rw [List.map_append]
        have h := HO8.out
        rw [e] at h
        refine Bytes.of_owns h (fun c hc => ?_) (by have := HS8.out; omega)
        rcases List.mem_append.1 hc with hc | hc
        . exact HHL.out.2 c hc
        . exact HBL.out c hc)
      have HSN : Hid ((segW (L.last + 1) (ml.map (·.1))).length = sn) := hid (by rw [<- HSN0.out]; unfold segW; rw [List.length_append, List.length_append, length_ints, length_ints])
      have hsn2 : (sn : Int) <= 2001000 := by have := HSN.out; have := HS8.out; omega
      have B68 : Hid (Below w6.heap.size w6 w8) := hid (HG7.out.trans (B8.out.mono (Nat.le_of_lt HLT7.out)))
      have X8 : Hid (FC w8 w6.heap.size (lz + 1)) := hid (X8a.out.kept (Kept.of_below B8.out (S := fun b => (w6.alloc (.cells #[.int .u64 (lz + 1), .int .i64 0, .int .i64 0] 188)).heap.size <= b) fun k h1 h2 => h2) (by have := HLT7.out; omega))
      have HNB3 : Hid (¬ Own3 db mb tb w6.heap.size) := hid (fun h => by have := L6.out.disk.lt3 _ h; omega)
      have HGL : Hid (w.heap.size <= w6.heap.size) := hid S6.out.1.size
      have L8 := hid (L6.out.below B68.out)
      have S8 : Hid (LStep lb db mb tb w ev fv w8 ev1 fv1) := hid (S6.out.trans (LStep.below B68.out))
      have HG6 : Hid (w6.heap.size < w8.heap.size) := hid (by have := HLT7.out; have := HSZ7.out; have := B8.out.size; omega)
      have ST := Stable.from w8
      clear HSN0 HG7 HLT7 HSZ7 X8a O7 BV7 HHL HL2 HO8 B8 B68 BV6
      generalize w6.heap.size = g at *
      go_wp2_with fail
      refine region_start [0, 1, 3, 7, 0, 16, 48, 112, 0, 511, 1023] 128 (fun w' => Below w8.heap.size w8 w') (by kernel_rfl) ?_
      refine stage_heads [0, 1, 2, 3, 4, 5, 6, 8] (by kernel_rfl) (L := #[true, true, true, true, true, true, true, false, true, false, false]) (by kernel_rfl) (f' := 3) rfl (fun _ _ _ _ h => h) (fun w o h => ST.alloc h o) (.inr (by first | exact Below.refl _ _ | exact (Below.refl _ _).drew)) ?_
      simp only [sF, sL]
      iterate 8 (first | (refine heads_load _ (by rfl) (fun w' hs => by have Y := L8.out.below hs; have b0 := Y.c0; obtain ⟨q0, q1, q2⟩ := X8.out.below hs; go_simp; try with_reducible rfl) rfl ?_; simp only [Act.put, sA]) | (refine heads_pure _ (by rfl) (fun w' => by go_simp; try with_reducible rfl) ?_; simp only [Act.put, sA]))
      refine heads_nil ?_
      refine stage_op 7 (by kernel_rfl) (L := #[true, true, true, true, true, true, true, true, true, false, false]) (by kernel_rfl) ?_
      simp only [sL]
      go_wp2_with fail; have WN := wname (L.last + 1) 0 0 w8.drew HNX1.out HNX2.out; rw [HNX.out] at WN; refine WN.mono ?_; clear WN; rintro e u9 ⟨rfl, hb9⟩; have I9 : Hid (Below w8.heap.size w8 u9) := hid (((Below.refl w8.heap.size w8).drew).trans hb9); clear hb9; go_wp2_with fail
      refine step_post (fun _ => I9.out) ?_
      refine stage_op 9 (by kernel_rfl) (L := #[true, true, true, true, true, true, true, true, true, true, false]) (by kernel_rfl) ?_
      simp only [sL]
      go_wp2_with fail; have L9 := hid (L8.out.below I9.out); refine (dapp_any db mb tb D1 (nameW (L.last + 1)) _ (segW (L.last + 1) (ml.map (·.1))) u9 L9.out.disk HG1.out (BV8.out.below I9.out) HNS.out).mono ?_; rintro e w10 ⟨rfl, hd10, hk10⟩; have L10 : Hid (LogAt w10 lb db mb tb ev1 fv1 el1 (appendD D1 (nameW (L.last + 1)) (segW (L.last + 1) (ml.map (·.1)))).1 L1) := hid (L9.out.disked hd10 hk10); have S10 : Hid (LStep lb db mb tb w ev fv w10 ev1 fv1) := hid (S8.out.trans ((LStep.below I9.out).trans (LStep.disk hk10))); have X10 := hid ((X8.out.below I9.out).kept hk10 HNB3.out); clear hd10 hk10; generalize (appendD D1 (nameW (L.last + 1)) (segW (L.last + 1) (ml.map (·.1)))).1 = D10 at *; generalize (appendD D1 (nameW (L.last + 1)) (segW (L.last + 1) (ml.map (·.1)))).2 = k10 at *; go_wp2_with fail
      refine step_post nofun ?_
      refine stage_heads [10] (by kernel_rfl) (L := #[true, true, true, true, true, true, true, true, true, true, true]) (by kernel_rfl) (f' := 0) rfl (fun _ _ _ _ h => h) (fun w o h => ST.alloc h o) (.inl (by kernel_rfl)) ?_
      simp only [sF, sL]
      iterate 1 (refine heads_pure _ (by rfl) (fun w' => by go_simp; try with_reducible rfl) ?_; simp only [Act.put, sA])
      refine heads_nil ?_
      refine stage_done (by kernel_rfl) ?_
      by_cases hk0 : k10 = 0
      . have hkb : ((k10 : Int) != 0) = false := by rw [hk0]; rfl
        have HK0 := hid hk0
        have y6 := X10.out.c2
        clear hk0
        go_wp2_with fail
        obtain ⟨fa, fc, rfl, _⟩ := L10.out.shapeF
        obtain ⟨ea, ec, rfl, _⟩ := L10.out.shapeE
        obtain ⟨fn, hfn⟩ : ∃ fn, L1.fs.length = fn := ⟨_, rfl⟩
        have HFN := hid hfn
        obtain ⟨en, hen⟩ : ∃ en, L1.es.length = en := ⟨_, rfl⟩
        have HEN := hid hen
        obtain ⟨ff, hff⟩ : ∃ ff : WF, ff = ⟨L.last + 1, 0, 0⟩ := ⟨_, rfl⟩
        have HFF := hid hff
        have hf1 : (ff.f : Int) = lz + 1 := by rw [hff]; exact HNX.out
        have hf2 : (ff.m : Int) = 0 := by rw [hff]; rfl
        have hf3 : (ff.s : Int) = 0 := by rw [hff]; rfl
        have SR : Hid (∀ W : World, W.heap.size = w10.heap.size -> SRow (W.alloc (.cells #[.int .u64 (lz + 1), .int .i64 0, .int .i64 0] 188)) 3 (.slice (some ⟨w10.heap.size, 0, none⟩) 1 1) [wfRow ff]) := hid (fun W hW => by
          have h := srow_lit3 W (.int .u64 (lz + 1)) (.int .i64 0) (.int .i64 0) 188
          rw [hW] at h
          unfold wfRow
          rw [hf1, hf2, hf3]
          exact h)
        rw [hfn] at L10 S10
        rw [hen] at L10 S10
        have ST10 := Stable.from w10
        have M10 := hid (HM.out.kept S10.out.1)
        have HF1 := hid hf1
        have HF2 := hid hf2
        have HF3 := hid hf3
        clear hff hfn hen y6 hf1 hf2 hf3
        refine region_start [0, 0, 2, 6, 14, 0, 32, 96, 224, 510, 1023, 2047, 4095] 0 (fun w' => Below w10.heap.size w10 w') (by kernel_rfl) ?_
        refine stage_heads [0, 1, 2, 3, 4, 5, 6, 7] (by kernel_rfl) (L := #[true, true, true, true, true, true, true, true, false, false, false, false, false]) (by kernel_rfl) (f' := 5) rfl (fun _ _ _ _ h => h) (fun w o h => ST10.alloc h o) (.inr (by first | exact Below.refl _ _ | exact (Below.refl _ _).drew)) ?_
        simp only [sF, sL]
        iterate 8 (first | (refine heads_load _ (by rfl) (fun w' hs => by have Y := L10.out.below hs; have b3 := Y.c3; obtain ⟨q0, q1, q2⟩ := X10.out.below hs; go_simp; try with_reducible rfl) rfl ?_; simp only [Act.put, sA]) | (refine heads_pure _ (by rfl) (fun w' => by go_simp; try with_reducible rfl) ?_; simp only [Act.put, sA]))
        refine heads_nil ?_
        refine stage_op 8 (by kernel_rfl) (L := #[true, true, true, true, true, true, true, true, true, false, false, false, false]) (by kernel_rfl) ?_
        simp only [sL]
        go_wp2_with fail
        refine step_post nofun ?_
        refine stage_op 9 (by kernel_rfl) (L := #[true, true, true, true, true, true, true, true, true, true, false, false, false]) (by kernel_rfl) ?_
        simp only [sL]
        go_wp2_with (at_builtin; refine wpList_append_ownl wfile3 _ _ rfl (.slice fa fn fc) (.slice (some ⟨w10.heap.size, 0, none⟩) 1 1) (L1.fs.map wfRow) [wfRow ff] rfl rfl (L10.out.fr.below ((Below.refl _ _).drew.alloc (Nat.le_refl _) _)) (SR.out _ (by simp)) (by intro r hr; obtain rfl := List.mem_singleton.1 hr; rfl) (by intro r hr u hu; obtain rfl := List.mem_singleton.1 hr; simp only [wfRow, List.mem_cons, List.not_mem_nil, or_false] at hu; rcases hu with rfl | rfl | rfl <;> rfl) (by intro x hx; simp [wfRow] at hx) wfile8 (by rw [List.length_map]; have := HFL.out; have := HFSL.out; simp only [List.length_cons, List.length_nil]; omega) rfl ?_; intro v11 w11 ho11 hg11 ha11; obtain ⟨g11, c11, rfl, hc11, hl11⟩ := OwnL.some ho11 (by simp); obtain ⟨kf, hkf⟩ : ∃ kf, (L1.fs.map wfRow ++ [wfRow ff]).length = kf := ⟨_, rfl⟩; have HKF := hid hkf; rw [hkf] at ho11 ha11 ⊢; have LA := (L10.out.below ((Below.refl w10.heap.size w10).drew.alloc (Nat.le_refl _) (.cells #[.int .u64 (lz + 1), .int .i64 0, .int .i64 0] 188))); have G11 := hid (LA.grownF (fs := L1.fs ++ [ff]) hg11 (by rw [List.map_append]; exact ho11) ha11); have A11 := hid ha11; have q2 := (LA.grown3 hg11).1; have q3 := (LA.grown3 hg11).2; clear ho11 hg11 ha11 LA hc11 hl11 hkf)
        refine step_post nofun ?_
        refine stage_heads [10, 11] (by kernel_rfl) (L := #[true, true, true, true, true, true, true, true, true, true, true, true, false]) (by kernel_rfl) (f' := 1) rfl (fun _ _ _ _ h => h) (fun w o h => ST10.alloc h o) (.inl (by kernel_rfl)) ?_
        simp only [sF, sL]
        iterate 2 (refine heads_pure _ (by rfl) (fun w' => by go_simp; try with_reducible rfl) ?_; simp only [Act.put, sA])
        refine heads_nil ?_
        refine stage_op 12 (by kernel_rfl) (L := #[true, true, true, true, true, true, true, true, true, true, true, true, true]) (by kernel_rfl) ?_
        simp only [sL]
        go_wp2_with fail
        refine step_post nofun ?_
        refine stage_done (by kernel_rfl) ?_
        have sA : LStep lb db mb tb w10 (.slice ea en ec) (.slice fa fn fc) (w10.drew.alloc (.cells #[.int .u64 (lz + 1), .int .i64 0, .int .i64 0] 188)) (.slice ea en ec) (.slice fa fn fc) := LStep.below ((Below.refl _ _).drew.alloc (Nat.le_refl _) _)
        have sF : LStep lb db mb tb (w10.drew.alloc (.cells #[.int .u64 (lz + 1), .int .i64 0, .int .i64 0] 188)) (.slice ea en ec) (.slice fa fn fc) (w11.setCell ⟨lb, 3, none⟩ (.slice (some ⟨g11, 0, none⟩) kf c11)) (.slice ea en ec) (.slice (some ⟨g11, 0, none⟩) kf c11) := ⟨G11.out.2, fun b hb => .inl hb, own_ats A11.out⟩
        have S12 := hid (S10.out.trans (sA.trans sF))
        obtain ⟨L2, hL2⟩ : ∃ L2 : WalS, L2 = ⟨L1.b, L1.es, L1.fs ++ [ff], L1.safe⟩ := ⟨_, rfl⟩
        have HL2 : Hid (L2.b = L.b /\ L2.es = L.es /\ L2.fs = L.fs ++ [ff] /\ L2.safe = L1.safe) := hid (by rw [hL2]; exact ⟨HSL.out.1, HSL.out.2.1, by rw [<- HSL.out.2.2], rfl⟩)
        have L12 : Hid (LogAt (w11.setCell ⟨lb, 3, none⟩ (.slice (some ⟨g11, 0, none⟩) kf c11)) lb db mb tb (.slice ea en ec) (.slice (some ⟨g11, 0, none⟩) kf c11) el1 D10 L2) := hid (by rw [hL2]; exact G11.out.1)
        obtain ⟨m, hmm⟩ : ∃ m, L2.fs.length = m + 1 := ⟨L2.fs.length - 1, by rw [hL2]; simp⟩
        have HMM := hid hmm
        have HF : Hid (L2.fs.getLast? = some ff) := hid (by rw [hL2]; simp)
        have hkm : kf = m + 1 := by rw [<- HKF.out, <- hmm, hL2]; simp
        have HM6 : Hid (m <= 1000000) := hid (by have h1 : L2.fs.length = L1.fs.length + 1 := (by rw [hL2]; simp); have := HFL.out; have := HFSL.out; omega)
        have hs' : (kf : Int) <= 4294967296 := by have := HM6.out; omega
        generalize w11.setCell ⟨lb, 3, none⟩ (.slice (some ⟨g11, 0, none⟩) kf c11) = w12 at *
        clear sA sF G11 A11 q2 q3 hL2 hmm SR
        go_wp2_with fail
        refine (wopen_some L12.out hkm hs').mono ?_
        rintro e w13 ⟨rfl, hb13⟩
        have L13 := hid (L12.out.below hb13)
        have S13 := hid (S12.out.trans (LStep.below hb13))
        clear hb13
        have y6 := (L13.out.cellL HF.out HMM.out).2.2
        obtain ⟨mA, hmA⟩ : ∃ mA : Nat, ff.m + n = mA := ⟨_, rfl⟩
        obtain ⟨sB, hsB⟩ : ∃ sB : Nat, ff.s + sn = sB := ⟨_, rfl⟩
        have HMA := hid hmA
        have HSB := hid hsB
        have hf2 := HF2.out
        have hf3 := HF3.out
        have am : (ff.m : Int) + (n : Int) = (mA : Int) := by omega
        have asb : (ff.s : Int) + (sn : Int) = (sB : Int) := by omega
        have wm : IntKind.i64.wrap (mA : Int) = (mA : Int) := by simp only [IntKind.wrap_i64]; omega
        have ws : IntKind.i64.wrap (sB : Int) = (sB : Int) := by simp only [IntKind.wrap_i64]; omega
        have ST6 := Stable.from w13
        clear hmA hsB hf2 hf3
        go_wp2_with fail
        refine region_start [0, 0, 0, 4, 12, 28, 0, 64, 252, 0, 512, 1536, 3584, 0, 8192, 32256, 8189, 73725, 204797, 524287, 1048575, 2097151] 0 (fun w' => Below w13.heap.size w13 w') (by kernel_rfl) ?_
        refine stage_heads [0, 1, 2, 3, 4, 5, 6, 7, 8, 9, 10, 11, 12, 13, 14, 15, 16, 17] (by kernel_rfl) (L := #[true, true, true, true, true, true, true, true, true, true, true, true, true, true, true, true, true, true, false, false, false, false]) (by kernel_rfl) (f' := 4) rfl (fun _ _ _ _ h => h) (fun w o h => ST6.alloc h o) (.inr (by first | exact Below.refl _ _ | exact (Below.refl _ _).drew)) ?_
        simp only [sF, sL]
        iterate 18 (first | (refine heads_load _ (by rfl) (fun w' hs => by have Y := L13.out.below hs; obtain ⟨q0, q1, q2⟩ := Y.cellL HF.out HMM.out; go_simp; try with_reducible rfl) rfl ?_; simp only [Act.put, sA]) | (refine heads_pure _ (by rfl) (fun w' => by go_simp; try with_reducible rfl) ?_; simp only [Act.put, sA]))
        refine heads_nil ?_
        refine stage_op 18 (by kernel_rfl) (L := #[true, true, true, true, true, true, true, true, true, true, true, true, true, true, true, true, true, true, true, false, false, false]) (by kernel_rfl) ?_
        simp only [sL]
        obtain ⟨y0, y1, y2⟩ := L13.out.cellL HF.out HMM.out; have z1 := OwnL.unfrozen L13.out.fr (m * 3 + 1); have z2 := OwnL.unfrozen L13.out.fr (m * 3 + 2); go_wp2_with fail
        refine step_post nofun ?_
        refine stage_heads [19, 20] (by kernel_rfl) (L := #[true, true, true, true, true, true, true, true, true, true, true, true, true, true, true, true, true, true, true, true, true, false]) (by kernel_rfl) (f' := 1) rfl (fun _ _ _ _ h => h) (fun w o h => ST6.alloc h o) (.inl (by kernel_rfl)) ?_
        simp only [sF, sL]
        iterate 2 (refine heads_pure _ (by rfl) (fun w' => by go_simp; try with_reducible rfl) ?_; simp only [Act.put, sA])
        refine heads_nil ?_
        refine stage_op 21 (by kernel_rfl) (L := #[true, true, true, true, true, true, true, true, true, true, true, true, true, true, true, true, true, true, true, true, true, true]) (by kernel_rfl) ?_
        simp only [sL]
        go_wp2_with fail
        refine step_post nofun ?_
        refine stage_done (by kernel_rfl) ?_
        clear y0 y1 y2 z1 z2 y6
        have L7x := hid (L13.out.stored2 HF.out HMM.out mA sB)
        have K7x : Hid (Kept w13 ((w13.setCell ⟨g11, m * 3 + 1, none⟩ (.int .i64 (mA : Nat))).setCell ⟨g11, m * 3 + 2, none⟩ (.int .i64 (sB : Nat))) (fun b => b = g11)) := hid ((Kept.setCell w13 ⟨g11, m * 3 + 1, none⟩ _).trans (Kept.setCell _ ⟨g11, m * 3 + 2, none⟩ _))
        have L8' := hid (L7x.out.below ((Below.refl _ _).drew))
        have S8' : Hid (LStep lb db mb tb w13 (.slice ea en ec) (.slice (some ⟨g11, 0, none⟩) kf c11) ((w13.setCell ⟨g11, m * 3 + 1, none⟩ (.int .i64 (mA : Nat))).setCell ⟨g11, m * 3 + 2, none⟩ (.int .i64 (sB : Nat))).drew (.slice ea en ec) (.slice (some ⟨g11, 0, none⟩) kf c11)) := hid ⟨((K7x.out.trans (Kept.drew _ _))).mono fun b _ e => .inr (.inr (.inr (by rw [e]; rfl))), fun b hb => .inl hb, fun b hb => .inl hb⟩
        generalize hw14 : ((w13.setCell ⟨g11, m * 3 + 1, none⟩ (.int .i64 (mA : Nat))).setCell ⟨g11, m * 3 + 2, none⟩ (.int .i64 (sB : Nat))).drew = w14 at *
        have L14 := L8'
        have S14 := hid (S13.out.trans S8'.out)
        have M14 := hid (HM.out.kept S14.out.1)
        have ST8 := Stable.from w14
        clear hw14 L7x K7x L8' S8'
        go_wp2_with fail
        refine region_start [0, 0, 2, 6, 14, 0, 32, 126, 255, 511, 1023] 64 (fun w' => Below w14.heap.size w14 w') (by kernel_rfl) ?_
        refine stage_heads [0, 1, 2, 3, 4, 5] (by kernel_rfl) (L := #[true, true, true, true, true, true, false, false, false, false, false]) (by kernel_rfl) (f' := 5) rfl (fun _ _ _ _ h => h) (fun w o h => ST8.alloc h o) (.inr (by first | exact Below.refl _ _ | exact (Below.refl _ _).drew)) ?_
        simp only [sF, sL]
        iterate 6 (first | (refine heads_load _ (by rfl) (fun w' hs => by have Y := L14.out.below hs; have b2 := Y.c2; go_simp; try with_reducible rfl) rfl ?_; simp only [Act.put, sA]) | (refine heads_pure _ (by rfl) (fun w' => by go_simp; try with_reducible rfl) ?_; simp only [Act.put, sA]))
        refine heads_nil ?_
        refine stage_op 6 (by kernel_rfl) (L := #[true, true, true, true, true, true, true, false, false, false, false]) (by kernel_rfl) ?_
        simp only [sL]
        go_wp2_with fail; refine (gcopy_any _ ml _ (M14.out.row.below ((Below.refl w14.heap.size w14).drew)) ((ArgE.kept M14.out (Kept.drew w14 _)).loose) HMLN.out).mono ?_; rintro e w15 ⟨cv, rfl, cl, hoc, hcm, hcd, hcb, hbc⟩; have B9 : Hid (Below w14.heap.size w14 w15) := hid (((Below.refl w14.heap.size w14).drew).trans hbc); have OC := hid hoc; have CM := hid hcm; have L15 := hid (L14.out.below B9.out); have DC : Hid (Datas w15 (Own3 db mb tb) cl) := hid (hcd.mono fun p _ b _ hb => L14.out.disk.lt3 b hb); have H32 : Hid ((entRows el1).length + (entRows cl).length <= 4294967296) := hid (by rw [entRows_length, entRows_length, L14.out.lenE, show cl.length = ml.length by rw [<- List.length_map (f := fun x : EntS × Value => x.1), hcm, List.length_map]]; have h1 : L2.es.length = L.es.length := (by rw [HL2.out.2.1]); have := HES.out; simp only; omega); obtain ⟨ca, cn, cc, rfl⟩ := ownl_slice hoc; clear hoc hcm hcd hcb hbc; go_wp2_with fail
        refine step_post (fun _ => B9.out) ?_
        refine stage_op 7 (by kernel_rfl) (L := #[true, true, true, true, true, true, true, true, false, false, false]) (by kernel_rfl) ?_
        simp only [sL]
        go_wp2_with (at_builtin; refine wpList_append_ownl entry3 _ _ rfl (.slice ea en ec) (.slice ca cn cc) (entRows el1) (entRows cl) rfl rfl L15.out.er OC.out.srow (entRows_each cl) DC.out.oneCell (entRows_no8 DC.out) entry8 H32.out rfl ?_; intro v10 w16 ho10 hg10 ha10; obtain ⟨a10, n10, c10, rfl⟩ := ownl_slice ho10; have G10 := hid (L15.out.grownE (el' := el1 ++ cl) hg10 (by rw [entRows_app]; exact ho10) ha10 ((L15.out.dat.keptN (Kept.of_grown hg10) (noB_own L15.out.er)).app (DC.out.keptN (Kept.of_grown hg10) (noB_own L15.out.er)))); have A10 := hid ha10; have e2 := (L15.out.grown2 hg10).1; have e3 := (L15.out.grown2 hg10).2; clear ho10 hg10 ha10)
        refine step_post nofun ?_
        refine stage_heads [8, 9] (by kernel_rfl) (L := #[true, true, true, true, true, true, true, true, true, true, false]) (by kernel_rfl) (f' := 1) rfl (fun _ _ _ _ h => h) (fun w o h => ST8.alloc h o) (.inl (by kernel_rfl)) ?_
        simp only [sF, sL]
        iterate 2 (refine heads_pure _ (by rfl) (fun w' => by go_simp; try with_reducible rfl) ?_; simp only [Act.put, sA])
        refine heads_nil ?_
        refine stage_op 10 (by kernel_rfl) (L := #[true, true, true, true, true, true, true, true, true, true, true]) (by kernel_rfl) ?_
        simp only [sL]
        go_wp2_with fail
        refine step_post nofun ?_
        refine stage_done (by kernel_rfl) ?_
        go_wp2_with fail
        go_ret
        rw [HR.out, HNEW.out, if_neg fun q => q HK1.out, if_neg fun q => q HK0.out]
        have hfin := G10.out.1
        have eL : (⟨L2.b, (el1 ++ cl).map (·.1), L2.fs.dropLast ++ [⟨ff.f, mA, sB⟩], L2.safe⟩ : WalS) = ⟨L.b, L.es ++ ml.map (·.1), L.fs ++ [⟨L.last + 1, (ml.map (·.1)).length, (segW (L.last + 1) (ml.map (·.1))).length⟩], L1.safe⟩ := by
          have h1 : el1.map (·.1) = L2.es := L14.out.es
          have h2 : (ml.map (·.1)).length = mA := by rw [List.length_map, HN.out, <- HMA.out, HFF.out]; simp
          have h3 : (segW (L.last + 1) (ml.map (·.1))).length = sB := by rw [HSN.out, <- HSB.out, HFF.out]; simp
          have h4 : ff.f = L.last + 1 := by rw [HFF.out]
          rw [List.map_append, h1, CM.out, HL2.out.1, HL2.out.2.1, HL2.out.2.2.1, HL2.out.2.2.2, List.dropLast_concat, h2, h3, h4]
        have hL : LogAt (w16.setCell ⟨lb, 2, none⟩ (.slice a10 n10 c10)) lb db mb tb (.slice a10 n10 c10) (.slice (some ⟨g11, 0, none⟩) kf c11) (el1 ++ cl) D10 ⟨L.b, L.es ++ ml.map (·.1), L.fs ++ [⟨L.last + 1, (ml.map (·.1)).length, (segW (L.last + 1) (ml.map (·.1))).length⟩], L1.safe⟩ := by
          rw [<- eL]
          exact hfin
        have sE : LStep lb db mb tb w15 (.slice ea en ec) (.slice (some ⟨g11, 0, none⟩) kf c11) (w16.setCell ⟨lb, 2, none⟩ (.slice a10 n10 c10)) (.slice a10 n10 c10) (.slice (some ⟨g11, 0, none⟩) kf c11) := ⟨G10.out.2, own_ats A10.out, fun b hb => .inl hb⟩
        have sF := S14.out.trans ((LStep.below B9.out).trans sE)
        first
          | exact ⟨rfl, _, _, _, hL, sF.1, sF.2.1, sF.2.2⟩
          | (have sG := sF.trans (LStep.below ((Below.refl (w16.setCell ⟨lb, 2, none⟩ (.slice a10 n10 c10)).heap.size (w16.setCell ⟨lb, 2, none⟩ (.slice a10 n10 c10))).drew)); exact ⟨rfl, _, _, _, hL.below ((Below.refl _ _).drew), sG.1, sG.2.1, sG.2.2⟩)
      . have hkb : ((k10 : Int) != 0) = true := by simp; omega
        have HK0 := hid hk0
        clear hk0
        go_wp2_with fail
        go_ret
        rw [HR.out, HNEW.out, if_neg fun q => q HK1.out, if_pos HK0.out]
        exact ⟨rfl, _, _, _, L10.out, S10.out.1, S10.out.2.1, S10.out.2.2⟩
    . have hkb : ((k1 : Int) != 0) = true := by simp; omega
      have HK1 := hid hk1
      clear hk1
      go_wp2_with fail
      go_ret
      rw [HR.out, HNEW.out, if_pos HK1.out]
      exact ⟨rfl, _, _, _, L6.out, S6.out.1, S6.out.2.1, S6.out.2.2⟩
end Go.Proofs.YtjdglpcnkiioeaaGreat
namespace Go.Proofs.YtjdglpcnkiioeaaGreat
open Go.RowKit Go.Maps Go.Proofs.Own Go.Shelf

theorem lineW_ge (i : Nat) (e : EntS) : 8 <= (lineW i e).length := by unfold lineW; rw [length_frP]; omega
theorem linesW_ge : ∀ (es : List EntS) (i : Nat), 8 * es.length <= (linesW i es).length
  | [], _ => Nat.le_refl _
  | e :: es, i => by
    show _ <= (lineW i e ++ linesW (i + 1) es).length
    rw [List.length_append, List.length_cons]
    have := lineW_ge i e
    have := linesW_ge es (i + 1)
    omega
theorem lineW_le {i : Nat} {e : EntS} (hi : (i : Int) < 18446744073709551616) (ht : e.t < 18446744073709551616) (hk : e.k < 18446744073709551616) (hd : e.d.length <= 5000) : (lineW i e).length <= 5060 := by
  have h1 : (numsW [i, e.t.toNat, e.k.toNat]).length <= 27 := numsW_len [i, e.t.toNat, e.k.toNat] (by
    intro x hx
    simp only [List.mem_cons, List.not_mem_nil, or_false] at hx
    rcases hx with rfl | rfl | rfl <;> omega)
  have h2 : (numW e.d.length).length <= 9 := numW_len (by omega)
  unfold lineW lineB
  rw [length_frP, List.length_append, List.length_append]
  omega
theorem linesW_le5 (es : List EntS) : ∀ (i : Nat), (∀ e ∈ es, e.t < 18446744073709551616 /\ e.k < 18446744073709551616 /\ e.d.length <= 5000) -> (i : Int) + es.length < 18446744073709551616 -> (linesW i es).length <= 5060 * es.length := by
  induction es with
  | nil =>
    intro i _ _
    simp [linesW]
  | cons e es ih =>
    intro i h hi
    show (lineW i e ++ linesW (i + 1) es).length <= _
    rw [List.length_append, List.length_cons]
    rw [List.length_cons] at hi
    obtain ⟨h1, h2, h3⟩ := h e (List.mem_cons_self ..)
    have := lineW_le (i := i) (by omega) h1 h2 h3
    have := ih (i + 1) (fun e he => h e (List.mem_cons_of_mem _ he)) (by omega)
    omega
theorem segW_ge (f : Nat) (es : List EntS) : 8 + 8 * es.length <= (segW f es).length := by
  unfold segW headW
  rw [List.length_append, length_frP]
  have := linesW_ge es f
  omega
theorem total_filter (p : FileS -> Bool) : ∀ L : List FileS, total (L.filter p) <= total L
  | [] => Nat.le_refl _
  | f :: L => by
    rw [List.filter_cons, total_cons]
    have := total_filter p L
    split
    . rw [total_cons]; omega
    . omega
theorem es_total : ∀ P : List Pc, 8 * (esOf P).length <= total (P.map Pc.file)
  | [] => Nat.le_refl _
  | p :: P => by
    rw [esOf_cons, List.length_append, List.map_cons, total_cons]
    have h1 : p.file.all.length = (segW p.f p.es).length := rfl
    have := segW_ge p.f p.es
    have := es_total P
    omega
theorem many_of : ∀ P : List Pc, manyW (P.map Pc.wf) = (esOf P).length
  | [] => rfl
  | p :: P => by
    rw [List.map_cons, show p.wf :: P.map Pc.wf = [p.wf] ++ P.map Pc.wf from rfl, manyW_app, manyW_one, many_of P, esOf_cons, List.length_append]
    rfl
theorem WInv.lok {D : DiskS} {L : WalS} {P : List Pc} (h : WInv D L P) (hg : DGood D) : LOk L /\ L.es.length <= 131072 := by
  have ht : total (P.map Pc.file) <= 1048576 := by
    rw [<- h.fil]
    exact Nat.le_trans (total_filter _ _) hg.tot
  have he := es_total P
  have hes : L.es.length = (esOf P).length := by rw [h.es]
  refine ⟨⟨fun f hf => ?_, ?_, by omega, ?_, h.safe, fun f hf => ?_⟩, by omega⟩
  . rw [h.fs] at hf
    obtain ⟨p, hp, rfl⟩ := List.mem_map.1 hf
    exact (pcOk_of h hp).in60
  . rw [h.fs, many_of, hes]
    exact Nat.le_refl _
  . have := h.lo.1
    unfold H59 at this
    omega
  . rw [h.fs] at hf
    obtain ⟨p, hp, rfl⟩ := List.mem_map.1 hf
    have := all_total (L := P.map Pc.file) (List.mem_map_of_mem hp)
    show p.w.length <= _
    have h1 : p.file.all.length = p.w.length := rfl
    omega
theorem WInv.size {D : DiskS} {L : WalS} {P : List Pc} (h : WInv D L P) {f : WF} (hf : f ∈ L.fs) : f.s ≠ 0 := by
  rw [h.fs] at hf
  obtain ⟨p, hp, rfl⟩ := List.mem_map.1 hf
  show (segW p.f p.es).length ≠ 0
  have := segW_ge p.f p.es
  omega
theorem WInv.empty {D : DiskS} {L : WalS} {P : List Pc} (h : WInv D L P) (hs : L.safe ≠ L.es.length) : L.fs ≠ [] := fun e => by
  rw [h.fs] at e
  have hP : P = [] := List.map_eq_nil_iff.1 e
  have he := h.es
  have := h.safe
  rw [hP] at he
  rw [he] at hs this
  exact hs (Nat.le_zero.1 this)
structure Few (ml : EntR) : Prop where
  many : ml.length <= 100
  each : ∀ p ∈ ml, p.1.t < 18446744073709551616 /\ p.1.k < 18446744073709551616 /\ p.1.d.length <= 5000

set_option maxHeartbeats 1000000 in
theorem wappend_any {lb db mb tb : Nat} {ev fv mv : Value} {el ml : EntR} {D : DiskS} {L : WalS} {P : List Pc} {w : World} (h : LogAt w lb db mb tb ev fv el D L) (hi : WInv D L P) (hg : DGood D) (hst : D.steps + 1 <= 1000000000) (hm : ArgE w (LOwn lb db mb tb ev fv) mv ml) (hf : Few ml) :
    Calls Tryz.prog 57 #[.pointer (some ⟨lb, 0, none⟩), mv] w (LogPost lb db mb tb ev fv (appendW D L (ml.map (·.1))) w) := by
  obtain ⟨hok, hes⟩ := hi.lok hg
  have hl : L.last <= H59 := hi.hi
  have hfs := hi.few hg
  have hmany := hf.many
  have hlen : (linesW (L.last + 1) (ml.map (·.1))).length <= 2000000 := by
    refine Nat.le_trans (linesW_le5 _ _ (fun e he => ?_) ?_) ?_
    . obtain ⟨p, hp, rfl⟩ := List.mem_map.1 he
      exact hf.each p hp
    . rw [List.length_map]
      unfold H59 at hl
      omega
    . rw [List.length_map]; omega
  by_cases hc : ¬ (∀ e ∈ ml.map (·.1), e.ok) \/ H59 < L.last + ml.length \/ ml = []
  . exact wappend_no h hm hl (by omega) (by omega) hc
  . have h1 : ∀ e ∈ ml.map (·.1), e.ok := Classical.not_not.1 fun q => hc (.inl q)
    have h2 : ¬ H59 < L.last + ml.length := fun q => hc (.inr (.inl q))
    have h3 : ml ≠ [] := fun q => hc (.inr (.inr q))
    by_cases h4 : ∃ f, L.fs.getLast? = some f /\ f.s < 1024
    . obtain ⟨f, hf1, hf2⟩ := h4
      exact wappend_add h hm hl (by omega) (by omega) hg hok (by omega) (by omega) hf1 (hi.size (List.mem_of_getLast? hf1)) hf2 h1 h2 h3
    . exact wappend_new h hm hl hlen (by omega) hg hst hok (by omega) (by omega) hi.empty (fun f hf => Nat.not_lt.1 fun q => h4 ⟨f, hf, q⟩) h1 h2 h3

section
variable {P : Program} {t e : TypeId} {sz : Nat} (ht : P.underlying t = some (.slice e)) (hz : (P.info? e).map (·.size) = some sz)
include ht hz
theorem SRow.cutlK (q : IntKind) {w : World} {v : Value} {rs : List (List Value)} (h : SRow w sz v rs) (lo : Nat) (h1 : lo <= rs.length) :
    ∃ v', SRow w sz v' (rs.drop lo) /\ v'.ownBlock = v.ownBlock /\ ∀ w', (Instr.slice t v (Option.some (Value.int q lo)) none none).run P w' = .ok v' w' := by
  obtain ⟨a, c, rfl, hl⟩ := h.shape
  obtain ⟨i, hi', hs⟩ := Option.map_eq_some_iff.1 hz
  have hel : P.elem t = e := by simp [Program.elem, ht]
  have hh := h.sliced lo rs.length c h1 (Nat.le_refl _) (by omega)
  rw [List.take_length] at hh
  refine ⟨_, hh, own_slicedN _ _ _ _ _ _ _, fun w' => ?_⟩
  rw [run_slice_l w' t a rs.length c (by rw [hel]; exact ht) q lo (by omega) (by omega), hel]
  simp [sizeOf, typeInfo, hi', hs, Result.andThen, go_sem]
theorem SRow.cutlhK (q r : IntKind) {w : World} {v : Value} {rs : List (List Value)} (h : SRow w sz v rs) (lo hi : Nat) (h1 : lo <= hi) (h2 : hi <= rs.length) :
    ∃ v', SRow w sz v' ((rs.take hi).drop lo) /\ v'.ownBlock = v.ownBlock /\ ∀ w', (Instr.slice t v (Option.some (Value.int q lo)) (Option.some (Value.int r hi)) none).run P w' = .ok v' w' := by
  obtain ⟨a, c, rfl, hl⟩ := h.shape
  obtain ⟨i, hi', hs⟩ := Option.map_eq_some_iff.1 hz
  have hel : P.elem t = e := by simp [Program.elem, ht]
  refine ⟨_, h.sliced lo hi c h1 h2 (by omega), own_slicedN _ _ _ _ _ _ _, fun w' => ?_⟩
  rw [run_slice_lh w' t a rs.length c (by rw [hel]; exact ht) q r lo hi (by omega) (by omega) (by omega), hel]
  simp [sizeOf, typeInfo, hi', hs, Result.andThen, go_sem]
end
end Go.Proofs.YtjdglpcnkiioeaaGreat
namespace Go.Proofs.YtjdglpcnkiioeaaGreat
open Go.Lib (hid)
open Go.RowKit Go.Maps Go.Proofs.Own Go.Shelf

theorem EC.box (w : World) : EC (w.alloc (.cells #[.int .u64 0, .int .i64 0, .slice none 0 0] 38)) w.heap.size 0 0 (.slice none 0 0) := ⟨by go_cell, by go_cell, by go_cell, by simp, by simp, by simp⟩
set_option maxHeartbeats 4000000 in
set_option maxRecDepth 20000 in
theorem wat_no {lb db mb tb : Nat} {ev fv : Value} {el : EntR} {D : DiskS} {L : WalS} {w : World} (h : LogAt w lb db mb tb ev fv el D L) (hl : L.last <= H59) (index : Nat) (hc : index <= L.b \/ L.last < index) :
    Calls Tryz.prog 13 #[.pointer (some ⟨lb, 0, none⟩), .int .u64 index] w fun e w' => e = .returned (.tuple #[.agg #[.int .u64 0, .int .i64 0, .slice none 0 0], .bool false]) /\ Below w.heap.size w w' := by
  have HB := hid (show (L.last : Int) < 18446744073709551616 by unfold H59 at hl; omega)
  have HH := hid h
  obtain ⟨ix, hix⟩ : ∃ ix : Int, (index : Int) = ix := ⟨_, rfl⟩
  obtain ⟨bz, hbz⟩ : ∃ bz : Int, (L.b : Int) = bz := ⟨_, rfl⟩
  obtain ⟨lz, hlz⟩ : ∃ lz : Int, (L.last : Int) = lz := ⟨_, rfl⟩
  have HLZ := hid hlz
  have HBZ := hid hbz
  rw [hix]
  have hlast : L.last = L.b + L.es.length := rfl
  clear h hl
  by_cases ha : index <= L.b
  . have haz : decide (ix <= bz) = true := decide_eq_true (by omega)
    clear hc ha hix hbz hlz hlast
    go_enter Tryz.func13, Tryz.ntmps13
    go_wp2_with fail
    generalize hW1 : World.alloc w _ = W1
    have B1 : Hid (Below w.heap.size w W1) := hid (by subst hW1; exact (Below.refl _ _).alloc (Nat.le_refl _) _)
    have X1 : Hid (EC W1 w.heap.size 0 0 (.slice none 0 0)) := hid (by subst hW1; exact EC.box w)
    have H1 := hid (HH.out.below B1.out)
    have c1 := H1.out.c1
    rw [HBZ.out] at c1
    clear hW1
    refine (wnone H1.out).mono ?_
    rintro e w2 ⟨rfl, rfl⟩
    obtain ⟨x0, x1, x2, f0, f1, f2⟩ := X1.out
    go_wp2_with fail
    have E3 := X1.out.set3
    have K3 := EC.kept3 W1 w.heap.size (.int .u64 0) (.int .i64 0) (.slice none 0 0)
    obtain ⟨r0, r1, r2, _, _, _⟩ := E3
    refine bodyPost_ret (v := .tuple #[.agg #[.int .u64 0, .int .i64 0, .slice none 0 0], .bool false]) (by simp [results, Tryz.results13, go_sem, r0, r1, r2]) rfl ?_
    exact ⟨rfl, B1.out.trans (K3.below B1.out.size fun k e => by omega)⟩
  . have haz : decide (ix <= bz) = false := decide_eq_false (by omega)
    have hbx : decide (lz < ix) = true := decide_eq_true (by omega)
    clear hc ha hix hbz hlz hlast
    go_enter Tryz.func13, Tryz.ntmps13
    go_wp2_with fail
    generalize hW1 : World.alloc w _ = W1
    have B1 : Hid (Below w.heap.size w W1) := hid (by subst hW1; exact (Below.refl _ _).alloc (Nat.le_refl _) _)
    have X1 : Hid (EC W1 w.heap.size 0 0 (.slice none 0 0)) := hid (by subst hW1; exact EC.box w)
    have H1 := hid (HH.out.below B1.out)
    have c1 := H1.out.c1
    rw [HBZ.out] at c1
    clear hW1
    refine (wnone H1.out).mono ?_
    rintro e w2 ⟨rfl, rfl⟩
    go_wp2_with fail
    refine (wlast H1.out HB.out).mono ?_
    rintro e w2 ⟨rfl, hb2⟩
    rw [HLZ.out]
    have B2 : Hid (Below w.heap.size w w2) := hid (B1.out.trans (hb2.mono B1.out.size))
    have X2 := hid (X1.out.below hb2)
    obtain ⟨x0, x1, x2, f0, f1, f2⟩ := X2.out
    clear hb2 c1
    go_wp2_with fail
    have E3 := X2.out.set3
    have K3 := EC.kept3 w2 w.heap.size (.int .u64 0) (.int .i64 0) (.slice none 0 0)
    obtain ⟨r0, r1, r2, _, _, _⟩ := E3
    refine bodyPost_ret (v := .tuple #[.agg #[.int .u64 0, .int .i64 0, .slice none 0 0], .bool false]) (by simp [results, Tryz.results13, go_sem, r0, r1, r2]) rfl ?_
    exact ⟨rfl, B2.out.trans (K3.below B2.out.size fun k e => by omega)⟩
theorem one_ent {l : EntR} {x : EntS} {xv : Value} (h : l.map (·.1) = [(x, xv)].map (·.1)) : ∃ yv, l = [(x, yv)] := by
  match l, h with
  | [(y, yv)], h =>
    simp only [List.map_cons, List.map_nil, List.cons.injEq, and_true] at h
    subst h
    exact ⟨yv, rfl⟩
set_option maxHeartbeats 4000000 in
set_option maxRecDepth 20000 in
theorem wat_yes {lb db mb tb : Nat} {ev fv : Value} {el : EntR} {D : DiskS} {L : WalS} {w : World} (h : LogAt w lb db mb tb ev fv el D L) (hl : L.last <= H59) (hn : L.es.length <= 2147483648) (index : Nat) (hb : L.b < index) {x : EntS} (hx : L.es[index - L.b - 1]? = some x) :
    Calls Tryz.prog 13 #[.pointer (some ⟨lb, 0, none⟩), .int .u64 index] w fun e w' => ∃ dv, e = .returned (.tuple #[.agg #[.int .u64 x.t, .int .i64 x.k, dv], .bool true]) /\ Bytes w' dv x.d /\ (∀ b, dv.ownBlock = some b -> w.heap.size <= b) /\ Below w.heap.size w w' := by
  have HB := hid (show (L.last : Int) < 18446744073709551616 by unfold H59 at hl; omega)
  obtain ⟨k, hk⟩ : ∃ k, index - L.b - 1 = k := ⟨_, rfl⟩
  rw [hk] at hx
  have hkl := (List.getElem?_eq_some_iff.1 hx).1
  have hke : k < el.length := by rw [h.lenE]; exact hkl
  obtain ⟨p, hp⟩ : ∃ p, el[k] = p := ⟨_, rfl⟩
  have hpx : p.1 = x := by
    have h1 := hx
    rw [<- h.es, List.getElem?_map, List.getElem?_eq_getElem hke, hp] at h1
    exact Option.some.inj h1
  obtain ⟨px, xv⟩ := p
  simp only at hpx
  subst hpx
  have hlen : k + 1 <= (entRows el).length := by rw [entRows_length]; omega
  obtain ⟨v1, hs1, ho1, hcut1⟩ := SRow.cutlhK (P := Tryz.prog) (t := 23) Tryz.underlying23 (by kernel_rfl) .u64 .u64 h.er.srow k (k + 1) (by omega) hlen
  have hr1 : ((entRows el).take (k + 1)).drop k = entRows [(px, xv)] := by
    unfold entRows
    rw [<- List.map_take, <- List.map_drop]
    congr 1
    rw [List.take_succ_eq_append_getElem hke, List.drop_left' (by rw [List.length_take]; omega), hp]
  rw [hr1] at hs1
  have HS1 := hid hs1
  have HD1 : Hid (Datas w (fun _ => False) [(px, xv)]) := hid ((h.dat.sub fun q hq => by obtain rfl := List.mem_singleton.1 hq; rw [<- hp]; exact List.getElem_mem hke).mono fun _ _ _ _ hf => hf.elim)
  obtain ⟨v1a, v1n, v1c, rfl⟩ : ∃ a n c, v1 = Value.slice a n c := by obtain ⟨a, c, e, _⟩ := hs1.shape; exact ⟨a, _, c, e⟩
  obtain ⟨ix, hix⟩ : ∃ ix : Int, (index : Int) = ix := ⟨_, rfl⟩
  obtain ⟨bz, hbz⟩ : ∃ bz : Int, (L.b : Int) = bz := ⟨_, rfl⟩
  obtain ⟨lz, hlz⟩ : ∃ lz : Int, (L.last : Int) = lz := ⟨_, rfl⟩
  have HLZ := hid hlz
  have HBZ := hid hbz
  have HH := hid h
  have hlast : L.last = L.b + L.es.length := rfl
  rw [hix]
  have haz : decide (ix <= bz) = false := decide_eq_false (by omega)
  have hbx : decide (lz < ix) = false := decide_eq_false (by omega)
  obtain ⟨k1, hk1⟩ : ∃ k1 : Nat, k + 1 = k1 := ⟨_, rfl⟩
  rw [hk1] at hcut1
  have e0 : ix - bz = (k1 : Int) := by omega
  have e1 : (k1 : Int) - 1 = (k : Int) := by omega
  have hk2 : (k1 : Int) <= 2147483648 := by omega
  have w1 : IntKind.u64.wrap (k1 : Int) = (k1 : Int) := by rw [wrap_u64]; omega
  have w2 : IntKind.u64.wrap (k : Int) = (k : Int) := by rw [wrap_u64]; omega
  have E0 := hid e0
  have E1 := hid e1
  have W1' := hid w1
  have W2' := hid w2
  obtain ⟨ea, ec, rfl, _⟩ := h.shapeE
  obtain ⟨en, hen⟩ : ∃ en, L.es.length = en := ⟨_, rfl⟩
  rw [hen] at HH hcut1
  have CUT := hid hcut1
  clear h hl hn hb hx hk hkl hke hp hlen hs1 ho1 hr1 hix hbz hlz hlast hk1 e0 e1 hk2 w1 w2 hen hcut1
  go_enter Tryz.func13, Tryz.ntmps13
  go_wp2_with fail
  generalize hW1 : World.alloc w _ = W1
  have B1 : Hid (Below w.heap.size w W1) := hid (by subst hW1; exact (Below.refl _ _).alloc (Nat.le_refl _) _)
  have X1 : Hid (EC W1 w.heap.size 0 0 (.slice none 0 0)) := hid (by subst hW1; exact EC.box w)
  have H1 := hid (HH.out.below B1.out)
  have c1 := H1.out.c1
  rw [HBZ.out] at c1
  clear hW1
  refine (wnone H1.out).mono ?_
  rintro e w2 ⟨rfl, rfl⟩
  go_wp2_with fail
  refine (wlast H1.out HB.out).mono ?_
  rintro e w3 ⟨rfl, hb3⟩
  rw [HLZ.out]
  have B3 : Hid (Below w.heap.size w w3) := hid (B1.out.trans (hb3.mono B1.out.size))
  have L3 := hid (H1.out.below hb3)
  have X3 := hid (X1.out.below hb3)
  have HS3 := hid (HS1.out.below B3.out)
  have HD3 : Hid (Datas w3 (fun _ => False) [(px, xv)]) := hid (HD1.out.kept (Kept.of_below B3.out (S := fun _ => False) fun k h1 h2 => by omega) fun _ h => h)
  clear hb3 c1
  have ST := Stable.from w3
  have e0 := E0.out
  have e1 := E1.out
  have w1 := W1'.out
  have w2 := W2'.out
  have hcut1 := CUT.out
  go_wp2_with fail
  refine region_start [0, 1, 3, 7, 0, 0, 32, 96, 224, 496, 1008, 0, 0, 4096, 12288, 28672, 63488, 131071, 262143, 524287, 1048575, 2097151, 4194303] 0 (fun w' => Below w3.heap.size w3 w') (by kernel_rfl) ?_
  refine stage_heads [0, 1, 2, 3, 4, 5, 6, 7, 8, 9, 10, 11, 12, 13, 14, 15, 16, 17] (by kernel_rfl) (L := #[true, true, true, true, true, true, true, true, true, true, true, true, true, true, true, true, true, true, false, false, false, false, false]) (by kernel_rfl) (f' := 5) rfl (fun _ _ _ _ h => h) (fun w o h => ST.alloc h o) (.inr (by first | exact Below.refl _ _ | exact (Below.refl _ _).drew)) ?_
  simp only [sF, sL]
  iterate 18 (first | (refine heads_load _ (by rfl) (fun w' hs => by have Y := L3.out.below hs; have b2 := Y.c2; have b1 := Y.c1; rw [HBZ.out] at b1; go_simp; try with_reducible rfl) rfl ?_; simp only [Act.put, sA]) | (refine heads_pure _ (by rfl) (fun w' => by go_simp; try with_reducible rfl) ?_; simp only [Act.put, sA]))
  refine heads_nil ?_
  refine stage_op 18 (by kernel_rfl) (L := #[true, true, true, true, true, true, true, true, true, true, true, true, true, true, true, true, true, true, true, false, false, false, false]) (by kernel_rfl) ?_
  simp only [sL]
  go_wp2_with fail; refine (gcopy_any _ [(px, xv)] w3.drew (HS3.out.below ((Below.refl w3.heap.size w3).drew)) (HD3.out.kept (Kept.of_below ((Below.refl w3.heap.size w3).drew) (S := fun _ => False) fun k h1 h2 => by omega) fun _ h => h) (by simp)).mono ?_; rintro e w4 ⟨v4, rfl, l4, ho4, hm4, hd4, hn4, hb4⟩; obtain ⟨yv, rfl⟩ := one_ent hm4; have B4 : Hid (Below w3.heap.size w3 w4) := hid (((Below.refl w3.heap.size w3).drew).trans hb4); obtain ⟨g4, c4, he4, hc4, hg4⟩ := OwnL.some ho4 (by simp [entRows]); rw [show (entRows [(px, yv)]).length = 1 from rfl] at he4 hc4; subst he4; have hq : ∀ j u, (entRow (px, yv))[j]? = some u -> w4.cell? ⟨g4, j, none⟩ = some u := (fun j u hu => by have h := ho4.flat j u (by simpa [entRows] using hu); rwa [Addr.add_lit, Nat.zero_add] at h); have q0 := hq 0 _ rfl; have q1 := hq 1 _ rfl; have q2 := hq 2 _ rfl; have HB4 : Hid (Bytes w4 yv px.d) := hid (hd4 _ (List.mem_singleton_self _)).1; have HN4 : Hid (∀ b, yv.ownBlock = some b -> w3.heap.size <= b) := hid (fun b hb => Nat.not_lt.1 ((hd4 _ (List.mem_singleton_self _)).2.2 b hb)); obtain ⟨ya, yc, rfl, _⟩ := HB4.out.shape; have X4 := hid (X3.out.below B4.out); obtain ⟨x0, x1, x2, f0, f1, f2⟩ := X4.out; clear ho4 hm4 hd4 hn4 hb4 hq e0 e1 w1 w2 hcut1 haz hbx; go_wp2_with fail
  refine step_post nofun ?_
  refine stage_op 19 (by kernel_rfl) (L := #[true, true, true, true, true, true, true, true, true, true, true, true, true, true, true, true, true, true, true, true, false, false, false]) (by kernel_rfl) ?_
  simp only [sL]
  go_wp2_with fail
  refine step_post nofun ?_
  refine stage_op 20 (by kernel_rfl) (L := #[true, true, true, true, true, true, true, true, true, true, true, true, true, true, true, true, true, true, true, true, true, false, false]) (by kernel_rfl) ?_
  simp only [sL]
  go_wp2_with fail
  refine step_post nofun ?_
  refine stage_op 21 (by kernel_rfl) (L := #[true, true, true, true, true, true, true, true, true, true, true, true, true, true, true, true, true, true, true, true, true, true, false]) (by kernel_rfl) ?_
  simp only [sL]
  go_wp2_with fail
  refine step_post nofun ?_
  refine stage_heads [22] (by kernel_rfl) (L := #[true, true, true, true, true, true, true, true, true, true, true, true, true, true, true, true, true, true, true, true, true, true, true]) (by kernel_rfl) (f' := 0) rfl (fun _ _ _ _ h => h) (fun w o h => ST.alloc h o) (.inl (by kernel_rfl)) ?_
  simp only [sF, sL]
  iterate 1 (refine heads_pure _ (by rfl) (fun w' => by go_simp; try with_reducible rfl) ?_; simp only [Act.put, sA])
  refine heads_nil ?_
  refine stage_done (by kernel_rfl) ?_
  go_wp2_with fail
  have hlt : w.heap.size < w3.heap.size := X3.out.lt
  have E3 := (X4.out.set px.t px.k).put (.slice ya px.d.length yc)
  have K3 := EC.kept3 w4 w.heap.size (.int .u64 px.t) (.int .i64 px.k) (.slice ya px.d.length yc)
  obtain ⟨r0, r1, r2, _, _, _⟩ := E3
  refine bodyPost_ret (v := .tuple #[.agg #[.int .u64 px.t, .int .i64 px.k, .slice ya px.d.length yc], .bool true]) (by simp [results, Tryz.results13, go_sem, r0, r1, r2]) rfl ?_
  have hB := HB4.out.kept K3 (fun b hb e => by have := HN4.out b hb; omega)
  have b4 := B3.out.trans (B4.out.mono B3.out.size)
  have bK := b4.trans (K3.below b4.size fun k e => by omega)
  have hN : ∀ b, (Value.slice ya px.d.length yc).ownBlock = some b -> w.heap.size <= b := fun b hb => by have := HN4.out b hb; omega
  first
    | exact ⟨_, rfl, hB, hN, bK⟩
    | exact ⟨_, rfl, hB.drew, hN, bK.drew⟩
end Go.Proofs.YtjdglpcnkiioeaaGreat
namespace Go.Proofs.YtjdglpcnkiioeaaGreat
open Go.RowKit Go.Maps Go.Proofs.Own Go.Shelf

structure CutI (D : DiskS) (L : WalS) : Prop where
  inv : ∃ P, WInv D L P
  up : D.down = false
  ris : Rising D.files
  good : DGood D
end Go.Proofs.YtjdglpcnkiioeaaGreat
