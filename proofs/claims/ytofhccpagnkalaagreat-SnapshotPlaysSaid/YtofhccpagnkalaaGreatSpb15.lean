/- Several texts in one: Rb, Rnd. What each proves stands ahead of it; together they serve splays_law_holds. No conditions but those stated. -/
import Derived.Lib.AppendStr
import Derived.Test.YtofhccpagnkalaaGreatSpb14
import Derived.Test.YtofhccpagnkalaaGreatSpb11
/- The document's Text, and its Body and Bytes of a snapshot; no conditions but the ranges. -/
namespace Go.Proofs.YtofhccpagnkalaaGreat
open Go.RowKit Go.Maps Go.Proofs.Own

theorem strCells_ints (s : ByteArray) : Go.Lib.strCells s = (ints (natsOf s)).map (.int .u8) := by
  unfold Go.Lib.strCells ints natsOf
  rw [List.map_map, List.map_map]
  rfl
theorem shape3 {w : World} {base : Nat} {e : TypeId} {k : IntKind} {v : Value} {zs : List Int} (h : Owns w base e k v zs) : ∃ a n c, v = .slice a n c := let ⟨a, c, h⟩ := h.shape; ⟨a, _, c, h⟩
theorem numsW_nil : numsW [] = [] := rfl
theorem two_lt {n k : Nat} (hn : (n : Int) < 18446744073709551616) (hk : (k : Int) < 18446744073709551616) : ∀ x ∈ [n, k], (x : Int) < 18446744073709551616 := by
  intro x hx
  simp only [List.mem_cons, List.not_mem_nil, or_false] at hx
  rcases hx with h | h
  · rw [h]; exact hn
  · rw [h]; exact hk
theorem ints_app (l m : List Nat) : ints l ++ ints m = ints (l ++ m) := by simp [ints]

set_option maxHeartbeats 1000000 in
set_option maxRecDepth 20000 in
theorem rtextw_any (s : ByteArray) (w : World) (hs : s.size ≤ 65536) :
    Calls Tryz.prog 150 #[.string s] w fun e w' => ∃ v, e = .returned v ∧ Owns w' w.heap.size 5 .u8 v (ints (numW s.size ++ natsOf s)) ∧ Below w.heap.size w w' := by
  have hs' : (s.size : Int) ≤ 65536 := by omega
  have HSZ := Lib.hid hs
  obtain ⟨i5, hi5, hz5, hy5, hw5⟩ : ∃ i, Tryz.prog.info? 5 = some i ∧ i.zero = some (.int .u8 0) ∧ i.size = 1 ∧ i.bytes = 1 := info_parts Tryz.info5
  have HI := Lib.hid (And.intro hi5 (And.intro hz5 (And.intro hy5 hw5)))
  clear hi5 hz5 hy5 hw5 hs
  go_enter Tryz.func150, Tryz.ntmps150
  go_wp2_with fail
  refine (rnumw_any s.size _ (by omega)).mono ?_
  rintro e w1 ⟨v1, rfl, ho1, hb1⟩
  have O1 := Lib.hid ho1
  have B1 := Lib.hid hb1
  have H9 : Hid ((ints (numW s.size)).length ≤ 9) := Lib.hid (by rw [length_ints]; exact numW_len (by omega))
  obtain ⟨p1, k1, rfl⟩ := ho1.shape
  clear ho1 hb1
  generalize hq : (ints (numW s.size)).length = q1 at *
  have HQ := Lib.hid hq
  clear hq
  go_wp2_with (at_builtin; go_loud (refine Go.Lib.wpList_append_own_string _ rfl _ _ 22 9 rfl w.heap.size 5 i5 Tryz.underlying22 Tryz.underlying9 HI.out.1 HI.out.2.1 HI.out.2.2.1 HI.out.2.2.2 _ _ _ rfl O1.out s rfl (by rw [HQ.out]; have := H9.out; have := HSZ.out; unfold maxLen; omega) (by rw [HQ.out]; have := H9.out; have := HSZ.out; omega) B1.out.size ?_; intro v2 w2 hown2 hgr2 hnil2; have O2 := Lib.hid hown2; have G2 := Lib.hid hgr2; clear hown2 hgr2 hnil2))
  go_ret
  refine ⟨v2, rfl, ?_, B1.out.trans ((Below.refl _ _).grown G2.out B1.out.size fun g hg => (Owns.lt O1.out g hg).1)⟩
  have h := O2.out
  rw [strCells_ints, ← List.map_append, ints_app] at h
  have hl : (ints (numW s.size)).length + s.size = (ints (numW s.size ++ natsOf s)).length := by rw [length_ints, length_ints, List.length_append, length_natsOf]
  rw [hl] at h
  exact h

set_option maxHeartbeats 4000000 in
set_option maxRecDepth 20000 in
theorem rbody_any (v : Value) (s : SnapS) (w : World) (h : SnapIs w v s) (hok : s.ok) :
    Calls Tryz.prog 137 #[v] w fun e w' => ∃ v', e = .returned v' ∧ Bytes w' v' (snapW s) ∧ Below w.heap.size w w' := by
  obtain ⟨mv, dv, rfl, hm, hd⟩ := h
  obtain ⟨a, c, rfl, _⟩ := hd.shape
  obtain ⟨am, cm, rfl, _⟩ := hm.shape
  obtain ⟨i, t, ms, d⟩ := s
  have HM := Lib.hid hm
  have HD := Lib.hid hd
  obtain ⟨n, hn⟩ : ∃ n : Nat, i = n := ⟨i.toNat, by have := hok.1; simp only at this; omega⟩
  obtain ⟨k, hk⟩ : ∃ n : Nat, t = n := ⟨t.toNat, by have := hok.2.2.1; simp only at this; omega⟩
  obtain ⟨_, hi2, _, ht2, hmo, hdl⟩ := hok
  simp only at hi2 ht2 hmo hdl
  have HI : Hid ((n : Int) < 18446744073709551616) := Lib.hid (by rw [← hn]; exact Int.lt_trans hi2 (by decide))
  have HT : Hid ((k : Int) < 18446744073709551616) := Lib.hid (by rw [← hk]; exact Int.lt_of_le_of_lt ht2 (by decide))
  have HMO := Lib.hid hmo
  have hml : ms.length ≤ 7 := hmo.2.1
  have hdl' : (d.length : Int) ≤ 32768 := by omega
  clear hm hd hi2 ht2 hmo
  subst hn hk
  have HIA : Hid (ints (numW n) ++ ints (numW k) = ints (numsW [n, k])) := Lib.hid (by rw [ints_app]; simp [numsW])
  have HNK : Hid ((ints (numW n)).length + (ints (numW k)).length ≤ 4294967296) := Lib.hid (by
    have h1 := numW_len HI.out
    have h2 := numW_len HT.out
    rw [length_ints, length_ints]; omega)
  have HSW : Hid (numsW [n, k] ++ numW ms.length ++ numsW (ms.map Int.toNat) ++ (numW d.length ++ d) = snapW ⟨n, k, ms, d⟩) := Lib.hid (by
    unfold snapW numsW
    simp)
  have HL2 : Hid ((numsW [n, k]).length ≤ 18) := Lib.hid (by have := numsW_len [n, k] (two_lt HI.out HT.out); simpa using this)
  have HLM : Hid (∀ j, (numsW ((ms.take j).map Int.toNat)).length ≤ 63) := Lib.hid (memsW_len HMO.out)
  have HLN : Hid ((numW ms.length).length ≤ 9) := Lib.hid (numW_len (by omega))
  go_enter Tryz.func137, Tryz.ntmps137
  go_wp2_with fail
  have SG1 := SBlk.box w n k (.slice am ms.length cm) (.slice a d.length c)
  have B1 : Hid (Below w.heap.size w (w.alloc (.cells #[.int .u64 n, .int .u64 k, .slice am ms.length cm, .slice a d.length c] 40))) := Lib.hid ((Below.refl _ _).alloc (Nat.le_refl _) _)
  generalize World.alloc w _ = w1 at *
  have S1 := Lib.hid SG1
  have ST := Stable.from w1
  have hlw := SG1.lt
  clear SG1
  refine region_start [0, 1, 3, 0, 8, 31, 63, 127] 4 (fun w' => Below w1.heap.size w1 w') (by kernel_rfl) ?_
  refine stage_heads [0, 1, 3, 4] (by kernel_rfl) (L := #[true, true, false, true, true, false, false, false]) (by kernel_rfl) (f' := 4) rfl (fun _ _ _ _ h => h) (fun w o h => ST.alloc h o) (.inr (by first | exact Below.refl _ _ | exact (Below.refl _ _).drew)) ?_
  simp only [List.flatMap_cons, List.flatMap_nil, List.drop_succ_cons, List.drop_zero, List.take_succ_cons, List.take_zero, List.cons_append, List.nil_append, List.append_nil]
  iterate 4 (first | (refine heads_load _ (by rfl) (fun w' hs => by have y0 := S1.out.below hs; obtain ⟨r0, r1, r2, r3, _, _, _, _⟩ := y0; go_simp; try with_reducible rfl) rfl ?_; simp only [Act.put, List.setIfInBounds_toArray, List.set_cons_zero, List.set_cons_succ]) | (refine heads_pure _ (by rfl) (fun w' => by go_simp; try with_reducible rfl) ?_; simp only [Act.put, List.setIfInBounds_toArray, List.set_cons_zero, List.set_cons_succ]))
  refine heads_nil ?_
  refine stage_op 2 (by kernel_rfl) (L := #[true, true, true, true, true, false, false, false]) (by kernel_rfl) ?_
  simp only [List.drop_succ_cons, List.drop_zero, List.take_succ_cons, List.take_zero]
  go_wp2_with fail; refine (rnumw_any n _ HI.out).mono ?_; rintro e u2 ⟨x2, rfl, ho2, hb2⟩; obtain ⟨p2, q2, k2, rfl⟩ := shape3 ho2; have O2 : Hid (Owns u2 w1.heap.size 5 .u8 (.slice p2 q2 k2) (ints (numW n))) := Lib.hid ho2; have I2 : Hid (Below w1.heap.size w1 u2) := Lib.hid (by first | exact hb2 | exact ((Below.refl _ _).drew).trans hb2); clear ho2 hb2; go_wp2_with fail
  refine step_post (fun _ => I2.out) ?_
  refine stage_op 5 (by kernel_rfl) (L := #[true, true, true, true, true, true, false, false]) (by kernel_rfl) ?_
  simp only [List.drop_succ_cons, List.drop_zero, List.take_succ_cons, List.take_zero]
  go_wp2_with fail; refine (rnumw_any k _ HT.out).mono ?_; rintro e u5 ⟨x5, rfl, ho5, hb5⟩; obtain ⟨p5, q5, k5, rfl⟩ := shape3 ho5; have R5 : Hid (Reads u5 .u8 (.slice p5 q5 k5) (ints (numW k))) := Lib.hid ho5.reads; have O5 : Hid (Owns u5 w1.heap.size 5 .u8 (.slice p2 q2 k2) (ints (numW n))) := Lib.hid (O2.out.below (by first | exact hb5 | exact ((Below.refl _ _).drew).trans hb5)); have I5 : Hid (Below w1.heap.size w1 u5) := Lib.hid (I2.out.trans (Below.mono (by first | exact hb5 | exact ((Below.refl _ _).drew).trans hb5) I2.out.size)); clear ho5 hb5; go_wp2_with fail
  refine step_post nofun ?_
  refine stage_op 6 (by kernel_rfl) (L := #[true, true, true, true, true, true, true, false]) (by kernel_rfl) ?_
  simp only [List.drop_succ_cons, List.drop_zero, List.take_succ_cons, List.take_zero]
  refine wpList_append_ints Tryz.u8s _ _ rfl w1.heap.size _ _ (ints (numW n)) (ints (numW k)) rfl rfl O5.out R5.out (by decide) HNK.out I5.out.size rfl ?_; intro v6 w6 hown6 hgr6 hat6 hnil6 hbel6; obtain ⟨p6, q6, k6, rfl⟩ := shape3 hown6; rw [HIA.out] at hown6; have HO6 : Hid (Owns w6 w1.heap.size 5 .u8 (.slice p6 q6 k6) (ints (numsW [n, k]))) := Lib.hid hown6; have B6 : Hid (Below w1.heap.size w1 w6) := Lib.hid (I5.out.trans hbel6); clear hown6 hgr6 hat6 hnil6 hbel6; go_wp2_with fail
  refine step_post nofun ?_
  refine stage_heads [7] (by kernel_rfl) (L := #[true, true, true, true, true, true, true, true]) (by kernel_rfl) (f' := 0) rfl (fun _ _ _ _ h => h) (fun w o h => ST.alloc h o) (.inl (by kernel_rfl)) ?_
  simp only [List.flatMap_cons, List.flatMap_nil, List.drop_succ_cons, List.drop_zero, List.take_succ_cons, List.take_zero, List.append_nil]
  iterate 1 (refine heads_pure _ (by rfl) (fun w' => by go_simp; try with_reducible rfl) ?_; simp only [Act.put, List.setIfInBounds_toArray, List.set_cons_zero, List.set_cons_succ])
  refine heads_nil ?_
  refine stage_done (by kernel_rfl) ?_
  have S6 := Lib.hid (S1.out.below B6.out)
  have r2 := S6.out.c2
  go_wp2_with fail
  refine (rnumw_any ms.length _ (by omega)).mono ?_
  rintro e w7 ⟨v7, rfl, ho7, hb7⟩
  obtain ⟨p7, q7, k7, rfl⟩ := shape3 ho7
  have R7 : Hid (Reads w7 .u8 (.slice p7 q7 k7) (ints (numW ms.length))) := Lib.hid ho7.reads
  have O7 := Lib.hid (HO6.out.below hb7)
  have B7 : Hid (Below w1.heap.size w1 w7) := Lib.hid (B6.out.trans (hb7.mono B6.out.size))
  clear ho7 hb7 r2
  go_wp2_with (at_builtin; go_loud (refine wpList_append_ints Tryz.u8s _ _ rfl w1.heap.size _ _ (ints (numsW [n, k])) (ints (numW ms.length)) rfl rfl O7.out R7.out (by decide) (by have := HL2.out; have := HLN.out; rw [length_ints, length_ints]; omega) B7.out.size rfl ?_; intro v8 w8 hown8 hgr8 hat8 hnil8 hbel8; obtain ⟨p8, q8, k8, rfl⟩ := shape3 hown8; rw [ints_app] at hown8; have O8 := Lib.hid hown8; have B8 : Hid (Below w1.heap.size w1 w8) := Lib.hid (B7.out.trans hbel8); clear hown8 hgr8 hat8 hnil8 hbel8))
  go_loopw [3, 4] (fun x y wr => ∃ (j : Nat) (v3 : Value), j ≤ ms.length ∧ x = v3 ∧ y = .int .i64 j ∧ Owns wr w1.heap.size 5 .u8 v3 (ints (numsW [n, k] ++ numW ms.length ++ numsW ((ms.take j).map Int.toNat))) ∧ Below w1.heap.size w1 wr) (fun _ y _ => ms.length - (intOf y).toNat)
  case atStart => exact ⟨0, _, Nat.zero_le _, rfl, rfl, by rw [List.take_zero, List.map_nil, numsW_nil, List.append_nil]; exact O8.out, B8.out⟩
  case round =>
    obtain ⟨j, v3, hj, rfl, rfl, ho3, hb3⟩ := hrel
    have O3 := Lib.hid ho3
    have B3 := Lib.hid hb3
    obtain ⟨p3, q3, k3, rfl⟩ := shape3 ho3
    clear ho3 hb3
    have SR := Lib.hid (S1.out.below B3.out)
    obtain ⟨_, _, r2, r3, _, _, _, _⟩ := SR.out
    by_cases hjk : j < ms.length
    · have BW : Hid (Below w.heap.size w wr) := Lib.hid (B1.out.trans (B3.out.mono B1.out.size))
      have HCX : Hid (∃ b o, am = some ⟨b, o, none⟩ ∧ wr.cell? ⟨b, o + j, none⟩ = some (.int .i64 ms[j])) := Lib.hid ((HM.out.below BW.out).cells.2.2 j hjk)
      obtain ⟨b, o, rfl, hcell⟩ := HCX.out
      clear HCX
      have hz0 : 0 ≤ ms[j] := by have := ok_nonneg HMO.out.2.2 j hjk; rwa [getDi hjk] at this
      have hz7 : ms[j] < 7 := by have := (HMO.out.2.2 j hjk).2; rwa [getDi hjk] at this
      have HTK : Hid (numsW ((ms.take (j + 1)).map Int.toNat) = numsW ((ms.take j).map Int.toNat) ++ numW ms[j].toNat) := Lib.hid (by
        rw [List.take_add_one, List.getElem?_eq_getElem hjk]
        unfold numsW
        simp only [Option.toList_some, List.map_append, List.flatMap_append, List.map_cons, List.map_nil, List.flatMap_cons, List.flatMap_nil, List.append_nil])
      obtain ⟨z, hz⟩ : ∃ z : Nat, ms[j] = z := ⟨ms[j].toNat, by omega⟩
      rw [hz] at hcell hz0 hz7 HTK
      clear hz
      rw [Int.toNat_natCast] at HTK
      have j0 : (0 : Int) ≤ (j : Int) := by omega
      have j1 : (j : Int) < (ms.length : Int) := by omega
      go_wp2_with fail
      refine (rnumw_any z _ (by omega)).mono ?_
      rintro e w4 ⟨v4, rfl, ho4, hb4⟩
      obtain ⟨p4, q4, k4, rfl⟩ := shape3 ho4
      have R4 : Hid (Reads w4 .u8 (.slice p4 q4 k4) (ints (numW z))) := Lib.hid ho4.reads
      have O4 := Lib.hid (O3.out.below hb4)
      have B4 : Hid (Below w1.heap.size w1 w4) := Lib.hid (B3.out.trans (hb4.mono B3.out.size))
      have HZ9 : Hid ((ints (numW z)).length ≤ 9) := Lib.hid (by rw [length_ints]; exact numW_len (by omega))
      clear ho4 hb4 r2 r3 hcell
      go_wp2_with (at_builtin; go_loud (refine wpList_append_ints Tryz.u8s _ _ rfl w1.heap.size _ _ (ints (numsW [n, k] ++ numW ms.length ++ numsW ((ms.take j).map Int.toNat))) (ints (numW z)) rfl rfl O4.out R4.out (by decide) (by have := HZ9.out; have := HL2.out; have := HLN.out; have := HLM.out j; rw [length_ints (numsW [n, k] ++ numW ms.length ++ numsW ((ms.take j).map Int.toNat))]; simp only [List.length_append]; omega) B4.out.size rfl ?_; intro v5 w5 hown5 hgr5 hat5 hnil5 hbel5; have O5 := Lib.hid hown5; have B5 : Hid (Below w1.heap.size w1 w5) := Lib.hid (B4.out.trans hbel5); clear hown5 hgr5 hat5 hnil5 hbel5))
      go_roundw
      case rel => exact ⟨j + 1, _, by omega, rfl, by first | rfl | go_num, by rw [HTK.out, ← List.append_assoc, ← ints_app]; exact O5.out, B5.out⟩
      all_goals (show ms.length - ((j : Int) + 1).toNat < ms.length - ((j : Int)).toNat; omega)
    · have hje : j = ms.length := by omega
      subst hje
      have BW : Hid (Below w.heap.size w wr) := Lib.hid (B1.out.trans (B3.out.mono B1.out.size))
      have HBD : Hid (Bytes wr (.slice a d.length c) d) := Lib.hid (HD.out.below BW.out)
      go_wp2_with (refine wpList_to_str rfl 22 9 5 _ rfl Tryz.underlying22 Tryz.underlying5 Tryz.underlying9 _ _ rfl HBD.out ?_)
      have hzS : (strN d).size = d.length := size_strN d
      have HNS : Hid (natsOf (strN d) = d) := Lib.hid (natsOf_strN HD.out.lt)
      refine (rtextw_any (strN d) wr (by rw [hzS]; omega)).mono ?_
      rintro e w4 ⟨v4, rfl, ho4, hb4⟩
      rw [HNS.out, hzS] at ho4
      obtain ⟨p4, q4, k4, rfl⟩ := shape3 ho4
      have R4 : Hid (Reads w4 .u8 (.slice p4 q4 k4) (ints (numW d.length ++ d))) := Lib.hid ho4.reads
      have O4 := Lib.hid (O3.out.below hb4)
      have B4 : Hid (Below w1.heap.size w1 w4) := Lib.hid (B3.out.trans (hb4.mono B3.out.size))
      have HZ9 : Hid ((ints (numW d.length ++ d)).length ≤ 40000) := Lib.hid (by rw [length_ints, List.length_append]; have := numW_len (n := d.length) (by omega); omega)
      clear ho4 hb4 r2 r3 hzS
      have HLL : Hid ((ints (numsW [n, k] ++ numW ms.length ++ numsW ((ms.take ms.length).map Int.toNat))).length ≤ 100) := Lib.hid (by
        rw [length_ints, List.length_append, List.length_append]
        have := HL2.out; have := HLN.out; have := HLM.out ms.length; omega)
      go_wp2_with (at_builtin; go_loud (refine wpList_append_ints Tryz.u8s _ _ rfl w1.heap.size _ _ (ints (numsW [n, k] ++ numW ms.length ++ numsW ((ms.take ms.length).map Int.toNat))) (ints (numW d.length ++ d)) rfl rfl O4.out R4.out (by decide) (by have := HLL.out; have h9 := numW_len (n := d.length) (by omega); have e : (ints (numW d.length ++ d)).length = (numW d.length).length + d.length := (by rw [length_ints, List.length_append]); omega) B4.out.size rfl ?_; intro v5 w5 hown5 hgr5 hat5 hnil5 hbel5; have O5 := Lib.hid hown5; have B5 : Hid (Below w1.heap.size w1 w5) := Lib.hid (B4.out.trans hbel5); clear hown5 hgr5 hat5 hnil5 hbel5))
      go_ret
      have HE : Hid (numsW [n, k] ++ numW ms.length ++ numsW ((ms.take ms.length).map Int.toNat) ++ (numW d.length ++ d) = snapW ⟨n, k, ms, d⟩) := Lib.hid (by rw [List.take_length]; exact HSW.out)
      refine ⟨v5, rfl, ?_, B1.out.trans (B5.out.mono B1.out.size)⟩
      have h := O5.out
      rw [ints_app, HE.out] at h
      refine Bytes.of_owns h ?_ ?_
      · rw [← HSW.out]
        intro x hx
        rcases List.mem_append.1 hx with hx | hx
        · rcases List.mem_append.1 hx with hx | hx
          · rcases List.mem_append.1 hx with hx | hx
            · exact numsW_lt _ (two_lt HI.out HT.out) x hx
            · exact numW_lt (n := ms.length) (by omega) x hx
          · exact numsW_lt _ (by have := mems_lt HMO.out ms.length; rwa [List.take_length] at this) x hx
        · rcases List.mem_append.1 hx with hx | hx
          · exact numW_lt (n := d.length) (by omega) x hx
          · exact HD.out.lt x hx
      · rw [← HE.out]
        have := HLL.out
        have h9 := numW_len (n := d.length) (by omega)
        rw [length_ints] at this
        simp only [List.length_append] at this ⊢
        omega

set_option maxHeartbeats 1000000 in
set_option maxRecDepth 20000 in
theorem rsbytes_any (v : Value) (s : SnapS) (w : World) (h : SnapIs w v s) (hok : s.ok) :
    Calls Tryz.prog 110 #[v] w fun e w' => ∃ v', e = .returned v' ∧ Bytes w' v' (frP 4 (snapW s)) ∧ Below w.heap.size w w' := by
  have H := Lib.hid h
  have HOK := Lib.hid hok
  obtain ⟨mv, dv, rfl, hm, hd⟩ := h
  obtain ⟨a, c, rfl, _⟩ := hd.shape
  obtain ⟨am, cm, rfl, _⟩ := hm.shape
  clear hm hd hok
  go_enter Tryz.func110, Tryz.ntmps110
  go_wp2_with fail
  have B1 : Hid (Below w.heap.size w (w.alloc (.cells #[.int .u64 s.i, .int .u64 s.t, .slice am s.ms.length cm, .slice a s.d.length c] 40))) := Lib.hid ((Below.refl _ _).alloc (Nat.le_refl _) _)
  refine (rbody_any _ s _ (H.out.below B1.out) HOK.out).mono ?_
  rintro e w2 ⟨v2, rfl, hB2, hb2⟩
  have HB2 := Lib.hid hB2
  have B2 : Hid (Below w.heap.size w w2) := Lib.hid (B1.out.trans (hb2.mono B1.out.size))
  have HL : Hid ((snapW s).length ≤ 100000) := Lib.hid (by
    obtain ⟨h1, h2, h3, h4, h5, h6⟩ := HOK.out
    have g1 := headW_len (n := s.i.toNat) (k := s.t.toNat) (by rw [Int.toNat_of_nonneg (by omega)]; exact Int.lt_trans h2 (by decide)) (by rw [Int.toNat_of_nonneg (by omega)]; exact Int.lt_of_le_of_lt h4 (by decide)) s.ms h5.2.1
    have g2 := memsW_len h5 s.ms.length
    rw [List.take_length] at g2
    have g3 := numW_len (n := s.d.length) (by omega)
    unfold snapW
    simp only [List.length_append]
    omega)
  clear hB2 hb2
  go_wp2_with fail
  refine (rbytes_any 4 v2 (snapW s) w2 HB2.out (by decide) HL.out).mono ?_
  rintro e w3 ⟨v3, rfl, hB3, hb3⟩
  have HB3 := Lib.hid hB3
  have B3 : Hid (Below w.heap.size w w3) := Lib.hid (B2.out.trans (hb3.mono B2.out.size))
  clear hB3 hb3
  go_wp2_with fail
  go_ret
  exact ⟨v3, rfl, HB3.out, B3.out⟩
end Go.Proofs.YtofhccpagnkalaaGreat

/- What is written is read back: numbers, texts, frames, snapshots: plain laws; no program in sight. -/
namespace Go.Proofs.YtofhccpagnkalaaGreat
open Go.RowKit Go.Maps Go.Proofs.Own

theorem beN_digs (n : Nat) : beN (digs n) = n := by
  induction n using Nat.strongRecOn with
  | _ n ih =>
    by_cases h : n = 0
    · subst h; rw [digs_zero]; rfl
    · rw [digs_step h, beN_snoc, ih _ (by omega)]; omega
theorem digs_ne {n : Nat} (h : n ≠ 0) : digs n ≠ [] := by rw [digs_step h]; simp
theorem digs_head (n : Nat) (h : n ≠ 0) : (digs n).getD 0 0 ≠ 0 := by
  induction n using Nat.strongRecOn with
  | _ n ih =>
    rw [digs_step h]
    by_cases h2 : n / 256 = 0
    · rw [h2, digs_zero]; simp; omega
    · have h3 := ih _ (by omega) h2
      have := digs_ne h2
      cases hd : digs (n / 256) with
      | nil => exact absurd hd this
      | cons x xs => rw [hd] at h3; simpa using h3
theorem numW_cons (n : Nat) (r : List Nat) : numW n ++ r = (digs n).length :: (digs n ++ r) := rfl
theorem numX_round (n : Nat) (r : List Nat) : numX (numW n ++ r) = n := by
  rw [numW_cons]
  unfold numX
  rw [List.drop_succ_cons, List.drop_zero, List.getD_cons_zero, List.take_left, beN_digs]
theorem numGood_round {n most : Nat} (r : List Nat) (hn : (n : Int) < 18446744073709551616) (hm : n ≤ most) : numGood most (numW n ++ r) := by
  refine ⟨?_, by rw [numX_round]; exact hm⟩
  have h8 := digs_le8 hn
  rw [numW_cons]
  unfold numBad
  rw [List.getD_cons_zero, List.getD_cons_succ, List.length_cons, List.length_append]
  rintro (h | h | ⟨h1, h2⟩)
  · omega
  · omega
  · have hz : n ≠ 0 := by rintro rfl; rw [digs_zero] at h1; exact absurd h1 (by decide)
    have := digs_head n hz
    cases hd : digs n with
    | nil => exact absurd hd (digs_ne hz)
    | cons x xs => rw [hd] at this h2; exact this (by simpa using h2)
theorem numV_round {n most : Nat} (r : List Nat) (hn : (n : Int) < 18446744073709551616) (hm : n ≤ most) : numV most (numW n ++ r) = n := by
  unfold numV; rw [if_pos (numGood_round r hn hm), numX_round]
theorem numL_round {n most : Nat} (r : List Nat) (hn : (n : Int) < 18446744073709551616) (hm : n ≤ most) : numL most (numW n ++ r) = r := by
  unfold numL; rw [if_pos (numGood_round r hn hm), numW_cons, List.getD_cons_zero, List.drop_succ_cons, List.drop_left]
theorem numB_round {n most : Nat} (r : List Nat) (hn : (n : Int) < 18446744073709551616) (hm : n ≤ most) : numB most (numW n ++ r) = false := by
  unfold numB; rw [if_pos (numGood_round r hn hm)]
theorem textG_round {most : Nat} (d r : List Nat) (hd : d.length ≤ most) (hm : most ≤ 1000000) : numV most (numW d.length ++ (d ++ r)) = d.length ∧ numL most (numW d.length ++ (d ++ r)) = d ++ r ∧ textGood most (numW d.length ++ (d ++ r)) := by
  have h1 := numV_round (most := most) (d ++ r) (n := d.length) (by omega) hd
  have h2 := numL_round (most := most) (d ++ r) (n := d.length) (by omega) hd
  refine ⟨h1, h2, ?_⟩
  unfold textGood
  rw [h1, h2, List.length_append]; omega
theorem textV_round {most : Nat} (d r : List Nat) (hd : d.length ≤ most) (hm : most ≤ 1000000) : textV most (numW d.length ++ (d ++ r)) = d := by
  obtain ⟨h1, h2, h3⟩ := textG_round d r hd hm
  unfold textV; rw [if_pos h3, h1, h2, List.take_left]
theorem textL_round {most : Nat} (d r : List Nat) (hd : d.length ≤ most) (hm : most ≤ 1000000) : textL most (numW d.length ++ (d ++ r)) = r := by
  obtain ⟨h1, h2, h3⟩ := textG_round d r hd hm
  unfold textL; rw [if_pos h3, h1, h2, List.drop_left]
theorem textB_round {most : Nat} (d r : List Nat) (hd : d.length ≤ most) (hm : most ≤ 1000000) : textB most (numW d.length ++ (d ++ r)) = false := by
  obtain ⟨h1, h2, h3⟩ := textG_round d r hd hm
  unfold textB; rw [if_pos h3, numB_round (d ++ r) (by omega) hd]; rfl
theorem numsW_app (a b : List Nat) : numsW (a ++ b) = numsW a ++ numsW b := by simp [numsW]
theorem mem_round {m : Nat} (hm : m ≤ 1000000) : ∀ (k : Nat) (ns : List Nat) (r : List Nat), ns.length = k → (∀ n ∈ ns, n ≤ m) →
    memL m k (numsW ns ++ r) = r ∧ memV m k (numsW ns ++ r) = ns.map (fun n : Nat => (n : Int)) ∧ memB m k (numsW ns ++ r) = false := by
  intro k
  induction k with
  | zero => intro ns r h _; obtain rfl : ns = [] := List.eq_nil_of_length_eq_zero h; exact ⟨rfl, rfl, rfl⟩
  | succ k ih =>
    intro ns r h hle
    obtain ⟨ms, n, rfl⟩ : ∃ ms n, ns = ms ++ [n] := ⟨ns.dropLast, ns.getLast (by intro e; subst e; cases h), (List.dropLast_concat_getLast _).symm⟩
    have hk : ms.length = k := by simpa using h
    have hn : n ≤ m := hle n (by simp)
    have e : numsW (ms ++ [n]) ++ r = numsW ms ++ (numW n ++ r) := by rw [numsW_app]; simp [numsW]
    obtain ⟨i1, i2, i3⟩ := ih ms (numW n ++ r) hk fun x hx => hle x (List.mem_append_left _ hx)
    rw [e]
    refine ⟨?_, ?_, ?_⟩
    · rw [memL, i1]; exact numL_round r (by omega) hn
    · rw [memV, i1, i2, numV_round r (by omega) hn]; simp
    · rw [memB, i1, i3, numB_round r (by omega) hn]; rfl

theorem be3_split (n : Nat) : be3 (n / 65536) (n / 256 % 256) (n % 256) = n := by unfold be3; omega
theorem frP_cons (k : Nat) (l r : List Nat) : ∃ s, s = sumP ([102, k, l.length / 65536, l.length / 256 % 256, l.length % 256] ++ l) ∧
    frP k l ++ r = 102 :: k :: (l.length / 65536) :: (l.length / 256 % 256) :: (l.length % 256) :: (l ++ (s / 65536) :: (s / 256 % 256) :: (s % 256) :: r) := by
  refine ⟨_, rfl, ?_⟩
  unfold frP sealP
  simp
theorem frN_round (k : Nat) (l r : List Nat) : frN (frP k l ++ r) = l.length := by
  obtain ⟨s, _, e⟩ := frP_cons k l r
  rw [e]
  exact be3_split l.length
theorem kind_round (k : Nat) (l r : List Nat) : (frP k l ++ r).getD 1 0 = k := by
  obtain ⟨s, _, e⟩ := frP_cons k l r
  rw [e]; rfl
theorem sizeE_round {k : Nat} {l : List Nat} (r : List Nat) (hk : k ≠ 0) (hl : l.length ≤ 65536) : sizeE (frP k l ++ r) = 0 := by
  have hN := frN_round k l r
  obtain ⟨s, _, e⟩ := frP_cons k l r
  unfold sizeE
  rw [hN, e, if_neg (by simp), if_neg (by simp), if_neg (by simp), if_neg (by simpa using hk), if_neg (by simp), if_neg (by omega), if_neg (by simp)]
theorem getD_app (A B : List Nat) (j : Nat) : (A ++ B).getD (A.length + j) 0 = B.getD j 0 := by
  rw [List.getD_eq_getElem?_getD, List.getD_eq_getElem?_getD, List.getElem?_append_right (by omega), Nat.add_sub_cancel_left]
theorem takeE_round {k : Nat} {l : List Nat} (r : List Nat) (hk : k ≠ 0) (hl : l.length ≤ 65536) : takeE (frP k l ++ r) = 0 := by
  have hN := frN_round k l r
  have hS := sizeE_round (k := k) (l := l) r hk hl
  obtain ⟨s, hs, e⟩ := frP_cons k l r
  unfold takeE
  rw [if_neg (by simp [hS]), hN, if_pos]
  have e1 : (frP k l ++ r).take (l.length + 8) = ([102, k, l.length / 65536, l.length / 256 % 256, l.length % 256] ++ l) ++ [s / 65536, s / 256 % 256, s % 256] := by
    have : frP k l ++ r = (([102, k, l.length / 65536, l.length / 256 % 256, l.length % 256] ++ l) ++ [s / 65536, s / 256 % 256, s % 256]) ++ r := by rw [e]; simp
    rw [this]
    exact List.take_left' (by simp)
  have hlen : ([102, k, l.length / 65536, l.length / 256 % 256, l.length % 256] ++ l).length = l.length + 5 := by simp
  rw [e1]
  unfold SumOk
  rw [List.take_left' hlen, ← hs]
  have g : ∀ j, (([102, k, l.length / 65536, l.length / 256 % 256, l.length % 256] ++ l) ++ [s / 65536, s / 256 % 256, s % 256]).getD (l.length + 5 + j) 0 = [s / 65536, s / 256 % 256, s % 256].getD j 0 := by
    intro j
    rw [← hlen]
    exact getD_app _ _ j
  have g0 := g 0
  rw [Nat.add_zero] at g0
  rw [g0, g 1, g 2]
  exact (be3_split s).symm
theorem frBody_round (k : Nat) (l r : List Nat) : frBody (frP k l ++ r) = l := by
  have hN := frN_round k l r
  obtain ⟨s, _, e⟩ := frP_cons k l r
  unfold frBody
  rw [hN, e]
  have : 102 :: k :: (l.length / 65536) :: (l.length / 256 % 256) :: (l.length % 256) :: (l ++ (s / 65536) :: (s / 256 % 256) :: (s % 256) :: r) = [102, k, l.length / 65536, l.length / 256 % 256, l.length % 256] ++ (l ++ ((s / 65536) :: (s / 256 % 256) :: (s % 256) :: r)) := rfl
  rw [this, ← List.append_assoc, List.take_left' (by simp)]
  rfl
theorem length_frP (k : Nat) (l : List Nat) : (frP k l).length = l.length + 8 := by unfold frP; rw [length_sealP]; simp
theorem WholeOk_round {k : Nat} {l : List Nat} (hk : k ≠ 0) (hl : l.length ≤ 65536) : WholeOk (frP k l) := by
  have h1 := takeE_round (k := k) (l := l) [] hk hl
  have h2 := frN_round k l []
  rw [List.append_nil] at h1 h2
  exact ⟨h1, by rw [h2, length_frP]⟩
theorem snapW_len {s : SnapS} (h : s.ok) : (snapW s).length ≤ 65536 := by
  obtain ⟨h1, h2, h3, h4, h5, h6⟩ := h
  have g1 := headW_len (n := s.i.toNat) (k := s.t.toNat) (by rw [Int.toNat_of_nonneg (by omega)]; exact Int.lt_trans h2 (by decide)) (by rw [Int.toNat_of_nonneg (by omega)]; exact Int.lt_of_le_of_lt h4 (by decide)) s.ms h5.2.1
  have g2 := memsW_len h5 s.ms.length
  rw [List.take_length] at g2
  have g3 := numW_len (n := s.d.length) (by omega)
  unfold snapW
  simp only [List.length_append]
  omega
theorem msOk_toNat {ms : List Int} (h : msOk ms) : (ms.map Int.toNat).map (fun n : Nat => (n : Int)) = ms ∧ ∀ n ∈ ms.map Int.toNat, n ≤ 6 := by
  have hj : ∀ x ∈ ms, 0 ≤ x ∧ x < 7 := by
    intro x hx
    obtain ⟨j, hj, rfl⟩ := List.mem_iff_getElem.1 hx
    have h1 := ok_nonneg h.2.2 j hj
    have h2 := (h.2.2 j hj).2
    rw [getDi hj] at h1 h2
    exact ⟨h1, h2⟩
  refine ⟨?_, ?_⟩
  · rw [List.map_map]
    conv => rhs; rw [← List.map_id ms]
    exact List.map_congr_left fun x hx => by have := hj x hx; show ((x.toNat : Nat) : Int) = x; omega
  · intro n hn
    obtain ⟨x, hx, rfl⟩ := List.mem_map.1 hn
    have := hj x hx
    omega
theorem get_round {m : Nat} (h6 : 6 ≤ m) (hm : m ≤ 7) (s : SnapS) (h : s.ok) : getS m (snapW s) = s ∧ getL m (snapW s) = [] ∧ getB m (snapW s) = false := by
  obtain ⟨h1, h2, h3, h4, h5, hd⟩ := h
  obtain ⟨i, t, ms, d⟩ := s
  simp only at h1 h2 h3 h4 h5 hd
  obtain ⟨n, rfl⟩ : ∃ n : Nat, i = n := ⟨i.toNat, by omega⟩
  obtain ⟨k, rfl⟩ : ∃ n : Nat, t = n := ⟨t.toNat, by omega⟩
  obtain ⟨hmm, hml⟩ := msOk_toNat h5
  have e : snapW ⟨n, k, ms, d⟩ = numW n ++ (numW k ++ (numW ms.length ++ (numsW (ms.map Int.toNat) ++ (numW d.length ++ (d ++ []))))) := by
    unfold snapW
    simp [numsW]
  have hn : (n : Int) < 18446744073709551616 := Int.lt_trans h2 (by decide)
  have hk : (k : Int) < 18446744073709551616 := Int.lt_of_le_of_lt h4 (by decide)
  have hn' : n ≤ H59 := by unfold H59; omega
  have hk' : k ≤ H60 := by unfold H60; omega
  have hl7 : ms.length ≤ 7 := h5.2.1
  rw [e]
  have r1 := numL_round (most := H59) (n := n) (numW k ++ (numW ms.length ++ (numsW (ms.map Int.toNat) ++ (numW d.length ++ (d ++ []))))) hn hn'
  have v1 := numV_round (most := H59) (n := n) (numW k ++ (numW ms.length ++ (numsW (ms.map Int.toNat) ++ (numW d.length ++ (d ++ []))))) hn hn'
  have b1 := numB_round (most := H59) (n := n) (numW k ++ (numW ms.length ++ (numsW (ms.map Int.toNat) ++ (numW d.length ++ (d ++ []))))) hn hn'
  have r2 := numL_round (most := H60) (n := k) (numW ms.length ++ (numsW (ms.map Int.toNat) ++ (numW d.length ++ (d ++ [])))) hk hk'
  have v2 := numV_round (most := H60) (n := k) (numW ms.length ++ (numsW (ms.map Int.toNat) ++ (numW d.length ++ (d ++ [])))) hk hk'
  have b2 := numB_round (most := H60) (n := k) (numW ms.length ++ (numsW (ms.map Int.toNat) ++ (numW d.length ++ (d ++ [])))) hk hk'
  have r3 := numL_round (most := 7) (n := ms.length) (numsW (ms.map Int.toNat) ++ (numW d.length ++ (d ++ []))) (by omega) hl7
  have v3 := numV_round (most := 7) (n := ms.length) (numsW (ms.map Int.toNat) ++ (numW d.length ++ (d ++ []))) (by omega) hl7
  have b3 := numB_round (most := 7) (n := ms.length) (numsW (ms.map Int.toNat) ++ (numW d.length ++ (d ++ []))) (by omega) hl7
  obtain ⟨r4, v4, b4⟩ := mem_round (m := m) (by omega) ms.length (ms.map Int.toNat) (numW d.length ++ (d ++ [])) (by simp) (fun x hx => Nat.le_trans (hml x hx) h6)
  have v5 := textV_round (most := 32768) d [] hd (by decide)
  have r5 := textL_round (most := 32768) d [] hd (by decide)
  have b5 := textB_round (most := 32768) d [] hd (by decide)
  unfold getS getL getB rest4 rest3 memN rest2 rest1
  rw [r1, v1, b1, r2, v2, b2, r3, v3, b3, r4, v4, b4, v5, r5, b5, hmm]
  exact ⟨rfl, rfl, rfl⟩
theorem read_round (m : Nat) (h6 : 6 ≤ m) (hm : m ≤ 7) (s : SnapS) (h : s.ok) : readB m (frP 4 (snapW s)) = true ∧ readS m (frP 4 (snapW s)) = s := by
  obtain ⟨g1, g2, g3⟩ := get_round h6 hm s h
  have hb := frBody_round 4 (snapW s) []
  have hk := kind_round 4 (snapW s) []
  rw [List.append_nil] at hb hk
  have hok : readOk m (frP 4 (snapW s)) := by
    refine ⟨WholeOk_round (by decide) (snapW_len h), hk, ?_, ?_⟩
    · rw [hb, g2, g3]; rfl
    · rw [hb, g1]; exact h
  obtain ⟨e1, e2⟩ := read_yes hok
  exact ⟨e1, by rw [e2, hb, g1]⟩
end Go.Proofs.YtofhccpagnkalaaGreat
