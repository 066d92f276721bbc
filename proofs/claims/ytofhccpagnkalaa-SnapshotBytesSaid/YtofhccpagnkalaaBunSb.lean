/- Several texts in one: Rb, Rnd, Eq, G, Sbl, Opn, SblH. What each proves stands ahead of it. -/
import Derived.Test.YtofhccpagnkalaaSb
import Derived.Lib.AppendStr
import Derived.Test.YtofhccpagnkalaaPread
import Derived.Test.YtofhccpagnkalaaSame
import Derived.Test.YtofhccpagnkalaaRead
import Derived.Test.YtofhccpagnkalaaStr
import Derived.Test.YtofhccpagnkalaaLiv
import Derived.Test.YtofhccpagnkalaaSnp
import Derived.Test.YtofhccpagnkalaaClose
/- The document's Text, and its Body and Bytes of a snapshot; no conditions but the ranges. -/
namespace Go.Proofs.Ytofhccpagnkalaa
open Go.RowKit Go.Maps Go.Proofs.Own

theorem strCells_ints (s : ByteArray) : Go.Lib.strCells s = (ints (natsOf s)).map (.int .u8) := by
  unfold Go.Lib.strCells ints natsOf
  rw [List.map_map, List.map_map]
  rfl
theorem shape3 {w : World} {base : Nat} {e : TypeId} {k : IntKind} {v : Value} {zs : List Int} (h : Owns w base e k v zs) : ∃ a n c, v = .slice a n c := let ⟨a, c, h⟩ := h.shape; ⟨a, _, c, h⟩
theorem numsW_nil : numsW [] = [] := rfl
theorem two_lt {n k : Nat} (hn : (n : Int) < 18446744073709551616) (hk : (k : Int) < 18446744073709551616) : ∀ x ∈ [n, k], (x : Int) < 18446744073709551616 := by
  intro x hx
  simp only [List.mem_cons, List.not_mem_nil, or_false] at hx
  rcases hx with h | h
  · rw [h]; exact hn
  · rw [h]; exact hk
theorem ints_app (l m : List Nat) : ints l ++ ints m = ints (l ++ m) := by simp [ints]

set_option maxHeartbeats 1000000 in
set_option maxRecDepth 20000 in
theorem rtextw_any (s : ByteArray) (w : World) (hs : s.size ≤ 65536) :
    Calls Try.prog 92 #[.string s] w fun e w' => ∃ v, e = .returned v ∧ Owns w' w.heap.size 5 .u8 v (ints (numW s.size ++ natsOf s)) ∧ Below w.heap.size w w' := by
  have hs' : (s.size : Int) ≤ 65536 := by omega
  have HSZ := Lib.hid hs
  obtain ⟨i5, hi5, hz5, hy5, hw5⟩ : ∃ i, Try.prog.info? 5 = some i ∧ i.zero = some (.int .u8 0) ∧ i.size = 1 ∧ i.bytes = 1 := info_parts Try.info5
  have HI := Lib.hid (And.intro hi5 (And.intro hz5 (And.intro hy5 hw5)))
  clear hi5 hz5 hy5 hw5 hs
  go_enter Try.func92, Try.ntmps92
  go_wp2_with fail
  refine (rnumw_any s.size _ (by omega)).mono ?_
  rintro e w1 ⟨v1, rfl, ho1, hb1⟩
  have O1 := Lib.hid ho1
  have B1 := Lib.hid hb1
  have H9 : Hid ((ints (numW s.size)).length ≤ 9) := Lib.hid (by rw [length_ints]; exact numW_len (by omega))
  obtain ⟨p1, k1, rfl⟩ := ho1.shape
  clear ho1 hb1
  generalize hq : (ints (numW s.size)).length = q1 at *
  have HQ := Lib.hid hq
  clear hq
  go_wp2_with (at_builtin; go_loud (refine Go.Lib.wpList_append_own_string _ rfl _ _ 22 9 rfl w.heap.size 5 i5 Try.underlying22 Try.underlying9 HI.out.1 HI.out.2.1 HI.out.2.2.1 HI.out.2.2.2 _ _ _ rfl O1.out s rfl (by rw [HQ.out]; have := H9.out; have := HSZ.out; unfold maxLen; omega) (by rw [HQ.out]; have := H9.out; have := HSZ.out; omega) B1.out.size ?_; intro v2 w2 hown2 hgr2 hnil2; have O2 := Lib.hid hown2; have G2 := Lib.hid hgr2; clear hown2 hgr2 hnil2))
  go_ret
  refine ⟨v2, rfl, ?_, B1.out.trans ((Below.refl _ _).grown G2.out B1.out.size fun g hg => (Owns.lt O1.out g hg).1)⟩
  have h := O2.out
  rw [strCells_ints, ← List.map_append, ints_app] at h
  have hl : (ints (numW s.size)).length + s.size = (ints (numW s.size ++ natsOf s)).length := by rw [length_ints, length_ints, List.length_append, length_natsOf]
  rw [hl] at h
  exact h

set_option maxHeartbeats 4000000 in
set_option maxRecDepth 20000 in
theorem rbody_any (v : Value) (s : SnapS) (w : World) (h : SnapIs w v s) (hok : s.ok) :
    Calls Try.prog 58 #[v] w fun e w' => ∃ v', e = .returned v' ∧ Bytes w' v' (snapW s) ∧ Below w.heap.size w w' := by
  obtain ⟨mv, dv, rfl, hm, hd⟩ := h
  obtain ⟨a, c, rfl, _⟩ := hd.shape
  obtain ⟨am, cm, rfl, _⟩ := hm.shape
  obtain ⟨i, t, ms, d⟩ := s
  have HM := Lib.hid hm
  have HD := Lib.hid hd
  obtain ⟨n, hn⟩ : ∃ n : Nat, i = n := ⟨i.toNat, by have := hok.1; simp only at this; omega⟩
  obtain ⟨k, hk⟩ : ∃ n : Nat, t = n := ⟨t.toNat, by have := hok.2.2.1; simp only at this; omega⟩
  obtain ⟨_, hi2, _, ht2, hmo, hdl⟩ := hok
  simp only at hi2 ht2 hmo hdl
  have HI : Hid ((n : Int) < 18446744073709551616) := Lib.hid (by rw [← hn]; exact Int.lt_trans hi2 (by decide))
  have HT : Hid ((k : Int) < 18446744073709551616) := Lib.hid (by rw [← hk]; exact Int.lt_of_le_of_lt ht2 (by decide))
  have HMO := Lib.hid hmo
  have hml : ms.length ≤ 7 := hmo.2.1
  have hdl' : (d.length : Int) ≤ 32768 := by omega
  clear hm hd hi2 ht2 hmo
  subst hn hk
  have HIA : Hid (ints (numW n) ++ ints (numW k) = ints (numsW [n, k])) := Lib.hid (by rw [ints_app]; simp [numsW])
  have HNK : Hid ((ints (numW n)).length + (ints (numW k)).length ≤ 4294967296) := Lib.hid (by
    have h1 := numW_len HI.out
    have h2 := numW_len HT.out
    rw [length_ints, length_ints]; omega)
  have HSW : Hid (numsW [n, k] ++ numW ms.length ++ numsW (ms.map Int.toNat) ++ (numW d.length ++ d) = snapW ⟨n, k, ms, d⟩) := Lib.hid (by
    unfold snapW numsW
    simp)
  have HL2 : Hid ((numsW [n, k]).length ≤ 18) := Lib.hid (by have := numsW_len [n, k] (two_lt HI.out HT.out); simpa using this)
  have HLM : Hid (∀ j, (numsW ((ms.take j).map Int.toNat)).length ≤ 63) := Lib.hid (memsW_len HMO.out)
  have HLN : Hid ((numW ms.length).length ≤ 9) := Lib.hid (numW_len (by omega))
  go_enter Try.func58, Try.ntmps58
  go_wp2_with fail
  have SG1 := SBlk.box w n k (.slice am ms.length cm) (.slice a d.length c)
  have B1 : Hid (Below w.heap.size w (w.alloc (.cells #[.int .u64 n, .int .u64 k, .slice am ms.length cm, .slice a d.length c] 27))) := Lib.hid ((Below.refl _ _).alloc (Nat.le_refl _) _)
  generalize World.alloc w _ = w1 at *
  have S1 := Lib.hid SG1
  have ST := Stable.from w1
  have hlw := SG1.lt
  clear SG1
  refine region_start [0, 1, 3, 0, 8, 31, 63, 127] 4 (fun w' => Below w1.heap.size w1 w') (by kernel_rfl) ?_
  refine stage_heads [0, 1, 3, 4] (by kernel_rfl) (L := #[true, true, false, true, true, false, false, false]) (by kernel_rfl) (f' := 4) rfl (fun _ _ _ _ h => h) (fun w o h => ST.alloc h o) (.inr (by first | exact Below.refl _ _ | exact (Below.refl _ _).drew)) ?_
  simp only [List.flatMap_cons, List.flatMap_nil, List.drop_succ_cons, List.drop_zero, List.take_succ_cons, List.take_zero, List.cons_append, List.nil_append, List.append_nil]
  iterate 4 (first | (refine heads_load _ (by rfl) (fun w' hs => by have y0 := S1.out.below hs; obtain ⟨r0, r1, r2, r3, _, _, _, _⟩ := y0; go_simp; try with_reducible rfl) rfl ?_; simp only [Act.put, List.setIfInBounds_toArray, List.set_cons_zero, List.set_cons_succ]) | (refine heads_pure _ (by rfl) (fun w' => by go_simp; try with_reducible rfl) ?_; simp only [Act.put, List.setIfInBounds_toArray, List.set_cons_zero, List.set_cons_succ]))
  refine heads_nil ?_
  refine stage_op 2 (by kernel_rfl) (L := #[true, true, true, true, true, false, false, false]) (by kernel_rfl) ?_
  simp only [List.drop_succ_cons, List.drop_zero, List.take_succ_cons, List.take_zero]
  go_wp2_with fail; refine (rnumw_any n _ HI.out).mono ?_; rintro e u2 ⟨x2, rfl, ho2, hb2⟩; obtain ⟨p2, q2, k2, rfl⟩ := shape3 ho2; have O2 : Hid (Owns u2 w1.heap.size 5 .u8 (.slice p2 q2 k2) (ints (numW n))) := Lib.hid ho2; have I2 : Hid (Below w1.heap.size w1 u2) := Lib.hid (by first | exact hb2 | exact ((Below.refl _ _).drew).trans hb2); clear ho2 hb2; go_wp2_with fail
  refine step_post (fun _ => I2.out) ?_
  refine stage_op 5 (by kernel_rfl) (L := #[true, true, true, true, true, true, false, false]) (by kernel_rfl) ?_
  simp only [List.drop_succ_cons, List.drop_zero, List.take_succ_cons, List.take_zero]
  go_wp2_with fail; refine (rnumw_any k _ HT.out).mono ?_; rintro e u5 ⟨x5, rfl, ho5, hb5⟩; obtain ⟨p5, q5, k5, rfl⟩ := shape3 ho5; have R5 : Hid (Reads u5 .u8 (.slice p5 q5 k5) (ints (numW k))) := Lib.hid ho5.reads; have O5 : Hid (Owns u5 w1.heap.size 5 .u8 (.slice p2 q2 k2) (ints (numW n))) := Lib.hid (O2.out.below (by first | exact hb5 | exact ((Below.refl _ _).drew).trans hb5)); have I5 : Hid (Below w1.heap.size w1 u5) := Lib.hid (I2.out.trans (Below.mono (by first | exact hb5 | exact ((Below.refl _ _).drew).trans hb5) I2.out.size)); clear ho5 hb5; go_wp2_with fail
  refine step_post nofun ?_
  refine stage_op 6 (by kernel_rfl) (L := #[true, true, true, true, true, true, true, false]) (by kernel_rfl) ?_
  simp only [List.drop_succ_cons, List.drop_zero, List.take_succ_cons, List.take_zero]
  refine wpList_append_ints Try.u8s _ _ rfl w1.heap.size _ _ (ints (numW n)) (ints (numW k)) rfl rfl O5.out R5.out (by decide) HNK.out I5.out.size rfl ?_; intro v6 w6 hown6 hgr6 hat6 hnil6 hbel6; obtain ⟨p6, q6, k6, rfl⟩ := shape3 hown6; rw [HIA.out] at hown6; have HO6 : Hid (Owns w6 w1.heap.size 5 .u8 (.slice p6 q6 k6) (ints (numsW [n, k]))) := Lib.hid hown6; have B6 : Hid (Below w1.heap.size w1 w6) := Lib.hid (I5.out.trans hbel6); clear hown6 hgr6 hat6 hnil6 hbel6; go_wp2_with fail
  refine step_post nofun ?_
  refine stage_heads [7] (by kernel_rfl) (L := #[true, true, true, true, true, true, true, true]) (by kernel_rfl) (f' := 0) rfl (fun _ _ _ _ h => h) (fun w o h => ST.alloc h o) (.inl (by kernel_rfl)) ?_
  simp only [List.flatMap_cons, List.flatMap_nil, List.drop_succ_cons, List.drop_zero, List.take_succ_cons, List.take_zero, List.cons_append, List.nil_append, List.append_nil]
  iterate 1 (refine heads_pure _ (by rfl) (fun w' => by go_simp; try with_reducible rfl) ?_; simp only [Act.put, List.setIfInBounds_toArray, List.set_cons_zero, List.set_cons_succ])
  refine heads_nil ?_
  refine stage_done (by kernel_rfl) ?_
  have S6 := Lib.hid (S1.out.below B6.out)
  have r2 := S6.out.c2
  go_wp2_with fail
  refine (rnumw_any ms.length _ (by omega)).mono ?_
  rintro e w7 ⟨v7, rfl, ho7, hb7⟩
  obtain ⟨p7, q7, k7, rfl⟩ := shape3 ho7
  have R7 : Hid (Reads w7 .u8 (.slice p7 q7 k7) (ints (numW ms.length))) := Lib.hid ho7.reads
  have O7 := Lib.hid (HO6.out.below hb7)
  have B7 : Hid (Below w1.heap.size w1 w7) := Lib.hid (B6.out.trans (hb7.mono B6.out.size))
  clear ho7 hb7 r2
  go_wp2_with (at_builtin; go_loud (refine wpList_append_ints Try.u8s _ _ rfl w1.heap.size _ _ (ints (numsW [n, k])) (ints (numW ms.length)) rfl rfl O7.out R7.out (by decide) (by have := HL2.out; have := HLN.out; rw [length_ints, length_ints]; omega) B7.out.size rfl ?_; intro v8 w8 hown8 hgr8 hat8 hnil8 hbel8; obtain ⟨p8, q8, k8, rfl⟩ := shape3 hown8; rw [ints_app] at hown8; have O8 := Lib.hid hown8; have B8 : Hid (Below w1.heap.size w1 w8) := Lib.hid (B7.out.trans hbel8); clear hown8 hgr8 hat8 hnil8 hbel8))
  go_loopw [3, 4] (fun x y wr => ∃ (j : Nat) (v3 : Value), j ≤ ms.length ∧ x = v3 ∧ y = .int .i64 j ∧ Owns wr w1.heap.size 5 .u8 v3 (ints (numsW [n, k] ++ numW ms.length ++ numsW ((ms.take j).map Int.toNat))) ∧ Below w1.heap.size w1 wr) (fun _ y _ => ms.length - (intOf y).toNat)
  case atStart => exact ⟨0, _, Nat.zero_le _, rfl, rfl, by rw [List.take_zero, List.map_nil, numsW_nil, List.append_nil]; exact O8.out, B8.out⟩
  case round =>
    obtain ⟨j, v3, hj, rfl, rfl, ho3, hb3⟩ := hrel
    have O3 := Lib.hid ho3
    have B3 := Lib.hid hb3
    obtain ⟨p3, q3, k3, rfl⟩ := shape3 ho3
    clear ho3 hb3
    have SR := Lib.hid (S1.out.below B3.out)
    obtain ⟨_, _, r2, r3, _, _, _, _⟩ := SR.out
    by_cases hjk : j < ms.length
    · have BW : Hid (Below w.heap.size w wr) := Lib.hid (B1.out.trans (B3.out.mono B1.out.size))
      have HCX : Hid (∃ b o, am = some ⟨b, o, none⟩ ∧ wr.cell? ⟨b, o + j, none⟩ = some (.int .i64 ms[j])) := Lib.hid ((HM.out.below BW.out).cells.2.2 j hjk)
      obtain ⟨b, o, rfl, hcell⟩ := HCX.out
      clear HCX
      have hz0 : 0 ≤ ms[j] := by have := ok_nonneg HMO.out.2.2 j hjk; rwa [getDi hjk] at this
      have hz7 : ms[j] < 7 := by have := (HMO.out.2.2 j hjk).2; rwa [getDi hjk] at this
      have HTK : Hid (numsW ((ms.take (j + 1)).map Int.toNat) = numsW ((ms.take j).map Int.toNat) ++ numW ms[j].toNat) := Lib.hid (by
        rw [List.take_add_one, List.getElem?_eq_getElem hjk]
        unfold numsW
        simp only [Option.toList_some, List.map_append, List.flatMap_append, List.map_cons, List.map_nil, List.flatMap_cons, List.flatMap_nil, List.append_nil])
      obtain ⟨z, hz⟩ : ∃ z : Nat, ms[j] = z := ⟨ms[j].toNat, by omega⟩
      rw [hz] at hcell hz0 hz7 HTK
      clear hz
      rw [Int.toNat_natCast] at HTK
      have j0 : (0 : Int) ≤ (j : Int) := by omega
      have j1 : (j : Int) < (ms.length : Int) := by omega
      go_wp2_with fail
      refine (rnumw_any z _ (by omega)).mono ?_
      rintro e w4 ⟨v4, rfl, ho4, hb4⟩
      obtain ⟨p4, q4, k4, rfl⟩ := shape3 ho4
      have R4 : Hid (Reads w4 .u8 (.slice p4 q4 k4) (ints (numW z))) := Lib.hid ho4.reads
      have O4 := Lib.hid (O3.out.below hb4)
      have B4 : Hid (Below w1.heap.size w1 w4) := Lib.hid (B3.out.trans (hb4.mono B3.out.size))
      have HZ9 : Hid ((ints (numW z)).length ≤ 9) := Lib.hid (by rw [length_ints]; exact numW_len (by omega))
      clear ho4 hb4 r2 r3 hcell
      go_wp2_with (at_builtin; go_loud (refine wpList_append_ints Try.u8s _ _ rfl w1.heap.size _ _ (ints (numsW [n, k] ++ numW ms.length ++ numsW ((ms.take j).map Int.toNat))) (ints (numW z)) rfl rfl O4.out R4.out (by decide) (by have := HZ9.out; have := HL2.out; have := HLN.out; have := HLM.out j; rw [length_ints (numsW [n, k] ++ numW ms.length ++ numsW ((ms.take j).map Int.toNat))]; simp only [List.length_append]; omega) B4.out.size rfl ?_; intro v5 w5 hown5 hgr5 hat5 hnil5 hbel5; have O5 := Lib.hid hown5; have B5 : Hid (Below w1.heap.size w1 w5) := Lib.hid (B4.out.trans hbel5); clear hown5 hgr5 hat5 hnil5 hbel5))
      go_roundw
      case rel => exact ⟨j + 1, _, by omega, rfl, by first | rfl | go_num, by rw [HTK.out, ← List.append_assoc, ← ints_app]; exact O5.out, B5.out⟩
      all_goals (show ms.length - ((j : Int) + 1).toNat < ms.length - ((j : Int)).toNat; omega)
    · have hje : j = ms.length := by omega
      subst hje
      have BW : Hid (Below w.heap.size w wr) := Lib.hid (B1.out.trans (B3.out.mono B1.out.size))
      have HBD : Hid (Bytes wr (.slice a d.length c) d) := Lib.hid (HD.out.below BW.out)
      go_wp2_with (refine wpList_to_str rfl 22 9 5 _ rfl Try.underlying22 Try.underlying5 Try.underlying9 _ _ rfl HBD.out ?_)
      have hzS : (strN d).size = d.length := size_strN d
      have HNS : Hid (natsOf (strN d) = d) := Lib.hid (natsOf_strN HD.out.lt)
      refine (rtextw_any (strN d) wr (by rw [hzS]; omega)).mono ?_
      rintro e w4 ⟨v4, rfl, ho4, hb4⟩
      rw [HNS.out, hzS] at ho4
      obtain ⟨p4, q4, k4, rfl⟩ := shape3 ho4
      have R4 : Hid (Reads w4 .u8 (.slice p4 q4 k4) (ints (numW d.length ++ d))) := Lib.hid ho4.reads
      have O4 := Lib.hid (O3.out.below hb4)
      have B4 : Hid (Below w1.heap.size w1 w4) := Lib.hid (B3.out.trans (hb4.mono B3.out.size))
      have HZ9 : Hid ((ints (numW d.length ++ d)).length ≤ 40000) := Lib.hid (by rw [length_ints, List.length_append]; have := numW_len (n := d.length) (by omega); omega)
      clear ho4 hb4 r2 r3 hzS
      have HLL : Hid ((ints (numsW [n, k] ++ numW ms.length ++ numsW ((ms.take ms.length).map Int.toNat))).length ≤ 100) := Lib.hid (by
        rw [length_ints, List.length_append, List.length_append]
        have := HL2.out; have := HLN.out; have := HLM.out ms.length; omega)
      go_wp2_with (at_builtin; go_loud (refine wpList_append_ints Try.u8s _ _ rfl w1.heap.size _ _ (ints (numsW [n, k] ++ numW ms.length ++ numsW ((ms.take ms.length).map Int.toNat))) (ints (numW d.length ++ d)) rfl rfl O4.out R4.out (by decide) (by have := HLL.out; have h9 := numW_len (n := d.length) (by omega); have e : (ints (numW d.length ++ d)).length = (numW d.length).length + d.length := (by rw [length_ints, List.length_append]); omega) B4.out.size rfl ?_; intro v5 w5 hown5 hgr5 hat5 hnil5 hbel5; have O5 := Lib.hid hown5; have B5 : Hid (Below w1.heap.size w1 w5) := Lib.hid (B4.out.trans hbel5); clear hown5 hgr5 hat5 hnil5 hbel5))
      go_ret
      have HE : Hid (numsW [n, k] ++ numW ms.length ++ numsW ((ms.take ms.length).map Int.toNat) ++ (numW d.length ++ d) = snapW ⟨n, k, ms, d⟩) := Lib.hid (by rw [List.take_length]; exact HSW.out)
      refine ⟨v5, rfl, ?_, B1.out.trans (B5.out.mono B1.out.size)⟩
      have h := O5.out
      rw [ints_app, HE.out] at h
      refine Bytes.of_owns h ?_ ?_
      · rw [← HSW.out]
        intro x hx
        rcases List.mem_append.1 hx with hx | hx
        · rcases List.mem_append.1 hx with hx | hx
          · rcases List.mem_append.1 hx with hx | hx
            · exact numsW_lt _ (two_lt HI.out HT.out) x hx
            · exact numW_lt (n := ms.length) (by omega) x hx
          · exact numsW_lt _ (by have := mems_lt HMO.out ms.length; rwa [List.take_length] at this) x hx
        · rcases List.mem_append.1 hx with hx | hx
          · exact numW_lt (n := d.length) (by omega) x hx
          · exact HD.out.lt x hx
      · rw [← HE.out]
        have := HLL.out
        have h9 := numW_len (n := d.length) (by omega)
        rw [length_ints] at this
        simp only [List.length_append] at this ⊢
        omega

set_option maxHeartbeats 1000000 in
set_option maxRecDepth 20000 in
theorem rsbytes_any (v : Value) (s : SnapS) (w : World) (h : SnapIs w v s) (hok : s.ok) :
    Calls Try.prog 20 #[v] w fun e w' => ∃ v', e = .returned v' ∧ Bytes w' v' (frP 4 (snapW s)) ∧ Below w.heap.size w w' := by
  have H := Lib.hid h
  have HOK := Lib.hid hok
  obtain ⟨mv, dv, rfl, hm, hd⟩ := h
  obtain ⟨a, c, rfl, _⟩ := hd.shape
  obtain ⟨am, cm, rfl, _⟩ := hm.shape
  clear hm hd hok
  go_enter Try.func20, Try.ntmps20
  go_wp2_with fail
  have B1 : Hid (Below w.heap.size w (w.alloc (.cells #[.int .u64 s.i, .int .u64 s.t, .slice am s.ms.length cm, .slice a s.d.length c] 27))) := Lib.hid ((Below.refl _ _).alloc (Nat.le_refl _) _)
  refine (rbody_any _ s _ (H.out.below B1.out) HOK.out).mono ?_
  rintro e w2 ⟨v2, rfl, hB2, hb2⟩
  have HB2 := Lib.hid hB2
  have B2 : Hid (Below w.heap.size w w2) := Lib.hid (B1.out.trans (hb2.mono B1.out.size))
  have HL : Hid ((snapW s).length ≤ 100000) := Lib.hid (by
    obtain ⟨h1, h2, h3, h4, h5, h6⟩ := HOK.out
    have g1 := headW_len (n := s.i.toNat) (k := s.t.toNat) (by rw [Int.toNat_of_nonneg (by omega)]; exact Int.lt_trans h2 (by decide)) (by rw [Int.toNat_of_nonneg (by omega)]; exact Int.lt_of_le_of_lt h4 (by decide)) s.ms h5.2.1
    have g2 := memsW_len h5 s.ms.length
    rw [List.take_length] at g2
    have g3 := numW_len (n := s.d.length) (by omega)
    unfold snapW
    simp only [List.length_append]
    omega)
  clear hB2 hb2
  go_wp2_with fail
  refine (rbytes_any 4 v2 (snapW s) w2 HB2.out (by decide) HL.out).mono ?_
  rintro e w3 ⟨v3, rfl, hB3, hb3⟩
  have HB3 := Lib.hid hB3
  have B3 : Hid (Below w.heap.size w w3) := Lib.hid (B2.out.trans (hb3.mono B2.out.size))
  clear hB3 hb3
  go_wp2_with fail
  go_ret
  exact ⟨v3, rfl, HB3.out, B3.out⟩
end Go.Proofs.Ytofhccpagnkalaa

/- What is written is read back: numbers, texts, frames, snapshots: plain laws; no program in sight. -/
namespace Go.Proofs.Ytofhccpagnkalaa
open Go.RowKit Go.Maps Go.Proofs.Own

theorem beN_digs (n : Nat) : beN (digs n) = n := by
  induction n using Nat.strongRecOn with
  | _ n ih =>
    by_cases h : n = 0
    · subst h; rw [digs_zero]; rfl
    · rw [digs_step h, beN_snoc, ih _ (by omega)]; omega
theorem digs_ne {n : Nat} (h : n ≠ 0) : digs n ≠ [] := by rw [digs_step h]; simp
theorem digs_head (n : Nat) (h : n ≠ 0) : (digs n).getD 0 0 ≠ 0 := by
  induction n using Nat.strongRecOn with
  | _ n ih =>
    rw [digs_step h]
    by_cases h2 : n / 256 = 0
    · rw [h2, digs_zero]; simp; omega
    · have h3 := ih _ (by omega) h2
      have := digs_ne h2
      cases hd : digs (n / 256) with
      | nil => exact absurd hd this
      | cons x xs => rw [hd] at h3; simpa using h3
theorem numW_cons (n : Nat) (r : List Nat) : numW n ++ r = (digs n).length :: (digs n ++ r) := rfl
theorem numX_round (n : Nat) (r : List Nat) : numX (numW n ++ r) = n := by
  rw [numW_cons]
  unfold numX
  rw [List.drop_succ_cons, List.drop_zero, List.getD_cons_zero, List.take_left, beN_digs]
theorem numGood_round {n most : Nat} (r : List Nat) (hn : (n : Int) < 18446744073709551616) (hm : n ≤ most) : numGood most (numW n ++ r) := by
  refine ⟨?_, by rw [numX_round]; exact hm⟩
  have h8 := digs_le8 hn
  rw [numW_cons]
  unfold numBad
  rw [List.getD_cons_zero, List.getD_cons_succ, List.length_cons, List.length_append]
  rintro (h | h | ⟨h1, h2⟩)
  · omega
  · omega
  · have hz : n ≠ 0 := by rintro rfl; rw [digs_zero] at h1; exact absurd h1 (by decide)
    have := digs_head n hz
    cases hd : digs n with
    | nil => exact absurd hd (digs_ne hz)
    | cons x xs => rw [hd] at this h2; exact this (by simpa using h2)
theorem numV_round {n most : Nat} (r : List Nat) (hn : (n : Int) < 18446744073709551616) (hm : n ≤ most) : numV most (numW n ++ r) = n := by
  unfold numV; rw [if_pos (numGood_round r hn hm), numX_round]
theorem numL_round {n most : Nat} (r : List Nat) (hn : (n : Int) < 18446744073709551616) (hm : n ≤ most) : numL most (numW n ++ r) = r := by
  unfold numL; rw [if_pos (numGood_round r hn hm), numW_cons, List.getD_cons_zero, List.drop_succ_cons, List.drop_left]
theorem numB_round {n most : Nat} (r : List Nat) (hn : (n : Int) < 18446744073709551616) (hm : n ≤ most) : numB most (numW n ++ r) = false := by
  unfold numB; rw [if_pos (numGood_round r hn hm)]
theorem textG_round {most : Nat} (d r : List Nat) (hd : d.length ≤ most) (hm : most ≤ 1000000) : numV most (numW d.length ++ (d ++ r)) = d.length ∧ numL most (numW d.length ++ (d ++ r)) = d ++ r ∧ textGood most (numW d.length ++ (d ++ r)) := by
  have h1 := numV_round (most := most) (d ++ r) (n := d.length) (by omega) hd
  have h2 := numL_round (most := most) (d ++ r) (n := d.length) (by omega) hd
  refine ⟨h1, h2, ?_⟩
  unfold textGood
  rw [h1, h2, List.length_append]; omega
theorem textV_round {most : Nat} (d r : List Nat) (hd : d.length ≤ most) (hm : most ≤ 1000000) : textV most (numW d.length ++ (d ++ r)) = d := by
  obtain ⟨h1, h2, h3⟩ := textG_round d r hd hm
  unfold textV; rw [if_pos h3, h1, h2, List.take_left]
theorem textL_round {most : Nat} (d r : List Nat) (hd : d.length ≤ most) (hm : most ≤ 1000000) : textL most (numW d.length ++ (d ++ r)) = r := by
  obtain ⟨h1, h2, h3⟩ := textG_round d r hd hm
  unfold textL; rw [if_pos h3, h1, h2, List.drop_left]
theorem textB_round {most : Nat} (d r : List Nat) (hd : d.length ≤ most) (hm : most ≤ 1000000) : textB most (numW d.length ++ (d ++ r)) = false := by
  obtain ⟨h1, h2, h3⟩ := textG_round d r hd hm
  unfold textB; rw [if_pos h3, numB_round (d ++ r) (by omega) hd]; rfl
theorem numsW_cons (n : Nat) (ns : List Nat) : numsW (n :: ns) = numW n ++ numsW ns := rfl
theorem numsW_app (a b : List Nat) : numsW (a ++ b) = numsW a ++ numsW b := by simp [numsW]
theorem mem_round {m : Nat} (hm : m ≤ 1000000) : ∀ (k : Nat) (ns : List Nat) (r : List Nat), ns.length = k → (∀ n ∈ ns, n ≤ m) →
    memL m k (numsW ns ++ r) = r ∧ memV m k (numsW ns ++ r) = ns.map (fun n : Nat => (n : Int)) ∧ memB m k (numsW ns ++ r) = false := by
  intro k
  induction k with
  | zero => intro ns r h _; obtain rfl : ns = [] := List.eq_nil_of_length_eq_zero h; exact ⟨rfl, rfl, rfl⟩
  | succ k ih =>
    intro ns r h hle
    obtain ⟨ms, n, rfl⟩ : ∃ ms n, ns = ms ++ [n] := ⟨ns.dropLast, ns.getLast (by intro e; subst e; cases h), (List.dropLast_concat_getLast _).symm⟩
    have hk : ms.length = k := by simpa using h
    have hn : n ≤ m := hle n (by simp)
    have e : numsW (ms ++ [n]) ++ r = numsW ms ++ (numW n ++ r) := by rw [numsW_app]; simp [numsW]
    obtain ⟨i1, i2, i3⟩ := ih ms (numW n ++ r) hk fun x hx => hle x (List.mem_append_left _ hx)
    rw [e]
    refine ⟨?_, ?_, ?_⟩
    · rw [memL, i1]; exact numL_round r (by omega) hn
    · rw [memV, i1, i2, numV_round r (by omega) hn]; simp
    · rw [memB, i1, i3, numB_round r (by omega) hn]; rfl

theorem be3_split (n : Nat) : be3 (n / 65536) (n / 256 % 256) (n % 256) = n := by unfold be3; omega
theorem frP_cons (k : Nat) (l r : List Nat) : ∃ s, s = sumP ([102, k, l.length / 65536, l.length / 256 % 256, l.length % 256] ++ l) ∧
    frP k l ++ r = 102 :: k :: (l.length / 65536) :: (l.length / 256 % 256) :: (l.length % 256) :: (l ++ (s / 65536) :: (s / 256 % 256) :: (s % 256) :: r) := by
  refine ⟨_, rfl, ?_⟩
  unfold frP sealP
  simp
theorem frN_round (k : Nat) (l r : List Nat) : frN (frP k l ++ r) = l.length := by
  obtain ⟨s, _, e⟩ := frP_cons k l r
  rw [e]
  exact be3_split l.length
theorem kind_round (k : Nat) (l r : List Nat) : (frP k l ++ r).getD 1 0 = k := by
  obtain ⟨s, _, e⟩ := frP_cons k l r
  rw [e]; rfl
theorem sizeE_round {k : Nat} {l : List Nat} (r : List Nat) (hk : k ≠ 0) (hl : l.length ≤ 65536) : sizeE (frP k l ++ r) = 0 := by
  have hN := frN_round k l r
  obtain ⟨s, _, e⟩ := frP_cons k l r
  unfold sizeE
  rw [hN, e, if_neg (by simp), if_neg (by simp), if_neg (by simp), if_neg (by simpa using hk), if_neg (by simp), if_neg (by omega), if_neg (by simp)]
theorem getD_app (A B : List Nat) (j : Nat) : (A ++ B).getD (A.length + j) 0 = B.getD j 0 := by
  rw [List.getD_eq_getElem?_getD, List.getD_eq_getElem?_getD, List.getElem?_append_right (by omega), Nat.add_sub_cancel_left]
theorem takeE_round {k : Nat} {l : List Nat} (r : List Nat) (hk : k ≠ 0) (hl : l.length ≤ 65536) : takeE (frP k l ++ r) = 0 := by
  have hN := frN_round k l r
  have hS := sizeE_round (k := k) (l := l) r hk hl
  obtain ⟨s, hs, e⟩ := frP_cons k l r
  unfold takeE
  rw [if_neg (by simp [hS]), hN, if_pos]
  have e1 : (frP k l ++ r).take (l.length + 8) = ([102, k, l.length / 65536, l.length / 256 % 256, l.length % 256] ++ l) ++ [s / 65536, s / 256 % 256, s % 256] := by
    have : frP k l ++ r = (([102, k, l.length / 65536, l.length / 256 % 256, l.length % 256] ++ l) ++ [s / 65536, s / 256 % 256, s % 256]) ++ r := by rw [e]; simp
    rw [this]
    exact List.take_left' (by simp)
  have hlen : ([102, k, l.length / 65536, l.length / 256 % 256, l.length % 256] ++ l).length = l.length + 5 := by simp
  rw [e1]
  unfold SumOk
  rw [List.take_left' hlen, ← hs]
  have g : ∀ j, (([102, k, l.length / 65536, l.length / 256 % 256, l.length % 256] ++ l) ++ [s / 65536, s / 256 % 256, s % 256]).getD (l.length + 5 + j) 0 = [s / 65536, s / 256 % 256, s % 256].getD j 0 := by
    intro j
    rw [← hlen]
    exact getD_app _ _ j
  have g0 := g 0
  rw [Nat.add_zero] at g0
  rw [g0, g 1, g 2]
  exact (be3_split s).symm
theorem frBody_round (k : Nat) (l r : List Nat) : frBody (frP k l ++ r) = l := by
  have hN := frN_round k l r
  obtain ⟨s, _, e⟩ := frP_cons k l r
  unfold frBody
  rw [hN, e]
  have : 102 :: k :: (l.length / 65536) :: (l.length / 256 % 256) :: (l.length % 256) :: (l ++ (s / 65536) :: (s / 256 % 256) :: (s % 256) :: r) = [102, k, l.length / 65536, l.length / 256 % 256, l.length % 256] ++ (l ++ ((s / 65536) :: (s / 256 % 256) :: (s % 256) :: r)) := rfl
  rw [this, ← List.append_assoc, List.take_left' (by simp)]
  rfl
theorem length_frP (k : Nat) (l : List Nat) : (frP k l).length = l.length + 8 := by unfold frP; rw [length_sealP]; simp
theorem WholeOk_round {k : Nat} {l : List Nat} (hk : k ≠ 0) (hl : l.length ≤ 65536) : WholeOk (frP k l) := by
  have h1 := takeE_round (k := k) (l := l) [] hk hl
  have h2 := frN_round k l []
  rw [List.append_nil] at h1 h2
  exact ⟨h1, by rw [h2, length_frP]⟩
theorem snapW_len {s : SnapS} (h : s.ok) : (snapW s).length ≤ 65536 := by
  obtain ⟨h1, h2, h3, h4, h5, h6⟩ := h
  have g1 := headW_len (n := s.i.toNat) (k := s.t.toNat) (by rw [Int.toNat_of_nonneg (by omega)]; exact Int.lt_trans h2 (by decide)) (by rw [Int.toNat_of_nonneg (by omega)]; exact Int.lt_of_le_of_lt h4 (by decide)) s.ms h5.2.1
  have g2 := memsW_len h5 s.ms.length
  rw [List.take_length] at g2
  have g3 := numW_len (n := s.d.length) (by omega)
  unfold snapW
  simp only [List.length_append]
  omega
theorem msOk_toNat {ms : List Int} (h : msOk ms) : (ms.map Int.toNat).map (fun n : Nat => (n : Int)) = ms ∧ ∀ n ∈ ms.map Int.toNat, n ≤ 6 := by
  have hj : ∀ x ∈ ms, 0 ≤ x ∧ x < 7 := by
    intro x hx
    obtain ⟨j, hj, rfl⟩ := List.mem_iff_getElem.1 hx
    have h1 := ok_nonneg h.2.2 j hj
    have h2 := (h.2.2 j hj).2
    rw [getDi hj] at h1 h2
    exact ⟨h1, h2⟩
  refine ⟨?_, ?_⟩
  · rw [List.map_map]
    conv => rhs; rw [← List.map_id ms]
    exact List.map_congr_left fun x hx => by have := hj x hx; show ((x.toNat : Nat) : Int) = x; omega
  · intro n hn
    obtain ⟨x, hx, rfl⟩ := List.mem_map.1 hn
    have := hj x hx
    omega
theorem get_round {m : Nat} (h6 : 6 ≤ m) (hm : m ≤ 7) (s : SnapS) (h : s.ok) : getS m (snapW s) = s ∧ getL m (snapW s) = [] ∧ getB m (snapW s) = false := by
  obtain ⟨h1, h2, h3, h4, h5, hd⟩ := h
  obtain ⟨i, t, ms, d⟩ := s
  simp only at h1 h2 h3 h4 h5 hd
  obtain ⟨n, rfl⟩ : ∃ n : Nat, i = n := ⟨i.toNat, by omega⟩
  obtain ⟨k, rfl⟩ : ∃ n : Nat, t = n := ⟨t.toNat, by omega⟩
  obtain ⟨hmm, hml⟩ := msOk_toNat h5
  have e : snapW ⟨n, k, ms, d⟩ = numW n ++ (numW k ++ (numW ms.length ++ (numsW (ms.map Int.toNat) ++ (numW d.length ++ (d ++ []))))) := by
    unfold snapW
    simp [numsW]
  have hn : (n : Int) < 18446744073709551616 := Int.lt_trans h2 (by decide)
  have hk : (k : Int) < 18446744073709551616 := Int.lt_of_le_of_lt h4 (by decide)
  have hn' : n ≤ H59 := by unfold H59; omega
  have hk' : k ≤ H60 := by unfold H60; omega
  have hl7 : ms.length ≤ 7 := h5.2.1
  rw [e]
  have r1 := numL_round (most := H59) (n := n) (numW k ++ (numW ms.length ++ (numsW (ms.map Int.toNat) ++ (numW d.length ++ (d ++ []))))) hn hn'
  have v1 := numV_round (most := H59) (n := n) (numW k ++ (numW ms.length ++ (numsW (ms.map Int.toNat) ++ (numW d.length ++ (d ++ []))))) hn hn'
  have b1 := numB_round (most := H59) (n := n) (numW k ++ (numW ms.length ++ (numsW (ms.map Int.toNat) ++ (numW d.length ++ (d ++ []))))) hn hn'
  have r2 := numL_round (most := H60) (n := k) (numW ms.length ++ (numsW (ms.map Int.toNat) ++ (numW d.length ++ (d ++ [])))) hk hk'
  have v2 := numV_round (most := H60) (n := k) (numW ms.length ++ (numsW (ms.map Int.toNat) ++ (numW d.length ++ (d ++ [])))) hk hk'
  have b2 := numB_round (most := H60) (n := k) (numW ms.length ++ (numsW (ms.map Int.toNat) ++ (numW d.length ++ (d ++ [])))) hk hk'
  have r3 := numL_round (most := 7) (n := ms.length) (numsW (ms.map Int.toNat) ++ (numW d.length ++ (d ++ []))) (by omega) hl7
  have v3 := numV_round (most := 7) (n := ms.length) (numsW (ms.map Int.toNat) ++ (numW d.length ++ (d ++ []))) (by omega) hl7
  have b3 := numB_round (most := 7) (n := ms.length) (numsW (ms.map Int.toNat) ++ (numW d.length ++ (d ++ []))) (by omega) hl7
  obtain ⟨r4, v4, b4⟩ := mem_round (m := m) (by omega) ms.length (ms.map Int.toNat) (numW d.length ++ (d ++ [])) (by simp) (fun x hx => Nat.le_trans (hml x hx) h6)
  have v5 := textV_round (most := 32768) d [] hd (by decide)
  have r5 := textL_round (most := 32768) d [] hd (by decide)
  have b5 := textB_round (most := 32768) d [] hd (by decide)
  unfold getS getL getB rest4 rest3 memN rest2 rest1
  rw [r1, v1, b1, r2, v2, b2, r3, v3, b3, r4, v4, b4, v5, r5, b5, hmm]
  exact ⟨rfl, rfl, rfl⟩
theorem read_round (m : Nat) (h6 : 6 ≤ m) (hm : m ≤ 7) (s : SnapS) (h : s.ok) : readB m (frP 4 (snapW s)) = true ∧ readS m (frP 4 (snapW s)) = s := by
  obtain ⟨g1, g2, g3⟩ := get_round h6 hm s h
  have hb := frBody_round 4 (snapW s) []
  have hk := kind_round 4 (snapW s) []
  rw [List.append_nil] at hb hk
  have hok : readOk m (frP 4 (snapW s)) := by
    refine ⟨WholeOk_round (by decide) (snapW_len h), hk, ?_, ?_⟩
    · rw [hb, g2, g3]; rfl
    · rw [hb, g1]; exact h
  obtain ⟨e1, e2⟩ := read_yes hok
  exact ⟨e1, by rw [e2, hb, g1]⟩
end Go.Proofs.Ytofhccpagnkalaa

/- The program's 'Same' of two snapshots, with slices.Equal and bytes.Equal; no conditions but the ranges. -/
namespace Go.Proofs.Ytofhccpagnkalaa
open Go.RowKit Go.Maps Go.Proofs.Own

set_option maxHeartbeats 2000000 in
set_option maxRecDepth 20000 in
theorem seq_any (v1 v2 : Value) (ms ns : List Int) (w : World) (hm : Ints w v1 ms) (hn : Ints w v2 ns) :
    Calls Try.prog 51 #[v1, v2] w fun e w' => e = .returned (.bool (decide (ms = ns))) ∧ Below w.heap.size w w' := by
  have hml : (ms.length : Int) ≤ 2097152 := by have := hm.small; omega
  have hnl : (ns.length : Int) ≤ 2097152 := by have := hn.small; omega
  obtain ⟨am, cm, rfl, _⟩ := hm.shape
  obtain ⟨an, cn, rfl, _⟩ := hn.shape
  have HMC := Lib.hid hm.cells.2.2
  have HNC := Lib.hid hn.cells.2.2
  clear hm hn
  by_cases q3 : ms.length = ns.length
  · have b3 : ((ms.length : Int) != (ns.length : Int)) = false := by rw [q3]; simp
    have Q3 := Lib.hid q3
    clear q3
    go_enter Try.func51, Try.ntmps51
    go_wp2_with fail
    go_loopw [13] (fun x wr => ∃ k : Nat, k ≤ ms.length ∧ x = .int .i64 k ∧ ms.take k = ns.take k ∧ Below w.heap.size w wr) (fun x _ => ms.length - (intOf x).toNat)
    case atStart => exact ⟨0, Nat.zero_le _, rfl, by simp, Below.refl _ _⟩
    case round =>
      obtain ⟨k, hk, rfl, htk, hbl⟩ := hrel
      have HTK := Lib.hid htk
      have HB := Lib.hid hbl
      clear htk hbl
      by_cases hlt : k < ms.length
      · have hlt2 : k < ns.length := by have := Q3.out; omega
        obtain ⟨b1, o1, rfl, h1⟩ := HMC.out k hlt
        obtain ⟨b2, o2, rfl, h2⟩ := HNC.out k hlt2
        have g1 := Below.at HB.out h1 (World.block_lt_of_cell? _ _ h1)
        have g2 := Below.at HB.out h2 (World.block_lt_of_cell? _ _ h2)
        have k1 : (k : Int) < (ms.length : Int) := by omega
        have k2 : (k : Int) < (ns.length : Int) := by omega
        have k0 : (0 : Int) ≤ (k : Int) := by omega
        have HTS : Hid (ms.take (k + 1) = ms.take k ++ [ms[k]] ∧ ns.take (k + 1) = ns.take k ++ [ns[k]]) := Lib.hid ⟨List.take_succ_eq_append_getElem hlt, List.take_succ_eq_append_getElem hlt2⟩
        have HG : Hid (ms = ns → ms[k] = ns[k]) := Lib.hid fun h => by subst h; rfl
        clear h1 h2
        generalize ms[k] = x at g1 HTS HG
        generalize ns[k] = y at g2 HTS HG
        by_cases hxy : x = y
        · have bx : (x != y) = false := by simp [hxy]
          have HXY := Lib.hid hxy
          clear hxy
          go_wp2_with fail
          go_quiet (fail)
          go_wp2_with fail
          go_roundw
          case rel => exact ⟨k + 1, by omega, by go_num, by rw [HTS.out.1, HTS.out.2, HTK.out, HXY.out], HB.out.trans ((Below.drewN _ _).mono HB.out.size)⟩
          case measure => simp [intOf]; omega
        · have bx : (x != y) = true := by simp [hxy]
          have HV : Hid (decide (ms = ns) = false) := Lib.hid (decide_eq_false fun h => hxy (HG.out h))
          clear hxy
          go_wp2_with fail
          go_quiet (fail)
          go_wp2_with fail
          go_ret
          exact ⟨by rw [HV.out]; rfl, HB.out.trans ((Below.drewN _ _).mono HB.out.size)⟩
      · obtain rfl : k = ms.length := by omega
        have HV : Hid (decide (ms = ns) = true) := Lib.hid (decide_eq_true (by have := HTK.out; rw [List.take_length, Q3.out, List.take_length] at this; exact this))
        go_wp2_with fail
        go_ret
        exact ⟨by rw [HV.out]; rfl, HB.out⟩
  · have b3 : ((ms.length : Int) != (ns.length : Int)) = true := by simp; omega
    have HV : Hid (decide (ms = ns) = false) := Lib.hid (decide_eq_false fun h => q3 (by rw [h]))
    rw [HV.out]
    clear q3
    go_enter Try.func51, Try.ntmps51
    go_wp2_with fail
    go_ret
    exact ⟨rfl, Below.refl _ _⟩

set_option maxHeartbeats 1000000 in
theorem beq_any (v1 v2 : Value) (d e : List Nat) (w : World) (hd : Bytes w v1 d) (he : Bytes w v2 e) :
    Calls Try.prog 52 #[v1, v2] w fun E w' => E = .returned (.bool (decide (d = e))) ∧ w = w' := by
  have c1 : (convert 22 9 v1).run Try.prog w = .ok (.string (strN d)) w := hd.str Try.underlying22 Try.underlying5 Try.underlying9
  have c2 : (convert 22 9 v2).run Try.prog w = .ok (.string (strN e)) w := he.str Try.underlying22 Try.underlying5 Try.underlying9
  have HDE : Hid (strN d = strN e ↔ d = e) := Lib.hid ⟨fun h => strN_inj hd.lt he.lt h, fun h => by rw [h]⟩
  obtain ⟨a1, k1, rfl, _⟩ := hd.shape
  obtain ⟨a2, k2, rfl, _⟩ := he.shape
  clear hd he
  by_cases q : d = e
  · have b4 : ((strN d).toList == (strN e).toList) = true := str_eq_of (HDE.out.2 q)
    have HV : Hid (decide (d = e) = true) := Lib.hid (decide_eq_true q)
    rw [HV.out]
    clear q
    go_enter Try.func52, Try.ntmps52
    go_wp2_with fail
    go_ret
    exact ⟨rfl, rfl⟩
  · have b4 : ((strN d).toList == (strN e).toList) = false := str_ne fun h => q (HDE.out.1 h)
    have HV : Hid (decide (d = e) = false) := Lib.hid (decide_eq_false q)
    rw [HV.out]
    clear q
    go_enter Try.func52, Try.ntmps52
    go_wp2_with fail
    go_ret
    exact ⟨rfl, rfl⟩

set_option maxHeartbeats 2000000 in
set_option maxRecDepth 20000 in
theorem ssame_any (v1 v2 : Value) (s r : SnapS) (w : World) (hs : SnapIs w v1 s) (hr : SnapIs w v2 r) :
    Calls Try.prog 18 #[v1, v2] w fun e w' => e = .returned (.bool (s.sameB r)) ∧ Below w.heap.size w w' := by
  obtain ⟨mv, dv, rfl, hm, hd⟩ := hs
  obtain ⟨nv, ev, rfl, hn, he⟩ := hr
  obtain ⟨i, t, ms, d⟩ := s
  obtain ⟨j, u, ns, e⟩ := r
  simp only at hm hd hn he ⊢
  obtain ⟨am, cm, rfl, _⟩ := hm.shape
  obtain ⟨an, cn, rfl, _⟩ := hn.shape
  obtain ⟨ad, cd, rfl, _⟩ := hd.shape
  obtain ⟨ae, ce, rfl, _⟩ := he.shape
  have HM := Lib.hid hm
  have HN := Lib.hid hn
  have HD := Lib.hid hd
  have HE := Lib.hid he
  clear hm hn hd he
  have AL : Hid (∀ o1 o2 : Obj, Below w.heap.size w ((w.alloc o1).alloc o2)) := Lib.hid fun o1 o2 => ((Below.refl _ _).alloc (Nat.le_refl _) _).alloc (by simp) _
  by_cases q1 : i = j
  · have b1 : (i == j) = true := by simp [q1]
    by_cases q2 : t = u
    · have b2 : (t == u) = true := by simp [q2]
      by_cases q3 : ms = ns
      · have Q3 : Hid (decide (ms = ns) = true) := Lib.hid (decide_eq_true q3)
        have HV : Hid ((SnapS.mk i t ms d).sameB (SnapS.mk j u ns e) = decide (d = e)) := Lib.hid (by
          unfold SnapS.sameB SnapS.same
          simp [q1, q2, q3])
        rw [HV.out]
        clear q1 q2 q3
        go_enter Try.func18, Try.ntmps18
        go_wp2_with fail
        generalize hW : World.alloc (World.alloc w _) _ = W
        have BW : Hid (Below w.heap.size w W) := Lib.hid (by subst hW; exact AL.out _ _)
        have a3 : W.cell? ⟨w.heap.size, 3, none⟩ = some (.slice ad d.length cd) := by subst hW; go_cell
        have e3 : W.cell? ⟨w.heap.size + 1, 3, none⟩ = some (.slice ae e.length ce) := by subst hW; go_cell
        clear hW
        refine (seq_any _ _ ms ns W (HM.out.below BW.out) (HN.out.below BW.out)).mono ?_
        rintro E w1 ⟨rfl, hb1⟩
        have B1 : Hid (Below w.heap.size w w1) := Lib.hid (BW.out.trans (hb1.mono BW.out.size))
        have a3' := Below.at hb1 a3 (World.block_lt_of_cell? _ _ a3)
        have e3' := Below.at hb1 e3 (World.block_lt_of_cell? _ _ e3)
        clear hb1 a3 e3
        rw [Q3.out]
        go_wp2_with fail
        refine (beq_any _ _ d e w1 (HD.out.below B1.out) (HE.out.below B1.out)).mono ?_
        rintro E w2 ⟨rfl, rfl⟩
        go_wp2_with fail
        go_ret
        exact ⟨rfl, B1.out⟩
      · have Q3 : Hid (decide (ms = ns) = false) := Lib.hid (decide_eq_false q3)
        have HV : Hid ((SnapS.mk i t ms d).sameB (SnapS.mk j u ns e) = false) := Lib.hid (decide_eq_false fun h => q3 h.2.2.1)
        rw [HV.out]
        clear q1 q2 q3
        go_enter Try.func18, Try.ntmps18
        go_wp2_with fail
        generalize hW : World.alloc (World.alloc w _) _ = W
        have BW : Hid (Below w.heap.size w W) := Lib.hid (by subst hW; exact AL.out _ _)
        clear hW
        refine (seq_any _ _ ms ns W (HM.out.below BW.out) (HN.out.below BW.out)).mono ?_
        rintro E w1 ⟨rfl, hb1⟩
        have B1 : Hid (Below w.heap.size w w1) := Lib.hid (BW.out.trans (hb1.mono BW.out.size))
        clear hb1
        rw [Q3.out]
        go_wp2_with fail
        go_ret
        exact ⟨rfl, B1.out⟩
    · have b2 : (t == u) = false := by simp [q2]
      have HV : Hid ((SnapS.mk i t ms d).sameB (SnapS.mk j u ns e) = false) := Lib.hid (decide_eq_false fun h => q2 h.2.1)
      rw [HV.out]
      clear q1 q2
      go_enter Try.func18, Try.ntmps18
      go_wp2_with fail
      go_ret
      exact ⟨rfl, AL.out _ _⟩
  · have b1 : (i == j) = false := by simp [q1]
    have HV : Hid ((SnapS.mk i t ms d).sameB (SnapS.mk j u ns e) = false) := Lib.hid (decide_eq_false fun h => q1 h.1)
    rw [HV.out]
    clear q1
    go_enter Try.func18, Try.ntmps18
    go_wp2_with fail
    go_ret
    exact ⟨rfl, AL.out _ _⟩
end Go.Proofs.Ytofhccpagnkalaa

/- Laws at an operation under a guard that is met; no conditions. -/
namespace Go.Proofs.Ytofhccpagnkalaa
open Go.RowKit Go.Maps Go.Proofs.Own

section
variable {P : Program} {ops : Array Oper} {rest : List Oper} {o : Oper} {a : Act} {Q : Exit → Act → World → Prop} {w : World}
theorem wpList_wanted (hw : Region.wanted o (yielded ops a.tmps) = true) (h : ∀ K : Act → World → Prop, (∀ a w, wpList P ops Q rest a w → K a w) → o.wp P a w K Q) : wpList P ops Q (o :: rest) a w :=
  wpList_step fun K hK => by rw [if_pos hw]; exact h K hK
theorem wpList_to_strG (hw : Region.wanted o (yielded ops a.tmps) = true) (src dst e : TypeId) (x : Operand) (hop : o.op = Op.convert src dst x) (hs : P.underlying src = some (.slice e)) (he : P.underlying e = some (.int .u8)) (hd : P.underlying dst = some .string)
    (v : Value) (l : List Nat) (hx : a.eval x = v) (hB : Bytes w v l)
    (hK : wpList P ops Q rest (a.put o.dst (.string (strN l))) w) : wpList P ops Q (o :: rest) a w := by
  refine wpList_wanted hw fun K' hK' => ?_
  have hrun := hB.str hs he hd
  unfold Oper.wp
  simp [execOp, hop, hx, hrun, Result.andThen]
  exact hK' _ _ hK
end
end Go.Proofs.Ytofhccpagnkalaa

/- The law of a snapshot's bytes, walked; no conditions. -/
namespace Go.Proofs.Ytofhccpagnkalaa
open Go.RowKit Go.Maps Go.Proofs.Own

set_option maxHeartbeats 1000000 in
theorem light_yes (i t : Int) (am ad : Option Addr) (nm cm nd cd : Nat) (w : World) (h1 : nm ≤ 30) (h2 : nd ≤ 33000) :
    Calls Try.prog 15 #[.agg #[.int .u64 i, .int .u64 t, .slice am nm cm, .slice ad nd cd]] w fun e w' => e = .returned (.bool true) ∧ Below w.heap.size w w' := by
  have b1 : (nm : Int) ≤ 30 := by omega
  have b2 : (nd : Int) ≤ 33000 := by omega
  go_enter Try.func15, Try.ntmps15
  go_wp2_with fail
  go_ret
  exact ⟨rfl, (Below.refl _ _).alloc (Nat.le_refl _) _⟩
set_option maxHeartbeats 1000000 in
theorem light_no (i t : Int) (am ad : Option Addr) (nm cm nd cd : Nat) (w : World) (h : ¬ (nm ≤ 30 ∧ nd ≤ 33000)) :
    Calls Try.prog 15 #[.agg #[.int .u64 i, .int .u64 t, .slice am nm cm, .slice ad nd cd]] w fun e w' => e = .returned (.bool false) ∧ Below w.heap.size w w' := by
  by_cases h1 : nm ≤ 30
  · have b1 : (nm : Int) ≤ 30 := by omega
    have b2 : ¬ (nd : Int) ≤ 33000 := by omega
    clear h h1
    go_enter Try.func15, Try.ntmps15
    go_wp2_with fail
    go_ret
    exact ⟨rfl, (Below.refl _ _).alloc (Nat.le_refl _) _⟩
  · have b1 : ¬ (nm : Int) ≤ 30 := by omega
    clear h h1
    go_enter Try.func15, Try.ntmps15
    go_wp2_with fail
    go_ret
    exact ⟨rfl, (Below.refl _ _).alloc (Nat.le_refl _) _⟩

/-- The slice at ad: n cells of a block of its own that may be written. -/
def Row (w : World) (ad : Option Addr) (n : Nat) : Prop := ∀ j, j < n → ∃ g, ad = some ⟨g, 0, none⟩ ∧ (∃ u, w.cell? ⟨g, j, none⟩ = some u) ∧ w.frozen? ⟨g, j, none⟩ = false
theorem Row.of_owns {w : World} {base : Nat} {e : TypeId} {k : IntKind} {a : Option Addr} {n c : Nat} {zs : List Int} (h : Owns w base e k (.slice a n c) zs) : Row w a zs.length := by
  intro j hj
  rcases h.2 with ⟨e, h0⟩ | ⟨g, cap, cur, e, _⟩
  · omega
  · cases e
    exact ⟨g, rfl, ⟨_, (World.ownsRow.cellAt h j (by omega)).trans (by rw [List.getElem?_map, List.getElem?_eq_getElem hj]; rfl)⟩, World.ownsRow.frozenAt h j⟩
theorem Row.set {w : World} {ad : Option Addr} {n : Nat} (h : Row w ad n) (x : Addr) (v : Value) : Row (w.setCell x v) ad n := by
  intro j hj
  obtain ⟨g, rfl, ⟨u, hu⟩, hf⟩ := h j hj
  refine ⟨g, rfl, ?_, by rw [World.frozen?_setCell]; exact hf⟩
  by_cases e : x = ⟨g, j, none⟩
  · subst e; exact ⟨v, World.cell?_setCell_same _ _ _ hu⟩
  · exact ⟨u, by rw [World.cell?_setCell_other _ _ _ _ e]; exact hu⟩
theorem Row.below {w w' : World} {ad : Option Addr} {n : Nat} (h : Row w ad n) (hb : Below w.heap.size w w') : Row w' ad n := by
  intro j hj
  obtain ⟨g, rfl, ⟨u, hu⟩, hf⟩ := h j hj
  have hl : g < w.heap.size := World.block_lt_of_cell? _ _ hu
  exact ⟨g, rfl, ⟨u, Below.at hb hu hl⟩, by rw [hb.frozen (p := ⟨g, j, none⟩) hl]; exact hf⟩

set_option maxHeartbeats 4000000 in
set_option maxRecDepth 20000 in
theorem sbl_no (x : Int) (v1 v2 : Value) (s r : SnapS) (w : World) (hs : SnapIs w v1 s) (hr : SnapIs w v2 r) (hok : ¬ s.ok) (l1 : s.ms.length ≤ 30) (l2 : s.d.length ≤ 33000) (l3 : r.ms.length ≤ 30) (l4 : r.d.length ≤ 33000) :
    Calls Try.prog 4 #[v1, v2, .int .u8 x] w fun e w' => e = .returned (.bool true) ∧ Below w.heap.size w w' := by
  have HS := Lib.hid hs
  have HR := Lib.hid hr
  have HOO := Lib.hid hok
  have HOK : Hid (s.okB = false) := Lib.hid (by unfold SnapS.okB; simpa using hok)
  have HSS : Hid (s.sameB s = true) := Lib.hid s.sameB_refl
  obtain ⟨q, hq⟩ : ∃ q, s.sameB r = q := ⟨_, rfl⟩
  have HQ := Lib.hid hq
  have hqq : (q != q) = false := by simp
  obtain ⟨mv, dv, rfl, hm, hd⟩ := hs
  obtain ⟨a, c, rfl, _⟩ := hd.shape
  obtain ⟨am, cm, rfl, _⟩ := hm.shape
  obtain ⟨mv2, dv2, rfl, hm2, hd2⟩ := hr
  obtain ⟨b, k, rfl, _⟩ := hd2.shape
  obtain ⟨bm, km, rfl, _⟩ := hm2.shape
  have L1 := Lib.hid (And.intro l1 (And.intro l2 (And.intro l3 l4)))
  clear hm hd hm2 hd2 hok hq l1 l2 l3 l4
  go_enter Try.func4, Try.ntmps4
  go_wp2_with fail
  generalize hw1 : World.alloc (World.alloc w _) _ = w1
  have B1 : Hid (Below w.heap.size w w1) := Lib.hid (by subst hw1; exact ((Below.refl _ _).alloc (Nat.le_refl _) _).alloc (by simp) _)
  have S01 : Hid (SBlk w1 w.heap.size s.i s.t (.slice am s.ms.length cm) (.slice a s.d.length c)) := Lib.hid (by subst hw1; exact (SBlk.box w _ _ _ _).below ((Below.refl _ _).alloc (Nat.le_refl _) _))
  have S11 : Hid (SBlk w1 (w.heap.size + 1) r.i r.t (.slice bm r.ms.length km) (.slice b r.d.length k)) := Lib.hid (by subst hw1; have h := SBlk.box (w.alloc (.cells #[.int .u64 s.i, .int .u64 s.t, .slice am s.ms.length cm, .slice a s.d.length c] 27)) r.i r.t (.slice bm r.ms.length km) (.slice b r.d.length k); simpa using h)
  clear hw1
  refine (light_yes _ _ _ _ _ _ _ _ w1 L1.out.1 L1.out.2.1).mono ?_
  rintro e w2 ⟨rfl, hb2⟩
  have B2 : Hid (Below w.heap.size w w2) := Lib.hid (B1.out.trans (hb2.mono B1.out.size))
  have S02 := Lib.hid (S01.out.below hb2)
  have S12 := Lib.hid (S11.out.below hb2)
  clear hb2
  obtain ⟨q0, q1, q2, q3, _, _, _, _⟩ := S12.out
  go_wp2_with fail
  refine (light_yes _ _ _ _ _ _ _ _ w2 L1.out.2.2.1 L1.out.2.2.2).mono ?_
  rintro e wA ⟨rfl, hb3⟩
  have BA : Hid (Below w.heap.size w wA) := Lib.hid (B2.out.trans (hb3.mono B2.out.size))
  have S0 := Lib.hid (S02.out.below hb3)
  have S1 := Lib.hid (S12.out.below hb3)
  have XS := Lib.hid (HS.out.below BA.out)
  have XR := Lib.hid (HR.out.below BA.out)
  have ST := Stable.from wA
  clear hb3 q0 q1 q2 q3
  go_wp2_with fail
  refine region_start [0, 1, 0, 7, 15, 31, 63, 63, 255, 63, 63, 2047, 4095, 8191, 16383, 32767, 32767, 131071, 262143, 524287] 100290 (fun w' => Below wA.heap.size wA w') (by kernel_rfl) ?_
  refine stage_heads [0, 2] (by kernel_rfl) (L := #[true, false, true, false, false, false, false, false, false, false, false, false, false, false, false, false, false, false, false, false]) (by kernel_rfl) (f' := 18) rfl (fun _ _ _ _ h => h) (fun w o h => ST.alloc h o) (.inr (by first | exact Below.refl _ _ | exact (Below.refl _ _).drew)) ?_
  simp only [List.flatMap_cons, List.flatMap_nil, List.drop_succ_cons, List.drop_zero, List.take_succ_cons, List.take_zero, List.cons_append, List.nil_append, List.append_nil]
  iterate 2 (first | (refine heads_load _ (by rfl) (fun w' hs => by obtain ⟨r0, r1, r2, r3, _, _, _, _⟩ := S0.out.below hs; obtain ⟨q0, q1, q2, q3, _, _, _, _⟩ := S1.out.below hs; go_simp; try with_reducible rfl) rfl ?_; simp only [Act.put, List.setIfInBounds_toArray, List.set_cons_zero, List.set_cons_succ]) | (refine heads_pure _ (by rfl) (fun w' => by go_simp; try with_reducible rfl) ?_; simp only [Act.put, List.setIfInBounds_toArray, List.set_cons_zero, List.set_cons_succ]))
  refine heads_nil ?_
  refine stage_op 1 (by kernel_rfl) (L := #[true, true, true, false, false, false, false, false, false, false, false, false, false, false, false, false, false, false, false, false]) (by kernel_rfl) ?_
  simp only [List.drop_succ_cons, List.drop_zero, List.take_succ_cons, List.take_zero]
  go_wp2_with fail; refine (sound_any _ s _ (XS.out.below (by first | exact Below.refl _ _ | exact (Below.refl _ _).drew))).mono ?_; rintro e u1 ⟨rfl, hb⟩; have I1 : Hid (Below wA.heap.size wA u1) := Lib.hid (ST.below (by first | exact Below.refl _ _ | exact (Below.refl _ _).drew) hb); clear hb; rw [HOK.out]; go_wp2_with fail
  refine step_post (fun _ => I1.out) ?_
  refine stage_op 3 (by kernel_rfl) (L := #[true, true, true, true, false, false, false, false, false, false, false, false, false, false, false, false, false, false, false, false]) (by kernel_rfl) ?_
  simp only [List.drop_succ_cons, List.drop_zero, List.take_succ_cons, List.take_zero]
  go_wp2_with fail; refine (rsound_any _ s _ (XS.out.below (by first | exact I1.out | exact ST.drew I1.out | exact Below.refl _ _ | exact (Below.refl _ _).drew))).mono ?_; rintro e u3 ⟨rfl, hb⟩; have I3 : Hid (Below wA.heap.size wA u3) := Lib.hid (ST.below (by first | exact I1.out | exact ST.drew I1.out | exact Below.refl _ _ | exact (Below.refl _ _).drew) hb); clear hb; rw [HOK.out]; go_wp2_with fail
  refine step_post nofun ?_
  refine stage_heads [4, 5, 6, 7, 9, 10] (by kernel_rfl) (L := #[true, true, true, true, true, true, true, true, false, true, true, false, false, false, false, false, false, false, false, false]) (by kernel_rfl) (f' := 10) rfl (fun _ _ _ _ h => h) (fun w o h => ST.alloc h o) (.inr (by first | exact I11.out | exact I8.out | exact I3.out | exact ST.drew I11.out | exact ST.drew I8.out | exact ST.drew I3.out)) ?_
  simp only [List.flatMap_cons, List.flatMap_nil, List.drop_succ_cons, List.drop_zero, List.take_succ_cons, List.take_zero, List.cons_append, List.nil_append, List.append_nil]
  iterate 6 (first | (refine heads_load _ (by rfl) (fun w' hs => by obtain ⟨r0, r1, r2, r3, _, _, _, _⟩ := S0.out.below hs; obtain ⟨q0, q1, q2, q3, _, _, _, _⟩ := S1.out.below hs; go_simp; try with_reducible rfl) rfl ?_; simp only [Act.put, List.setIfInBounds_toArray, List.set_cons_zero, List.set_cons_succ]) | (refine heads_pure _ (by rfl) (fun w' => by go_simp; try with_reducible rfl) ?_; simp only [Act.put, List.setIfInBounds_toArray, List.set_cons_zero, List.set_cons_succ]))
  refine heads_nil ?_
  refine stage_op 8 (by kernel_rfl) (L := #[true, true, true, true, true, true, true, true, true, true, true, false, false, false, false, false, false, false, false, false]) (by kernel_rfl) ?_
  simp only [List.drop_succ_cons, List.drop_zero, List.take_succ_cons, List.take_zero]
  go_wp2_with fail; refine (ssame_any _ _ s r _ (XS.out.below (by first | exact I3.out | exact ST.drew I3.out | exact Below.refl _ _ | exact (Below.refl _ _).drew)) (XR.out.below (by first | exact I3.out | exact ST.drew I3.out | exact Below.refl _ _ | exact (Below.refl _ _).drew))).mono ?_; rintro e u8 ⟨rfl, hb⟩; have I8 : Hid (Below wA.heap.size wA u8) := Lib.hid (ST.below (by first | exact I3.out | exact ST.drew I3.out | exact Below.refl _ _ | exact (Below.refl _ _).drew) hb); clear hb; rw [HQ.out]; go_wp2_with fail
  refine step_post (fun _ => I8.out) ?_
  refine stage_op 11 (by kernel_rfl) (L := #[true, true, true, true, true, true, true, true, true, true, true, true, false, false, false, false, false, false, false, false]) (by kernel_rfl) ?_
  simp only [List.drop_succ_cons, List.drop_zero, List.take_succ_cons, List.take_zero]
  go_wp2_with fail; refine (rsame_any _ _ s r _ (XS.out.below (by first | exact I8.out | exact ST.drew I8.out | exact Below.refl _ _ | exact (Below.refl _ _).drew)) (XR.out.below (by first | exact I8.out | exact ST.drew I8.out | exact Below.refl _ _ | exact (Below.refl _ _).drew))).mono ?_; rintro e u11 ⟨rfl, hb⟩; have I11 : Hid (Below wA.heap.size wA u11) := Lib.hid (ST.below (by first | exact I8.out | exact ST.drew I8.out | exact Below.refl _ _ | exact (Below.refl _ _).drew) hb); clear hb; rw [HQ.out]; go_wp2_with fail
  refine step_post nofun ?_
  refine stage_heads [12, 13, 14, 15, 16] (by kernel_rfl) (L := #[true, true, true, true, true, true, true, true, true, true, true, true, true, true, true, true, true, false, false, false]) (by kernel_rfl) (f' := 3) rfl (fun _ _ _ _ h => h) (fun w o h => ST.alloc h o) (.inr (by first | exact I11.out | exact I8.out | exact I3.out | exact ST.drew I11.out | exact ST.drew I8.out | exact ST.drew I3.out)) ?_
  simp only [List.flatMap_cons, List.flatMap_nil, List.drop_succ_cons, List.drop_zero, List.take_succ_cons, List.take_zero, List.cons_append, List.nil_append, List.append_nil]
  iterate 5 (first | (refine heads_load _ (by rfl) (fun w' hs => by obtain ⟨r0, r1, r2, r3, _, _, _, _⟩ := S0.out.below hs; obtain ⟨q0, q1, q2, q3, _, _, _, _⟩ := S1.out.below hs; go_simp; try with_reducible rfl) rfl ?_; simp only [Act.put, List.setIfInBounds_toArray, List.set_cons_zero, List.set_cons_succ]) | (refine heads_pure _ (by rfl) (fun w' => by go_simp; try with_reducible rfl) ?_; simp only [Act.put, List.setIfInBounds_toArray, List.set_cons_zero, List.set_cons_succ]))
  refine heads_nil ?_
  refine stage_op 17 (by kernel_rfl) (L := #[true, true, true, true, true, true, true, true, true, true, true, true, true, true, true, true, true, true, false, false]) (by kernel_rfl) ?_
  simp only [List.drop_succ_cons, List.drop_zero, List.take_succ_cons, List.take_zero]
  go_wp2_with fail; refine (ssame_any _ _ s s _ (XS.out.below (by first | exact I11.out | exact ST.drew I11.out | exact Below.refl _ _ | exact (Below.refl _ _).drew)) (XS.out.below (by first | exact I11.out | exact ST.drew I11.out | exact Below.refl _ _ | exact (Below.refl _ _).drew))).mono ?_; rintro e u17 ⟨rfl, hb⟩; have I17 : Hid (Below wA.heap.size wA u17) := Lib.hid (ST.below (by first | exact I11.out | exact ST.drew I11.out | exact Below.refl _ _ | exact (Below.refl _ _).drew) hb); clear hb; rw [HSS.out]; go_wp2_with fail
  refine step_post nofun ?_
  refine stage_heads [18, 19] (by kernel_rfl) (L := #[true, true, true, true, true, true, true, true, true, true, true, true, true, true, true, true, true, true, true, true]) (by kernel_rfl) (f' := 0) rfl (fun _ _ _ _ h => h) (fun w o h => ST.alloc h o) (.inl (by kernel_rfl)) ?_
  simp only [List.flatMap_cons, List.flatMap_nil, List.drop_succ_cons, List.drop_zero, List.take_succ_cons, List.take_zero, List.cons_append, List.nil_append, List.append_nil]
  iterate 2 (refine heads_pure _ (by rfl) (fun w' => by go_simp; try with_reducible rfl) ?_; simp only [Act.put, List.setIfInBounds_toArray, List.set_cons_zero, List.set_cons_succ])
  refine heads_nil ?_
  refine stage_done (by kernel_rfl) ?_
  have B17 : Hid (Below w.heap.size w u17) := Lib.hid (BA.out.trans (I17.out.mono BA.out.size))
  obtain ⟨r0, r1, r2, r3, _, _, _, _⟩ := S0.out.below I17.out
  go_wp2_with fail
  refine (sbytes_no _ s u17 (XS.out.below I17.out) HOO.out).mono ?_
  rintro e w4 ⟨rfl, hb4⟩
  have I4 : Hid (Below wA.heap.size wA w4) := Lib.hid (ST.below I17.out hb4)
  clear hb4 r0 r1 r2 r3
  obtain ⟨r0, r1, r2, r3, _, _, _, _⟩ := S0.out.below I4.out
  go_wp2_with fail
  refine (rsound_any _ s w4 (XS.out.below I4.out)).mono ?_
  rintro e w5 ⟨rfl, hb5⟩
  have I5 : Hid (Below wA.heap.size wA w5) := Lib.hid (ST.below I4.out hb5)
  clear hb5 r0 r1 r2 r3
  rw [HOK.out]
  go_wp2_with fail
  refine (lives_any _).mono ?_
  rintro e wz ⟨rfl, hbz⟩
  have BZ : Hid (Below w.heap.size w wz) := Lib.hid ((BA.out.trans (I5.out.mono BA.out.size)).trans (hbz.mono (BA.out.trans (I5.out.mono BA.out.size)).size))
  clear hbz
  go_wp2_with fail
  go_ret
  exact ⟨rfl, BZ.out⟩

set_option maxHeartbeats 4000000 in
set_option maxRecDepth 20000 in
theorem sbl_yes (x : Int) (v1 v2 : Value) (s r : SnapS) (w : World) (hs : SnapIs w v1 s) (hr : SnapIs w v2 r) (hok : s.ok) (l1 : s.ms.length ≤ 30) (l2 : s.d.length ≤ 33000) (l3 : r.ms.length ≤ 30) (l4 : r.d.length ≤ 33000) :
    Calls Try.prog 4 #[v1, v2, .int .u8 x] w fun e w' => e = .returned (.bool true) ∧ Below w.heap.size w w' := by
  have HS := Lib.hid hs
  have HR := Lib.hid hr
  have HOO := Lib.hid hok
  have HOK : Hid (s.okB = true) := Lib.hid (by unfold SnapS.okB; simpa using hok)
  have HSS : Hid (s.sameB s = true) := Lib.hid s.sameB_refl
  obtain ⟨q, hq⟩ : ∃ q, s.sameB r = q := ⟨_, rfl⟩
  have HQ := Lib.hid hq
  have hqq : (q != q) = false := by simp
  obtain ⟨mv, dv, rfl, hm, hd⟩ := hs
  obtain ⟨a, c, rfl, _⟩ := hd.shape
  obtain ⟨am, cm, rfl, _⟩ := hm.shape
  obtain ⟨mv2, dv2, rfl, hm2, hd2⟩ := hr
  obtain ⟨b, k, rfl, _⟩ := hd2.shape
  obtain ⟨bm, km, rfl, _⟩ := hm2.shape
  have L1 := Lib.hid (And.intro l1 (And.intro l2 (And.intro l3 l4)))
  clear hm hd hm2 hd2 hok hq l1 l2 l3 l4
  go_enter Try.func4, Try.ntmps4
  go_wp2_with fail
  generalize hw1 : World.alloc (World.alloc w _) _ = w1
  have B1 : Hid (Below w.heap.size w w1) := Lib.hid (by subst hw1; exact ((Below.refl _ _).alloc (Nat.le_refl _) _).alloc (by simp) _)
  have S01 : Hid (SBlk w1 w.heap.size s.i s.t (.slice am s.ms.length cm) (.slice a s.d.length c)) := Lib.hid (by subst hw1; exact (SBlk.box w _ _ _ _).below ((Below.refl _ _).alloc (Nat.le_refl _) _))
  have S11 : Hid (SBlk w1 (w.heap.size + 1) r.i r.t (.slice bm r.ms.length km) (.slice b r.d.length k)) := Lib.hid (by subst hw1; have h := SBlk.box (w.alloc (.cells #[.int .u64 s.i, .int .u64 s.t, .slice am s.ms.length cm, .slice a s.d.length c] 27)) r.i r.t (.slice bm r.ms.length km) (.slice b r.d.length k); simpa using h)
  clear hw1
  refine (light_yes _ _ _ _ _ _ _ _ w1 L1.out.1 L1.out.2.1).mono ?_
  rintro e w2 ⟨rfl, hb2⟩
  have B2 : Hid (Below w.heap.size w w2) := Lib.hid (B1.out.trans (hb2.mono B1.out.size))
  have S02 := Lib.hid (S01.out.below hb2)
  have S12 := Lib.hid (S11.out.below hb2)
  clear hb2
  obtain ⟨q0, q1, q2, q3, _, _, _, _⟩ := S12.out
  go_wp2_with fail
  refine (light_yes _ _ _ _ _ _ _ _ w2 L1.out.2.2.1 L1.out.2.2.2).mono ?_
  rintro e wA ⟨rfl, hb3⟩
  have BA : Hid (Below w.heap.size w wA) := Lib.hid (B2.out.trans (hb3.mono B2.out.size))
  have S0 := Lib.hid (S02.out.below hb3)
  have S1 := Lib.hid (S12.out.below hb3)
  have XS := Lib.hid (HS.out.below BA.out)
  have XR := Lib.hid (HR.out.below BA.out)
  have ST := Stable.from wA
  clear hb3 q0 q1 q2 q3
  go_wp2_with fail
  refine region_start [0, 1, 0, 7, 15, 31, 63, 63, 255, 63, 63, 2047, 4095, 8191, 16383, 32767, 32767, 131071, 262143, 524287] 100290 (fun w' => Below wA.heap.size wA w') (by kernel_rfl) ?_
  refine stage_heads [0, 2] (by kernel_rfl) (L := #[true, false, true, false, false, false, false, false, false, false, false, false, false, false, false, false, false, false, false, false]) (by kernel_rfl) (f' := 18) rfl (fun _ _ _ _ h => h) (fun w o h => ST.alloc h o) (.inr (by first | exact Below.refl _ _ | exact (Below.refl _ _).drew)) ?_
  simp only [List.flatMap_cons, List.flatMap_nil, List.drop_succ_cons, List.drop_zero, List.take_succ_cons, List.take_zero, List.cons_append, List.nil_append, List.append_nil]
  iterate 2 (first | (refine heads_load _ (by rfl) (fun w' hs => by obtain ⟨r0, r1, r2, r3, _, _, _, _⟩ := S0.out.below hs; obtain ⟨q0, q1, q2, q3, _, _, _, _⟩ := S1.out.below hs; go_simp; try with_reducible rfl) rfl ?_; simp only [Act.put, List.setIfInBounds_toArray, List.set_cons_zero, List.set_cons_succ]) | (refine heads_pure _ (by rfl) (fun w' => by go_simp; try with_reducible rfl) ?_; simp only [Act.put, List.setIfInBounds_toArray, List.set_cons_zero, List.set_cons_succ]))
  refine heads_nil ?_
  refine stage_op 1 (by kernel_rfl) (L := #[true, true, true, false, false, false, false, false, false, false, false, false, false, false, false, false, false, false, false, false]) (by kernel_rfl) ?_
  simp only [List.drop_succ_cons, List.drop_zero, List.take_succ_cons, List.take_zero]
  go_wp2_with fail; refine (sound_any _ s _ (XS.out.below (by first | exact Below.refl _ _ | exact (Below.refl _ _).drew))).mono ?_; rintro e u1 ⟨rfl, hb⟩; have I1 : Hid (Below wA.heap.size wA u1) := Lib.hid (ST.below (by first | exact Below.refl _ _ | exact (Below.refl _ _).drew) hb); clear hb; rw [HOK.out]; go_wp2_with fail
  refine step_post (fun _ => I1.out) ?_
  refine stage_op 3 (by kernel_rfl) (L := #[true, true, true, true, false, false, false, false, false, false, false, false, false, false, false, false, false, false, false, false]) (by kernel_rfl) ?_
  simp only [List.drop_succ_cons, List.drop_zero, List.take_succ_cons, List.take_zero]
  go_wp2_with fail; refine (rsound_any _ s _ (XS.out.below (by first | exact I1.out | exact ST.drew I1.out | exact Below.refl _ _ | exact (Below.refl _ _).drew))).mono ?_; rintro e u3 ⟨rfl, hb⟩; have I3 : Hid (Below wA.heap.size wA u3) := Lib.hid (ST.below (by first | exact I1.out | exact ST.drew I1.out | exact Below.refl _ _ | exact (Below.refl _ _).drew) hb); clear hb; rw [HOK.out]; go_wp2_with fail
  refine step_post nofun ?_
  refine stage_heads [4, 5, 6, 7, 9, 10] (by kernel_rfl) (L := #[true, true, true, true, true, true, true, true, false, true, true, false, false, false, false, false, false, false, false, false]) (by kernel_rfl) (f' := 10) rfl (fun _ _ _ _ h => h) (fun w o h => ST.alloc h o) (.inr (by first | exact I11.out | exact I8.out | exact I3.out | exact ST.drew I11.out | exact ST.drew I8.out | exact ST.drew I3.out)) ?_
  simp only [List.flatMap_cons, List.flatMap_nil, List.drop_succ_cons, List.drop_zero, List.take_succ_cons, List.take_zero, List.cons_append, List.nil_append, List.append_nil]
  iterate 6 (first | (refine heads_load _ (by rfl) (fun w' hs => by obtain ⟨r0, r1, r2, r3, _, _, _, _⟩ := S0.out.below hs; obtain ⟨q0, q1, q2, q3, _, _, _, _⟩ := S1.out.below hs; go_simp; try with_reducible rfl) rfl ?_; simp only [Act.put, List.setIfInBounds_toArray, List.set_cons_zero, List.set_cons_succ]) | (refine heads_pure _ (by rfl) (fun w' => by go_simp; try with_reducible rfl) ?_; simp only [Act.put, List.setIfInBounds_toArray, List.set_cons_zero, List.set_cons_succ]))
  refine heads_nil ?_
  refine stage_op 8 (by kernel_rfl) (L := #[true, true, true, true, true, true, true, true, true, true, true, false, false, false, false, false, false, false, false, false]) (by kernel_rfl) ?_
  simp only [List.drop_succ_cons, List.drop_zero, List.take_succ_cons, List.take_zero]
  go_wp2_with fail; refine (ssame_any _ _ s r _ (XS.out.below (by first | exact I3.out | exact ST.drew I3.out | exact Below.refl _ _ | exact (Below.refl _ _).drew)) (XR.out.below (by first | exact I3.out | exact ST.drew I3.out | exact Below.refl _ _ | exact (Below.refl _ _).drew))).mono ?_; rintro e u8 ⟨rfl, hb⟩; have I8 : Hid (Below wA.heap.size wA u8) := Lib.hid (ST.below (by first | exact I3.out | exact ST.drew I3.out | exact Below.refl _ _ | exact (Below.refl _ _).drew) hb); clear hb; rw [HQ.out]; go_wp2_with fail
  refine step_post (fun _ => I8.out) ?_
  refine stage_op 11 (by kernel_rfl) (L := #[true, true, true, true, true, true, true, true, true, true, true, true, false, false, false, false, false, false, false, false]) (by kernel_rfl) ?_
  simp only [List.drop_succ_cons, List.drop_zero, List.take_succ_cons, List.take_zero]
  go_wp2_with fail; refine (rsame_any _ _ s r _ (XS.out.below (by first | exact I8.out | exact ST.drew I8.out | exact Below.refl _ _ | exact (Below.refl _ _).drew)) (XR.out.below (by first | exact I8.out | exact ST.drew I8.out | exact Below.refl _ _ | exact (Below.refl _ _).drew))).mono ?_; rintro e u11 ⟨rfl, hb⟩; have I11 : Hid (Below wA.heap.size wA u11) := Lib.hid (ST.below (by first | exact I8.out | exact ST.drew I8.out | exact Below.refl _ _ | exact (Below.refl _ _).drew) hb); clear hb; rw [HQ.out]; go_wp2_with fail
  refine step_post nofun ?_
  refine stage_heads [12, 13, 14, 15, 16] (by kernel_rfl) (L := #[true, true, true, true, true, true, true, true, true, true, true, true, true, true, true, true, true, false, false, false]) (by kernel_rfl) (f' := 3) rfl (fun _ _ _ _ h => h) (fun w o h => ST.alloc h o) (.inr (by first | exact I11.out | exact I8.out | exact I3.out | exact ST.drew I11.out | exact ST.drew I8.out | exact ST.drew I3.out)) ?_
  simp only [List.flatMap_cons, List.flatMap_nil, List.drop_succ_cons, List.drop_zero, List.take_succ_cons, List.take_zero, List.cons_append, List.nil_append, List.append_nil]
  iterate 5 (first | (refine heads_load _ (by rfl) (fun w' hs => by obtain ⟨r0, r1, r2, r3, _, _, _, _⟩ := S0.out.below hs; obtain ⟨q0, q1, q2, q3, _, _, _, _⟩ := S1.out.below hs; go_simp; try with_reducible rfl) rfl ?_; simp only [Act.put, List.setIfInBounds_toArray, List.set_cons_zero, List.set_cons_succ]) | (refine heads_pure _ (by rfl) (fun w' => by go_simp; try with_reducible rfl) ?_; simp only [Act.put, List.setIfInBounds_toArray, List.set_cons_zero, List.set_cons_succ]))
  refine heads_nil ?_
  refine stage_op 17 (by kernel_rfl) (L := #[true, true, true, true, true, true, true, true, true, true, true, true, true, true, true, true, true, true, false, false]) (by kernel_rfl) ?_
  simp only [List.drop_succ_cons, List.drop_zero, List.take_succ_cons, List.take_zero]
  go_wp2_with fail; refine (ssame_any _ _ s s _ (XS.out.below (by first | exact I11.out | exact ST.drew I11.out | exact Below.refl _ _ | exact (Below.refl _ _).drew)) (XS.out.below (by first | exact I11.out | exact ST.drew I11.out | exact Below.refl _ _ | exact (Below.refl _ _).drew))).mono ?_; rintro e u17 ⟨rfl, hb⟩; have I17 : Hid (Below wA.heap.size wA u17) := Lib.hid (ST.below (by first | exact I11.out | exact ST.drew I11.out | exact Below.refl _ _ | exact (Below.refl _ _).drew) hb); clear hb; rw [HSS.out]; go_wp2_with fail
  refine step_post nofun ?_
  refine stage_heads [18, 19] (by kernel_rfl) (L := #[true, true, true, true, true, true, true, true, true, true, true, true, true, true, true, true, true, true, true, true]) (by kernel_rfl) (f' := 0) rfl (fun _ _ _ _ h => h) (fun w o h => ST.alloc h o) (.inl (by kernel_rfl)) ?_
  simp only [List.flatMap_cons, List.flatMap_nil, List.drop_succ_cons, List.drop_zero, List.take_succ_cons, List.take_zero, List.cons_append, List.nil_append, List.append_nil]
  iterate 2 (refine heads_pure _ (by rfl) (fun w' => by go_simp; try with_reducible rfl) ?_; simp only [Act.put, List.setIfInBounds_toArray, List.set_cons_zero, List.set_cons_succ])
  refine heads_nil ?_
  refine stage_done (by kernel_rfl) ?_
  obtain ⟨r0, r1, r2, r3, _, _, _, _⟩ := S0.out.below I17.out
  go_wp2_with fail
  refine (sbytes_yes _ s u17 (XS.out.below I17.out) HOO.out).mono ?_
  rintro e w4 ⟨bv, rfl, hB4, hb4, _⟩
  have HRD := Lib.hid (read_round 7 (by decide) (by decide) s HOO.out)
  generalize hL : frP 4 (snapW s) = L at *
  have HL := Lib.hid hL
  obtain ⟨ab, kb, rfl, _⟩ := hB4.shape
  have HB4 := Lib.hid hB4
  have I4 : Hid (Below wA.heap.size wA w4) := Lib.hid (ST.below I17.out hb4)
  clear hB4 hb4 hL r0 r1 r2 r3
  obtain ⟨r0, r1, r2, r3, _, _, _, _⟩ := S0.out.below I4.out
  go_wp2_with fail
  refine (rsound_any _ s w4 (XS.out.below I4.out)).mono ?_
  rintro e w5 ⟨rfl, hb5⟩
  have HB5 := Lib.hid (HB4.out.below hb5)
  have I5 : Hid (Below wA.heap.size wA w5) := Lib.hid (ST.below I4.out hb5)
  clear hb5 r0 r1 r2 r3
  rw [HOK.out]
  go_wp2_with fail
  refine (pread_any _ L w5 HB5.out).mono ?_
  rintro e w6 ⟨vt, rfl, ht6, hb6⟩
  rw [HRD.out.2] at ht6
  rw [HRD.out.1]
  have XT6 := Lib.hid ht6
  have HB6 := Lib.hid (HB5.out.below hb6)
  have I6 : Hid (Below wA.heap.size wA w6) := Lib.hid (ST.below I5.out hb6)
  obtain ⟨mvt, dvt, rfl, htm, htd⟩ := ht6
  obtain ⟨amt, cmt, rfl, _⟩ := htm.shape
  obtain ⟨adt, cdt, rfl, _⟩ := htd.shape
  clear hb6 htm htd
  go_wp2_with fail
  have SG := SBlk.box w6 s.i s.t (.slice amt s.ms.length cmt) (.slice adt s.d.length cdt)
  have hbg : Below w6.heap.size w6 (w6.alloc (.cells #[.int .u64 s.i, .int .u64 s.t, .slice amt s.ms.length cmt, .slice adt s.d.length cdt] 27)) := (Below.refl _ _).alloc (Nat.le_refl _) _
  generalize World.alloc w6 _ = wB at *
  have S9 := Lib.hid SG
  have IB : Hid (Below wA.heap.size wA wB) := Lib.hid (ST.below I6.out hbg)
  have BB : Hid (Below w.heap.size w wB) := Lib.hid (BA.out.trans (IB.out.mono BA.out.size))
  have S0B := Lib.hid (S0.out.below IB.out)
  have XSB := Lib.hid (XS.out.below IB.out)
  have XT := Lib.hid (XT6.out.below hbg)
  have HBB := Lib.hid (HB6.out.below hbg)
  have STB := Stable.from wB
  have hne : ((strN L).toList != (strN L).toList) = false := by simp
  clear SG hbg
  refine region_start [0, 1, 3, 7, 15, 7, 39, 103, 255, 511, 1023, 2047, 4095, 8191, 16383, 32767, 32767, 131071, 262143, 524287] 98496 (fun w' => Below wB.heap.size wB w') (by kernel_rfl) ?_
  refine stage_heads [0, 1, 2, 3, 4, 5] (by kernel_rfl) (L := #[true, true, true, true, true, true, false, false, false, false, false, false, false, false, false, false, false, false, false, false]) (by kernel_rfl) (f' := 14) rfl (fun _ _ _ _ h => h) (fun w o h => STB.alloc h o) (.inr (by first | exact Below.refl _ _ | exact (Below.refl _ _).drew)) ?_
  simp only [List.flatMap_cons, List.flatMap_nil, List.drop_succ_cons, List.drop_zero, List.take_succ_cons, List.take_zero, List.cons_append, List.nil_append, List.append_nil]
  iterate 6 (first | (refine heads_load _ (by rfl) (fun w' hs => by obtain ⟨r0, r1, r2, r3, _, _, _, _⟩ := S0B.out.below hs; obtain ⟨q0, q1, q2, q3, _, _, _, _⟩ := S9.out.below hs; have y0 := (HBB.out.below hs).str Try.underlying22 Try.underlying5 Try.underlying9; go_simp; try with_reducible rfl) rfl ?_; simp only [Act.put, List.setIfInBounds_toArray, List.set_cons_zero, List.set_cons_succ]) | (refine heads_pure _ (by rfl) (fun w' => by go_simp; try with_reducible rfl) ?_; simp only [Act.put, List.setIfInBounds_toArray, List.set_cons_zero, List.set_cons_succ]))
  refine heads_nil ?_
  refine stage_op 6 (by kernel_rfl) (L := #[true, true, true, true, true, true, true, false, false, false, false, false, false, false, false, false, false, false, false, false]) (by kernel_rfl) ?_
  simp only [List.drop_succ_cons, List.drop_zero, List.take_succ_cons, List.take_zero]
  go_wp2_with fail; refine (rsbytes_any _ s _ (XSB.out.below (by first | exact Below.refl _ _ | exact (Below.refl _ _).drew)) HOO.out).mono ?_; rintro e y6 ⟨v6, rfl, hB6, hb⟩; have J6 : Hid (Below wB.heap.size wB y6) := Lib.hid (STB.below (by first | exact Below.refl _ _ | exact (Below.refl _ _).drew) hb); clear hb; rw [HL.out] at hB6; obtain ⟨a6, c6, rfl, _⟩ := hB6.shape; have HB6 := Lib.hid hB6; clear hB6; go_wp2_with fail
  refine step_post (fun _ => J6.out) ?_
  refine stage_op 7 (by kernel_rfl) (L := #[true, true, true, true, true, true, true, true, false, false, false, false, false, false, false, false, false, false, false, false]) (by kernel_rfl) ?_
  simp only [List.drop_succ_cons, List.drop_zero, List.take_succ_cons, List.take_zero]
  refine wpList_to_strG (by rfl) 22 9 5 _ rfl Try.underlying22 Try.underlying5 Try.underlying9 _ _ rfl HB6.out ?_; go_wp2_with fail
  refine step_post (fun _ => J6.out) ?_
  refine stage_heads [8, 9, 10, 11, 12, 13, 14, 15, 16] (by kernel_rfl) (L := #[true, true, true, true, true, true, true, true, true, true, true, true, true, true, true, true, true, false, false, false]) (by kernel_rfl) (f' := 3) rfl (fun _ _ _ _ h => h) (fun w o h => STB.alloc h o) (.inr (by first | exact J6.out | exact STB.drew J6.out)) ?_
  simp only [List.flatMap_cons, List.flatMap_nil, List.drop_succ_cons, List.drop_zero, List.take_succ_cons, List.take_zero, List.cons_append, List.nil_append, List.append_nil]
  iterate 9 (first | (refine heads_load _ (by rfl) (fun w' hs => by obtain ⟨r0, r1, r2, r3, _, _, _, _⟩ := S0B.out.below hs; obtain ⟨q0, q1, q2, q3, _, _, _, _⟩ := S9.out.below hs; have y0 := (HBB.out.below hs).str Try.underlying22 Try.underlying5 Try.underlying9; go_simp; try with_reducible rfl) rfl ?_; simp only [Act.put, List.setIfInBounds_toArray, List.set_cons_zero, List.set_cons_succ]) | (refine heads_pure _ (by rfl) (fun w' => by go_simp; try with_reducible rfl) ?_; simp only [Act.put, List.setIfInBounds_toArray, List.set_cons_zero, List.set_cons_succ]))
  refine heads_nil ?_
  refine stage_op 17 (by kernel_rfl) (L := #[true, true, true, true, true, true, true, true, true, true, true, true, true, true, true, true, true, true, false, false]) (by kernel_rfl) ?_
  simp only [List.drop_succ_cons, List.drop_zero, List.take_succ_cons, List.take_zero]
  go_wp2_with fail; refine (rsame_any _ _ s s _ (XT.out.below (by first | exact J6.out | exact STB.drew J6.out | exact Below.refl _ _ | exact (Below.refl _ _).drew)) (XSB.out.below (by first | exact J6.out | exact STB.drew J6.out | exact Below.refl _ _ | exact (Below.refl _ _).drew))).mono ?_; rintro e y17 ⟨rfl, hb⟩; have J17 : Hid (Below wB.heap.size wB y17) := Lib.hid (STB.below (by first | exact J6.out | exact STB.drew J6.out | exact Below.refl _ _ | exact (Below.refl _ _).drew) hb); clear hb; rw [HSS.out]; go_wp2_with fail
  refine step_post nofun ?_
  refine stage_heads [18, 19] (by kernel_rfl) (L := #[true, true, true, true, true, true, true, true, true, true, true, true, true, true, true, true, true, true, true, true]) (by kernel_rfl) (f' := 0) rfl (fun _ _ _ _ h => h) (fun w o h => STB.alloc h o) (.inl (by kernel_rfl)) ?_
  simp only [List.flatMap_cons, List.flatMap_nil, List.drop_succ_cons, List.drop_zero, List.take_succ_cons, List.take_zero, List.cons_append, List.nil_append, List.append_nil]
  iterate 2 (refine heads_pure _ (by rfl) (fun w' => by go_simp; try with_reducible rfl) ?_; simp only [Act.put, List.setIfInBounds_toArray, List.set_cons_zero, List.set_cons_succ])
  refine heads_nil ?_
  refine stage_done (by kernel_rfl) ?_
  obtain ⟨r0, r1, r2, r3, _, _, _, _⟩ := S0B.out.below J17.out
  go_wp2_with fail
  refine (scopy_any _ s y17 (XSB.out.below J17.out)).mono ?_
  rintro e w8 ⟨v8, rfl, ⟨mvc, dvc, rfl, om, od⟩, hb8⟩
  obtain ⟨amc, cmc, rfl⟩ := om.shape
  obtain ⟨adc, cdc, rfl⟩ := od.shape
  have HM8 := Lib.hid (Row.of_owns om)
  have HD8 := Lib.hid (Row.of_owns od)
  have HGM := Lib.hid om.lt
  have HGD := Lib.hid od.lt
  have hnm : (s.ms.length : Int) ≤ 30 := by have := L1.out.1; omega
  have hnd : ((ints s.d).length : Int) ≤ 33000 := by have := L1.out.2.1; rw [length_ints]; omega
  have B8 := Lib.hid hb8
  clear om od hb8 r0 r1 r2 r3
  go_wp2_with fail
  have SG := SBlk.box w8 s.i s.t (.slice amc s.ms.length cmc) (.slice adc (ints s.d).length cdc)
  have hbg : Below w8.heap.size w8 (w8.alloc (.cells #[.int .u64 s.i, .int .u64 s.t, .slice amc s.ms.length cmc, .slice adc (ints s.d).length cdc] 27)) := (Below.refl _ _).alloc (Nat.le_refl _) _
  have HGC : Hid (∀ g, (adc = some ⟨g, 0, none⟩ ∨ amc = some ⟨g, 0, none⟩) → y17.heap.size ≤ g ∧ g ≠ w8.heap.size) := Lib.hid (by
    rintro g (e | e)
    · have := HGD.out g (by rw [e]; rfl); omega
    · have := HGM.out g (by rw [e]; rfl); omega)
  generalize World.alloc w8 _ = wD at *
  have SD := Lib.hid SG
  have RD := Lib.hid (HD8.out.below hbg)
  have MD := Lib.hid (HM8.out.below hbg)
  have BD : Hid (Below y17.heap.size y17 wD) := Lib.hid (B8.out.trans (hbg.mono B8.out.size))
  generalize w8.heap.size = cb at *
  clear SG hbg HM8 HD8 HGM HGD L1
  generalize (ints s.d).length = nd at *
  obtain ⟨x0, x1, x2, x3, _, _, _, _⟩ := SD.out
  go_wp2_with fail
  clear x0 x1 x2 x3
  go_loopw [91] (fun y wr => ∃ j : Nat, j ≤ nd ∧ y = .int .i64 j ∧ Below y17.heap.size y17 wr ∧ SBlk wr cb s.i s.t (.slice amc s.ms.length cmc) (.slice adc nd cdc) ∧ Row wr adc nd ∧ Row wr amc s.ms.length) (fun y _ => nd - (intOf y).toNat)
  case atStart => exact ⟨0, Nat.zero_le _, rfl, BD.out, SD.out, RD.out, MD.out⟩
  case round =>
    obtain ⟨j, hj, rfl, hbj, hsj, hrj, hmj⟩ := hrel
    have BJ := Lib.hid hbj
    have SJ := Lib.hid hsj
    have RJ := Lib.hid hrj
    have MJ := Lib.hid hmj
    clear hbj hsj hrj hmj
    obtain ⟨x0, x1, x2, x3, _, _, _, _⟩ := SJ.out
    by_cases hlt : j < nd
    · obtain ⟨g, hg, hcell, hfr⟩ := RJ.out j hlt
      subst hg
      obtain ⟨old, hold⟩ := hcell
      have hgc : g ≠ cb := (HGC.out g (by first | exact .inl rfl | exact .inr rfl)).2
      have HGN : Hid (y17.heap.size ≤ g) := Lib.hid (HGC.out g (by first | exact .inl rfl | exact .inr rfl)).1
      have j0 : (0 : Int) ≤ (j : Int) := by omega
      have j1 : (j : Int) < (nd : Int) := by omega
      go_wp2_with fail
      go_roundw
      case rel => exact ⟨j + 1, by omega, by go_num, BJ.out.setCell HGN.out _, SJ.out.kept (Kept.setCell _ _ _) (fun e => hgc e.symm), RJ.out.set _ _, MJ.out.set _ _⟩
      case measure => simp [intOf]; omega
    · obtain rfl : nd = j := by omega
      go_wp2_with fail
      obtain ⟨wo, rfl⟩ : ∃ wo : World, wo = wr := ⟨_, rfl⟩
      clear x0 x1 x2 x3
      go_loopw [103] (fun y wr => ∃ j : Nat, j ≤ s.ms.length ∧ y = .int .i64 j ∧ Below y17.heap.size y17 wr ∧ SBlk wr cb s.i s.t (.slice amc s.ms.length cmc) (.slice adc nd cdc) ∧ Row wr adc nd ∧ Row wr amc s.ms.length) (fun y _ => s.ms.length - (intOf y).toNat)
      case atStart => exact ⟨0, Nat.zero_le _, rfl, BJ.out, SJ.out, RJ.out, MJ.out⟩
      case round =>
        obtain ⟨j, hj, rfl, hbj, hsj, hrj, hmj⟩ := hrel
        have BJ := Lib.hid hbj
        have SJ := Lib.hid hsj
        have RJ := Lib.hid hrj
        have MJ := Lib.hid hmj
        clear hbj hsj hrj hmj
        obtain ⟨x0, x1, x2, x3, _, _, _, _⟩ := SJ.out
        by_cases hlt : j < s.ms.length
        · obtain ⟨g, hg, hcell, hfr⟩ := MJ.out j hlt
          subst hg
          obtain ⟨old, hold⟩ := hcell
          have hgc : g ≠ cb := (HGC.out g (by first | exact .inl rfl | exact .inr rfl)).2
          have HGN : Hid (y17.heap.size ≤ g) := Lib.hid (HGC.out g (by first | exact .inl rfl | exact .inr rfl)).1
          have j0 : (0 : Int) ≤ (j : Int) := by omega
          have j1 : (j : Int) < (s.ms.length : Int) := by omega
          go_wp2_with fail
          go_roundw
          case rel => exact ⟨j + 1, by omega, by go_num, BJ.out.setCell HGN.out _, SJ.out.kept (Kept.setCell _ _ _) (fun e => hgc e.symm), RJ.out.set _ _, MJ.out.set _ _⟩
          case measure => simp [intOf]; omega
        · obtain rfl : j = s.ms.length := by omega
          have BW : Hid (Below wB.heap.size wB wr) := Lib.hid (J17.out.trans (BJ.out.mono J17.out.size))
          clear x0 x1 x2 x3
          obtain ⟨r0, r1, r2, r3, _, _, _, _⟩ := S0B.out.below BW.out
          obtain ⟨q0, q1, q2, q3, _, _, _, _⟩ := S9.out.below BW.out
          go_wp2_with fail
          refine (rsame_any _ _ s s wr (XSB.out.below BW.out) (XT.out.below BW.out)).mono ?_
          rintro e wy ⟨rfl, hby⟩
          have BY : Hid (Below wB.heap.size wB wy) := Lib.hid (BW.out.trans (hby.mono BW.out.size))
          clear hby
          rw [HSS.out]
          go_wp2_with fail
          refine (lives_any _).mono ?_
          rintro e wz ⟨rfl, hbz⟩
          have BZ : Hid (Below w.heap.size w wz) := Lib.hid ((BB.out.trans (BY.out.mono BB.out.size)).trans (hbz.mono (BB.out.trans (BY.out.mono BB.out.size)).size))
          clear hbz
          go_wp2_with fail
          go_ret
          exact ⟨rfl, BZ.out⟩

end Go.Proofs.Ytofhccpagnkalaa

/- Arguments opened, as the walks want them; no conditions. -/
namespace Go.Proofs.Ytofhccpagnkalaa
open Go.ChangeShapes Go.WideShapes Go.ChangeAt Go.RowKit Go.Deep Go.Proofs.Own

theorem own : ownKnob Try.prog.godebug = none := by kernel_rfl
theorem laid : laidOutB Try.prog = true := by kernel_rfl
theorem cellsU8 : Try.prog.cellsOf 5 = 1 := by kernel_rfl
theorem cellsInt : Try.prog.cellsOf 3 = 1 := by kernel_rfl

theorem open_agg4 {H : Type} {enc : TypeId × Value → H} {P : Program} {w : World} {base : Nat} {spare : Nat → Bool} {held : Bool} {r : Reach} {b0 : Nat} {t : TypeId} {f0 f1 f2 f3 : Field} {v : Value} {d : DataW H} {p : List MemPlace} (hs : P.underlying t = some (.struct #[f0, f1, f2, f3])) (hone : oneCellFields P #[f0, f1, f2, f3] = true) (hC : P.cellsOf t = 4)
    (hv : Value.okWide P w r b0 t v) (h : DataW.Trod enc P w base spare held t v d p) :
    ∃ (v0 v1 v2 v3 : Value) (y0 y1 y2 y3 : DataW H × List MemPlace) (n : Nat), v = .agg #[v0, v1, v2, v3] ∧
      DataW.trod enc P w base spare held n f0.type [v0] = some y0 ∧ DataW.trod enc P w base spare held n f1.type [v1] = some y1 ∧ DataW.trod enc P w base spare held n f2.type [v2] = some y2 ∧ DataW.trod enc P w base spare held n f3.type [v3] = some y3 := by
  obtain ⟨cs, rfl, hsz⟩ := okWide_struct hs hv
  obtain ⟨l⟩ := cs
  match l, hsz.trans hC with
  | [c0, c1, c2, c3], _ =>
    obtain ⟨fuel, hf⟩ := h
    obtain ⟨xs, n, _, hx, _, hlen, hg⟩ := DataW.trod_struct hs hf
    obtain ⟨o0, k0⟩ := hone_of hone 0 f0 rfl
    obtain ⟨o1, k1⟩ := hone_of hone 1 f1 rfl
    obtain ⟨o2, k2⟩ := hone_of hone 2 f2 rfl
    obtain ⟨o3, k3⟩ := hone_of hone 3 f3 rfl
    match xs, hlen with
    | [y0, y1, y2, y3], _ =>
      exact ⟨c0, c1, c2, c3, y0, y1, y2, y3, n, rfl, by simpa [Value.cells, o0, k0] using hg 0 f0 rfl, by simpa [Value.cells, o1, k1] using hg 1 f1 rfl, by simpa [Value.cells, o2, k2] using hg 2 f2 rfl, by simpa [Value.cells, o3, k3] using hg 3 f3 rfl⟩


theorem open_agg2n {H : Type} {enc : TypeId × Value → H} {P : Program} {w : World} {base : Nat} {spare : Nat → Bool} {held : Bool} {r : Reach} {b0 : Nat} {t : TypeId} {f0 f1 : Field} {v : Value} {d : DataW H} {p : List MemPlace} (hs : P.underlying t = some (.struct #[f0, f1])) (hone : oneCellFields P #[f0, f1] = true) (hC : P.cellsOf t = 2)
    (hv : Value.okWide P w r b0 t v) (h : DataW.Trod enc P w base spare held t v d p) :
    ∃ (v0 v1 : Value) (y0 y1 : DataW H × List MemPlace) (n : Nat), v = .agg #[v0, v1] ∧
      DataW.trod enc P w base spare held n f0.type [v0] = some y0 ∧ DataW.trod enc P w base spare held n f1.type [v1] = some y1 := by
  obtain ⟨cs, rfl, hsz⟩ := okWide_struct hs hv
  obtain ⟨l⟩ := cs
  match l, hsz.trans hC with
  | [c0, c1], _ =>
    obtain ⟨fuel, hf⟩ := h
    obtain ⟨xs, n, _, hx, _, hlen, hg⟩ := DataW.trod_struct hs hf
    obtain ⟨o0, k0⟩ := hone_of hone 0 f0 rfl
    obtain ⟨o1, k1⟩ := hone_of hone 1 f1 rfl
    match xs, hlen with
    | [y0, y1], _ =>
      exact ⟨c0, c1, y0, y1, n, rfl, by simpa [Value.cells, o0, k0] using hg 0 f0 rfl, by simpa [Value.cells, o1, k1] using hg 1 f1 rfl⟩


section
variable {H : Type} {enc : TypeId × Value → H} {W : World}
/-- A slice of bytes. -/
def BytesArg (W : World) (v : Value) : Prop := ∃ (a : Option Addr) (n c : Nat), v = .slice a n c ∧ (n ≤ 2097152 → ∃ l, l.length = n ∧ Bytes W v l)
theorem open_bytes1 {fuel : Nat} {v : Value} {x : DataW H × List MemPlace} (hf : DataW.trod enc Try.prog W 0 (fun _ => true) true fuel 22 [v] = some x) : BytesArg W v := by
  rcases open_slice1 Try.underlying22 cellsU8 hf with ⟨hcs, _⟩ | ⟨a, len, cap, m, k, V, D, Pl, hcs, _, hl, hm, hmm, _, hi⟩
  · obtain rfl : v = .slice none 0 0 := by simpa using hcs
    exact ⟨_, _, _, rfl, fun _ => ⟨[], rfl, Bytes.nil W⟩⟩
  · obtain rfl : v = .slice (some a) len cap := by simpa using hcs
    have hm' : m = cap := by simpa using hmm
    subst hm'
    refine ⟨_, _, _, rfl, fun hn => ?_⟩
    have cell : ∀ i, i < len → ∃ x : Nat, W.cell? (a.add i) = some (.int .u8 x) ∧ x < 256 := by
      intro i hi'
      obtain ⟨hc, ht⟩ := hi i (by omega)
      obtain ⟨z, ez, _, wz⟩ := DataW.trod_int Try.underlying5 ht
      obtain hz : V i = .int .u8 z := by simpa using ez
      have hr : 0 ≤ z ∧ z < 256 := by
        simp only [Lit.wf, Bool.and_eq_true, decide_eq_true_eq] at wz
        have h0 : IntKind.min .u8 = 0 := by decide
        have h1 : IntKind.max .u8 = 255 := by decide
        rw [h0, h1] at wz
        omega
      exact ⟨z.toNat, by rw [hc, hz, Int.toNat_of_nonneg hr.1], by omega⟩
    by_cases hz0 : len = 0
    · subst hz0
      exact ⟨[], rfl, ⟨⟨_, _, rfl, hl⟩, Reads.nil _ _ _ _, by simp, by simp⟩⟩
    obtain ⟨X, hX⟩ : ∃ X : Nat → Nat, ∀ i, i < len → W.cell? (a.add i) = some (.int .u8 (X i)) ∧ X i < 256 :=
      ⟨fun i => if h : i < len then Classical.choose (cell i h) else 0, fun i h => by simp only [dif_pos h]; exact Classical.choose_spec (cell i h)⟩
    have ha : a = ⟨a.block, a.off, none⟩ := spot_none (hX 0 (by omega)).1
    have hlen : ((List.range len).map X).length = len := by simp
    refine ⟨(List.range len).map X, hlen, ⟨some a, m, by rw [hlen], by rw [hlen]; exact hl⟩, ⟨some a, m, by rw [length_ints, hlen], fun j hj => ⟨a.block, a.off, congrArg some ha, ?_⟩⟩, ?_, by rw [hlen]; omega⟩
    · have hj' : j < len := by rw [length_ints, hlen] at hj; exact hj
      rw [← addr_add a a.block a.off j ha, (hX j hj').1, ints_at]
      simp
    · intro x hx
      simp only [List.mem_map, List.mem_range] at hx
      obtain ⟨i, hi', rfl⟩ := hx
      exact (hX i hi').2
/-- A slice of integers. -/
def IntsArg (W : World) (v : Value) : Prop := ∃ (a : Option Addr) (n c : Nat), v = .slice a n c ∧ (n ≤ 2097152 → ∃ l, l.length = n ∧ Ints W v l)
theorem open_ints1 {fuel : Nat} {v : Value} {x : DataW H × List MemPlace} (hf : DataW.trod enc Try.prog W 0 (fun _ => true) true fuel 25 [v] = some x) : IntsArg W v := by
  rcases open_slice1 Try.underlying25 cellsInt hf with ⟨hcs, _⟩ | ⟨a, len, cap, m, k, V, D, Pl, hcs, _, hl, hm, hmm, _, hi⟩
  · obtain rfl : v = .slice none 0 0 := by simpa using hcs
    exact ⟨_, _, _, rfl, fun _ => ⟨[], rfl, Ints.nil W⟩⟩
  · obtain rfl : v = .slice (some a) len cap := by simpa using hcs
    have hm' : m = cap := by simpa using hmm
    subst hm'
    refine ⟨_, _, _, rfl, fun hn => ?_⟩
    have cell : ∀ i, i < len → ∃ x : Int, W.cell? (a.add i) = some (.int .i64 x) := by
      intro i hi'
      obtain ⟨hc, ht⟩ := hi i (by omega)
      obtain ⟨z, ez, _, wz⟩ := DataW.trod_int Try.underlying3 ht
      obtain hz : V i = .int .i64 z := by simpa using ez
      exact ⟨z, by rw [hc, hz]⟩
    by_cases hz0 : len = 0
    · subst hz0
      exact ⟨[], rfl, ⟨⟨_, _, rfl, hl⟩, Reads.nil _ _ _ _, by simp⟩⟩
    obtain ⟨X, hX⟩ : ∃ X : Nat → Int, ∀ i, i < len → W.cell? (a.add i) = some (.int .i64 (X i)) :=
      ⟨fun i => if h : i < len then Classical.choose (cell i h) else 0, fun i h => by simp only [dif_pos h]; exact Classical.choose_spec (cell i h)⟩
    have ha : a = ⟨a.block, a.off, none⟩ := spot_none (hX 0 (by omega))
    have hlen : ((List.range len).map X).length = len := by simp
    refine ⟨(List.range len).map X, hlen, ⟨some a, m, by rw [hlen], by rw [hlen]; exact hl⟩, ⟨some a, m, by rw [hlen], fun j hj => ⟨a.block, a.off, congrArg some ha, ?_⟩⟩, by rw [hlen]; omega⟩
    have hj' : j < len := by rw [hlen] at hj; exact hj
    rw [← addr_add a a.block a.off j ha, hX j hj']
    simp
/-- A snapshot. -/
def SnapArg (W : World) (v : Value) : Prop := ∃ (i t : Int) (am : Option Addr) (nm cm : Nat) (ad : Option Addr) (nd cd : Nat), v = .agg #[.int .u64 i, .int .u64 t, .slice am nm cm, .slice ad nd cd] ∧
  (nm ≤ 2097152 → ∃ l, l.length = nm ∧ Ints W (.slice am nm cm) l) ∧ (nd ≤ 2097152 → ∃ l, l.length = nd ∧ Bytes W (.slice ad nd cd) l)
set_option maxRecDepth 100000 in
theorem open_snap {base : Nat} {v : Value} {d : DataW H} {ps : List MemPlace} (hv : Value.okWide Try.prog W .any base 27 v)
    (h : DataW.Trod enc Try.prog W 0 (fun _ => true) true 27 v d ps) : SnapArg W v := by
  obtain ⟨v0, v1, v2, v3, y0, y1, y2, y3, n, rfl, h0, h1, h2, h3⟩ := open_agg4 Try.underlying27 (by kernel_rfl) (by kernel_rfl) hv h
  obtain ⟨z0, e0, _, wf0⟩ := DataW.trod_int Try.underlying24 h0
  obtain rfl : v0 = .int .u64 z0 := by simpa using e0
  obtain ⟨z1, e1, _, wf1⟩ := DataW.trod_int Try.underlying24 h1
  obtain rfl : v1 = .int .u64 z1 := by simpa using e1
  obtain ⟨am, nm, cm, rfl, hm⟩ := open_ints1 h2
  obtain ⟨ad, nd, cd, rfl, hd⟩ := open_bytes1 h3
  exact ⟨z0, z1, am, nm, cm, ad, nd, cd, rfl, hm, hd⟩
/-- It is one that is not too great. -/
theorem SnapArg.is {i t : Int} {am ad : Option Addr} {nm cm nd cd : Nat} (h : SnapArg W (.agg #[.int .u64 i, .int .u64 t, .slice am nm cm, .slice ad nd cd])) (h1 : nm ≤ 2097152) (h2 : nd ≤ 2097152) :
    ∃ ms d, ms.length = nm ∧ d.length = nd ∧ SnapIs W (.agg #[.int .u64 i, .int .u64 t, .slice am nm cm, .slice ad nd cd]) ⟨i, t, ms, d⟩ := by
  obtain ⟨i', t', am', nm', cm', ad', nd', cd', e, hm, hd⟩ := h
  simp only [Value.agg.injEq, Array.mk.injEq, List.cons.injEq, Value.int.injEq, Value.slice.injEq, true_and, and_true] at e
  obtain ⟨rfl, rfl, ⟨rfl, rfl, rfl⟩, ⟨rfl, rfl, rfl⟩⟩ := e
  obtain ⟨ms, l1, m1⟩ := hm h1
  obtain ⟨d, l2, m2⟩ := hd h2
  exact ⟨ms, d, l1, l2, _, _, rfl, m1, m2⟩
end
end Go.Proofs.Ytofhccpagnkalaa

/- THE STATEMENT SnapshotBytes: Sound, Same, Copy and the encoding agree with the document's in both directions. For every input; no conditions. -/
namespace Go.Proofs.Ytofhccpagnkalaa
open Go.ChangeShapes Go.WideShapes Go.ChangeAt Go.RowKit Go.Deep Go.Proofs.Own


set_option maxHeartbeats 2000000 in
set_option maxRecDepth 20000 in
theorem sbl_heavy (x i t j u : Int) (am ad bm bd : Option Addr) (nm cm nd cd pm km pd kd : Nat) (w : World) (h : ¬ ((nm ≤ 30 ∧ nd ≤ 33000) ∧ (pm ≤ 30 ∧ pd ≤ 33000))) :
    Calls Try.prog 4 #[.agg #[.int .u64 i, .int .u64 t, .slice am nm cm, .slice ad nd cd], .agg #[.int .u64 j, .int .u64 u, .slice bm pm km, .slice bd pd kd], .int .u8 x] w fun e w' => e = .returned (.bool true) ∧ Below w.heap.size w w' := by
  go_enter Try.func4, Try.ntmps4
  go_wp2_with fail
  generalize hw1 : World.alloc (World.alloc w _) _ = w1
  have B1 : Hid (Below w.heap.size w w1) := Lib.hid (by subst hw1; exact ((Below.refl _ _).alloc (Nat.le_refl _) _).alloc (by simp) _)
  have S11 : Hid (SBlk w1 (w.heap.size + 1) j u (.slice bm pm km) (.slice bd pd kd)) := Lib.hid (by subst hw1; have h := SBlk.box (w.alloc (.cells #[.int .u64 i, .int .u64 t, .slice am nm cm, .slice ad nd cd] 27)) j u (.slice bm pm km) (.slice bd pd kd); simpa using h)
  clear hw1
  by_cases h1 : nm ≤ 30 ∧ nd ≤ 33000
  · have h2 : ¬ (pm ≤ 30 ∧ pd ≤ 33000) := fun h2 => h ⟨h1, h2⟩
    refine (light_yes _ _ _ _ _ _ _ _ w1 h1.1 h1.2).mono ?_
    rintro e w2 ⟨rfl, hb2⟩
    have B2 : Hid (Below w.heap.size w w2) := Lib.hid (B1.out.trans (hb2.mono B1.out.size))
    obtain ⟨q0, q1, q2, q3, _, _, _, _⟩ := S11.out.below hb2
    clear hb2 h h1
    have H2 := Lib.hid h2
    clear h2
    go_wp2_with fail
    refine (light_no _ _ _ _ _ _ _ _ w2 H2.out).mono ?_
    rintro e w3 ⟨rfl, hb3⟩
    have B3 : Hid (Below w.heap.size w w3) := Lib.hid (B2.out.trans (hb3.mono B2.out.size))
    clear hb3 q0 q1 q2 q3
    go_wp2_with fail
    refine (lives_any _).mono ?_
    rintro e wz ⟨rfl, hbz⟩
    have BZ : Hid (Below w.heap.size w wz) := Lib.hid (B3.out.trans (hbz.mono B3.out.size))
    clear hbz
    go_wp2_with fail
    go_ret
    exact ⟨rfl, BZ.out⟩
  · refine (light_no _ _ _ _ _ _ _ _ w1 h1).mono ?_
    rintro e w2 ⟨rfl, hb2⟩
    have B2 : Hid (Below w.heap.size w w2) := Lib.hid (B1.out.trans (hb2.mono B1.out.size))
    clear hb2 h h1
    go_wp2_with fail
    refine (lives_any _).mono ?_
    rintro e wz ⟨rfl, hbz⟩
    have BZ : Hid (Below w.heap.size w wz) := Lib.hid (B2.out.trans (hbz.mono B2.out.size))
    clear hbz
    go_wp2_with fail
    go_ret
    exact ⟨rfl, BZ.out⟩

theorem sbl_all (x : Int) (W : World) (v1 v2 : Value) (h1 : SnapArg W v1) (h2 : SnapArg W v2) :
    Calls Try.prog 4 #[v1, v2, .int .u8 x] W fun e w' => e = .returned (.bool true) ∧ Below W.heap.size W w' := by
  have k1 := h1
  have k2 := h2
  obtain ⟨i, t, am, nm, cm, ad, nd, cd, rfl, _⟩ := h1
  obtain ⟨j, u, bm, pm, km, bd, pd, kd, rfl, _⟩ := h2
  by_cases h : (nm ≤ 30 ∧ nd ≤ 33000) ∧ (pm ≤ 30 ∧ pd ≤ 33000)
  · obtain ⟨⟨g1, g2⟩, g3, g4⟩ := h
    obtain ⟨ms, d, l1, l2, s1⟩ := k1.is (by omega) (by omega)
    obtain ⟨ns, e, l3, l4, s2⟩ := k2.is (by omega) (by omega)
    by_cases hok : (SnapS.mk i t ms d).ok
    · exact sbl_yes x _ _ _ _ W s1 s2 hok (by simpa [l1] using g1) (by simpa [l2] using g2) (by simpa [l3] using g3) (by simpa [l4] using g4)
    · exact sbl_no x _ _ _ _ W s1 s2 hok (by simpa [l1] using g1) (by simpa [l2] using g2) (by simpa [l3] using g3) (by simpa [l4] using g4)
  · exact sbl_heavy x i t j u am ad bm bd nm cm nd cd pm km pd kd W h

set_option maxRecDepth 100000 in
theorem sbytes_law_lifted (os : Os) (started : os.Started) (H : Type) (enc : TypeId × Value → H) :
    ReturnsInHanded {} Try.checked os 4 .any (Rows.snapshotBytesSpec.pre6 enc Try.prog Try.f4 Rows.snapshotBytesRow.domain false) (Rows.snapshotBytesSpec.post enc Try.prog Try.f4 false true false false) := by
  refine returnsInHanded_of_change (C := Try.checked) own started (by kernel_rfl) Try.func4
    (ChangeSpec.witness6 (enc := enc) (C := Try.checked) false ⟨#[], #[.agg #[.int .u64 0, .int .u64 0, .slice none 0 0, .slice none 0 0], .agg #[.int .u64 0, .int .u64 0, .slice none 0 0, .slice none 0 0], .int .u8 0], []⟩ 8 (by kernel_rfl) (by kernel_rfl) (by kernel_rfl) (by kernel_rfl)) ?_
  intro W base args ds gs before hval0 hW hcnd _
  have hval : ∀ (j : Nat) t v, Try.f4.params[j]? = some t → args[j]? = some v → Value.okWide Try.prog W .any base t v := hval0
  have hW' := hW
  obtain ⟨p, q, hA0, hV, _, hfz, hnd⟩ := hW
  have hA : DataW.TrodAll enc Try.prog W 0 (fun _ => true) true Try.f4.params.toList args.toList ds p := hA0
  rw [Try.params4] at hA hval
  obtain ⟨v0, v1, v2, d0, d1, d2, p0, p1, p2, rfl, rfl, rfl, h0, h1, h2⟩ := trodAll_three hA
  have a0 := open_snap (hval 0 27 v0 rfl rfl) h0
  have a1 := open_snap (hval 1 27 v1 rfl rfl) h1
  obtain ⟨z2, rfl⟩ := okWide_int Try.underlying5 (hval 2 5 v2 rfl rfl)
  refine (sbl_all z2 W v0 v1 a0 a1).mono fun e W' ⟨he, hb⟩ => ?_
  exact ⟨_, he, law_post laid (by kernel_rfl) ⟨4, rfl, Try.underlying4⟩ rfl (fun ds hds => by
    match ds, hds with
    | [x0, x1, x2], _ => rfl) hW' hb⟩

theorem sbytes_law_holds : Rows.SnapshotBytesSaid :=
  OpenClaim.holds_of_wide 4 Try.f4 rfl rfl rfl rfl rfl rfl rfl ⟨rfl, rfl, rfl, rfl, rfl⟩ rfl rfl rfl rfl rfl (by kernel_rfl) Try.func4 (by kernel_rfl)
    (of_decide_eq_true (by kernel_rfl)) (by unfold Func.isWrapper; first | (rw [if_pos (by decide +kernel)]; kernel_rfl) | (rw [if_neg (by decide +kernel)]; exact ⟨rfl, rfl⟩))
    (fun os started H enc _ => sbytes_law_lifted os started H enc)
#print axioms sbytes_law_holds
end Go.Proofs.Ytofhccpagnkalaa
