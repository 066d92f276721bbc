/- Several texts in one: Rt, Snd, Snp, Same, Get. What each proves stands ahead of it; together they serve splays_law_holds. No conditions but those stated. -/
import Derived.Test.YtofhccpagnkalaaGreatSpb6
import Derived.Test.YtofhccpagnkalaaGreatSpb2
import Derived.Test.YtofhccpagnkalaaGreatSpb7
/- The contract of the document's Take; no conditions but the ranges. -/
namespace Go.Proofs.YtofhccpagnkalaaGreat
open Go.RowKit Go.Maps Go.Proofs.Own

theorem digits3 {p q r N : Nat} (hq : q < 256) (hr : r < 256) (h : N = be3 p q r) : N / 65536 = p ∧ N / 256 % 256 = q ∧ N % 256 = r := by
  subst h; unfold be3; omega
theorem take5 {l : List Nat} (h : 5 ≤ l.length) (k : Nat) : l.take (k + 5) = [l.getD 0 0, l.getD 1 0, l.getD 2 0, l.getD 3 0, l.getD 4 0] ++ (l.take (k + 5)).drop 5 := by
  match l, h with
  | a :: b :: c :: d :: e :: l, _ => simp
theorem getD_get {l : List Nat} {j : Nat} (h : j < l.length) : l.getD j 0 = l[j] := by simp [List.getD_eq_getElem?_getD, h]
theorem take3 {l : List Nat} {m : Nat} (h : m + 3 ≤ l.length) : l.take (m + 3) = l.take m ++ [l.getD m 0, l.getD (m + 1) 0, l.getD (m + 2) 0] := by
  rw [getD_get (show m < l.length by omega), getD_get (show m + 1 < l.length by omega), getD_get (show m + 2 < l.length by omega), show m + 3 = m + 1 + 1 + 1 from rfl,
    List.take_succ_eq_append_getElem (show m + 1 + 1 < l.length by omega), List.take_succ_eq_append_getElem (show m + 1 < l.length by omega), List.take_succ_eq_append_getElem (show m < l.length by omega)]
  simp only [List.append_assoc, List.cons_append, List.nil_append]
/-- The document's test of the sum is the program's. -/
theorem frP_iff {l : List Nat} (hl : ∀ c ∈ l, c < 256) (h : sizeE l = 0) (h0 : l.getD 0 0 = 102) : frP (l.getD 1 0) (frBody l) = l.take (frN l + 8) ↔ SumOk (frN l + 5) (l.take (frN l + 8)) := by
  obtain ⟨h5, hN, hlen⟩ := sizeE_len h
  have gl : ∀ j, l.getD j 0 < 256 := fun j => by
    rw [List.getD_eq_getElem?_getD]
    cases e : l[j]? with
    | none => simp
    | some x => exact hl x (List.mem_of_getElem? e)
  have hbl := length_frBody h
  have hd := digits3 (p := l.getD 2 0) (gl 3) (gl 4) (show frN l = be3 (l.getD 2 0) (l.getD 3 0) (l.getD 4 0) from rfl)
  have e1 : [102, l.getD 1 0, (frBody l).length / 65536, (frBody l).length / 256 % 256, (frBody l).length % 256] ++ frBody l = l.take (frN l + 5) := by
    rw [hbl, hd.1, hd.2.1, hd.2.2, take5 h5 (frN l), h0]; rfl
  have e2 : ∀ j, j < frN l + 8 → (l.take (frN l + 8)).getD j 0 = l.getD j 0 := fun j hj => by
    simp only [List.getD_eq_getElem?_getD]
    rw [List.getElem?_take_of_lt hj]
  have e3 : (l.take (frN l + 8)).take (frN l + 5) = l.take (frN l + 5) := by rw [List.take_take]; congr 1; omega
  unfold frP SumOk
  rw [e1, e3, e2 _ (by omega), e2 _ (by omega), e2 _ (by omega)]
  have e4 : l.take (frN l + 8) = l.take (frN l + 5) ++ [l.getD (frN l + 5) 0, l.getD (frN l + 6) 0, l.getD (frN l + 7) 0] := take3 (m := frN l + 5) (by omega)
  rw [e4, sealP]
  have hs := sumP_lt (l.take (frN l + 5)) (fun c hc => hl c (List.mem_of_mem_take hc))
  have g5 := gl (frN l + 5)
  have g6 := gl (frN l + 6)
  have g7 := gl (frN l + 7)
  simp only [List.append_cancel_left_eq, List.cons.injEq, and_true, show frN l + 5 + 1 = frN l + 6 by omega, show frN l + 5 + 2 = frN l + 7 by omega]
  unfold be3
  omega
theorem sizeE_first {l : List Nat} (h : sizeE l = 0) : l.getD 0 0 = 102 := by
  unfold sizeE at h
  split at h; · omega
  split at h; · omega
  rename_i h0; exact Classical.not_not.1 h0

-- WALKS
theorem sizeE_second {l : List Nat} (h : sizeE l = 0) : l.getD 1 0 ≠ 0 := by
  unfold sizeE at h
  split at h; · omega
  split at h; · omega
  split at h; · omega
  split at h; · omega
  assumption
/-- The two strings of the test are the same, or not. -/
def sumT (l : List Nat) : Prop := ((strN (frP (l.getD 1 0) (frBody l))).toList == (strN (l.take (frN l + 8))).toList) = true
def sumF (l : List Nat) : Prop := ((strN (frP (l.getD 1 0) (frBody l))).toList == (strN (l.take (frN l + 8))).toList) = false
theorem frP_lt {k : Nat} {l : List Nat} (hk : k < 256) (hn : l.length < 16777216) (h : ∀ c ∈ l, c < 256) : ∀ c ∈ frP k l, c < 256 := sealP_lt (headed_lt hk hn h)
theorem sumT_iff {l : List Nat} (hl : ∀ c ∈ l, c < 256) (h : sizeE l = 0) (hs : SumOk (frN l + 5) (l.take (frN l + 8))) : sumT l := by
  unfold sumT
  rw [(frP_iff hl h (sizeE_first h)).2 hs]
  exact str_eq_of rfl
theorem sumF_iff {l : List Nat} (hl : ∀ c ∈ l, c < 256) (h : sizeE l = 0) (hs : ¬ SumOk (frN l + 5) (l.take (frN l + 8))) : sumF l := by
  refine str_ne fun e => ?_
  refine hs ((frP_iff hl h (sizeE_first h)).1 (strN_inj (frP_lt ?_ ?_ ?_) (fun c hc => hl c (List.mem_of_mem_take hc)) e))
  · rw [List.getD_eq_getElem?_getD]
    cases e : l[1]? with
    | none => simp
    | some x => exact hl x (List.mem_of_getElem? e)
  · have := length_frBody h; have := sizeE_len h; omega
  · exact fun c hc => hl c (List.mem_of_mem_take (List.mem_of_mem_drop hc))

set_option maxHeartbeats 2000000 in
set_option maxRecDepth 20000 in
theorem rtake_no (v : Value) (l : List Nat) (w : World) (hB : Bytes w v l) (hs : sizeE l = 0) (hsum : ¬ SumOk (frN l + 5) (l.take (frN l + 8))) : Calls Tryz.prog 89 #[v] w (TakePost l w) := by
  have HF : Hid (takeE l = 22) := Lib.hid (by simp [takeE, hs, hsum])
  obtain ⟨h5, hN, hlen⟩ := sizeE_len hs
  have HB := Lib.hid hB
  obtain ⟨v1, hB1, hcut1⟩ := hB.cutm Tryz.u8s 5 (frN l + 5) (by omega) (by omega)
  obtain ⟨v2, hB2, hcut2⟩ := hB.cuth Tryz.u8s (frN l + 8) (by omega)
  have hB1' : Bytes w v1 (frBody l) := hB1
  have HW : Hid (sumF l) := Lib.hid (sumF_iff hB.lt hs hsum)
  have hn1 : l.getD 1 0 ≠ 0 := sizeE_second hs
  obtain ⟨b, o, c, rfl, hle, hbs, hcell⟩ := hB.somewhere (by omega)
  have c0 : w.cell? ⟨b, o, none⟩ = some (.int .u8 (l.getD 0 0 : Nat)) := hcell 0 (by omega)
  rw [sizeE_first hs] at c0
  have c1 := hcell 1 (by omega)
  have c2 := hcell 2 (by omega)
  have c3 := hcell 3 (by omega)
  have c4 := hcell 4 (by omega)
  have x2 := hB.getD_lt 2
  have x3 := hB.getD_lt 3
  have x4 := hB.getD_lt 4
  have x1 := hB.getD_lt 1
  have hl0 : ((l.length : Int) == 0) = false := beq_eq_false_iff_ne.2 (by omega)
  have hl2 : ¬ (l.length : Int) < 2 := by omega
  have hl5 : ¬ (l.length : Int) < 5 := by omega
  have hN' : ¬ (65536 : Int) < (frN l : Int) := by omega
  have hlN : ¬ (l.length : Int) < (frN l : Int) + 8 := by omega
  have HV : Hid (((l.getD 2 0 : Nat) : Int) * 65536 + ((l.getD 3 0 : Nat) : Int) * 256 + ((l.getD 4 0 : Nat) : Int) = (frN l : Int)) := Lib.hid (by have : frN l = l.getD 2 0 * 65536 + l.getD 3 0 * 256 + l.getD 4 0 := rfl; omega)
  have i0 : (0 : Int) < (l.length : Int) := by omega
  have i1 : (1 : Int) < (l.length : Int) := by omega
  have i2 : (2 : Int) < (l.length : Int) := by omega
  have i3 : (3 : Int) < (l.length : Int) := by omega
  have i4 : (4 : Int) < (l.length : Int) := by omega
  have HL := Lib.hid hlen
  have HN := Lib.hid hN
  have HS := Lib.hid hs
  have hbl : (frBody l).length ≤ 65536 := by rw [length_frBody hs]; exact hN
  have HBL := Lib.hid hbl
  clear hB hcell hle h5 hN hs hlen hbl hB1
  generalize l.getD 2 0 = p at c2 x2 HV
  generalize l.getD 3 0 = q at c3 x3 HV
  generalize l.getD 4 0 = r at c4 x4 HV
  generalize hx : l.getD 1 0 = x at c1 x1 hn1
  have HLN : Hid (([] : List Int).length + (ints (frBody l)).length ≤ 4294967296) := Lib.hid (by rw [length_ints]; have := HBL.out; simp only [List.length_nil]; omega)
  have hn1b : ((x : Int) == 0) = false := by simp; omega
  have HX := Lib.hid hx
  have C1 := Lib.hid c1
  have HB1 := Lib.hid hB1'
  have HB2 := Lib.hid hB2
  rw [sumF, hx] at HW
  have hcut1' : ∀ w', (Instr.slice 22 (.slice (some ⟨b, o, none⟩) l.length c) (some (.int .i64 5)) (some (.int .i64 ((frN l : Int) + 5))) none).run Tryz.prog w' = .ok v1 w' := hcut1
  have hcut2' : ∀ w', (Instr.slice 22 (.slice (some ⟨b, o, none⟩) l.length c) none (some (.int .i64 ((frN l : Int) + 8))) none).run Tryz.prog w' = .ok v2 w' := hcut2
  clear hx hcut1 hcut2 hB1' hB2 hn1 hsum
  go_enter Tryz.func89, Tryz.ntmps89
  go_wp2_with fail
  go_quiet (fail)
  have ST := Stable.from w
  have IQ : Hid (Below w.heap.size w (w.drewN nq)) := Lib.hid (Below.drewN _ _)
  generalize w.drewN nq = wq at IQ ⊢
  rw [HV.out]
  generalize hN : frN l = N at hN' hlN hcut1' hcut2' ⊢
  have HNN := Lib.hid hN
  clear hN c2 c3 c4 HV
  go_wp2_with fail
  have hwr : IntKind.i64.wrap ((N : Int) + 8) = (N : Int) + 8 := by simp only [IntKind.wrap_i64]; omega
  refine region_start [0, 1, 3, 0, 15, 31, 0, 0, 128, 448, 960, 2047] 48 (fun w' => Below w.heap.size w w') (by kernel_rfl) ?_
  refine stage_heads [0, 1, 2, 3, 6, 7, 8, 9, 10] (by kernel_rfl) (L := #[true, true, true, true, false, false, true, true, true, true, true, false]) (by kernel_rfl) (f' := 3) rfl (fun _ _ _ _ h => h) (fun w o h => ST.alloc h o) (.inr (ST.drew IQ.out)) ?_
  simp only [List.flatMap_cons, List.flatMap_nil, List.drop_succ_cons, List.drop_zero, List.take_succ_cons, List.take_zero, List.cons_append, List.nil_append, List.append_nil]
  iterate 9 (first | (refine heads_load _ (by rfl) (fun w' hs => by have y0 := Below.at hs C1.out hbs; have yc := (HB2.out.below hs).str (P := Tryz.prog) Tryz.underlying22 Tryz.underlying5 Tryz.underlying9; go_simp; try with_reducible rfl) rfl ?_; simp only [Act.put, List.setIfInBounds_toArray, List.set_cons_zero, List.set_cons_succ]) | (refine heads_pure _ (by rfl) (fun w' => by go_simp; try with_reducible rfl) ?_; simp only [Act.put, List.setIfInBounds_toArray, List.set_cons_zero, List.set_cons_succ]))
  refine heads_nil ?_
  refine stage_op 4 (by kernel_rfl) (L := #[true, true, true, true, true, false, true, true, true, true, true, false]) (by kernel_rfl) ?_
  simp only [List.drop_succ_cons, List.drop_zero, List.take_succ_cons, List.take_zero]
  go_wp2_with fail; refine (rbytes_any x v1 (frBody l) _ (HB1.out.below (ST.drew IQ.out)) x1 (by have := HBL.out; omega)).mono ?_; rintro e u4 ⟨v4, rfl, hB4, hb4⟩; have I4 : Hid (Below w.heap.size w u4) := Lib.hid (ST.below (ST.drew IQ.out) hb4); have HB4 := Lib.hid hB4; clear hB4 hb4; go_wp2_with fail
  refine step_post (fun _ => I4.out) ?_
  refine stage_op 5 (by kernel_rfl) (L := #[true, true, true, true, true, true, true, true, true, true, true, false]) (by kernel_rfl) ?_
  simp only [List.drop_succ_cons, List.drop_zero, List.take_succ_cons, List.take_zero]
  refine wpList_to_str rfl 22 9 5 _ rfl Tryz.underlying22 Tryz.underlying5 Tryz.underlying9 _ _ rfl HB4.out ?_; go_wp2_with fail
  refine step_post (fun _ => I4.out) ?_
  refine stage_heads [11] (by kernel_rfl) (L := #[true, true, true, true, true, true, true, true, true, true, true, true]) (by kernel_rfl) (f' := 0) rfl (fun _ _ _ _ h => h) (fun w o h => ST.alloc h o) (.inl (by kernel_rfl)) ?_
  simp only [List.flatMap_cons, List.flatMap_nil, List.drop_succ_cons, List.drop_zero, List.take_succ_cons, List.take_zero, List.append_nil]
  iterate 1 (refine heads_pure _ (by rfl) (fun w' => by go_simp; try with_reducible rfl) ?_; simp only [Act.put, List.setIfInBounds_toArray, List.set_cons_zero, List.set_cons_succ])
  refine heads_nil ?_
  refine stage_done (by kernel_rfl) ?_
  clear hwr
  rw [HW.out]
  go_wp2_with fail
  refine bodyPost_ret (v := .tuple #[.int .u8 0, .slice none 0 0, .int .i64 0, .int .i64 22]) (by simp [results, Tryz.results89, go_sem]) rfl ?_
  exact ⟨I4.out, fun _ => by rw [HF.out]; rfl, fun h => absurd (HF.out.symm.trans h) (by decide)⟩

set_option maxHeartbeats 2000000 in
set_option maxRecDepth 20000 in
theorem rtake_yes (v : Value) (l : List Nat) (w : World) (hB : Bytes w v l) (hs : sizeE l = 0) (hsum : SumOk (frN l + 5) (l.take (frN l + 8))) : Calls Tryz.prog 89 #[v] w (TakePost l w) := by
  have HF : Hid (takeE l = 0) := Lib.hid (by simp [takeE, hs, hsum])
  obtain ⟨h5, hN, hlen⟩ := sizeE_len hs
  have HB := Lib.hid hB
  obtain ⟨v1, hB1, hcut1⟩ := hB.cutm Tryz.u8s 5 (frN l + 5) (by omega) (by omega)
  obtain ⟨v2, hB2, hcut2⟩ := hB.cuth Tryz.u8s (frN l + 8) (by omega)
  have hB1' : Bytes w v1 (frBody l) := hB1
  have HW : Hid (sumT l) := Lib.hid (sumT_iff hB.lt hs hsum)
  have hn1 : l.getD 1 0 ≠ 0 := sizeE_second hs
  obtain ⟨b, o, c, rfl, hle, hbs, hcell⟩ := hB.somewhere (by omega)
  have c0 : w.cell? ⟨b, o, none⟩ = some (.int .u8 (l.getD 0 0 : Nat)) := hcell 0 (by omega)
  rw [sizeE_first hs] at c0
  have c1 := hcell 1 (by omega)
  have c2 := hcell 2 (by omega)
  have c3 := hcell 3 (by omega)
  have c4 := hcell 4 (by omega)
  have x2 := hB.getD_lt 2
  have x3 := hB.getD_lt 3
  have x4 := hB.getD_lt 4
  have x1 := hB.getD_lt 1
  have hl0 : ((l.length : Int) == 0) = false := beq_eq_false_iff_ne.2 (by omega)
  have hl2 : ¬ (l.length : Int) < 2 := by omega
  have hl5 : ¬ (l.length : Int) < 5 := by omega
  have hN' : ¬ (65536 : Int) < (frN l : Int) := by omega
  have hlN : ¬ (l.length : Int) < (frN l : Int) + 8 := by omega
  have HV : Hid (((l.getD 2 0 : Nat) : Int) * 65536 + ((l.getD 3 0 : Nat) : Int) * 256 + ((l.getD 4 0 : Nat) : Int) = (frN l : Int)) := Lib.hid (by have : frN l = l.getD 2 0 * 65536 + l.getD 3 0 * 256 + l.getD 4 0 := rfl; omega)
  have i0 : (0 : Int) < (l.length : Int) := by omega
  have i1 : (1 : Int) < (l.length : Int) := by omega
  have i2 : (2 : Int) < (l.length : Int) := by omega
  have i3 : (3 : Int) < (l.length : Int) := by omega
  have i4 : (4 : Int) < (l.length : Int) := by omega
  have HL := Lib.hid hlen
  have HN := Lib.hid hN
  have HS := Lib.hid hs
  have hbl : (frBody l).length ≤ 65536 := by rw [length_frBody hs]; exact hN
  have HBL := Lib.hid hbl
  clear hB hcell hle h5 hN hs hlen hbl hB1
  generalize l.getD 2 0 = p at c2 x2 HV
  generalize l.getD 3 0 = q at c3 x3 HV
  generalize l.getD 4 0 = r at c4 x4 HV
  generalize hx : l.getD 1 0 = x at c1 x1 hn1
  have HLN : Hid (([] : List Int).length + (ints (frBody l)).length ≤ 4294967296) := Lib.hid (by rw [length_ints]; have := HBL.out; simp only [List.length_nil]; omega)
  have hn1b : ((x : Int) == 0) = false := by simp; omega
  have HX := Lib.hid hx
  have C1 := Lib.hid c1
  have HB1 := Lib.hid hB1'
  have HB2 := Lib.hid hB2
  rw [sumT, hx] at HW
  have hcut1' : ∀ w', (Instr.slice 22 (.slice (some ⟨b, o, none⟩) l.length c) (some (.int .i64 5)) (some (.int .i64 ((frN l : Int) + 5))) none).run Tryz.prog w' = .ok v1 w' := hcut1
  have hcut2' : ∀ w', (Instr.slice 22 (.slice (some ⟨b, o, none⟩) l.length c) none (some (.int .i64 ((frN l : Int) + 8))) none).run Tryz.prog w' = .ok v2 w' := hcut2
  clear hx hcut1 hcut2 hB1' hB2 hn1 hsum
  go_enter Tryz.func89, Tryz.ntmps89
  go_wp2_with fail
  go_quiet (fail)
  have ST := Stable.from w
  have IQ : Hid (Below w.heap.size w (w.drewN nq)) := Lib.hid (Below.drewN _ _)
  generalize w.drewN nq = wq at IQ ⊢
  rw [HV.out]
  generalize hN : frN l = N at hN' hlN hcut1' hcut2' ⊢
  have HNN := Lib.hid hN
  clear hN c2 c3 c4 HV
  go_wp2_with fail
  have hwr : IntKind.i64.wrap ((N : Int) + 8) = (N : Int) + 8 := by simp only [IntKind.wrap_i64]; omega
  refine region_start [0, 1, 3, 0, 15, 31, 0, 0, 128, 448, 960, 2047] 48 (fun w' => Below w.heap.size w w') (by kernel_rfl) ?_
  refine stage_heads [0, 1, 2, 3, 6, 7, 8, 9, 10] (by kernel_rfl) (L := #[true, true, true, true, false, false, true, true, true, true, true, false]) (by kernel_rfl) (f' := 3) rfl (fun _ _ _ _ h => h) (fun w o h => ST.alloc h o) (.inr (ST.drew IQ.out)) ?_
  simp only [List.flatMap_cons, List.flatMap_nil, List.drop_succ_cons, List.drop_zero, List.take_succ_cons, List.take_zero, List.cons_append, List.nil_append, List.append_nil]
  iterate 9 (first | (refine heads_load _ (by rfl) (fun w' hs => by have y0 := Below.at hs C1.out hbs; have yc := (HB2.out.below hs).str (P := Tryz.prog) Tryz.underlying22 Tryz.underlying5 Tryz.underlying9; go_simp; try with_reducible rfl) rfl ?_; simp only [Act.put, List.setIfInBounds_toArray, List.set_cons_zero, List.set_cons_succ]) | (refine heads_pure _ (by rfl) (fun w' => by go_simp; try with_reducible rfl) ?_; simp only [Act.put, List.setIfInBounds_toArray, List.set_cons_zero, List.set_cons_succ]))
  refine heads_nil ?_
  refine stage_op 4 (by kernel_rfl) (L := #[true, true, true, true, true, false, true, true, true, true, true, false]) (by kernel_rfl) ?_
  simp only [List.drop_succ_cons, List.drop_zero, List.take_succ_cons, List.take_zero]
  go_wp2_with fail; refine (rbytes_any x v1 (frBody l) _ (HB1.out.below (ST.drew IQ.out)) x1 (by have := HBL.out; omega)).mono ?_; rintro e u4 ⟨v4, rfl, hB4, hb4⟩; have I4 : Hid (Below w.heap.size w u4) := Lib.hid (ST.below (ST.drew IQ.out) hb4); have HB4 := Lib.hid hB4; clear hB4 hb4; go_wp2_with fail
  refine step_post (fun _ => I4.out) ?_
  refine stage_op 5 (by kernel_rfl) (L := #[true, true, true, true, true, true, true, true, true, true, true, false]) (by kernel_rfl) ?_
  simp only [List.drop_succ_cons, List.drop_zero, List.take_succ_cons, List.take_zero]
  refine wpList_to_str rfl 22 9 5 _ rfl Tryz.underlying22 Tryz.underlying5 Tryz.underlying9 _ _ rfl HB4.out ?_; go_wp2_with fail
  refine step_post (fun _ => I4.out) ?_
  refine stage_heads [11] (by kernel_rfl) (L := #[true, true, true, true, true, true, true, true, true, true, true, true]) (by kernel_rfl) (f' := 0) rfl (fun _ _ _ _ h => h) (fun w o h => ST.alloc h o) (.inl (by kernel_rfl)) ?_
  simp only [List.flatMap_cons, List.flatMap_nil, List.drop_succ_cons, List.drop_zero, List.take_succ_cons, List.take_zero, List.append_nil]
  iterate 1 (refine heads_pure _ (by rfl) (fun w' => by go_simp; try with_reducible rfl) ?_; simp only [Act.put, List.setIfInBounds_toArray, List.set_cons_zero, List.set_cons_succ])
  refine heads_nil ?_
  refine stage_done (by kernel_rfl) ?_
  clear hwr
  rw [HW.out]
  go_wp2_with fail
  have hwr : IntKind.i64.wrap ((N : Int) + 8) = (N : Int) + 8 := by simp only [IntKind.wrap_i64]; omega
  refine region_start [0, 1, 3, 0, 0, 24, 0, 64, 63, 319, 1023, 2047] 32 (fun w' => Below w.heap.size w w') (by kernel_rfl) ?_
  refine stage_heads [0, 1, 2, 4, 6, 7] (by kernel_rfl) (L := #[true, true, true, false, true, false, true, true, false, false, false, false]) (by kernel_rfl) (f' := 6) rfl (fun _ _ _ _ h => h) (fun w o h => ST.alloc h o) (.inr (by first | exact ST.drew I4.out | exact I4.out)) ?_
  simp only [List.flatMap_cons, List.flatMap_nil, List.drop_succ_cons, List.drop_zero, List.take_succ_cons, List.take_zero, List.cons_append, List.nil_append, List.append_nil]
  iterate 6 (first | (refine heads_load _ (by rfl) (fun w' hs => by have y0 := Below.at hs C1.out hbs; have yc := (HB2.out.below hs).str (P := Tryz.prog) Tryz.underlying22 Tryz.underlying5 Tryz.underlying9; go_simp; try with_reducible rfl) rfl ?_; simp only [Act.put, List.setIfInBounds_toArray, List.set_cons_zero, List.set_cons_succ]) | (refine heads_pure _ (by rfl) (fun w' => by go_simp; try with_reducible rfl) ?_; simp only [Act.put, List.setIfInBounds_toArray, List.set_cons_zero, List.set_cons_succ]))
  refine heads_nil ?_
  refine stage_op 3 (by kernel_rfl) (L := #[true, true, true, true, true, false, true, true, false, false, false, false]) (by kernel_rfl) ?_
  simp only [List.drop_succ_cons, List.drop_zero, List.take_succ_cons, List.take_zero]
  go_wp2_with fail; generalize hu5 : World.alloc _ _ = u5; have I5 : Hid (Below w.heap.size w u5) := Lib.hid (by subst hu5; exact ST.alloc (by first | exact ST.drew I4.out | exact I4.out) _); have O5 : Hid (Owns u5 (w.heap.size) 5 .u8 (.slice (some ⟨u4.heap.size, 0, none⟩) 0 0) []) := Lib.hid (by subst hu5; first | exact Owns.empty (heap_alloc_new _ _) I4.out.size | exact Owns.empty (heap_alloc_new _ _) (ST.drew I4.out).size); clear hu5
  refine step_post nofun ?_
  refine stage_op 5 (by kernel_rfl) (L := #[true, true, true, true, true, true, true, true, false, false, false, false]) (by kernel_rfl) ?_
  simp only [List.drop_succ_cons, List.drop_zero, List.take_succ_cons, List.take_zero]
  refine wpList_append_ints Tryz.u8s _ _ rfl w.heap.size _ _ [] (ints (frBody l)) rfl rfl O5.out.drew (HB1.out.below (ST.drew I5.out)).rd (by decide) HLN.out (ST.drew I5.out).size rfl ?_; intro v6 w6 hown6 hgr6 hat6 hnil6 hbel6; have O6 : Hid (Owns w6 w.heap.size 5 .u8 v6 (ints (frBody l))) := Lib.hid (by simpa using hown6); have B6 : Hid (Below w.heap.size w w6) := Lib.hid ((ST.drew I5.out).trans hbel6); clear hown6 hgr6 hat6 hnil6 hbel6; go_wp2_with fail
  refine step_post (fun _ => B6.out) ?_
  refine stage_heads [8, 9, 10, 11] (by kernel_rfl) (L := #[true, true, true, true, true, true, true, true, true, true, true, true]) (by kernel_rfl) (f' := 0) rfl (fun _ _ _ _ h => h) (fun w o h => ST.alloc h o) (.inl (by kernel_rfl)) ?_
  simp only [List.flatMap_cons, List.flatMap_nil, List.drop_succ_cons, List.drop_zero, List.take_succ_cons, List.take_zero, List.cons_append, List.nil_append, List.append_nil]
  iterate 4 (refine heads_pure _ (by rfl) (fun w' => by go_simp; try with_reducible rfl) ?_; simp only [Act.put, List.setIfInBounds_toArray, List.set_cons_zero, List.set_cons_succ])
  refine heads_nil ?_
  refine stage_done (by kernel_rfl) ?_
  go_wp2_with fail
  refine bodyPost_ret (v := .tuple #[.int .u8 x, v6, .int .i64 ((N : Int) + 8), .int .i64 0]) (by simp [results, Tryz.results89, go_sem]) rfl ?_
  exact ⟨B6.out, fun h => absurd HF.out h, fun _ => ⟨v6, by rw [HX.out, HNN.out]; rfl, Bytes.of_owns O6.out HB1.out.lt HB1.out.small⟩⟩

theorem rtake_bad0 (v : Value) (l : List Nat) (w : World) (hB : Bytes w v l) (h0 : l.length = 0) : Calls Tryz.prog 89 #[v] w (TakePost l w) := by
  have hs : sizeE l = 23 := by simp [sizeE, h0]
  have HF : Hid (takeE l = 23) := Lib.hid (by simp [takeE, hs])
  obtain ⟨a, c, rfl, _⟩ := hB.shape
  rw [h0]
  clear hs h0 hB
  go_enter Tryz.func89, Tryz.ntmps89
  go_wp2_with fail
  refine bodyPost_ret (v := .tuple #[.int .u8 0, .slice none 0 0, .int .i64 0, .int .i64 23]) (by simp [results, Tryz.results89, go_sem]) rfl ?_
  exact ⟨Below.refl _ _, fun _ => by rw [HF.out]; rfl, fun h => absurd (HF.out.symm.trans h) (by decide)⟩

set_option maxHeartbeats 2000000 in
set_option maxRecDepth 20000 in
theorem rtake_bad1 (v : Value) (l : List Nat) (w : World) (hB : Bytes w v l) (hs : sizeE l ≠ 0) (h0 : 0 < l.length) (h5 : l.length < 5) : Calls Tryz.prog 89 #[v] w (TakePost l w) := by
  obtain ⟨b, o, c, rfl, hle, hbs, hcell⟩ := hB.somewhere (by omega)
  have c0 : w.cell? ⟨b, o, none⟩ = some (.int .u8 (l.getD 0 0 : Nat)) := hcell 0 (by omega)
  have c1 : 1 < l.length → w.cell? ⟨b, o + 1, none⟩ = some (.int .u8 (l.getD 1 0 : Nat)) := fun h => hcell 1 h
  have hse : sizeE l = if l.getD 0 0 ≠ 102 then 20 else if l.length < 2 then 23 else if l.getD 1 0 = 0 then 20 else 23 := by
    unfold sizeE
    rw [if_neg (by omega), if_pos h5]
  have htk : takeE l = sizeE l := by simp [takeE, hs]
  have hl0 : ((l.length : Int) == 0) = false := beq_eq_false_iff_ne.2 (by omega)
  have i0 : (0 : Int) < (l.length : Int) := by omega
  have key : ∃ k : Nat, k ≠ 0 ∧ takeE l = k ∧ ((k = 20 ∧ (((l.getD 0 0 : Nat) : Int) != 102) = true) ∨ (k = 23 ∧ (((l.getD 0 0 : Nat) : Int) != 102) = false ∧ (l.length : Int) < 2) ∨
      (k = 20 ∧ (((l.getD 0 0 : Nat) : Int) != 102) = false ∧ ¬ (l.length : Int) < 2 ∧ (((l.getD 1 0 : Nat) : Int) == 0) = true) ∨
      (k = 23 ∧ (((l.getD 0 0 : Nat) : Int) != 102) = false ∧ ¬ (l.length : Int) < 2 ∧ (((l.getD 1 0 : Nat) : Int) == 0) = false)) := by
    generalize l.getD 0 0 = x at hse
    generalize l.getD 1 0 = y at hse
    by_cases hx : x = 102
    · have hxb : ((x : Int) != 102) = false := by simp; omega
      by_cases h2 : l.length < 2
      · exact ⟨23, by decide, by rw [htk, hse, if_neg (by omega), if_pos h2], .inr (.inl ⟨rfl, hxb, by omega⟩)⟩
      · by_cases hy : y = 0
        · exact ⟨20, by decide, by rw [htk, hse, if_neg (by omega), if_neg h2, if_pos hy], .inr (.inr (.inl ⟨rfl, hxb, by omega, by simp; omega⟩))⟩
        · exact ⟨23, by decide, by rw [htk, hse, if_neg (by omega), if_neg h2, if_neg hy], .inr (.inr (.inr ⟨rfl, hxb, by omega, by simp; omega⟩))⟩
    · exact ⟨20, by decide, by rw [htk, hse, if_pos hx], .inl ⟨rfl, by simp; omega⟩⟩
  have h5i : (l.length : Int) < 5 := by omega
  clear hB hcell hle hs hse htk h5 h0
  obtain ⟨k, hk, hkt, key⟩ := key
  have HK := Lib.hid hk
  have HF := Lib.hid hkt
  clear hk hkt
  generalize l.getD 0 0 = x at c0 key
  generalize l.getD 1 0 = y at c1 key
  rcases key with ⟨rfl, k1⟩ | ⟨rfl, k1, k2⟩ | ⟨rfl, k1, k2, k3⟩ | ⟨rfl, k1, k2, k3⟩
  · clear c1
    go_enter Tryz.func89, Tryz.ntmps89
    go_wp2_with fail
    refine bodyPost_ret (v := .tuple #[.int .u8 0, .slice none 0 0, .int .i64 0, .int .i64 20]) (by simp [results, Tryz.results89, go_sem]) rfl ?_
    exact ⟨Below.refl _ _, fun _ => by rw [HF.out]; rfl, fun h => absurd (HF.out.symm.trans h) HK.out⟩
  · clear c1
    go_enter Tryz.func89, Tryz.ntmps89
    go_wp2_with fail
    refine bodyPost_ret (v := .tuple #[.int .u8 0, .slice none 0 0, .int .i64 0, .int .i64 23]) (by simp [results, Tryz.results89, go_sem]) rfl ?_
    exact ⟨Below.refl _ _, fun _ => by rw [HF.out]; rfl, fun h => absurd (HF.out.symm.trans h) HK.out⟩
  · have c1' := c1 (by omega)
    have i1 : (1 : Int) < (l.length : Int) := by omega
    clear c1
    go_enter Tryz.func89, Tryz.ntmps89
    go_wp2_with fail
    refine bodyPost_ret (v := .tuple #[.int .u8 0, .slice none 0 0, .int .i64 0, .int .i64 20]) (by simp [results, Tryz.results89, go_sem]) rfl ?_
    exact ⟨Below.refl _ _, fun _ => by rw [HF.out]; rfl, fun h => absurd (HF.out.symm.trans h) HK.out⟩
  · have c1' := c1 (by omega)
    have i1 : (1 : Int) < (l.length : Int) := by omega
    clear c1
    go_enter Tryz.func89, Tryz.ntmps89
    go_wp2_with fail
    refine bodyPost_ret (v := .tuple #[.int .u8 0, .slice none 0 0, .int .i64 0, .int .i64 23]) (by simp [results, Tryz.results89, go_sem]) rfl ?_
    exact ⟨Below.refl _ _, fun _ => by rw [HF.out]; rfl, fun h => absurd (HF.out.symm.trans h) HK.out⟩

set_option maxHeartbeats 2000000 in
set_option maxRecDepth 20000 in
theorem rtake_bad5 (v : Value) (l : List Nat) (w : World) (hB : Bytes w v l) (hs : sizeE l ≠ 0) (h5 : 5 ≤ l.length) : Calls Tryz.prog 89 #[v] w (TakePost l w) := by
  obtain ⟨b, o, c, rfl, hle, hbs, hcell⟩ := hB.somewhere (by omega)
  have c0 : w.cell? ⟨b, o, none⟩ = some (.int .u8 (l.getD 0 0 : Nat)) := hcell 0 (by omega)
  have c1 := hcell 1 (by omega)
  have c2 := hcell 2 (by omega)
  have c3 := hcell 3 (by omega)
  have c4 := hcell 4 (by omega)
  have x2 := hB.getD_lt 2
  have x3 := hB.getD_lt 3
  have x4 := hB.getD_lt 4
  have hse : sizeE l = if l.getD 0 0 ≠ 102 then 20 else if l.getD 1 0 = 0 then 20 else if 65536 < frN l then 20 else if l.length < frN l + 8 then 23 else 0 := by
    unfold sizeE
    rw [if_neg (by omega), if_neg (show ¬ l.length < 2 by omega), if_neg (show ¬ l.length < 5 by omega)]
  have htk : takeE l = sizeE l := by simp [takeE, hs]
  have hl0 : ((l.length : Int) == 0) = false := beq_eq_false_iff_ne.2 (by omega)
  have hl2 : ¬ (l.length : Int) < 2 := by omega
  have hl5 : ¬ (l.length : Int) < 5 := by omega
  have i0 : (0 : Int) < (l.length : Int) := by omega
  have i1 : (1 : Int) < (l.length : Int) := by omega
  have i2 : (2 : Int) < (l.length : Int) := by omega
  have i3 : (3 : Int) < (l.length : Int) := by omega
  have i4 : (4 : Int) < (l.length : Int) := by omega
  have HV : Hid (((l.getD 2 0 : Nat) : Int) * 65536 + ((l.getD 3 0 : Nat) : Int) * 256 + ((l.getD 4 0 : Nat) : Int) = (frN l : Int)) := Lib.hid (by have : frN l = l.getD 2 0 * 65536 + l.getD 3 0 * 256 + l.getD 4 0 := rfl; omega)
  have key : ∃ k : Nat, k ≠ 0 ∧ takeE l = k ∧ ((k = 20 ∧ (((l.getD 0 0 : Nat) : Int) != 102) = true) ∨
      (k = 20 ∧ (((l.getD 0 0 : Nat) : Int) != 102) = false ∧ (((l.getD 1 0 : Nat) : Int) == 0) = true) ∨
      (k = 20 ∧ (((l.getD 0 0 : Nat) : Int) != 102) = false ∧ (((l.getD 1 0 : Nat) : Int) == 0) = false ∧ (65536 : Int) < (frN l : Int)) ∨
      (k = 23 ∧ (((l.getD 0 0 : Nat) : Int) != 102) = false ∧ (((l.getD 1 0 : Nat) : Int) == 0) = false ∧ (frN l : Int) ≤ 65536 ∧ (l.length : Int) < (frN l : Int) + 8)) := by
    generalize l.getD 0 0 = x at hse
    generalize l.getD 1 0 = y at hse
    by_cases hx : x = 102
    · have hxb : ((x : Int) != 102) = false := by simp; omega
      by_cases hy : y = 0
      · exact ⟨20, by decide, by rw [htk, hse, if_neg (by omega), if_pos hy], .inr (.inl ⟨rfl, hxb, by simp; omega⟩)⟩
      · have hyb : ((y : Int) == 0) = false := by simp; omega
        by_cases hn : 65536 < frN l
        · exact ⟨20, by decide, by rw [htk, hse, if_neg (by omega), if_neg hy, if_pos hn], .inr (.inr (.inl ⟨rfl, hxb, hyb, by omega⟩))⟩
        · by_cases ht : l.length < frN l + 8
          · exact ⟨23, by decide, by rw [htk, hse, if_neg (by omega), if_neg hy, if_neg hn, if_pos ht], .inr (.inr (.inr ⟨rfl, hxb, hyb, by omega, by omega⟩))⟩
          · exact absurd (by rw [hse, if_neg (by omega), if_neg hy, if_neg hn, if_neg ht]) hs
    · exact ⟨20, by decide, by rw [htk, hse, if_pos hx], .inl ⟨rfl, by simp; omega⟩⟩
  clear hB hcell hle hs hse htk h5
  obtain ⟨k, hk, hkt, key⟩ := key
  have HK := Lib.hid hk
  have HF := Lib.hid hkt
  clear hk hkt
  generalize l.getD 0 0 = x at c0 key
  generalize l.getD 1 0 = y at c1 key
  generalize l.getD 2 0 = p at c2 x2 HV
  generalize l.getD 3 0 = q at c3 x3 HV
  generalize l.getD 4 0 = r at c4 x4 HV
  rcases key with ⟨rfl, k1⟩ | ⟨rfl, k1, k2⟩ | ⟨rfl, k1, k2, k3⟩ | ⟨rfl, k1, k2, k3, k4⟩
  · go_enter Tryz.func89, Tryz.ntmps89
    go_wp2_with fail
    refine bodyPost_ret (v := .tuple #[.int .u8 0, .slice none 0 0, .int .i64 0, .int .i64 20]) (by simp [results, Tryz.results89, go_sem]) rfl ?_
    exact ⟨Below.refl _ _, fun _ => by rw [HF.out]; rfl, fun h => absurd (HF.out.symm.trans h) HK.out⟩
  · go_enter Tryz.func89, Tryz.ntmps89
    go_wp2_with fail
    refine bodyPost_ret (v := .tuple #[.int .u8 0, .slice none 0 0, .int .i64 0, .int .i64 20]) (by simp [results, Tryz.results89, go_sem]) rfl ?_
    exact ⟨Below.refl _ _, fun _ => by rw [HF.out]; rfl, fun h => absurd (HF.out.symm.trans h) HK.out⟩
  · go_enter Tryz.func89, Tryz.ntmps89
    go_wp2_with fail
    go_quiet (fail)
    rw [HV.out]
    go_wp2_with fail
    refine bodyPost_ret (v := .tuple #[.int .u8 0, .slice none 0 0, .int .i64 0, .int .i64 20]) (by simp [results, Tryz.results89, go_sem]) rfl ?_
    exact ⟨Below.drewN _ _, fun _ => by rw [HF.out]; rfl, fun h => absurd (HF.out.symm.trans h) HK.out⟩
  · go_enter Tryz.func89, Tryz.ntmps89
    go_wp2_with fail
    go_quiet (fail)
    rw [HV.out]
    go_wp2_with fail
    refine bodyPost_ret (v := .tuple #[.int .u8 0, .slice none 0 0, .int .i64 0, .int .i64 23]) (by simp [results, Tryz.results89, go_sem]) rfl ?_
    exact ⟨Below.drewN _ _, fun _ => by rw [HF.out]; rfl, fun h => absurd (HF.out.symm.trans h) HK.out⟩

theorem rtake_any (v : Value) (l : List Nat) (w : World) (hB : Bytes w v l) : Calls Tryz.prog 89 #[v] w (TakePost l w) := by
  by_cases hs : sizeE l = 0
  · by_cases hsum : SumOk (frN l + 5) (l.take (frN l + 8))
    · exact rtake_yes v l w hB hs hsum
    · exact rtake_no v l w hB hs hsum
  · by_cases h0 : l.length = 0
    · exact rtake_bad0 v l w hB h0
    · by_cases h5 : l.length < 5
      · exact rtake_bad1 v l w hB hs (by omega) h5
      · exact rtake_bad5 v l w hB hs (by omega)
end Go.Proofs.YtofhccpagnkalaaGreat

/- Rows of ints; which members are sound; both ways; no conditions but the ranges. -/
namespace Go.Proofs.YtofhccpagnkalaaGreat
open Go.RowKit Go.Maps Go.Proofs.Own

theorem Tryz.infoInt : (Tryz.prog.info? 3).map (fun i => (i.zero, i.size, i.bytes)) = some (some (.int .i64 0), 1, 8) := by kernel_rfl
theorem Tryz.i64s : IntSlice Tryz.prog 38 3 .i64 8 := ⟨Tryz.underlying38, Tryz.infoInt⟩

structure Ints (w : World) (v : Value) (l : List Int) : Prop where
  shape : ∃ a c, v = .slice a l.length c ∧ l.length ≤ c
  rd : Reads w .i64 v l
  small : l.length ≤ 2097152
theorem Ints.kept {w w' : World} {v : Value} {l : List Int} {S : Nat → Prop} (h : Ints w v l) (hk : Kept w w' S) (hs : ∀ b, v.ownBlock = some b → ¬ S b) : Ints w' v l := ⟨h.shape, h.rd.kept hk hs, h.small⟩
theorem Ints.below {w w' : World} {v : Value} {l : List Int} (h : Ints w v l) (hb : Below w.heap.size w w') : Ints w' v l := ⟨h.shape, h.rd.below hb, h.small⟩
theorem Ints.alloc {w : World} {v : Value} {l : List Int} (h : Ints w v l) (o : Obj) : Ints (w.alloc o) v l := ⟨h.shape, h.rd.alloc o, h.small⟩
theorem Ints.nil (w : World) : Ints w (.slice none 0 0) [] := ⟨⟨none, 0, rfl, Nat.le_refl _⟩, Reads.nil _ _ _ _, Nat.zero_le _⟩
theorem Ints.of_owns {w : World} {base : Nat} {e : TypeId} {v : Value} {l : List Int} (h : Owns w base e .i64 v l) (hs : l.length ≤ 2097152) : Ints w v l := by
  refine ⟨?_, h.reads, hs⟩
  rcases h.2 with ⟨rfl, h0⟩ | ⟨g, cap, cur, rfl, _, _, hle, _⟩
  · exact ⟨none, 0, by rw [h0], by omega⟩
  · exact ⟨_, _, rfl, hle⟩
theorem Ints.st (v : Value) (l : List Int) : Stable fun w => Ints w v l := ⟨fun hs hb => hs.below hb⟩
theorem Ints.cells {w : World} {a : Option Addr} {n c : Nat} {l : List Int} (h : Ints w (.slice a n c) l) : n = l.length ∧ n ≤ c ∧ ∀ j (hj : j < l.length), ∃ b o, a = some ⟨b, o, none⟩ ∧ w.cell? ⟨b, o + j, none⟩ = some (.int .i64 l[j]) := by
  obtain ⟨a', c', h1, h2⟩ := h.shape
  cases h1
  refine ⟨rfl, h2, fun j hj => ?_⟩
  obtain ⟨a', c', h1, hc⟩ := h.rd
  cases h1
  exact hc j hj

/-- The member before. -/
def prevM (ms : List Int) (j : Nat) : Int := if j = 0 then -1 else ms.getD (j - 1) 0
/-- The member at j may be there. -/
def okAt (ms : List Int) (j : Nat) : Prop := prevM ms j < ms.getD j 0 ∧ ms.getD j 0 < 7
instance (ms : List Int) (j : Nat) : Decidable (okAt ms j) := inferInstanceAs (Decidable (_ ∧ _))
/-- They may be there. -/
def msOk (ms : List Int) : Prop := 1 ≤ ms.length ∧ ms.length ≤ 7 ∧ ∀ j, j < ms.length → okAt ms j
instance (ms : List Int) : Decidable (msOk ms) := inferInstanceAs (Decidable (_ ∧ _ ∧ _))
def msOkB (ms : List Int) : Bool := decide (msOk ms)
theorem prevM_succ (ms : List Int) (k : Nat) : prevM ms (k + 1) = ms.getD k 0 := by simp [prevM]
theorem ok_nonneg {ms : List Int} {k : Nat} (h : ∀ j, j < k → okAt ms j) : ∀ j, j < k → 0 ≤ ms.getD j 0
  | 0, hj => by have := (h 0 hj).1; simp only [prevM, if_true] at this; omega
  | j + 1, hj => by have := ok_nonneg h j (by omega); have := (h (j + 1) hj).1; rw [prevM_succ] at this; omega
theorem getDi {l : List Int} {j : Nat} (h : j < l.length) : l.getD j 0 = l[j] := by simp [List.getD_eq_getElem?_getD, h]

set_option maxHeartbeats 1000000 in
theorem rising_any (v : Value) (ms : List Int) (w : World) (h : Ints w v ms) :
    Calls Tryz.prog 123 #[v] w fun e w' => e = .returned (.bool (msOkB ms)) ∧ w = w' := by
  obtain ⟨a, c, rfl, hle⟩ := h.shape
  have HC := Lib.hid h.cells.2.2
  have hlb : (ms.length : Int) ≤ 2097152 := by have := h.small; omega
  by_cases h0 : ms.length = 0
  · have HV : Hid (msOkB ms = false) := Lib.hid (decide_eq_false fun h => by have := h.1; omega)
    rw [HV.out]
    rw [h0] at *
    clear h hle HC
    go_enter Tryz.func123, Tryz.ntmps123
    go_wp2_with fail
    go_step3
    go_wp2_with fail
    go_step3
    go_wp2_with fail
    go_loop [4, 6, 17, 3] (fun l n i o => i = .int .i64 0 ∧ o = .bool false ∧ l = .int .i64 (-1)) (fun _ _ _ _ => 0)
    case atStart => exact ⟨rfl, rfl, rfl⟩
    case round =>
      obtain ⟨rfl, rfl, rfl⟩ := hrel
      go_wp2_with fail
      go_ret
      exact ⟨rfl, rfl⟩
  · by_cases h7 : 7 < ms.length
    · have HV : Hid (msOkB ms = false) := Lib.hid (decide_eq_false fun h => by have := h.2.1; omega)
      rw [HV.out]
      have l1 : (7 : Int) < (ms.length : Int) := by omega
      have l0 : (0 : Int) < (ms.length : Int) := by omega
      obtain ⟨x, b, o, rfl, hcell⟩ : ∃ (x : Int) (b o : Nat), a = some ⟨b, o, none⟩ ∧ w.cell? ⟨b, o, none⟩ = some (.int .i64 x) := by
        obtain ⟨b, o, e, hc⟩ := HC.out 0 (by omega)
        exact ⟨_, b, o, e, hc⟩
      have hd7 : decide ((ms.length : Int) ≤ 7) = false := decide_eq_false (by omega)
      clear h hle h0 h7
      go_enter Tryz.func123, Tryz.ntmps123
      go_wp2_with fail
      go_step3
      go_wp2_with fail
      go_step3
      go_wp2_with fail
      go_loop [4, 6, 17, 3] (fun l n i o => i = .int .i64 0 ∧ o = .bool false ∧ l = .int .i64 (-1)) (fun _ _ _ _ => 0)
      case atStart => exact ⟨rfl, rfl, rfl⟩
      case round =>
        obtain ⟨rfl, rfl, rfl⟩ := hrel
        go_wp2_with fail
        try rw [Exit.noGoto_ret]
        go_ret
        exact ⟨rfl, rfl⟩
    · have l1 : (ms.length : Int) ≤ 7 := by omega
      have l0 : (0 : Int) < (ms.length : Int) := by omega
      have H0 : Hid (1 ≤ ms.length ∧ ms.length ≤ 7) := Lib.hid ⟨by omega, by omega⟩
      clear h hle h0 h7
      go_enter Tryz.func123, Tryz.ntmps123
      go_wp2_with fail
      go_step3
      go_wp2_with fail
      go_step3
      go_wp2_with fail
      go_loop [4, 6, 17, 3] (fun l n i o => ∃ k : Nat, k ≤ ms.length ∧ i = .int .i64 k ∧ o = .bool true ∧ l = .int .i64 (prevM ms k) ∧ ∀ j, j < k → okAt ms j) (fun _ _ i _ => ms.length - (intOf i).toNat)
      case atStart => exact ⟨0, Nat.zero_le _, rfl, rfl, rfl, fun j h => absurd h (Nat.not_lt_zero j)⟩
      case round =>
        obtain ⟨k, hk, rfl, rfl, rfl, hall⟩ := hrel
        have HALL := Lib.hid hall
        clear hall
        by_cases hlt : k < ms.length
        · obtain ⟨b, o, rfl, hcell⟩ := HC.out k hlt
          have hki : (k : Int) < (ms.length : Int) := by omega
          have hx := getDi hlt
          have HX := Lib.hid hx
          have HP : Hid (prevM ms (k + 1) = ms[k]) := Lib.hid (by rw [prevM_succ, hx])
          by_cases hok : okAt ms k
          · have HO := Lib.hid hok
            have h1 := hok.1
            have h2 := hok.2
            rw [hx] at h1 h2
            clear hok hx
            generalize ms[k] = x at hcell h1 h2 HX HP
            generalize prevM ms k = p at h1
            go_wp2_with fail
            go_round
            case rel => exact ⟨k + 1, by omega, by go_num, rfl, by rw [HP.out], fun j hj => by
              by_cases e : j = k
              · rw [e]; exact HO.out
              · exact HALL.out j (by omega)⟩
            case measure => simp [intOf]; omega
          · have HV : Hid (msOkB ms = false) := Lib.hid (decide_eq_false fun h => hok (h.2.2 k hlt))
            have hno : ¬ prevM ms k < ms[k] ∨ (prevM ms k < ms[k] ∧ ¬ ms[k] < 7) := by
              unfold okAt at hok; rw [hx] at hok; omega
            clear hok hx
            generalize ms[k] = x at hcell hno HX HP
            generalize prevM ms k = p at hno
            rcases hno with h1 | ⟨h1, h2⟩
            all_goals
              go_wp2_with fail
              try rw [Exit.noGoto_ret]
              go_ret
              exact ⟨by rw [HV.out]; rfl, rfl⟩
        · obtain rfl : k = ms.length := by omega
          have HV : Hid (msOkB ms = true) := Lib.hid (decide_eq_true ⟨H0.out.1, H0.out.2, HALL.out⟩)
          go_wp2_with fail
          try rw [Exit.noGoto_ret]
          go_ret
          exact ⟨by rw [HV.out]; rfl, rfl⟩

set_option maxHeartbeats 2000000 in
set_option maxRecDepth 20000 in
theorem members_any (v : Value) (ms : List Int) (w : World) (h : Ints w v ms) :
    Calls Tryz.prog 126 #[v] w fun e w' => e = .returned (.bool (msOkB ms)) ∧ Below w.heap.size w w' := by
  obtain ⟨a, c, rfl, hle⟩ := h.shape
  have HC := Lib.hid h.cells.2.2
  have hlb : (ms.length : Int) ≤ 2097152 := by have := h.small; omega
  by_cases h0 : ms.length < 1
  · have HV : Hid (msOkB ms = false) := Lib.hid (decide_eq_false fun h => by have := h.1; omega)
    rw [HV.out]
    have l0 : (ms.length : Int) < 1 := by omega
    clear h hle HC h0
    go_enter Tryz.func126, Tryz.ntmps126
    go_wp2_with fail
    go_ret
    exact ⟨rfl, Below.refl _ _⟩
  · by_cases h7 : 7 < ms.length
    · have HV : Hid (msOkB ms = false) := Lib.hid (decide_eq_false fun h => by have := h.2.1; omega)
      rw [HV.out]
      have l0 : ¬ (ms.length : Int) < 1 := by omega
      have l1 : (7 : Int) < (ms.length : Int) := by omega
      clear h hle HC h0 h7
      go_enter Tryz.func126, Tryz.ntmps126
      go_wp2_with fail
      go_ret
      exact ⟨rfl, Below.refl _ _⟩
    · have l0 : ¬ (ms.length : Int) < 1 := by omega
      have l1 : (ms.length : Int) ≤ 7 := by omega
      have H0 : Hid (1 ≤ ms.length ∧ ms.length ≤ 7) := Lib.hid ⟨by omega, by omega⟩
      clear h hle h0 h7
      go_enter Tryz.func126, Tryz.ntmps126
      go_wp2_with fail
      go_loopw [3] (fun i wr => ∃ k : Nat, k ≤ ms.length ∧ i = .int .i64 k ∧ (∀ j, j < k → okAt ms j) ∧ Below w.heap.size w wr) (fun i _ => ms.length - (intOf i).toNat)
      case atStart => exact ⟨0, Nat.zero_le _, rfl, fun j h => absurd h (Nat.not_lt_zero j), Below.refl _ _⟩
      case round =>
        obtain ⟨k, hk, rfl, hall, hbl⟩ := hrel
        have HALL := Lib.hid hall
        have HB := Lib.hid hbl
        have hsz := hbl.size
        clear hall hbl
        by_cases hlt : k < ms.length
        · obtain ⟨b, o, rfl, hcell⟩ := HC.out k hlt
          have hb := World.block_lt_of_cell? _ _ hcell
          have hcw := Below.at HB.out hcell hb
          have hki : (k : Int) < (ms.length : Int) := by omega
          have hk0 : (0 : Int) ≤ (k : Int) := by omega
          have hx := getDi hlt
          have hnn := ok_nonneg HALL.out
          by_cases hok : okAt ms k
          · have HO := Lib.hid hok
            have h1 := hok.1
            have h2 := hok.2
            rw [hx] at h1 h2
            have HREL : Hid (∀ j, j < k + 1 → okAt ms j) := Lib.hid fun j hj => by
              by_cases e : j = k
              · rw [e]; exact HO.out
              · exact HALL.out j (by omega)
            by_cases hk00 : k = 0
            · subst hk00
              have h1 : 0 ≤ ms[0] := by simp only [prevM, if_true] at h1; omega
              clear hok hx hnn
              have hcw : wr.cell? ⟨b, o, none⟩ = some (.int .i64 ms[0]) := hcw
              generalize ms[0] = x at hcw h1 h2
              have h6 : decide (6 < x) = false := decide_eq_false (by omega)
              have h7 : decide (x < 0) = false := decide_eq_false (by omega)
              clear h2 h1
              go_wp2_with fail
              go_quiet (fail)
              go_wp2_with fail
              go_roundw
              case rel => exact ⟨1, by omega, by first | rfl | go_num, HREL.out, HB.out.trans ((Below.drewN _ _).mono HB.out.size)⟩
              case measure => simp [intOf]; omega
            · have hp0 : 0 ≤ ms.getD (k - 1) 0 := hnn (k - 1) (by omega)
              have e1 : prevM ms k = ms.getD (k - 1) 0 := by simp [prevM, hk00]
              rw [e1, getDi (show k - 1 < ms.length by omega)] at h1
              rw [getDi (show k - 1 < ms.length by omega)] at hp0
              obtain ⟨b', o', eb, hcell2⟩ := HC.out (k - 1) (by omega)
              cases eb
              have hcw2 := Below.at HB.out hcell2 hb
              clear hok hx hnn e1 hcell hcell2
              generalize ms[k] = x at hcw h1 h2
              generalize ms[k - 1] = p at hcw2 h1 hp0
              have h6 : decide (6 < x) = false := decide_eq_false (by omega)
              have h7 : decide (x < 0) = false := decide_eq_false (by omega)
              have h8 : decide (x ≤ p) = false := decide_eq_false (by omega)
              have hkp : decide ((0 : Int) < (k : Int)) = true := decide_eq_true (by omega)
              have hkp2 : decide (0 < k) = true := decide_eq_true (by omega)
              have hkp3 : 0 < k := by omega
              have q1 : (k : Int) - 1 < (ms.length : Int) := by omega
              have q0 : (0 : Int) ≤ (k : Int) - 1 := by omega
              have q2 : ((k : Int) - 1).toNat = k - 1 := by omega
              have q3 : IntKind.i64.wrap ((k : Int) - 1) = (k : Int) - 1 := by simp only [IntKind.wrap_i64]; omega
              clear h2 hp0 h1
              go_wp2_with fail
              go_quiet (fail)
              clear q1 q0 q2 q3
              go_wp2_with fail
              go_roundw
              case rel => exact ⟨k + 1, by omega, by go_num, HREL.out, HB.out.trans ((Below.drewN _ _).mono HB.out.size)⟩
              case measure => simp [intOf]; omega
          · have HV : Hid (msOkB ms = false) := Lib.hid (decide_eq_false fun h => hok (h.2.2 k hlt))
            unfold okAt at hok
            rw [hx] at hok
            by_cases x0 : ms[k] < 0
            · have h7 : decide (ms[k] < 0) = true := decide_eq_true x0
              clear hok hx hnn x0
              generalize ms[k] = x at hcw h7
              go_wp2_with fail
              go_quiet (fail)
              go_wp2_with fail
              go_ret
              exact ⟨by rw [HV.out]; rfl, HB.out.trans ((Below.drewN _ _).mono HB.out.size)⟩
            · have h7 : decide (ms[k] < 0) = false := decide_eq_false x0
              by_cases x6 : 6 < ms[k]
              · have h6 : decide (6 < ms[k]) = true := decide_eq_true x6
                clear hok hx hnn x0 x6
                generalize ms[k] = x at hcw h7 h6
                go_wp2_with fail
                go_quiet (fail)
                go_wp2_with fail
                go_ret
                exact ⟨by rw [HV.out]; rfl, HB.out.trans ((Below.drewN _ _).mono HB.out.size)⟩
              · have hk00 : k ≠ 0 := by
                  intro e
                  subst e
                  simp only [prevM, if_true] at hok
                  omega
                have e1 : prevM ms k = ms.getD (k - 1) 0 := by simp [prevM, hk00]
                rw [e1, getDi (show k - 1 < ms.length by omega)] at hok
                obtain ⟨b', o', eb, hcell2⟩ := HC.out (k - 1) (by omega)
                cases eb
                have hcw2 := Below.at HB.out hcell2 hb
                have h6 : decide (6 < ms[k]) = false := decide_eq_false x6
                have h8 : decide (ms[k] ≤ ms[k - 1]) = true := decide_eq_true (by omega)
                have hkp : decide ((0 : Int) < (k : Int)) = true := decide_eq_true (by omega)
                have hkp2 : decide (0 < k) = true := decide_eq_true (by omega)
                have hkp3 : 0 < k := by omega
                have q1 : (k : Int) - 1 < (ms.length : Int) := by omega
                have q0 : (0 : Int) ≤ (k : Int) - 1 := by omega
                have q2 : ((k : Int) - 1).toNat = k - 1 := by omega
                have q3 : IntKind.i64.wrap ((k : Int) - 1) = (k : Int) - 1 := by simp only [IntKind.wrap_i64]; omega
                clear hok hx hnn x0 x6 e1 hcell hcell2
                generalize ms[k] = x at hcw h7 h6 h8
                generalize ms[k - 1] = p at hcw2 h8
                go_wp2_with fail
                go_quiet (fail)
                clear q1 q0 q2 q3
                go_wp2_with fail
                go_ret
                exact ⟨by rw [HV.out]; rfl, HB.out.trans ((Below.drewN _ _).mono HB.out.size)⟩
        · obtain rfl : k = ms.length := by omega
          have HV : Hid (msOkB ms = true) := Lib.hid (decide_eq_true ⟨H0.out.1, H0.out.2, HALL.out⟩)
          go_wp2_with fail
          go_ret
          exact ⟨by rw [HV.out]; rfl, HB.out⟩

end Go.Proofs.YtofhccpagnkalaaGreat

/- Which snapshots are sound, both ways; no conditions but the ranges. -/
namespace Go.Proofs.YtofhccpagnkalaaGreat
open Go.RowKit Go.Maps Go.Proofs.Own

/-- A snapshot. -/
structure SnapS where
  i : Int
  t : Int
  ms : List Int
  d : List Nat
/-- The value v is the snapshot s. -/
def SnapIs (w : World) (v : Value) (s : SnapS) : Prop := ∃ mv dv, v = .agg #[.int .u64 s.i, .int .u64 s.t, mv, dv] ∧ Ints w mv s.ms ∧ Bytes w dv s.d
theorem SnapIs.below {w w' : World} {v : Value} {s : SnapS} (h : SnapIs w v s) (hb : Below w.heap.size w w') : SnapIs w' v s := by
  obtain ⟨mv, dv, h1, h2, h3⟩ := h
  exact ⟨mv, dv, h1, h2.below hb, h3.below hb⟩
theorem SnapIs.st (v : Value) (s : SnapS) : Stable fun w => SnapIs w v s := ⟨fun hs hb => hs.below hb⟩
/-- It may be. -/
def SnapS.ok (s : SnapS) : Prop := 1 ≤ s.i ∧ s.i < 576460752303423488 ∧ 1 ≤ s.t ∧ s.t ≤ 1152921504606846976 ∧ msOk s.ms ∧ s.d.length ≤ 32768
instance (s : SnapS) : Decidable s.ok := inferInstanceAs (Decidable (_ ∧ _))
def SnapS.okB (s : SnapS) : Bool := decide s.ok

theorem Below.bcell {W w1 : World} (hb : Below W.heap.size W w1) : (∀ b o, b < W.heap.size → w1.cell? ⟨b, o, none⟩ = W.cell? ⟨b, o, none⟩) ∧ (∀ b o, b < W.heap.size → w1.frozen? ⟨b, o, none⟩ = W.frozen? ⟨b, o, none⟩) :=
  ⟨fun b o h => hb.cell (p := ⟨b, o, none⟩) h, fun b o h => hb.frozen (p := ⟨b, o, none⟩) h⟩

set_option maxHeartbeats 1000000 in
set_option maxRecDepth 20000 in
theorem sound_any (v : Value) (s : SnapS) (w : World) (h : SnapIs w v s) :
    Calls Tryz.prog 88 #[v] w fun e w' => e = .returned (.bool s.okB) ∧ Below w.heap.size w w' := by
  obtain ⟨mv, dv, rfl, hm, hd⟩ := h
  obtain ⟨i, t, ms, d⟩ := s
  have HM := Lib.hid hm
  have hdl : (d.length : Int) ≤ 2097152 := by have : d.length ≤ 2097152 := hd.small; omega
  obtain ⟨a, c, rfl, _⟩ := hd.shape
  obtain ⟨am, cm, rfl, _⟩ := hm.shape
  have AL : Hid (∀ o : Obj, Ints (w.alloc o) (.slice am ms.length cm) ms) := Lib.hid fun o => HM.out.alloc o
  clear hm hd
  by_cases h1 : 1 ≤ i
  · by_cases h2 : i < 576460752303423488
    · by_cases h3 : 1 ≤ t
      · by_cases h4 : t ≤ 1152921504606846976
        · have HC := Lib.hid (show 1 ≤ i ∧ i < 576460752303423488 ∧ 1 ≤ t ∧ t ≤ 1152921504606846976 from ⟨h1, h2, h3, h4⟩)
          by_cases hm : msOk ms
          · have hmb : msOkB ms = true := decide_eq_true hm
            have HMO := Lib.hid hm
            by_cases h5 : d.length ≤ 32768
            · have HV : Hid ((SnapS.mk i t ms d).okB = true) := Lib.hid (decide_eq_true ⟨h1, h2, h3, h4, hm, h5⟩)
              rw [HV.out]
              have h5i : (d.length : Int) ≤ 32768 := by omega
              have HMB := Lib.hid hmb
              clear hm h5 hmb
              go_enter Tryz.func88, Tryz.ntmps88
              go_wp2_with fail
              refine (rising_any _ ms _ (AL.out _)).mono ?_
              rintro e w1 ⟨rfl, rfl⟩
              rw [HMB.out]
              go_wp2_with fail
              go_ret
              exact ⟨rfl, (Below.refl _ _).alloc (Nat.le_refl _) _⟩
            · have HV : Hid ((SnapS.mk i t ms d).okB = false) := Lib.hid (decide_eq_false fun h => h5 h.2.2.2.2.2)
              rw [HV.out]
              have h5i : ¬ (d.length : Int) ≤ 32768 := by omega
              have H5B : Hid (decide ((d.length : Int) ≤ 32768) = false) := Lib.hid (decide_eq_false h5i)
              have HMB := Lib.hid hmb
              clear hm h5 hmb
              go_enter Tryz.func88, Tryz.ntmps88
              go_wp2_with fail
              refine (rising_any _ ms _ (AL.out _)).mono ?_
              rintro e w1 ⟨rfl, rfl⟩
              rw [HMB.out]
              go_wp2_with fail
              go_ret
              exact ⟨ret_bool H5B.out, (Below.refl _ _).alloc (Nat.le_refl _) _⟩
          · have hmb : msOkB ms = false := decide_eq_false hm
            have HV : Hid ((SnapS.mk i t ms d).okB = false) := Lib.hid (decide_eq_false fun h => hm h.2.2.2.2.1)
            rw [HV.out]
            have HMB := Lib.hid hmb
            clear hm hmb
            go_enter Tryz.func88, Tryz.ntmps88
            go_wp2_with fail
            refine (rising_any _ ms _ (AL.out _)).mono ?_
            rintro e w1 ⟨rfl, rfl⟩
            rw [HMB.out]
            go_wp2_with fail
            go_ret
            exact ⟨rfl, (Below.refl _ _).alloc (Nat.le_refl _) _⟩
        · have HV : Hid ((SnapS.mk i t ms d).okB = false) := Lib.hid (decide_eq_false fun h => h4 h.2.2.2.1)
          rw [HV.out]
          go_enter Tryz.func88, Tryz.ntmps88
          go_wp2_with fail
          go_ret
          exact ⟨rfl, (Below.refl _ _).alloc (Nat.le_refl _) _⟩
      · have HV : Hid ((SnapS.mk i t ms d).okB = false) := Lib.hid (decide_eq_false fun h => h3 h.2.2.1)
        rw [HV.out]
        go_enter Tryz.func88, Tryz.ntmps88
        go_wp2_with fail
        go_ret
        exact ⟨rfl, (Below.refl _ _).alloc (Nat.le_refl _) _⟩
    · have HV : Hid ((SnapS.mk i t ms d).okB = false) := Lib.hid (decide_eq_false fun h => h2 h.2.1)
      rw [HV.out]
      go_enter Tryz.func88, Tryz.ntmps88
      go_wp2_with fail
      go_ret
      exact ⟨rfl, (Below.refl _ _).alloc (Nat.le_refl _) _⟩
  · have HV : Hid ((SnapS.mk i t ms d).okB = false) := Lib.hid (decide_eq_false fun h => h1 h.1)
    rw [HV.out]
    go_enter Tryz.func88, Tryz.ntmps88
    go_wp2_with fail
    go_ret
    exact ⟨rfl, (Below.refl _ _).alloc (Nat.le_refl _) _⟩

set_option maxHeartbeats 1000000 in
set_option maxRecDepth 20000 in
theorem rsound_any (v : Value) (s : SnapS) (w : World) (h : SnapIs w v s) :
    Calls Tryz.prog 92 #[v] w fun e w' => e = .returned (.bool s.okB) ∧ Below w.heap.size w w' := by
  obtain ⟨mv, dv, rfl, hm, hd⟩ := h
  obtain ⟨i, t, ms, d⟩ := s
  have HM := Lib.hid hm
  have hdl : (d.length : Int) ≤ 2097152 := by have : d.length ≤ 2097152 := hd.small; omega
  obtain ⟨a, c, rfl, _⟩ := hd.shape
  obtain ⟨am, cm, rfl, _⟩ := hm.shape
  have AL : Hid (∀ o : Obj, Ints (w.alloc o) (.slice am ms.length cm) ms) := Lib.hid fun o => HM.out.alloc o
  clear hm hd
  by_cases h1 : 1 ≤ i
  · by_cases h2 : i < 576460752303423488
    · by_cases h3 : 1 ≤ t
      · by_cases h4 : t ≤ 1152921504606846976
        · have HC := Lib.hid (show 1 ≤ i ∧ i < 576460752303423488 ∧ 1 ≤ t ∧ t ≤ 1152921504606846976 from ⟨h1, h2, h3, h4⟩)
          by_cases hm : msOk ms
          · have hmb : msOkB ms = true := decide_eq_true hm
            have HMO := Lib.hid hm
            by_cases h5 : d.length ≤ 32768
            · have HV : Hid ((SnapS.mk i t ms d).okB = true) := Lib.hid (decide_eq_true ⟨h1, h2, h3, h4, hm, h5⟩)
              rw [HV.out]
              have h5i : (d.length : Int) ≤ 32768 := by omega
              have HMB := Lib.hid hmb
              clear hm h5 hmb
              go_enter Tryz.func92, Tryz.ntmps92
              go_wp2_with fail
              refine (members_any _ ms _ (AL.out _)).mono ?_
              rintro e w1 ⟨rfl, hb1⟩; have B1 := Lib.hid (((Below.refl w.heap.size w).alloc (Nat.le_refl _) (.cells #[.int .u64 i, .int .u64 t, .slice am ms.length cm, .slice a d.length c] 40)).trans (hb1.mono (by simp))); obtain ⟨g0, g1⟩ := Below.bcell hb1; have hs1 := hb1.size; simp only [World.size_alloc] at hs1; clear hb1
              rw [HMB.out]
              go_wp2_with fail
              go_ret
              exact ⟨rfl, B1.out⟩
            · have HV : Hid ((SnapS.mk i t ms d).okB = false) := Lib.hid (decide_eq_false fun h => h5 h.2.2.2.2.2)
              rw [HV.out]
              have h5i : ¬ (d.length : Int) ≤ 32768 := by omega
              have H5B : Hid (decide ((d.length : Int) ≤ 32768) = false) := Lib.hid (decide_eq_false h5i)
              have HMB := Lib.hid hmb
              clear hm h5 hmb
              go_enter Tryz.func92, Tryz.ntmps92
              go_wp2_with fail
              refine (members_any _ ms _ (AL.out _)).mono ?_
              rintro e w1 ⟨rfl, hb1⟩; have B1 := Lib.hid (((Below.refl w.heap.size w).alloc (Nat.le_refl _) (.cells #[.int .u64 i, .int .u64 t, .slice am ms.length cm, .slice a d.length c] 40)).trans (hb1.mono (by simp))); obtain ⟨g0, g1⟩ := Below.bcell hb1; have hs1 := hb1.size; simp only [World.size_alloc] at hs1; clear hb1
              rw [HMB.out]
              go_wp2_with fail
              go_ret
              exact ⟨ret_bool H5B.out, B1.out⟩
          · have hmb : msOkB ms = false := decide_eq_false hm
            have HV : Hid ((SnapS.mk i t ms d).okB = false) := Lib.hid (decide_eq_false fun h => hm h.2.2.2.2.1)
            rw [HV.out]
            have HMB := Lib.hid hmb
            clear hm hmb
            go_enter Tryz.func92, Tryz.ntmps92
            go_wp2_with fail
            refine (members_any _ ms _ (AL.out _)).mono ?_
            rintro e w1 ⟨rfl, hb1⟩; have B1 := Lib.hid (((Below.refl w.heap.size w).alloc (Nat.le_refl _) (.cells #[.int .u64 i, .int .u64 t, .slice am ms.length cm, .slice a d.length c] 40)).trans (hb1.mono (by simp))); obtain ⟨g0, g1⟩ := Below.bcell hb1; have hs1 := hb1.size; simp only [World.size_alloc] at hs1; clear hb1
            rw [HMB.out]
            go_wp2_with fail
            go_ret
            exact ⟨rfl, B1.out⟩
        · have HV : Hid ((SnapS.mk i t ms d).okB = false) := Lib.hid (decide_eq_false fun h => h4 h.2.2.2.1)
          rw [HV.out]
          go_enter Tryz.func92, Tryz.ntmps92
          go_wp2_with fail
          go_ret
          exact ⟨rfl, (Below.refl _ _).alloc (Nat.le_refl _) _⟩
      · have HV : Hid ((SnapS.mk i t ms d).okB = false) := Lib.hid (decide_eq_false fun h => h3 h.2.2.1)
        rw [HV.out]
        go_enter Tryz.func92, Tryz.ntmps92
        go_wp2_with fail
        go_ret
        exact ⟨rfl, (Below.refl _ _).alloc (Nat.le_refl _) _⟩
    · have HV : Hid ((SnapS.mk i t ms d).okB = false) := Lib.hid (decide_eq_false fun h => h2 h.2.1)
      rw [HV.out]
      go_enter Tryz.func92, Tryz.ntmps92
      go_wp2_with fail
      go_ret
      exact ⟨rfl, (Below.refl _ _).alloc (Nat.le_refl _) _⟩
  · have HV : Hid ((SnapS.mk i t ms d).okB = false) := Lib.hid (decide_eq_false fun h => h1 h.1)
    rw [HV.out]
    go_enter Tryz.func92, Tryz.ntmps92
    go_wp2_with fail
    go_ret
    exact ⟨rfl, (Below.refl _ _).alloc (Nat.le_refl _) _⟩
end Go.Proofs.YtofhccpagnkalaaGreat

/- The document's 'Same' of two snapshots; no conditions but the ranges. -/
namespace Go.Proofs.YtofhccpagnkalaaGreat
open Go.RowKit Go.Maps Go.Proofs.Own

def SnapS.same (s r : SnapS) : Prop := s.i = r.i ∧ s.t = r.t ∧ s.ms = r.ms ∧ s.d = r.d
instance (s r : SnapS) : Decidable (s.same r) := inferInstanceAs (Decidable (_ ∧ _))
def SnapS.sameB (s r : SnapS) : Bool := decide (s.same r)
theorem SnapS.sameB_refl (s : SnapS) : s.sameB s = true := decide_eq_true ⟨rfl, rfl, rfl, rfl⟩
set_option maxHeartbeats 2000000 in
set_option maxRecDepth 20000 in
theorem rsame_any (v1 v2 : Value) (s r : SnapS) (w : World) (hs : SnapIs w v1 s) (hr : SnapIs w v2 r) :
    Calls Tryz.prog 15 #[v1, v2] w fun e w' => e = .returned (.bool (s.sameB r)) ∧ Below w.heap.size w w' := by
  obtain ⟨mv, dv, rfl, hm, hd⟩ := hs
  obtain ⟨nv, ev, rfl, hn, he⟩ := hr
  obtain ⟨i, t, ms, d⟩ := s
  obtain ⟨j, u, ns, e⟩ := r
  simp only at hm hd hn he ⊢
  have hml : (ms.length : Int) ≤ 2097152 := by have := hm.small; omega
  have hnl : (ns.length : Int) ≤ 2097152 := by have := hn.small; omega
  have c1 : ∀ o1 o2, (convert 22 9 dv).run Tryz.prog ((w.alloc o1).alloc o2) = .ok (.string (strN d)) ((w.alloc o1).alloc o2) := fun o1 o2 => ((hd.alloc o1).alloc o2).str Tryz.underlying22 Tryz.underlying5 Tryz.underlying9
  have c2 : ∀ o1 o2, (convert 22 9 ev).run Tryz.prog ((w.alloc o1).alloc o2) = .ok (.string (strN e)) ((w.alloc o1).alloc o2) := fun o1 o2 => ((he.alloc o1).alloc o2).str Tryz.underlying22 Tryz.underlying5 Tryz.underlying9
  have HDE : Hid (strN d = strN e ↔ d = e) := Lib.hid ⟨fun h => strN_inj hd.lt he.lt h, fun h => by rw [h]⟩
  obtain ⟨am, cm, rfl, _⟩ := hm.shape
  obtain ⟨an, cn, rfl, _⟩ := hn.shape
  have HMC := Lib.hid hm.cells.2.2
  have HNC := Lib.hid hn.cells.2.2
  obtain ⟨dsh, dshape⟩ : ∃ x : Option Addr × Nat, dv = .slice x.1 d.length x.2 := by obtain ⟨a, c, h, _⟩ := hd.shape; exact ⟨(a, c), h⟩
  obtain ⟨esh, eshape⟩ : ∃ x : Option Addr × Nat, ev = .slice x.1 e.length x.2 := by obtain ⟨a, c, h, _⟩ := he.shape; exact ⟨(a, c), h⟩
  subst dshape eshape
  clear hm hn hd he
  by_cases q1 : i = j
  · have b1 : (i != j) = false := by simp [q1]
    by_cases q2 : t = u
    · have b2 : (t != u) = false := by simp [q2]
      by_cases q3 : ms.length = ns.length
      · have b3 : ((ms.length : Int) != (ns.length : Int)) = false := by rw [q3]; simp
        by_cases q4 : d = e
        · have b4 : ((strN d).toList == (strN e).toList) = true := str_eq_of (HDE.out.2 q4)
          have HQ : Hid ((SnapS.mk i t ms d).same (SnapS.mk j u ns e) ↔ ms = ns) := Lib.hid ⟨fun h => h.2.2.1, fun h => ⟨q1, q2, h, q4⟩⟩
          have Q3 := Lib.hid q3
          clear q1 q2 q3 q4 HDE
          go_enter Tryz.func15, Tryz.ntmps15
          go_wp2_with fail
          generalize hW : World.alloc (World.alloc w _) _ = W
          have BW : Hid (Below w.heap.size w W) := Lib.hid (by subst hW; exact ((Below.refl _ _).alloc (Nat.le_refl _) _).alloc (by simp) _)
          have a2 : W.cell? ⟨w.heap.size, 2, none⟩ = some (.slice am ms.length cm) := by subst hW; go_cell
          have a3 : W.cell? ⟨w.heap.size + 1, 2, none⟩ = some (.slice an ns.length cn) := by subst hW; go_cell
          have sW : w.heap.size + 1 < W.heap.size := by subst hW; simp
          have A2 := Lib.hid a2
          have A3 := Lib.hid a3
          clear hW a2 a3 c1 c2 b1 b2 b3 b4
          go_loopw [5] (fun x wr => ∃ k : Nat, k ≤ ms.length ∧ x = .int .i64 k ∧ ms.take k = ns.take k ∧ Below W.heap.size W wr) (fun x _ => ms.length - (intOf x).toNat)
          case atStart => exact ⟨0, Nat.zero_le _, rfl, by simp, Below.refl _ _⟩
          case round =>
            obtain ⟨k, hk, rfl, htk, hbl⟩ := hrel
            have HTK := Lib.hid htk
            have HB := Lib.hid hbl
            have a2 := Below.at HB.out A2.out (show w.heap.size < W.heap.size by omega)
            have a3 := Below.at HB.out A3.out sW
            clear htk hbl
            by_cases hlt : k < ms.length
            · have hlt2 : k < ns.length := by have := Q3.out; omega
              obtain ⟨b1, o1, rfl, h1⟩ := HMC.out k hlt
              obtain ⟨b2, o2, rfl, h2⟩ := HNC.out k hlt2
              have g1 := Below.at HB.out (Below.at BW.out h1 (World.block_lt_of_cell? _ _ h1)) (Nat.lt_of_lt_of_le (World.block_lt_of_cell? _ _ h1) BW.out.size)
              have g2 := Below.at HB.out (Below.at BW.out h2 (World.block_lt_of_cell? _ _ h2)) (Nat.lt_of_lt_of_le (World.block_lt_of_cell? _ _ h2) BW.out.size)
              have k1 : (k : Int) < (ms.length : Int) := by omega
              have k2 : (k : Int) < (ns.length : Int) := by omega
              have k0 : (0 : Int) ≤ (k : Int) := by omega
              have HTS : Hid (ms.take (k + 1) = ms.take k ++ [ms[k]] ∧ ns.take (k + 1) = ns.take k ++ [ns[k]]) := Lib.hid ⟨List.take_succ_eq_append_getElem hlt, List.take_succ_eq_append_getElem hlt2⟩
              have HG : Hid (ms = ns → ms[k] = ns[k]) := Lib.hid fun h => by subst h; rfl
              clear h1 h2
              generalize ms[k] = x at g1 HTS HG
              generalize ns[k] = y at g2 HTS HG
              by_cases hxy : x = y
              · have bx : (x != y) = false := by simp [hxy]
                have HXY := Lib.hid hxy
                clear hxy
                go_wp2_with fail
                go_quiet (fail)
                go_wp2_with fail
                go_roundw
                case rel => exact ⟨k + 1, by omega, by go_num, by rw [HTS.out.1, HTS.out.2, HTK.out, HXY.out], HB.out.trans ((Below.drewN _ _).mono HB.out.size)⟩
                case measure => simp [intOf]; omega
              · have bx : (x != y) = true := by simp [hxy]
                have HV : Hid ((SnapS.mk i t ms d).sameB (SnapS.mk j u ns e) = false) := Lib.hid (decide_eq_false fun h => hxy (HG.out (HQ.out.1 h)))
                clear hxy
                go_wp2_with fail
                go_quiet (fail)
                go_wp2_with fail
                go_ret
                exact ⟨by rw [HV.out]; rfl, BW.out.trans ((HB.out.trans ((Below.drewN _ _).mono HB.out.size)).mono BW.out.size)⟩
            · obtain rfl : k = ms.length := by omega
              have HV : Hid ((SnapS.mk i t ms d).sameB (SnapS.mk j u ns e) = true) := Lib.hid (decide_eq_true (HQ.out.2 (by have := HTK.out; rw [List.take_length, Q3.out, List.take_length] at this; exact this)))
              go_wp2_with fail
              go_ret
              exact ⟨by rw [HV.out]; rfl, BW.out.trans (HB.out.mono BW.out.size)⟩
        · have b4 : ((strN d).toList == (strN e).toList) = false := str_ne fun h => q4 (HDE.out.1 h)
          have HV : Hid ((SnapS.mk i t ms d).sameB (SnapS.mk j u ns e) = false) := Lib.hid (decide_eq_false fun h => q4 h.2.2.2)
          rw [HV.out]
          clear q1 q2 q3 q4 HDE
          go_enter Tryz.func15, Tryz.ntmps15
          go_wp2_with fail
          go_ret
          exact ⟨rfl, ((Below.refl _ _).alloc (Nat.le_refl _) _).alloc (by simp) _⟩
      · have b3 : ((ms.length : Int) != (ns.length : Int)) = true := by simp; omega
        have HV : Hid ((SnapS.mk i t ms d).sameB (SnapS.mk j u ns e) = false) := Lib.hid (decide_eq_false fun h => q3 (by have := h.2.2.1; simp only at this; rw [this]))
        rw [HV.out]
        clear q1 q2 q3 HDE
        go_enter Tryz.func15, Tryz.ntmps15
        go_wp2_with fail
        go_ret
        exact ⟨rfl, ((Below.refl _ _).alloc (Nat.le_refl _) _).alloc (by simp) _⟩
    · have b2 : (t != u) = true := by simp [q2]
      have HV : Hid ((SnapS.mk i t ms d).sameB (SnapS.mk j u ns e) = false) := Lib.hid (decide_eq_false fun h => q2 h.2.1)
      rw [HV.out]
      clear q1 q2 HDE
      go_enter Tryz.func15, Tryz.ntmps15
      go_wp2_with fail
      go_ret
      exact ⟨rfl, ((Below.refl _ _).alloc (Nat.le_refl _) _).alloc (by simp) _⟩
  · have b1 : (i != j) = true := by simp [q1]
    have HV : Hid ((SnapS.mk i t ms d).sameB (SnapS.mk j u ns e) = false) := Lib.hid (decide_eq_false fun h => q1 h.1)
    rw [HV.out]
    clear q1 HDE
    go_enter Tryz.func15, Tryz.ntmps15
    go_wp2_with fail
    go_ret
    exact ⟨rfl, ((Below.refl _ _).alloc (Nat.le_refl _) _).alloc (by simp) _⟩
end Go.Proofs.YtofhccpagnkalaaGreat

/- What a snapshot out of bytes is; the document's Get; no conditions but the ranges. -/
namespace Go.Proofs.YtofhccpagnkalaaGreat
open Go.RowKit Go.Maps Go.Proofs.Own
variable {rb : Nat}

def H59 : Nat := 576460752303423488
def H60 : Nat := 1152921504606846976
/-- k members: what is left, the members, whether one was bad. -/
def memL (m : Nat) : Nat → List Nat → List Nat
  | 0, l => l
  | k + 1, l => numL m (memL m k l)
def memV (m : Nat) : Nat → List Nat → List Int
  | 0, _ => []
  | k + 1, l => memV m k l ++ [(numV m (memL m k l) : Int)]
def memB (m : Nat) : Nat → List Nat → Bool
  | 0, _ => false
  | k + 1, l => memB m k l || numB m (memL m k l)
theorem length_memV (m k : Nat) (l : List Nat) : (memV m k l).length = k := by
  induction k with
  | zero => rfl
  | succ k ih => simp [memV, ih]
def rest1 (l : List Nat) : List Nat := numL H59 l
def rest2 (l : List Nat) : List Nat := numL H60 (rest1 l)
def memN (l : List Nat) : Nat := numV 7 (rest2 l)
def rest3 (l : List Nat) : List Nat := numL 7 (rest2 l)
def rest4 (m : Nat) (l : List Nat) : List Nat := memL m (memN l) (rest3 l)
/-- The snapshot that bytes tell (m: the greatest member that is read), what is left, whether it was bad. -/
def getS (m : Nat) (l : List Nat) : SnapS := ⟨numV H59 l, numV H60 (rest1 l), memV m (memN l) (rest3 l), textV 32768 (rest4 m l)⟩
def getL (m : Nat) (l : List Nat) : List Nat := textL 32768 (rest4 m l)
def getB (m : Nat) (l : List Nat) : Bool := (((numB H59 l || numB H60 (rest1 l)) || numB 7 (rest2 l)) || memB m (memN l) (rest3 l)) || textB 32768 (rest4 m l)
theorem memN_le (l : List Nat) : memN l ≤ 7 := numV_le _ _
theorem numL_mem {m : Nat} {l : List Nat} : ∀ c ∈ numL m l, c ∈ l := by
  intro c hc
  unfold numL at hc
  split at hc
  · exact List.mem_of_mem_drop hc
  · cases hc
theorem textV_mem {m : Nat} {l : List Nat} : ∀ c ∈ textV m l, c ∈ l := by
  intro c hc
  unfold textV at hc
  split at hc
  · exact numL_mem c (List.mem_of_mem_take hc)
  · cases hc
theorem textV_len (m : Nat) (l : List Nat) : (textV m l).length ≤ m := by
  unfold textV
  split
  · rw [List.length_take]; have := numV_le m l; omega
  · exact Nat.zero_le _

/-- Block b has a snapshot's four cells. -/
structure SBlk (w : World) (b : Nat) (i t : Int) (mv dv : Value) : Prop where
  c0 : w.cell? ⟨b, 0, none⟩ = some (.int .u64 i)
  c1 : w.cell? ⟨b, 1, none⟩ = some (.int .u64 t)
  c2 : w.cell? ⟨b, 2, none⟩ = some mv
  c3 : w.cell? ⟨b, 3, none⟩ = some dv
  f0 : w.frozen? ⟨b, 0, none⟩ = false
  f1 : w.frozen? ⟨b, 1, none⟩ = false
  f2 : w.frozen? ⟨b, 2, none⟩ = false
  f3 : w.frozen? ⟨b, 3, none⟩ = false
theorem SBlk.lt {w : World} {b : Nat} {i t : Int} {mv dv : Value} (h : SBlk w b i t mv dv) : b < w.heap.size := World.block_lt_of_cell? _ _ h.c0
theorem SBlk.kept {w w' : World} {b : Nat} {i t : Int} {mv dv : Value} {S : Nat → Prop} (h : SBlk w b i t mv dv) (hk : Kept w w' S) (hs : ¬ S b) : SBlk w' b i t mv dv :=
  ⟨hk.cell h.c0 hs, hk.cell h.c1 hs, hk.cell h.c2 hs, hk.cell h.c3 hs, (hk.frozen (a := ⟨b, 0, none⟩) h.lt hs).trans h.f0, (hk.frozen (a := ⟨b, 1, none⟩) h.lt hs).trans h.f1,
   (hk.frozen (a := ⟨b, 2, none⟩) h.lt hs).trans h.f2, (hk.frozen (a := ⟨b, 3, none⟩) h.lt hs).trans h.f3⟩
theorem SBlk.below {w w' : World} {b : Nat} {i t : Int} {mv dv : Value} (h : SBlk w b i t mv dv) (hb : Below w.heap.size w w') : SBlk w' b i t mv dv :=
  h.kept (Kept.of_below hb (S := fun _ => False) fun k h1 h2 => by omega) fun h => h
theorem SBlk.set0 {w : World} {b : Nat} {i t : Int} {mv dv : Value} (h : SBlk w b i t mv dv) (x : Int) : SBlk (w.setCell ⟨b, 0, none⟩ (.int .u64 x)) b x t mv dv := by
  refine ⟨World.cell?_setCell_same _ _ _ h.c0, ?_, ?_, ?_, by rw [World.frozen?_setCell]; exact h.f0, by rw [World.frozen?_setCell]; exact h.f1, by rw [World.frozen?_setCell]; exact h.f2, by rw [World.frozen?_setCell]; exact h.f3⟩
  · rw [World.cell?_setCell_other _ _ _ _ (by simp)]; exact h.c1
  · rw [World.cell?_setCell_other _ _ _ _ (by simp)]; exact h.c2
  · rw [World.cell?_setCell_other _ _ _ _ (by simp)]; exact h.c3
theorem SBlk.set1 {w : World} {b : Nat} {i t : Int} {mv dv : Value} (h : SBlk w b i t mv dv) (x : Int) : SBlk (w.setCell ⟨b, 1, none⟩ (.int .u64 x)) b i x mv dv := by
  refine ⟨?_, World.cell?_setCell_same _ _ _ h.c1, ?_, ?_, by rw [World.frozen?_setCell]; exact h.f0, by rw [World.frozen?_setCell]; exact h.f1, by rw [World.frozen?_setCell]; exact h.f2, by rw [World.frozen?_setCell]; exact h.f3⟩
  · rw [World.cell?_setCell_other _ _ _ _ (by simp)]; exact h.c0
  · rw [World.cell?_setCell_other _ _ _ _ (by simp)]; exact h.c2
  · rw [World.cell?_setCell_other _ _ _ _ (by simp)]; exact h.c3
theorem SBlk.set2 {w : World} {b : Nat} {i t : Int} {mv dv : Value} (h : SBlk w b i t mv dv) (x : Value) : SBlk (w.setCell ⟨b, 2, none⟩ x) b i t x dv := by
  refine ⟨?_, ?_, World.cell?_setCell_same _ _ _ h.c2, ?_, by rw [World.frozen?_setCell]; exact h.f0, by rw [World.frozen?_setCell]; exact h.f1, by rw [World.frozen?_setCell]; exact h.f2, by rw [World.frozen?_setCell]; exact h.f3⟩
  · rw [World.cell?_setCell_other _ _ _ _ (by simp)]; exact h.c0
  · rw [World.cell?_setCell_other _ _ _ _ (by simp)]; exact h.c1
  · rw [World.cell?_setCell_other _ _ _ _ (by simp)]; exact h.c3
theorem SBlk.set3 {w : World} {b : Nat} {i t : Int} {mv dv : Value} (h : SBlk w b i t mv dv) (x : Value) : SBlk (w.setCell ⟨b, 3, none⟩ x) b i t mv x := by
  refine ⟨?_, ?_, ?_, World.cell?_setCell_same _ _ _ h.c3, by rw [World.frozen?_setCell]; exact h.f0, by rw [World.frozen?_setCell]; exact h.f1, by rw [World.frozen?_setCell]; exact h.f2, by rw [World.frozen?_setCell]; exact h.f3⟩
  · rw [World.cell?_setCell_other _ _ _ _ (by simp)]; exact h.c0
  · rw [World.cell?_setCell_other _ _ _ _ (by simp)]; exact h.c1
  · rw [World.cell?_setCell_other _ _ _ _ (by simp)]; exact h.c2

/-- What holds while members are read. -/
structure MemI (w : World) (b rb : Nat) (m : Nat) (l : List Nat) (bad : Bool) (sb rs base : Nat) (i t : Int) (k : Nat) (mv : Value) (wr : World) : Prop where
  rd : RdrIs wr b rb (memL m k l) (bad || memB m k l)
  sn : SBlk wr sb i t mv (.slice none 0 0)
  rs : SBlk wr rs 0 0 (.slice none 0 0) (.slice none 0 0)
  own : Owns wr base 3 .i64 mv (memV m k l)
  kept : Kept w wr (fun k => k = b)
  le : base ≤ wr.heap.size

/-- A snapshot's value, its rows in blocks from B on. -/
def NewRows (B : Nat) (v : Value) : Prop := ∃ i t mv dv, v = .agg #[i, t, mv, dv] ∧ (∀ b, mv.ownBlock = some b → B ≤ b) ∧ (∀ b, dv.ownBlock = some b → B ≤ b)

set_option maxHeartbeats 4000000 in
set_option maxRecDepth 20000 in
theorem rget_new (b : Nat) (l : List Nat) (bad : Bool) (w : World) (h : RdrIs w b rb l bad) (hrb : rb < w.heap.size) :
    Calls Tryz.prog 90 #[.pointer (some ⟨b, 0, none⟩)] w fun e w' => ∃ v, e = .returned v ∧ SnapIs w' v (getS 6 l) ∧ RdrIs w' b rb (getL 6 l) (bad || getB 6 l) ∧ Kept w w' (fun k => k = b) ∧ NewRows w.heap.size v := by
  have H := Lib.hid h
  have hbs := h.lt
  have hlt : ∀ c ∈ l, c < 256 := by obtain ⟨v, _, hB, _⟩ := h.ex; exact hB.lt
  have HLT := Lib.hid hlt
  have E59 : Hid ((576460752303423488 : Int).toNat = H59) := Lib.hid rfl
  have E60 : Hid ((1152921504606846976 : Int).toNat = H60) := Lib.hid rfl
  have E7 : Hid ((7 : Int).toNat = 7) := Lib.hid rfl
  have E6 : Hid ((6 : Int).toNat = 6) := Lib.hid rfl
  clear h hlt
  go_enter Tryz.func90, Tryz.ntmps90
  go_wp2_with fail
  generalize hW : World.alloc (World.alloc w _) _ = W0
  have S0 : Hid (SBlk W0 (w.heap.size + 1) 0 0 (.slice none 0 0) (.slice none 0 0)) := Lib.hid (by subst hW; exact ⟨by go_cell, by go_cell, by go_cell, by go_cell, by simp, by simp, by simp, by simp⟩)
  have T0 : Hid (SBlk W0 w.heap.size 0 0 (.slice none 0 0) (.slice none 0 0)) := Lib.hid (by subst hW; exact ⟨by go_cell, by go_cell, by go_cell, by go_cell, by simp, by simp, by simp, by simp⟩)
  have B0 : Hid (Below w.heap.size w W0) := Lib.hid (by subst hW; exact ((Below.refl _ _).alloc (Nat.le_refl _) _).alloc (by simp) _)
  have R0 : Hid (RdrIs W0 b rb l bad) := Lib.hid (H.out.below B0.out)
  have Z0 : Hid (w.heap.size + 2 ≤ W0.heap.size) := Lib.hid (by subst hW; simp)
  clear hW
  refine (rnum_any b 576460752303423488 l bad _ R0.out (by decide) (by decide)).mono ?_
  rintro e w1 ⟨rfl, h1, k1⟩
  rw [E59.out] at h1 ⊢
  have R1 := Lib.hid h1
  have K1 := Lib.hid k1
  have hs1 := k1.size
  clear h1 k1
  have S1 : Hid (SBlk w1 (w.heap.size + 1) 0 0 (.slice none 0 0) (.slice none 0 0)) := Lib.hid (S0.out.kept K1.out (by omega))
  obtain ⟨c10, f10, b10⟩ : w1.cell? ⟨w.heap.size + 1, 0, none⟩ = some (.int .u64 0) ∧ w1.frozen? ⟨w.heap.size + 1, 0, none⟩ = false ∧ w.heap.size + 1 < w1.heap.size := ⟨S1.out.c0, S1.out.f0, S1.out.lt⟩
  go_wp2_with fail
  generalize hW : World.setCell _ _ _ = W1
  have S2 : Hid (SBlk W1 (w.heap.size + 1) (numV H59 l) 0 (.slice none 0 0) (.slice none 0 0)) := Lib.hid (by subst hW; exact S1.out.set0 _)
  have K2 : Hid (Kept w1 W1 (fun k => k = w.heap.size + 1)) := Lib.hid (by subst hW; exact Kept.setCell w1 ⟨w.heap.size + 1, 0, none⟩ _)
  have R2 : Hid (RdrIs W1 b rb (rest1 l) (bad || numB H59 l)) := Lib.hid (R1.out.kept K2.out (by omega) (by omega))
  have T2 : Hid (SBlk W1 w.heap.size 0 0 (.slice none 0 0) (.slice none 0 0)) := Lib.hid ((T0.out.kept K1.out (by omega)).kept K2.out (by omega))
  have A2 : Hid (Kept w W1 (fun k => k = b)) := Lib.hid (((Kept.of_below B0.out (S := fun k => k = b) (fun k h1 h2 => by omega)).trans K1.out).stepNew K2.out (by omega))
  clear hW c10 f10 b10
  refine (rnum_any b 1152921504606846976 (rest1 l) _ _ R2.out (by decide) (by decide)).mono ?_
  rintro e w3 ⟨rfl, h1, k1⟩
  rw [E60.out] at h1 ⊢
  have R3 := Lib.hid h1
  have K3 := Lib.hid k1
  have hs3 := k1.size
  clear h1 k1
  have S3 : Hid (SBlk w3 (w.heap.size + 1) (numV H59 l) 0 (.slice none 0 0) (.slice none 0 0)) := Lib.hid (S2.out.kept K3.out (by omega))
  obtain ⟨c10, f10, b10⟩ : w3.cell? ⟨w.heap.size + 1, 1, none⟩ = some (.int .u64 0) ∧ w3.frozen? ⟨w.heap.size + 1, 1, none⟩ = false ∧ w.heap.size + 1 < w3.heap.size := ⟨S3.out.c1, S3.out.f1, S3.out.lt⟩
  go_wp2_with fail
  generalize hW : World.setCell _ _ _ = W3
  have S4 : Hid (SBlk W3 (w.heap.size + 1) (numV H59 l) (numV H60 (rest1 l)) (.slice none 0 0) (.slice none 0 0)) := Lib.hid (by subst hW; exact S3.out.set1 _)
  have K4 : Hid (Kept w3 W3 (fun k => k = w.heap.size + 1)) := Lib.hid (by subst hW; exact Kept.setCell w3 ⟨w.heap.size + 1, 1, none⟩ _)
  have R4 : Hid (RdrIs W3 b rb (rest2 l) ((bad || numB H59 l) || numB H60 (rest1 l))) := Lib.hid (R3.out.kept K4.out (by omega) (by omega))
  have T4 : Hid (SBlk W3 w.heap.size 0 0 (.slice none 0 0) (.slice none 0 0)) := Lib.hid ((T2.out.kept K3.out (by omega)).kept K4.out (by omega))
  have A4 : Hid (Kept w W3 (fun k => k = b)) := Lib.hid ((A2.out.trans K3.out).stepNew K4.out (by omega))
  have Z4 : Hid (w.heap.size + 2 ≤ W3.heap.size) := Lib.hid (by have := S4.out.lt; omega)
  clear hW c10 f10 b10
  refine (rnum_any b 7 (rest2 l) _ _ R4.out (by decide) (by decide)).mono ?_
  rintro e w5 ⟨rfl, h1, k1⟩
  rw [E7.out] at h1 ⊢
  have hn7 : ((memN l : Nat) : Int) ≤ 7 := by have := memN_le l; omega
  have R5 : Hid (RdrIs w5 b rb (rest3 l) (((bad || numB H59 l) || numB H60 (rest1 l)) || numB 7 (rest2 l))) := Lib.hid h1
  have K5 := Lib.hid k1
  have hs5 := k1.size
  clear h1 k1
  rw [show numV 7 (rest2 l) = memN l from rfl]
  have S5 : Hid (SBlk w5 (w.heap.size + 1) (numV H59 l) (numV H60 (rest1 l)) (.slice none 0 0) (.slice none 0 0)) := Lib.hid (S4.out.kept K5.out (by omega))
  have T5 : Hid (SBlk w5 w.heap.size 0 0 (.slice none 0 0) (.slice none 0 0)) := Lib.hid (T4.out.kept K5.out (by omega))
  have A5 : Hid (Kept w w5 (fun k => k = b)) := Lib.hid (A4.out.trans K5.out)
  generalize hX : (((bad || numB H59 l) || numB H60 (rest1 l)) || numB 7 (rest2 l)) = bad3 at R5
  have HB := Lib.hid hX
  clear hX
  go_wp2_with fail
  go_loopw [5] (fun x wr => ∃ (k : Nat) (mv : Value), k ≤ memN l ∧ x = .int .i64 k ∧ MemI w b rb 6 (rest3 l) bad3 (w.heap.size + 1) w.heap.size (w.heap.size + 2) (numV H59 l) (numV H60 (rest1 l)) k mv wr) (fun x _ => memN l - (intOf x).toNat)
  case atStart => exact ⟨0, _, Nat.zero_le _, rfl, by rw [memL, memB, Bool.or_false]; exact R5.out, S5.out, T5.out, Owns.nil _ _ _ _, A5.out, by have := Z4.out; omega⟩
  case round =>
    obtain ⟨k, mv, hk, rfl, hI⟩ := hrel
    have I := Lib.hid hI
    have hsz := hI.le
    clear hI
    by_cases hlt : k < memN l
    · have hv6 : ((numV 6 (memL 6 k (rest3 l)) : Nat) : Int) ≤ 6 := by have := numV_le 6 (memL 6 k (rest3 l)); omega
      have hki : (k : Int) < (memN l : Int) := by omega
      have HLN : Hid ((memV 6 k (rest3 l)).length + [((numV 6 (memL 6 k (rest3 l)) : Nat) : Int)].length ≤ 4294967296) := Lib.hid (by rw [length_memV]; simp only [List.length_cons, List.length_nil]; have := memN_le l; omega)
      have hw6 : IntKind.i64.wrap ((numV 6 (memL 6 k (rest3 l)) : Nat) : Int) = ((numV 6 (memL 6 k (rest3 l)) : Nat) : Int) := by simp only [IntKind.wrap_i64]; omega
      go_wp2_with fail
      refine region_start [0, 1, 0, 4, 12, 28, 63, 127, 255] 24 (fun w' => w'.cell? ⟨w.heap.size + 1, 2, none⟩ = some mv) (by kernel_rfl) ?_
      refine stage_heads [0, 1, 2] (by kernel_rfl) (L := #[true, true, true, false, false, false, false, false, false]) (by kernel_rfl) (f' := 6) rfl (fun _ _ _ _ h => h) (fun w o h => (Stable.cell _ _).alloc h o) (.inr I.out.sn.c2) ?_
      simp only [List.flatMap_cons, List.flatMap_nil, List.drop_succ_cons, List.drop_zero, List.take_succ_cons, List.take_zero, List.cons_append, List.nil_append, List.append_nil]
      iterate 3 (first | (refine heads_load _ (by rfl) (fun w' hs => by have y0 := hs; go_simp; try with_reducible rfl) rfl ?_; simp only [Act.put, List.setIfInBounds_toArray, List.set_cons_zero, List.set_cons_succ]) | (refine heads_pure _ (by rfl) (fun w' => by go_simp; try with_reducible rfl) ?_; simp only [Act.put, List.setIfInBounds_toArray, List.set_cons_zero, List.set_cons_succ]))
      refine heads_nil ?_
      refine stage_op 3 (by kernel_rfl) (L := #[true, true, true, true, false, false, false, false, false]) (by kernel_rfl) ?_
      simp only [List.drop_succ_cons, List.drop_zero, List.take_succ_cons, List.take_zero]
      go_wp2_with fail; refine (rnum_any b 6 _ _ _ (I.out.rd.below ((Below.refl _ _).drew)) (by decide) (by decide)).mono ?_; rintro e u3 ⟨rfl, h3, k3⟩; rw [E6.out] at h3 ⊢; have H3 := Lib.hid h3; have K3 : Hid (Kept wr u3 (fun k => k = b)) := Lib.hid ((Kept.drew wr (fun k => k = b)).trans k3); clear h3 k3; have S3 : Hid (SBlk u3 (w.heap.size + 1) (numV H59 l) (numV H60 (rest1 l)) mv (.slice none 0 0)) := Lib.hid (I.out.sn.kept K3.out (by omega)); have S4 : Hid (SBlk u3 w.heap.size 0 0 (.slice none 0 0) (.slice none 0 0)) := Lib.hid (I.out.rs.kept K3.out (by omega)); have LE3 : Hid (w.heap.size + 2 ≤ u3.heap.size) := Lib.hid (Nat.le_trans I.out.le K3.out.size); have O3 : Hid (Owns u3 (w.heap.size + 2) 3 .i64 mv (memV 6 k (rest3 l))) := Lib.hid (I.out.own.kept K3.out (fun g hg e => by have := (I.out.own.lt g hg).1; omega)); go_wp2_with fail
      refine step_post (fun _ => S3.out.c2) ?_
      refine stage_heads [4] (by kernel_rfl) (L := #[true, true, true, true, true, false, false, false, false]) (by kernel_rfl) (f' := 4) rfl (fun _ _ _ _ h => h) (fun w o h => (Stable.cell _ _).alloc h o) (.inr (by first | exact S3.out.c2 | exact cell_drew S3.out.c2)) ?_
      simp only [List.flatMap_cons, List.flatMap_nil, List.drop_succ_cons, List.drop_zero, List.take_succ_cons, List.take_zero, List.append_nil]
      iterate 1 (first | (refine heads_load _ (by rfl) (fun w' hs => by have y0 := hs; go_simp; try with_reducible rfl) rfl ?_; simp only [Act.put, List.setIfInBounds_toArray, List.set_cons_zero, List.set_cons_succ]) | (refine heads_pure _ (by rfl) (fun w' => by go_simp; try with_reducible rfl) ?_; simp only [Act.put, List.setIfInBounds_toArray, List.set_cons_zero, List.set_cons_succ]))
      refine heads_nil ?_
      refine stage_op 5 (by kernel_rfl) (L := #[true, true, true, true, true, true, false, false, false]) (by kernel_rfl) ?_
      simp only [List.drop_succ_cons, List.drop_zero, List.take_succ_cons, List.take_zero]
      go_wp2_with fail; generalize hu5 : World.alloc _ _ = u5; have B5 : Hid (Below u3.heap.size u3 u5) := Lib.hid (by subst hu5; first | exact (Below.refl _ _).alloc (Nat.le_refl _) _ | exact ((Below.refl _ _).drew).alloc (Nat.le_refl _) _ | exact (((Below.refl _ _).drew).drew).alloc (Nat.le_refl _) _); have ONE5 : Hid (Reads u5 .i64 (.slice (some ⟨u3.heap.size, 0, none⟩) 1 1) [((numV 6 (memL 6 k (rest3 l)) : Nat) : Int)]) := Lib.hid (by subst hu5; first | exact Reads.one _ _ _ _); clear hu5
      refine step_post nofun ?_
      refine stage_op 6 (by kernel_rfl) (L := #[true, true, true, true, true, true, true, false, false]) (by kernel_rfl) ?_
      simp only [List.drop_succ_cons, List.drop_zero, List.take_succ_cons, List.take_zero]
      refine wpList_append_ints Tryz.i64s _ _ rfl (w.heap.size + 2) mv (.slice (some ⟨u3.heap.size, 0, none⟩) 1 1) (memV 6 k (rest3 l)) [((numV 6 (memL 6 k (rest3 l)) : Nat) : Int)] rfl rfl (by first | exact O3.out.below B5.out | exact (O3.out.below B5.out).drew) (by first | exact ONE5.out | exact ONE5.out.drew) (by decide) HLN.out (by have := LE3.out; have := B5.out.size; first | omega | (simp only [World.size_drew]; omega)) rfl ?_; intro v6 u6 hown6 hgr6 hat6 hnil6 hbel6; obtain ⟨a6, c6, rfl⟩ := hown6.shape; have O6 : Hid (Owns u6 (w.heap.size + 2) 3 .i64 (.slice a6 ((memV 6 k (rest3 l)).length + 1) c6) (memV 6 k (rest3 l) ++ [((numV 6 (memL 6 k (rest3 l)) : Nat) : Int)])) := Lib.hid (by have hh := hown6; rw [List.length_append] at hh; exact hh); have OL6 := O3.out.lt; have G6 : Hid (Kept u5 u6 (fun g => mv.ownBlock = some g)) := Lib.hid (by first | exact Kept.of_grown hgr6 | exact (Kept.drew u5 _).trans (Kept.of_grown hgr6)); have S6 : Hid (SBlk u6 (w.heap.size + 1) (numV H59 l) (numV H60 (rest1 l)) mv (.slice none 0 0)) := Lib.hid ((S3.out.below B5.out).kept G6.out (fun e => by have := (OL6 _ e).1; omega)); have S7 : Hid (SBlk u6 w.heap.size 0 0 (.slice none 0 0) (.slice none 0 0)) := Lib.hid ((S4.out.below B5.out).kept G6.out (fun e => by have := (OL6 _ e).1; omega)); have R6 : Hid (RdrIs u6 b rb (numL 6 (memL 6 k (rest3 l))) ((bad3 || memB 6 k (rest3 l)) || numB 6 (memL 6 k (rest3 l)))) := Lib.hid ((H3.out.below B5.out).kept G6.out (fun e => by have := (OL6 _ e).1; omega) (fun e => by have := (OL6 _ e).1; omega)); have K6 : Hid (Kept w u6 (fun k => k = b)) := Lib.hid (((I.out.kept.trans K3.out).trans (Kept.of_below B5.out (S := fun k => k = b) (fun k h1 h2 => by omega))).andThen G6.out (fun g hg e => by rcases e with e | e; exact e; have := (OL6 _ e).1; omega)); have Z6 : Hid (w.heap.size + 2 ≤ u6.heap.size) := Lib.hid (by have := LE3.out; have := B5.out.size; have := G6.out.size; omega); clear hown6 hgr6 hat6 hnil6 hbel6 OL6; go_wp2_with fail
      refine step_post nofun ?_
      refine stage_heads [7] (by kernel_rfl) (L := #[true, true, true, true, true, true, true, true, false]) (by kernel_rfl) (f' := 1) rfl (fun _ _ _ _ h => h) (fun w o h => (Stable.cell _ _).alloc h o) (.inl (by kernel_rfl)) ?_
      simp only [List.flatMap_cons, List.flatMap_nil, List.drop_succ_cons, List.drop_zero, List.take_succ_cons, List.take_zero, List.append_nil]
      iterate 1 (refine heads_pure _ (by rfl) (fun w' => by go_simp; try with_reducible rfl) ?_; simp only [Act.put, List.setIfInBounds_toArray, List.set_cons_zero, List.set_cons_succ])
      refine heads_nil ?_
      refine stage_op 8 (by kernel_rfl) (L := #[true, true, true, true, true, true, true, true, true]) (by kernel_rfl) ?_
      simp only [List.drop_succ_cons, List.drop_zero, List.take_succ_cons, List.take_zero]
      obtain ⟨g1, g2, g3⟩ : u6.cell? ⟨w.heap.size + 1, 2, none⟩ = some mv ∧ u6.frozen? ⟨w.heap.size + 1, 2, none⟩ = false ∧ w.heap.size + 1 < u6.heap.size := ⟨S6.out.c2, S6.out.f2, S6.out.lt⟩; go_wp2_with fail; generalize hu8 : World.setCell _ _ _ = u8; have S8 : Hid (SBlk u8 (w.heap.size + 1) (numV H59 l) (numV H60 (rest1 l)) (.slice a6 ((memV 6 k (rest3 l)).length + 1) c6) (.slice none 0 0)) := Lib.hid (by subst hu8; exact S6.out.set2 _); have G8 : Hid (Kept u6 u8 (fun g => g = w.heap.size + 1)) := Lib.hid (by subst hu8; exact Kept.setCell u6 ⟨w.heap.size + 1, 2, none⟩ _); clear hu8 g1 g2 g3
      refine step_post nofun ?_
      refine stage_done (by kernel_rfl) ?_

      clear hw6
      go_wp2_with fail
      go_roundw
      case rel =>
        refine ⟨k + 1, _, by omega, by go_num, ?_, S8.out, S7.out.kept G8.out (by omega), O6.out.kept G8.out (fun g hg e => by have := (O6.out.lt g hg).1; omega), K6.out.stepNew G8.out (by omega), by have := Z6.out; have := G8.out.size; omega⟩
        have hr := R6.out.kept G8.out (by omega) (by omega)
        rw [Bool.or_assoc] at hr
        exact hr
      case measure => simp [intOf]; omega
    · obtain rfl : k = memN l := by omega
      have RL : Hid (RdrIs wr b rb (rest4 6 l) (bad3 || memB 6 (memN l) (rest3 l))) := Lib.hid I.out.rd
      go_wp2_with fail
      refine (rtext_any b 32768 _ _ _ RL.out (by decide)).mono ?_
      rintro e w7 ⟨rfl, h7, k7⟩
      have H7 := Lib.hid h7
      have K7 := Lib.hid k7
      have hs7 := k7.size
      clear h7 k7
      have S7 : Hid (SBlk w7 (w.heap.size + 1) (numV H59 l) (numV H60 (rest1 l)) mv (.slice none 0 0)) := Lib.hid (I.out.sn.kept K7.out (by omega))
      have T7 : Hid (SBlk w7 w.heap.size 0 0 (.slice none 0 0) (.slice none 0 0)) := Lib.hid (I.out.rs.kept K7.out (by omega))
      have O7 : Hid (Owns w7 (w.heap.size + 2) 3 .i64 mv (memV 6 (memN l) (rest3 l))) := Lib.hid (I.out.own.kept K7.out (fun g hg e => by have := (I.out.own.lt g hg).1; omega))
      obtain ⟨am, cm, rfl⟩ := O7.out.shape
      have TS : Hid ((strN (textV 32768 (rest4 6 l))).size ≤ 2097152) := Lib.hid (by rw [size_strN]; have := textV_len 32768 (rest4 6 l); omega)
      have HTX : Hid (natsOf (strN (textV 32768 (rest4 6 l))) = textV 32768 (rest4 6 l)) := Lib.hid (natsOf_strN fun c hc => by obtain ⟨v, _, hB, _⟩ := RL.out.ex; exact hB.lt c (textV_mem c hc))
      go_wp2_with (refine wpList_to_bytes rfl 9 22 5 _ rfl Tryz.underlying9 Tryz.underlying22 Tryz.underlying5 _ rfl TS.out ?_; intro dv w8 hB8 hb8 hob8; have OB8 := Lib.hid hob8; clear hob8; obtain ⟨ad, cd, rfl, _⟩ := hB8.shape; have HB8 := Lib.hid hB8; have B8 := Lib.hid hb8; obtain ⟨g1, g2, g3⟩ : w8.cell? ⟨w.heap.size + 1, 3, none⟩ = some (.slice none 0 0) ∧ w8.frozen? ⟨w.heap.size + 1, 3, none⟩ = false ∧ w.heap.size + 1 < w8.heap.size := ⟨(S7.out.below B8.out).c3, (S7.out.below B8.out).f3, (S7.out.below B8.out).lt⟩; obtain ⟨g4, g5, g6⟩ : w8.cell? ⟨w.heap.size + 1, 0, none⟩ = some (.int .u64 (numV H59 l)) ∧ w8.cell? ⟨w.heap.size + 1, 1, none⟩ = some (.int .u64 (numV H60 (rest1 l))) ∧ w8.cell? ⟨w.heap.size + 1, 2, none⟩ = some (.slice am (memV 6 (memN l) (rest3 l)).length cm) := ⟨(S7.out.below B8.out).c0, (S7.out.below B8.out).c1, (S7.out.below B8.out).c2⟩; obtain ⟨r0, r1, r2, r3, q0, q1, q2, q3⟩ := T7.out.below B8.out; clear hB8 hb8)
      generalize hwF : World.setCell _ _ _ = wF
      have KF : Hid (Kept w8 wF (fun k => k = w.heap.size + 1 ∨ k = w.heap.size)) := Lib.hid (by
        subst hwF
        exact (((((Kept.setCell w8 ⟨w.heap.size + 1, 3, none⟩ _).mono (fun _ _ h => .inl h)).trans ((Kept.setCell _ ⟨w.heap.size, 0, none⟩ _).mono (fun _ _ h => .inr h))).trans ((Kept.setCell _ ⟨w.heap.size, 1, none⟩ _).mono (fun _ _ h => .inr h))).trans ((Kept.setCell _ ⟨w.heap.size, 2, none⟩ _).mono (fun _ _ h => .inr h))).trans ((Kept.setCell _ ⟨w.heap.size, 3, none⟩ _).mono (fun _ _ h => .inr h)))
      have HR : Hid (SBlk wF w.heap.size (numV H59 l) (numV H60 (rest1 l)) (.slice am (memV 6 (memN l) (rest3 l)).length cm) (.slice ad (natsOf (strN (textV 32768 (rest4 6 l)))).length cd)) := Lib.hid (by
        subst hwF
        exact (((((T7.out.below B8.out).kept (Kept.setCell w8 ⟨w.heap.size + 1, 3, none⟩ _) (show ¬ w.heap.size = w.heap.size + 1 by omega)).set0 _).set1 _).set2 _).set3 _)
      clear hwF g1 g2 g3 g4 g5 g6 r0 r1 r2 r3 q0 q1 q2 q3
      obtain ⟨r0, r1, r2, r3, _, _, _, _⟩ := HR.out
      refine bodyPost_ret (v := .agg #[.int .u64 (numV H59 l), .int .u64 (numV H60 (rest1 l)), .slice am (memV 6 (memN l) (rest3 l)).length cm, .slice ad (natsOf (strN (textV 32768 (rest4 6 l)))).length cd]) (by simp [results, Tryz.results90, go_sem, r0, r1, r2, r3]) rfl ?_
      refine ⟨_, rfl, ⟨_, _, rfl, ?_, ?_⟩, ?_, ?_, _, _, _, _, rfl, fun g hg => by have := (O7.out.lt g hg).1; omega, fun g hg => by have := OB8.out; rw [hg] at this; cases this; have := I.out.le; omega⟩
      · exact Ints.of_owns ((O7.out.below B8.out).kept KF.out (fun g hg e => by have := (O7.out.lt g hg).1; omega)) (by show (memV 6 (memN l) (rest3 l)).length ≤ 2097152; rw [length_memV]; have := memN_le l; omega)
      · have hh := HB8.out
        rw [HTX.out] at hh ⊢
        exact hh.keptOr KF.out (rb := w7.heap.size) (.inr (by have := OB8.out; rw [HTX.out] at this; exact this)) (by omega)
      · have hh := (H7.out.below B8.out).kept KF.out (by omega) (by omega)
        rw [show (bad || getB 6 l) = ((bad3 || memB 6 (memN l) (rest3 l)) || textB 32768 (rest4 6 l)) by rw [← HB.out]; simp only [getB, Bool.or_assoc]]
        exact hh
      · exact ((I.out.kept.trans K7.out).trans (Kept.of_below B8.out (S := fun k => k = b) (fun k h1 h2 => by omega))).andThen KF.out (fun g hg e => by rcases e with e | e | e; exact e; all_goals omega)
theorem rget_any (b : Nat) (l : List Nat) (bad : Bool) (w : World) (h : RdrIs w b rb l bad) (hrb : rb < w.heap.size) :
    Calls Tryz.prog 90 #[.pointer (some ⟨b, 0, none⟩)] w fun e w' => ∃ v, e = .returned v ∧ SnapIs w' v (getS 6 l) ∧ RdrIs w' b rb (getL 6 l) (bad || getB 6 l) ∧ Kept w w' (fun k => k = b) :=
  (rget_new b l bad w h hrb).mono fun _ _ ⟨v, h1, h2, h3, h4, _⟩ => ⟨v, h1, h2, h3, h4⟩
end Go.Proofs.YtofhccpagnkalaaGreat
