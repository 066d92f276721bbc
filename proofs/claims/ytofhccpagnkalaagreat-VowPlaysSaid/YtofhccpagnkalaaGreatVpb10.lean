/- Several texts in one: Rt, Snd, Snp, Same, Get, Read, Vs. What each proves stands ahead of it; together they serve vplays_law_holds. No conditions but those stated. -/
import Derived.Test.YtofhccpagnkalaaGreatVpb6
import Derived.Test.YtofhccpagnkalaaGreatVpb2
import Derived.Test.YtofhccpagnkalaaGreatVpb7
import Derived.Test.YtofhccpagnkalaaGreatRows
/- The contract of the document's Take; no conditions but the ranges. -/
namespace Go.Proofs.YtofhccpagnkalaaGreat
open Go.RowKit Go.Maps Go.Proofs.Own

theorem digits3 {p q r N : Nat} (hq : q < 256) (hr : r < 256) (h : N = be3 p q r) : N / 65536 = p ∧ N / 256 % 256 = q ∧ N % 256 = r := by
  subst h; unfold be3; omega
theorem take5 {l : List Nat} (h : 5 ≤ l.length) (k : Nat) : l.take (k + 5) = [l.getD 0 0, l.getD 1 0, l.getD 2 0, l.getD 3 0, l.getD 4 0] ++ (l.take (k + 5)).drop 5 := by
  match l, h with
  | a :: b :: c :: d :: e :: l, _ => simp
theorem getD_get {l : List Nat} {j : Nat} (h : j < l.length) : l.getD j 0 = l[j] := by simp [List.getD_eq_getElem?_getD, h]
theorem take3 {l : List Nat} {m : Nat} (h : m + 3 ≤ l.length) : l.take (m + 3) = l.take m ++ [l.getD m 0, l.getD (m + 1) 0, l.getD (m + 2) 0] := by
  rw [getD_get (show m < l.length by omega), getD_get (show m + 1 < l.length by omega), getD_get (show m + 2 < l.length by omega), show m + 3 = m + 1 + 1 + 1 from rfl,
    List.take_succ_eq_append_getElem (show m + 1 + 1 < l.length by omega), List.take_succ_eq_append_getElem (show m + 1 < l.length by omega), List.take_succ_eq_append_getElem (show m < l.length by omega)]
  simp only [List.append_assoc, List.cons_append, List.nil_append]
/-- The document's test of the sum is the program's. -/
theorem frP_iff {l : List Nat} (hl : ∀ c ∈ l, c < 256) (h : sizeE l = 0) (h0 : l.getD 0 0 = 102) : frP (l.getD 1 0) (frBody l) = l.take (frN l + 8) ↔ SumOk (frN l + 5) (l.take (frN l + 8)) := by
  obtain ⟨h5, hN, hlen⟩ := sizeE_len h
  have gl : ∀ j, l.getD j 0 < 256 := fun j => by
    rw [List.getD_eq_getElem?_getD]
    cases e : l[j]? with
    | none => simp
    | some x => exact hl x (List.mem_of_getElem? e)
  have hbl := length_frBody h
  have hd := digits3 (p := l.getD 2 0) (gl 3) (gl 4) (show frN l = be3 (l.getD 2 0) (l.getD 3 0) (l.getD 4 0) from rfl)
  have e1 : [102, l.getD 1 0, (frBody l).length / 65536, (frBody l).length / 256 % 256, (frBody l).length % 256] ++ frBody l = l.take (frN l + 5) := by
    rw [hbl, hd.1, hd.2.1, hd.2.2, take5 h5 (frN l), h0]; rfl
  have e2 : ∀ j, j < frN l + 8 → (l.take (frN l + 8)).getD j 0 = l.getD j 0 := fun j hj => by
    simp only [List.getD_eq_getElem?_getD]
    rw [List.getElem?_take_of_lt hj]
  have e3 : (l.take (frN l + 8)).take (frN l + 5) = l.take (frN l + 5) := by rw [List.take_take]; congr 1; omega
  unfold frP SumOk
  rw [e1, e3, e2 _ (by omega), e2 _ (by omega), e2 _ (by omega)]
  have e4 : l.take (frN l + 8) = l.take (frN l + 5) ++ [l.getD (frN l + 5) 0, l.getD (frN l + 6) 0, l.getD (frN l + 7) 0] := take3 (m := frN l + 5) (by omega)
  rw [e4, sealP]
  have hs := sumP_lt (l.take (frN l + 5)) (fun c hc => hl c (List.mem_of_mem_take hc))
  have g5 := gl (frN l + 5)
  have g6 := gl (frN l + 6)
  have g7 := gl (frN l + 7)
  simp only [List.append_cancel_left_eq, List.cons.injEq, and_true, show frN l + 5 + 1 = frN l + 6 by omega, show frN l + 5 + 2 = frN l + 7 by omega]
  unfold be3
  omega
theorem sizeE_first {l : List Nat} (h : sizeE l = 0) : l.getD 0 0 = 102 := by
  unfold sizeE at h
  split at h; · omega
  split at h; · omega
  rename_i h0; exact Classical.not_not.1 h0

-- WALKS
theorem sizeE_second {l : List Nat} (h : sizeE l = 0) : l.getD 1 0 ≠ 0 := by
  unfold sizeE at h
  split at h; · omega
  split at h; · omega
  split at h; · omega
  split at h; · omega
  assumption
/-- The two strings of the test are the same, or not. -/
def sumT (l : List Nat) : Prop := ((strN (frP (l.getD 1 0) (frBody l))).toList == (strN (l.take (frN l + 8))).toList) = true
def sumF (l : List Nat) : Prop := ((strN (frP (l.getD 1 0) (frBody l))).toList == (strN (l.take (frN l + 8))).toList) = false
theorem frP_lt {k : Nat} {l : List Nat} (hk : k < 256) (hn : l.length < 16777216) (h : ∀ c ∈ l, c < 256) : ∀ c ∈ frP k l, c < 256 := sealP_lt (headed_lt hk hn h)
theorem sumT_iff {l : List Nat} (hl : ∀ c ∈ l, c < 256) (h : sizeE l = 0) (hs : SumOk (frN l + 5) (l.take (frN l + 8))) : sumT l := by
  unfold sumT
  rw [(frP_iff hl h (sizeE_first h)).2 hs]
  exact str_eq_of rfl
theorem sumF_iff {l : List Nat} (hl : ∀ c ∈ l, c < 256) (h : sizeE l = 0) (hs : ¬ SumOk (frN l + 5) (l.take (frN l + 8))) : sumF l := by
  refine str_ne fun e => ?_
  refine hs ((frP_iff hl h (sizeE_first h)).1 (strN_inj (frP_lt ?_ ?_ ?_) (fun c hc => hl c (List.mem_of_mem_take hc)) e))
  · rw [List.getD_eq_getElem?_getD]
    cases e : l[1]? with
    | none => simp
    | some x => exact hl x (List.mem_of_getElem? e)
  · have := length_frBody h; have := sizeE_len h; omega
  · exact fun c hc => hl c (List.mem_of_mem_take (List.mem_of_mem_drop hc))

set_option maxHeartbeats 2000000 in
set_option maxRecDepth 20000 in
theorem rtake_no (v : Value) (l : List Nat) (w : World) (hB : Bytes w v l) (hs : sizeE l = 0) (hsum : ¬ SumOk (frN l + 5) (l.take (frN l + 8))) : Calls Tryz.prog 89 #[v] w (TakePost l w) := by
  have HF : Hid (takeE l = 22) := Lib.hid (by simp [takeE, hs, hsum])
  obtain ⟨h5, hN, hlen⟩ := sizeE_len hs
  have HB := Lib.hid hB
  obtain ⟨v1, hB1, hcut1⟩ := hB.cutm Tryz.u8s 5 (frN l + 5) (by omega) (by omega)
  obtain ⟨v2, hB2, hcut2⟩ := hB.cuth Tryz.u8s (frN l + 8) (by omega)
  have hB1' : Bytes w v1 (frBody l) := hB1
  have HW : Hid (sumF l) := Lib.hid (sumF_iff hB.lt hs hsum)
  have hn1 : l.getD 1 0 ≠ 0 := sizeE_second hs
  obtain ⟨b, o, c, rfl, hle, hbs, hcell⟩ := hB.somewhere (by omega)
  have c0 : w.cell? ⟨b, o, none⟩ = some (.int .u8 (l.getD 0 0 : Nat)) := hcell 0 (by omega)
  rw [sizeE_first hs] at c0
  have c1 := hcell 1 (by omega)
  have c2 := hcell 2 (by omega)
  have c3 := hcell 3 (by omega)
  have c4 := hcell 4 (by omega)
  have x2 := hB.getD_lt 2
  have x3 := hB.getD_lt 3
  have x4 := hB.getD_lt 4
  have x1 := hB.getD_lt 1
  have hl0 : ((l.length : Int) == 0) = false := beq_eq_false_iff_ne.2 (by omega)
  have hl2 : ¬ (l.length : Int) < 2 := by omega
  have hl5 : ¬ (l.length : Int) < 5 := by omega
  have hN' : ¬ (65536 : Int) < (frN l : Int) := by omega
  have hlN : ¬ (l.length : Int) < (frN l : Int) + 8 := by omega
  have HV : Hid (((l.getD 2 0 : Nat) : Int) * 65536 + ((l.getD 3 0 : Nat) : Int) * 256 + ((l.getD 4 0 : Nat) : Int) = (frN l : Int)) := Lib.hid (by have : frN l = l.getD 2 0 * 65536 + l.getD 3 0 * 256 + l.getD 4 0 := rfl; omega)
  have i0 : (0 : Int) < (l.length : Int) := by omega
  have i1 : (1 : Int) < (l.length : Int) := by omega
  have i2 : (2 : Int) < (l.length : Int) := by omega
  have i3 : (3 : Int) < (l.length : Int) := by omega
  have i4 : (4 : Int) < (l.length : Int) := by omega
  have HL := Lib.hid hlen
  have HN := Lib.hid hN
  have HS := Lib.hid hs
  have hbl : (frBody l).length ≤ 65536 := by rw [length_frBody hs]; exact hN
  have HBL := Lib.hid hbl
  clear hB hcell hle h5 hN hs hlen hbl hB1
  generalize l.getD 2 0 = p at c2 x2 HV
  generalize l.getD 3 0 = q at c3 x3 HV
  generalize l.getD 4 0 = r at c4 x4 HV
  generalize hx : l.getD 1 0 = x at c1 x1 hn1
  have HLN : Hid (([] : List Int).length + (ints (frBody l)).length ≤ 4294967296) := Lib.hid (by rw [length_ints]; have := HBL.out; simp only [List.length_nil]; omega)
  have hn1b : ((x : Int) == 0) = false := by simp; omega
  have HX := Lib.hid hx
  have C1 := Lib.hid c1
  have HB1 := Lib.hid hB1'
  have HB2 := Lib.hid hB2
  rw [sumF, hx] at HW
  have hcut1' : ∀ w', (Instr.slice 22 (.slice (some ⟨b, o, none⟩) l.length c) (some (.int .i64 5)) (some (.int .i64 ((frN l : Int) + 5))) none).run Tryz.prog w' = .ok v1 w' := hcut1
  have hcut2' : ∀ w', (Instr.slice 22 (.slice (some ⟨b, o, none⟩) l.length c) none (some (.int .i64 ((frN l : Int) + 8))) none).run Tryz.prog w' = .ok v2 w' := hcut2
  clear hx hcut1 hcut2 hB1' hB2 hn1 hsum
  go_enter Tryz.func89, Tryz.ntmps89
  go_wp2_with fail
  go_quiet (fail)
  have ST := Stable.from w
  have IQ : Hid (Below w.heap.size w (w.drewN nq)) := Lib.hid (Below.drewN _ _)
  generalize w.drewN nq = wq at IQ ⊢
  rw [HV.out]
  generalize hN : frN l = N at hN' hlN hcut1' hcut2' ⊢
  have HNN := Lib.hid hN
  clear hN c2 c3 c4 HV
  go_wp2_with fail
  have hwr : IntKind.i64.wrap ((N : Int) + 8) = (N : Int) + 8 := by simp only [IntKind.wrap_i64]; omega
  refine region_start [0, 1, 3, 0, 15, 31, 0, 0, 128, 448, 960, 2047] 48 (fun w' => Below w.heap.size w w') (by kernel_rfl) ?_
  refine stage_heads [0, 1, 2, 3, 6, 7, 8, 9, 10] (by kernel_rfl) (L := #[true, true, true, true, false, false, true, true, true, true, true, false]) (by kernel_rfl) (f' := 3) rfl (fun _ _ _ _ h => h) (fun w o h => ST.alloc h o) (.inr (ST.drew IQ.out)) ?_
  simp only [List.flatMap_cons, List.flatMap_nil, List.drop_succ_cons, List.drop_zero, List.take_succ_cons, List.take_zero, List.cons_append, List.nil_append, List.append_nil]
  iterate 9 (first | (refine heads_load _ (by rfl) (fun w' hs => by have y0 := Below.at hs C1.out hbs; have yc := (HB2.out.below hs).str (P := Tryz.prog) Tryz.underlying22 Tryz.underlying5 Tryz.underlying9; go_simp; try with_reducible rfl) rfl ?_; simp only [Act.put, List.setIfInBounds_toArray, List.set_cons_zero, List.set_cons_succ]) | (refine heads_pure _ (by rfl) (fun w' => by go_simp; try with_reducible rfl) ?_; simp only [Act.put, List.setIfInBounds_toArray, List.set_cons_zero, List.set_cons_succ]))
  refine heads_nil ?_
  refine stage_op 4 (by kernel_rfl) (L := #[true, true, true, true, true, false, true, true, true, true, true, false]) (by kernel_rfl) ?_
  simp only [List.drop_succ_cons, List.drop_zero, List.take_succ_cons, List.take_zero]
  go_wp2_with fail; refine (rbytes_any x v1 (frBody l) _ (HB1.out.below (ST.drew IQ.out)) x1 (by have := HBL.out; omega)).mono ?_; rintro e u4 ⟨v4, rfl, hB4, hb4⟩; have I4 : Hid (Below w.heap.size w u4) := Lib.hid (ST.below (ST.drew IQ.out) hb4); have HB4 := Lib.hid hB4; clear hB4 hb4; go_wp2_with fail
  refine step_post (fun _ => I4.out) ?_
  refine stage_op 5 (by kernel_rfl) (L := #[true, true, true, true, true, true, true, true, true, true, true, false]) (by kernel_rfl) ?_
  simp only [List.drop_succ_cons, List.drop_zero, List.take_succ_cons, List.take_zero]
  refine wpList_to_str rfl 22 9 5 _ rfl Tryz.underlying22 Tryz.underlying5 Tryz.underlying9 _ _ rfl HB4.out ?_; go_wp2_with fail
  refine step_post (fun _ => I4.out) ?_
  refine stage_heads [11] (by kernel_rfl) (L := #[true, true, true, true, true, true, true, true, true, true, true, true]) (by kernel_rfl) (f' := 0) rfl (fun _ _ _ _ h => h) (fun w o h => ST.alloc h o) (.inl (by kernel_rfl)) ?_
  simp only [List.flatMap_cons, List.flatMap_nil, List.drop_succ_cons, List.drop_zero, List.take_succ_cons, List.take_zero, List.append_nil]
  iterate 1 (refine heads_pure _ (by rfl) (fun w' => by go_simp; try with_reducible rfl) ?_; simp only [Act.put, List.setIfInBounds_toArray, List.set_cons_zero, List.set_cons_succ])
  refine heads_nil ?_
  refine stage_done (by kernel_rfl) ?_
  clear hwr
  rw [HW.out]
  go_wp2_with fail
  refine bodyPost_ret (v := .tuple #[.int .u8 0, .slice none 0 0, .int .i64 0, .int .i64 22]) (by simp [results, Tryz.results89, go_sem]) rfl ?_
  exact ⟨I4.out, fun _ => by rw [HF.out]; rfl, fun h => absurd (HF.out.symm.trans h) (by decide)⟩

set_option maxHeartbeats 2000000 in
set_option maxRecDepth 20000 in
theorem rtake_yes (v : Value) (l : List Nat) (w : World) (hB : Bytes w v l) (hs : sizeE l = 0) (hsum : SumOk (frN l + 5) (l.take (frN l + 8))) : Calls Tryz.prog 89 #[v] w (TakePost l w) := by
  have HF : Hid (takeE l = 0) := Lib.hid (by simp [takeE, hs, hsum])
  obtain ⟨h5, hN, hlen⟩ := sizeE_len hs
  have HB := Lib.hid hB
  obtain ⟨v1, hB1, hcut1⟩ := hB.cutm Tryz.u8s 5 (frN l + 5) (by omega) (by omega)
  obtain ⟨v2, hB2, hcut2⟩ := hB.cuth Tryz.u8s (frN l + 8) (by omega)
  have hB1' : Bytes w v1 (frBody l) := hB1
  have HW : Hid (sumT l) := Lib.hid (sumT_iff hB.lt hs hsum)
  have hn1 : l.getD 1 0 ≠ 0 := sizeE_second hs
  obtain ⟨b, o, c, rfl, hle, hbs, hcell⟩ := hB.somewhere (by omega)
  have c0 : w.cell? ⟨b, o, none⟩ = some (.int .u8 (l.getD 0 0 : Nat)) := hcell 0 (by omega)
  rw [sizeE_first hs] at c0
  have c1 := hcell 1 (by omega)
  have c2 := hcell 2 (by omega)
  have c3 := hcell 3 (by omega)
  have c4 := hcell 4 (by omega)
  have x2 := hB.getD_lt 2
  have x3 := hB.getD_lt 3
  have x4 := hB.getD_lt 4
  have x1 := hB.getD_lt 1
  have hl0 : ((l.length : Int) == 0) = false := beq_eq_false_iff_ne.2 (by omega)
  have hl2 : ¬ (l.length : Int) < 2 := by omega
  have hl5 : ¬ (l.length : Int) < 5 := by omega
  have hN' : ¬ (65536 : Int) < (frN l : Int) := by omega
  have hlN : ¬ (l.length : Int) < (frN l : Int) + 8 := by omega
  have HV : Hid (((l.getD 2 0 : Nat) : Int) * 65536 + ((l.getD 3 0 : Nat) : Int) * 256 + ((l.getD 4 0 : Nat) : Int) = (frN l : Int)) := Lib.hid (by have : frN l = l.getD 2 0 * 65536 + l.getD 3 0 * 256 + l.getD 4 0 := rfl; omega)
  have i0 : (0 : Int) < (l.length : Int) := by omega
  have i1 : (1 : Int) < (l.length : Int) := by omega
  have i2 : (2 : Int) < (l.length : Int) := by omega
  have i3 : (3 : Int) < (l.length : Int) := by omega
  have i4 : (4 : Int) < (l.length : Int) := by omega
  have HL := Lib.hid hlen
  have HN := Lib.hid hN
  have HS := Lib.hid hs
  have hbl : (frBody l).length ≤ 65536 := by rw [length_frBody hs]; exact hN
  have HBL := Lib.hid hbl
  clear hB hcell hle h5 hN hs hlen hbl hB1
  generalize l.getD 2 0 = p at c2 x2 HV
  generalize l.getD 3 0 = q at c3 x3 HV
  generalize l.getD 4 0 = r at c4 x4 HV
  generalize hx : l.getD 1 0 = x at c1 x1 hn1
  have HLN : Hid (([] : List Int).length + (ints (frBody l)).length ≤ 4294967296) := Lib.hid (by rw [length_ints]; have := HBL.out; simp only [List.length_nil]; omega)
  have hn1b : ((x : Int) == 0) = false := by simp; omega
  have HX := Lib.hid hx
  have C1 := Lib.hid c1
  have HB1 := Lib.hid hB1'
  have HB2 := Lib.hid hB2
  rw [sumT, hx] at HW
  have hcut1' : ∀ w', (Instr.slice 22 (.slice (some ⟨b, o, none⟩) l.length c) (some (.int .i64 5)) (some (.int .i64 ((frN l : Int) + 5))) none).run Tryz.prog w' = .ok v1 w' := hcut1
  have hcut2' : ∀ w', (Instr.slice 22 (.slice (some ⟨b, o, none⟩) l.length c) none (some (.int .i64 ((frN l : Int) + 8))) none).run Tryz.prog w' = .ok v2 w' := hcut2
  clear hx hcut1 hcut2 hB1' hB2 hn1 hsum
  go_enter Tryz.func89, Tryz.ntmps89
  go_wp2_with fail
  go_quiet (fail)
  have ST := Stable.from w
  have IQ : Hid (Below w.heap.size w (w.drewN nq)) := Lib.hid (Below.drewN _ _)
  generalize w.drewN nq = wq at IQ ⊢
  rw [HV.out]
  generalize hN : frN l = N at hN' hlN hcut1' hcut2' ⊢
  have HNN := Lib.hid hN
  clear hN c2 c3 c4 HV
  go_wp2_with fail
  have hwr : IntKind.i64.wrap ((N : Int) + 8) = (N : Int) + 8 := by simp only [IntKind.wrap_i64]; omega
  refine region_start [0, 1, 3, 0, 15, 31, 0, 0, 128, 448, 960, 2047] 48 (fun w' => Below w.heap.size w w') (by kernel_rfl) ?_
  refine stage_heads [0, 1, 2, 3, 6, 7, 8, 9, 10] (by kernel_rfl) (L := #[true, true, true, true, false, false, true, true, true, true, true, false]) (by kernel_rfl) (f' := 3) rfl (fun _ _ _ _ h => h) (fun w o h => ST.alloc h o) (.inr (ST.drew IQ.out)) ?_
  simp only [List.flatMap_cons, List.flatMap_nil, List.drop_succ_cons, List.drop_zero, List.take_succ_cons, List.take_zero, List.cons_append, List.nil_append, List.append_nil]
  iterate 9 (first | (refine heads_load _ (by rfl) (fun w' hs => by have y0 := Below.at hs C1.out hbs; have yc := (HB2.out.below hs).str (P := Tryz.prog) Tryz.underlying22 Tryz.underlying5 Tryz.underlying9; go_simp; try with_reducible rfl) rfl ?_; simp only [Act.put, List.setIfInBounds_toArray, List.set_cons_zero, List.set_cons_succ]) | (refine heads_pure _ (by rfl) (fun w' => by go_simp; try with_reducible rfl) ?_; simp only [Act.put, List.setIfInBounds_toArray, List.set_cons_zero, List.set_cons_succ]))
  refine heads_nil ?_
  refine stage_op 4 (by kernel_rfl) (L := #[true, true, true, true, true, false, true, true, true, true, true, false]) (by kernel_rfl) ?_
  simp only [List.drop_succ_cons, List.drop_zero, List.take_succ_cons, List.take_zero]
  go_wp2_with fail; refine (rbytes_any x v1 (frBody l) _ (HB1.out.below (ST.drew IQ.out)) x1 (by have := HBL.out; omega)).mono ?_; rintro e u4 ⟨v4, rfl, hB4, hb4⟩; have I4 : Hid (Below w.heap.size w u4) := Lib.hid (ST.below (ST.drew IQ.out) hb4); have HB4 := Lib.hid hB4; clear hB4 hb4; go_wp2_with fail
  refine step_post (fun _ => I4.out) ?_
  refine stage_op 5 (by kernel_rfl) (L := #[true, true, true, true, true, true, true, true, true, true, true, false]) (by kernel_rfl) ?_
  simp only [List.drop_succ_cons, List.drop_zero, List.take_succ_cons, List.take_zero]
  refine wpList_to_str rfl 22 9 5 _ rfl Tryz.underlying22 Tryz.underlying5 Tryz.underlying9 _ _ rfl HB4.out ?_; go_wp2_with fail
  refine step_post (fun _ => I4.out) ?_
  refine stage_heads [11] (by kernel_rfl) (L := #[true, true, true, true, true, true, true, true, true, true, true, true]) (by kernel_rfl) (f' := 0) rfl (fun _ _ _ _ h => h) (fun w o h => ST.alloc h o) (.inl (by kernel_rfl)) ?_
  simp only [List.flatMap_cons, List.flatMap_nil, List.drop_succ_cons, List.drop_zero, List.take_succ_cons, List.take_zero, List.append_nil]
  iterate 1 (refine heads_pure _ (by rfl) (fun w' => by go_simp; try with_reducible rfl) ?_; simp only [Act.put, List.setIfInBounds_toArray, List.set_cons_zero, List.set_cons_succ])
  refine heads_nil ?_
  refine stage_done (by kernel_rfl) ?_
  clear hwr
  rw [HW.out]
  go_wp2_with fail
  have hwr : IntKind.i64.wrap ((N : Int) + 8) = (N : Int) + 8 := by simp only [IntKind.wrap_i64]; omega
  refine region_start [0, 1, 3, 0, 0, 24, 0, 64, 63, 319, 1023, 2047] 32 (fun w' => Below w.heap.size w w') (by kernel_rfl) ?_
  refine stage_heads [0, 1, 2, 4, 6, 7] (by kernel_rfl) (L := #[true, true, true, false, true, false, true, true, false, false, false, false]) (by kernel_rfl) (f' := 6) rfl (fun _ _ _ _ h => h) (fun w o h => ST.alloc h o) (.inr (by first | exact ST.drew I4.out | exact I4.out)) ?_
  simp only [List.flatMap_cons, List.flatMap_nil, List.drop_succ_cons, List.drop_zero, List.take_succ_cons, List.take_zero, List.cons_append, List.nil_append, List.append_nil]
  iterate 6 (first | (refine heads_load _ (by rfl) (fun w' hs => by have y0 := Below.at hs C1.out hbs; have yc := (HB2.out.below hs).str (P := Tryz.prog) Tryz.underlying22 Tryz.underlying5 Tryz.underlying9; go_simp; try with_reducible rfl) rfl ?_; simp only [Act.put, List.setIfInBounds_toArray, List.set_cons_zero, List.set_cons_succ]) | (refine heads_pure _ (by rfl) (fun w' => by go_simp; try with_reducible rfl) ?_; simp only [Act.put, List.setIfInBounds_toArray, List.set_cons_zero, List.set_cons_succ]))
  refine heads_nil ?_
  refine stage_op 3 (by kernel_rfl) (L := #[true, true, true, true, true, false, true, true, false, false, false, false]) (by kernel_rfl) ?_
  simp only [List.drop_succ_cons, List.drop_zero, List.take_succ_cons, List.take_zero]
  go_wp2_with fail; generalize hu5 : World.alloc _ _ = u5; have I5 : Hid (Below w.heap.size w u5) := Lib.hid (by subst hu5; exact ST.alloc (by first | exact ST.drew I4.out | exact I4.out) _); have O5 : Hid (Owns u5 (w.heap.size) 5 .u8 (.slice (some ⟨u4.heap.size, 0, none⟩) 0 0) []) := Lib.hid (by subst hu5; first | exact Owns.empty (heap_alloc_new _ _) I4.out.size | exact Owns.empty (heap_alloc_new _ _) (ST.drew I4.out).size); clear hu5
  refine step_post nofun ?_
  refine stage_op 5 (by kernel_rfl) (L := #[true, true, true, true, true, true, true, true, false, false, false, false]) (by kernel_rfl) ?_
  simp only [List.drop_succ_cons, List.drop_zero, List.take_succ_cons, List.take_zero]
  refine wpList_append_ints Tryz.u8s _ _ rfl w.heap.size _ _ [] (ints (frBody l)) rfl rfl O5.out.drew (HB1.out.below (ST.drew I5.out)).rd (by decide) HLN.out (ST.drew I5.out).size rfl ?_; intro v6 w6 hown6 hgr6 hat6 hnil6 hbel6; have O6 : Hid (Owns w6 w.heap.size 5 .u8 v6 (ints (frBody l))) := Lib.hid (by simpa using hown6); have B6 : Hid (Below w.heap.size w w6) := Lib.hid ((ST.drew I5.out).trans hbel6); clear hown6 hgr6 hat6 hnil6 hbel6; go_wp2_with fail
  refine step_post (fun _ => B6.out) ?_
  refine stage_heads [8, 9, 10, 11] (by kernel_rfl) (L := #[true, true, true, true, true, true, true, true, true, true, true, true]) (by kernel_rfl) (f' := 0) rfl (fun _ _ _ _ h => h) (fun w o h => ST.alloc h o) (.inl (by kernel_rfl)) ?_
  simp only [List.flatMap_cons, List.flatMap_nil, List.drop_succ_cons, List.drop_zero, List.take_succ_cons, List.take_zero, List.cons_append, List.nil_append, List.append_nil]
  iterate 4 (refine heads_pure _ (by rfl) (fun w' => by go_simp; try with_reducible rfl) ?_; simp only [Act.put, List.setIfInBounds_toArray, List.set_cons_zero, List.set_cons_succ])
  refine heads_nil ?_
  refine stage_done (by kernel_rfl) ?_
  go_wp2_with fail
  refine bodyPost_ret (v := .tuple #[.int .u8 x, v6, .int .i64 ((N : Int) + 8), .int .i64 0]) (by simp [results, Tryz.results89, go_sem]) rfl ?_
  exact ⟨B6.out, fun h => absurd HF.out h, fun _ => ⟨v6, by rw [HX.out, HNN.out]; rfl, Bytes.of_owns O6.out HB1.out.lt HB1.out.small⟩⟩

theorem rtake_bad0 (v : Value) (l : List Nat) (w : World) (hB : Bytes w v l) (h0 : l.length = 0) : Calls Tryz.prog 89 #[v] w (TakePost l w) := by
  have hs : sizeE l = 23 := by simp [sizeE, h0]
  have HF : Hid (takeE l = 23) := Lib.hid (by simp [takeE, hs])
  obtain ⟨a, c, rfl, _⟩ := hB.shape
  rw [h0]
  clear hs h0 hB
  go_enter Tryz.func89, Tryz.ntmps89
  go_wp2_with fail
  refine bodyPost_ret (v := .tuple #[.int .u8 0, .slice none 0 0, .int .i64 0, .int .i64 23]) (by simp [results, Tryz.results89, go_sem]) rfl ?_
  exact ⟨Below.refl _ _, fun _ => by rw [HF.out]; rfl, fun h => absurd (HF.out.symm.trans h) (by decide)⟩

set_option maxHeartbeats 2000000 in
set_option maxRecDepth 20000 in
theorem rtake_bad1 (v : Value) (l : List Nat) (w : World) (hB : Bytes w v l) (hs : sizeE l ≠ 0) (h0 : 0 < l.length) (h5 : l.length < 5) : Calls Tryz.prog 89 #[v] w (TakePost l w) := by
  obtain ⟨b, o, c, rfl, hle, hbs, hcell⟩ := hB.somewhere (by omega)
  have c0 : w.cell? ⟨b, o, none⟩ = some (.int .u8 (l.getD 0 0 : Nat)) := hcell 0 (by omega)
  have c1 : 1 < l.length → w.cell? ⟨b, o + 1, none⟩ = some (.int .u8 (l.getD 1 0 : Nat)) := fun h => hcell 1 h
  have hse : sizeE l = if l.getD 0 0 ≠ 102 then 20 else if l.length < 2 then 23 else if l.getD 1 0 = 0 then 20 else 23 := by
    unfold sizeE
    rw [if_neg (by omega), if_pos h5]
  have htk : takeE l = sizeE l := by simp [takeE, hs]
  have hl0 : ((l.length : Int) == 0) = false := beq_eq_false_iff_ne.2 (by omega)
  have i0 : (0 : Int) < (l.length : Int) := by omega
  have key : ∃ k : Nat, k ≠ 0 ∧ takeE l = k ∧ ((k = 20 ∧ (((l.getD 0 0 : Nat) : Int) != 102) = true) ∨ (k = 23 ∧ (((l.getD 0 0 : Nat) : Int) != 102) = false ∧ (l.length : Int) < 2) ∨
      (k = 20 ∧ (((l.getD 0 0 : Nat) : Int) != 102) = false ∧ ¬ (l.length : Int) < 2 ∧ (((l.getD 1 0 : Nat) : Int) == 0) = true) ∨
      (k = 23 ∧ (((l.getD 0 0 : Nat) : Int) != 102) = false ∧ ¬ (l.length : Int) < 2 ∧ (((l.getD 1 0 : Nat) : Int) == 0) = false)) := by
    generalize l.getD 0 0 = x at hse
    generalize l.getD 1 0 = y at hse
    by_cases hx : x = 102
    · have hxb : ((x : Int) != 102) = false := by simp; omega
      by_cases h2 : l.length < 2
      · exact ⟨23, by decide, by rw [htk, hse, if_neg (by omega), if_pos h2], .inr (.inl ⟨rfl, hxb, by omega⟩)⟩
      · by_cases hy : y = 0
        · exact ⟨20, by decide, by rw [htk, hse, if_neg (by omega), if_neg h2, if_pos hy], .inr (.inr (.inl ⟨rfl, hxb, by omega, by simp; omega⟩))⟩
        · exact ⟨23, by decide, by rw [htk, hse, if_neg (by omega), if_neg h2, if_neg hy], .inr (.inr (.inr ⟨rfl, hxb, by omega, by simp; omega⟩))⟩
    · exact ⟨20, by decide, by rw [htk, hse, if_pos hx], .inl ⟨rfl, by simp; omega⟩⟩
  have h5i : (l.length : Int) < 5 := by omega
  clear hB hcell hle hs hse htk h5 h0
  obtain ⟨k, hk, hkt, key⟩ := key
  have HK := Lib.hid hk
  have HF := Lib.hid hkt
  clear hk hkt
  generalize l.getD 0 0 = x at c0 key
  generalize l.getD 1 0 = y at c1 key
  rcases key with ⟨rfl, k1⟩ | ⟨rfl, k1, k2⟩ | ⟨rfl, k1, k2, k3⟩ | ⟨rfl, k1, k2, k3⟩
  · clear c1
    go_enter Tryz.func89, Tryz.ntmps89
    go_wp2_with fail
    refine bodyPost_ret (v := .tuple #[.int .u8 0, .slice none 0 0, .int .i64 0, .int .i64 20]) (by simp [results, Tryz.results89, go_sem]) rfl ?_
    exact ⟨Below.refl _ _, fun _ => by rw [HF.out]; rfl, fun h => absurd (HF.out.symm.trans h) HK.out⟩
  · clear c1
    go_enter Tryz.func89, Tryz.ntmps89
    go_wp2_with fail
    refine bodyPost_ret (v := .tuple #[.int .u8 0, .slice none 0 0, .int .i64 0, .int .i64 23]) (by simp [results, Tryz.results89, go_sem]) rfl ?_
    exact ⟨Below.refl _ _, fun _ => by rw [HF.out]; rfl, fun h => absurd (HF.out.symm.trans h) HK.out⟩
  · have c1' := c1 (by omega)
    have i1 : (1 : Int) < (l.length : Int) := by omega
    clear c1
    go_enter Tryz.func89, Tryz.ntmps89
    go_wp2_with fail
    refine bodyPost_ret (v := .tuple #[.int .u8 0, .slice none 0 0, .int .i64 0, .int .i64 20]) (by simp [results, Tryz.results89, go_sem]) rfl ?_
    exact ⟨Below.refl _ _, fun _ => by rw [HF.out]; rfl, fun h => absurd (HF.out.symm.trans h) HK.out⟩
  · have c1' := c1 (by omega)
    have i1 : (1 : Int) < (l.length : Int) := by omega
    clear c1
    go_enter Tryz.func89, Tryz.ntmps89
    go_wp2_with fail
    refine bodyPost_ret (v := .tuple #[.int .u8 0, .slice none 0 0, .int .i64 0, .int .i64 23]) (by simp [results, Tryz.results89, go_sem]) rfl ?_
    exact ⟨Below.refl _ _, fun _ => by rw [HF.out]; rfl, fun h => absurd (HF.out.symm.trans h) HK.out⟩

set_option maxHeartbeats 2000000 in
set_option maxRecDepth 20000 in
theorem rtake_bad5 (v : Value) (l : List Nat) (w : World) (hB : Bytes w v l) (hs : sizeE l ≠ 0) (h5 : 5 ≤ l.length) : Calls Tryz.prog 89 #[v] w (TakePost l w) := by
  obtain ⟨b, o, c, rfl, hle, hbs, hcell⟩ := hB.somewhere (by omega)
  have c0 : w.cell? ⟨b, o, none⟩ = some (.int .u8 (l.getD 0 0 : Nat)) := hcell 0 (by omega)
  have c1 := hcell 1 (by omega)
  have c2 := hcell 2 (by omega)
  have c3 := hcell 3 (by omega)
  have c4 := hcell 4 (by omega)
  have x2 := hB.getD_lt 2
  have x3 := hB.getD_lt 3
  have x4 := hB.getD_lt 4
  have hse : sizeE l = if l.getD 0 0 ≠ 102 then 20 else if l.getD 1 0 = 0 then 20 else if 65536 < frN l then 20 else if l.length < frN l + 8 then 23 else 0 := by
    unfold sizeE
    rw [if_neg (by omega), if_neg (show ¬ l.length < 2 by omega), if_neg (show ¬ l.length < 5 by omega)]
  have htk : takeE l = sizeE l := by simp [takeE, hs]
  have hl0 : ((l.length : Int) == 0) = false := beq_eq_false_iff_ne.2 (by omega)
  have hl2 : ¬ (l.length : Int) < 2 := by omega
  have hl5 : ¬ (l.length : Int) < 5 := by omega
  have i0 : (0 : Int) < (l.length : Int) := by omega
  have i1 : (1 : Int) < (l.length : Int) := by omega
  have i2 : (2 : Int) < (l.length : Int) := by omega
  have i3 : (3 : Int) < (l.length : Int) := by omega
  have i4 : (4 : Int) < (l.length : Int) := by omega
  have HV : Hid (((l.getD 2 0 : Nat) : Int) * 65536 + ((l.getD 3 0 : Nat) : Int) * 256 + ((l.getD 4 0 : Nat) : Int) = (frN l : Int)) := Lib.hid (by have : frN l = l.getD 2 0 * 65536 + l.getD 3 0 * 256 + l.getD 4 0 := rfl; omega)
  have key : ∃ k : Nat, k ≠ 0 ∧ takeE l = k ∧ ((k = 20 ∧ (((l.getD 0 0 : Nat) : Int) != 102) = true) ∨
      (k = 20 ∧ (((l.getD 0 0 : Nat) : Int) != 102) = false ∧ (((l.getD 1 0 : Nat) : Int) == 0) = true) ∨
      (k = 20 ∧ (((l.getD 0 0 : Nat) : Int) != 102) = false ∧ (((l.getD 1 0 : Nat) : Int) == 0) = false ∧ (65536 : Int) < (frN l : Int)) ∨
      (k = 23 ∧ (((l.getD 0 0 : Nat) : Int) != 102) = false ∧ (((l.getD 1 0 : Nat) : Int) == 0) = false ∧ (frN l : Int) ≤ 65536 ∧ (l.length : Int) < (frN l : Int) + 8)) := by
    generalize l.getD 0 0 = x at hse
    generalize l.getD 1 0 = y at hse
    by_cases hx : x = 102
    · have hxb : ((x : Int) != 102) = false := by simp; omega
      by_cases hy : y = 0
      · exact ⟨20, by decide, by rw [htk, hse, if_neg (by omega), if_pos hy], .inr (.inl ⟨rfl, hxb, by simp; omega⟩)⟩
      · have hyb : ((y : Int) == 0) = false := by simp; omega
        by_cases hn : 65536 < frN l
        · exact ⟨20, by decide, by rw [htk, hse, if_neg (by omega), if_neg hy, if_pos hn], .inr (.inr (.inl ⟨rfl, hxb, hyb, by omega⟩))⟩
        · by_cases ht : l.length < frN l + 8
          · exact ⟨23, by decide, by rw [htk, hse, if_neg (by omega), if_neg hy, if_neg hn, if_pos ht], .inr (.inr (.inr ⟨rfl, hxb, hyb, by omega, by omega⟩))⟩
          · exact absurd (by rw [hse, if_neg (by omega), if_neg hy, if_neg hn, if_neg ht]) hs
    · exact ⟨20, by decide, by rw [htk, hse, if_pos hx], .inl ⟨rfl, by simp; omega⟩⟩
  clear hB hcell hle hs hse htk h5
  obtain ⟨k, hk, hkt, key⟩ := key
  have HK := Lib.hid hk
  have HF := Lib.hid hkt
  clear hk hkt
  generalize l.getD 0 0 = x at c0 key
  generalize l.getD 1 0 = y at c1 key
  generalize l.getD 2 0 = p at c2 x2 HV
  generalize l.getD 3 0 = q at c3 x3 HV
  generalize l.getD 4 0 = r at c4 x4 HV
  rcases key with ⟨rfl, k1⟩ | ⟨rfl, k1, k2⟩ | ⟨rfl, k1, k2, k3⟩ | ⟨rfl, k1, k2, k3, k4⟩
  · go_enter Tryz.func89, Tryz.ntmps89
    go_wp2_with fail
    refine bodyPost_ret (v := .tuple #[.int .u8 0, .slice none 0 0, .int .i64 0, .int .i64 20]) (by simp [results, Tryz.results89, go_sem]) rfl ?_
    exact ⟨Below.refl _ _, fun _ => by rw [HF.out]; rfl, fun h => absurd (HF.out.symm.trans h) HK.out⟩
  · go_enter Tryz.func89, Tryz.ntmps89
    go_wp2_with fail
    refine bodyPost_ret (v := .tuple #[.int .u8 0, .slice none 0 0, .int .i64 0, .int .i64 20]) (by simp [results, Tryz.results89, go_sem]) rfl ?_
    exact ⟨Below.refl _ _, fun _ => by rw [HF.out]; rfl, fun h => absurd (HF.out.symm.trans h) HK.out⟩
  · go_enter Tryz.func89, Tryz.ntmps89
    go_wp2_with fail
    go_quiet (fail)
    rw [HV.out]
    go_wp2_with fail
    refine bodyPost_ret (v := .tuple #[.int .u8 0, .slice none 0 0, .int .i64 0, .int .i64 20]) (by simp [results, Tryz.results89, go_sem]) rfl ?_
    exact ⟨Below.drewN _ _, fun _ => by rw [HF.out]; rfl, fun h => absurd (HF.out.symm.trans h) HK.out⟩
  · go_enter Tryz.func89, Tryz.ntmps89
    go_wp2_with fail
    go_quiet (fail)
    rw [HV.out]
    go_wp2_with fail
    refine bodyPost_ret (v := .tuple #[.int .u8 0, .slice none 0 0, .int .i64 0, .int .i64 23]) (by simp [results, Tryz.results89, go_sem]) rfl ?_
    exact ⟨Below.drewN _ _, fun _ => by rw [HF.out]; rfl, fun h => absurd (HF.out.symm.trans h) HK.out⟩

theorem rtake_any (v : Value) (l : List Nat) (w : World) (hB : Bytes w v l) : Calls Tryz.prog 89 #[v] w (TakePost l w) := by
  by_cases hs : sizeE l = 0
  · by_cases hsum : SumOk (frN l + 5) (l.take (frN l + 8))
    · exact rtake_yes v l w hB hs hsum
    · exact rtake_no v l w hB hs hsum
  · by_cases h0 : l.length = 0
    · exact rtake_bad0 v l w hB h0
    · by_cases h5 : l.length < 5
      · exact rtake_bad1 v l w hB hs (by omega) h5
      · exact rtake_bad5 v l w hB hs (by omega)
end Go.Proofs.YtofhccpagnkalaaGreat

/- Rows of ints; which members are sound; both ways; no conditions but the ranges. -/
namespace Go.Proofs.YtofhccpagnkalaaGreat
open Go.RowKit Go.Maps Go.Proofs.Own

structure Ints (w : World) (v : Value) (l : List Int) : Prop where
  shape : ∃ a c, v = .slice a l.length c ∧ l.length ≤ c
  rd : Reads w .i64 v l
  small : l.length ≤ 2097152
theorem Ints.kept {w w' : World} {v : Value} {l : List Int} {S : Nat → Prop} (h : Ints w v l) (hk : Kept w w' S) (hs : ∀ b, v.ownBlock = some b → ¬ S b) : Ints w' v l := ⟨h.shape, h.rd.kept hk hs, h.small⟩
theorem Ints.below {w w' : World} {v : Value} {l : List Int} (h : Ints w v l) (hb : Below w.heap.size w w') : Ints w' v l := ⟨h.shape, h.rd.below hb, h.small⟩
theorem Ints.alloc {w : World} {v : Value} {l : List Int} (h : Ints w v l) (o : Obj) : Ints (w.alloc o) v l := ⟨h.shape, h.rd.alloc o, h.small⟩
theorem Ints.nil (w : World) : Ints w (.slice none 0 0) [] := ⟨⟨none, 0, rfl, Nat.le_refl _⟩, Reads.nil _ _ _ _, Nat.zero_le _⟩
theorem Ints.of_owns {w : World} {base : Nat} {e : TypeId} {v : Value} {l : List Int} (h : Owns w base e .i64 v l) (hs : l.length ≤ 2097152) : Ints w v l := by
  refine ⟨?_, h.reads, hs⟩
  rcases h.2 with ⟨rfl, h0⟩ | ⟨g, cap, cur, rfl, _, _, hle, _⟩
  · exact ⟨none, 0, by rw [h0], by omega⟩
  · exact ⟨_, _, rfl, hle⟩
theorem Ints.st (v : Value) (l : List Int) : Stable fun w => Ints w v l := ⟨fun hs hb => hs.below hb⟩
theorem Ints.cells {w : World} {a : Option Addr} {n c : Nat} {l : List Int} (h : Ints w (.slice a n c) l) : n = l.length ∧ n ≤ c ∧ ∀ j (hj : j < l.length), ∃ b o, a = some ⟨b, o, none⟩ ∧ w.cell? ⟨b, o + j, none⟩ = some (.int .i64 l[j]) := by
  obtain ⟨a', c', h1, h2⟩ := h.shape
  cases h1
  refine ⟨rfl, h2, fun j hj => ?_⟩
  obtain ⟨a', c', h1, hc⟩ := h.rd
  cases h1
  exact hc j hj

/-- The member before. -/
def prevM (ms : List Int) (j : Nat) : Int := if j = 0 then -1 else ms.getD (j - 1) 0
/-- The member at j may be there. -/
def okAt (ms : List Int) (j : Nat) : Prop := prevM ms j < ms.getD j 0 ∧ ms.getD j 0 < 7
instance (ms : List Int) (j : Nat) : Decidable (okAt ms j) := inferInstanceAs (Decidable (_ ∧ _))
/-- They may be there. -/
def msOk (ms : List Int) : Prop := 1 ≤ ms.length ∧ ms.length ≤ 7 ∧ ∀ j, j < ms.length → okAt ms j
instance (ms : List Int) : Decidable (msOk ms) := inferInstanceAs (Decidable (_ ∧ _ ∧ _))
end Go.Proofs.YtofhccpagnkalaaGreat

/- Which snapshots are sound, both ways; no conditions but the ranges. -/
namespace Go.Proofs.YtofhccpagnkalaaGreat
open Go.RowKit Go.Maps Go.Proofs.Own

/-- A snapshot. -/
structure SnapS where
  i : Int
  t : Int
  ms : List Int
  d : List Nat
/-- The value v is the snapshot s. -/
def SnapIs (w : World) (v : Value) (s : SnapS) : Prop := ∃ mv dv, v = .agg #[.int .u64 s.i, .int .u64 s.t, mv, dv] ∧ Ints w mv s.ms ∧ Bytes w dv s.d
theorem SnapIs.below {w w' : World} {v : Value} {s : SnapS} (h : SnapIs w v s) (hb : Below w.heap.size w w') : SnapIs w' v s := by
  obtain ⟨mv, dv, h1, h2, h3⟩ := h
  exact ⟨mv, dv, h1, h2.below hb, h3.below hb⟩
theorem SnapIs.st (v : Value) (s : SnapS) : Stable fun w => SnapIs w v s := ⟨fun hs hb => hs.below hb⟩
/-- It may be. -/
def SnapS.ok (s : SnapS) : Prop := 1 ≤ s.i ∧ s.i < 576460752303423488 ∧ 1 ≤ s.t ∧ s.t ≤ 1152921504606846976 ∧ msOk s.ms ∧ s.d.length ≤ 32768
instance (s : SnapS) : Decidable s.ok := inferInstanceAs (Decidable (_ ∧ _))
end Go.Proofs.YtofhccpagnkalaaGreat

/- The document's 'Same' of two snapshots; no conditions but the ranges. -/
namespace Go.Proofs.YtofhccpagnkalaaGreat
open Go.RowKit Go.Maps Go.Proofs.Own

def SnapS.same (s r : SnapS) : Prop := s.i = r.i ∧ s.t = r.t ∧ s.ms = r.ms ∧ s.d = r.d
instance (s r : SnapS) : Decidable (s.same r) := inferInstanceAs (Decidable (_ ∧ _))
end Go.Proofs.YtofhccpagnkalaaGreat

/- What a snapshot out of bytes is; the document's Get; no conditions but the ranges. -/
namespace Go.Proofs.YtofhccpagnkalaaGreat
open Go.RowKit Go.Maps Go.Proofs.Own
variable {rb : Nat}

def H59 : Nat := 576460752303423488
def H60 : Nat := 1152921504606846976
/-- k members: what is left, the members, whether one was bad. -/
def memL (m : Nat) : Nat → List Nat → List Nat
  | 0, l => l
  | k + 1, l => numL m (memL m k l)
def memV (m : Nat) : Nat → List Nat → List Int
  | 0, _ => []
  | k + 1, l => memV m k l ++ [(numV m (memL m k l) : Int)]
def memB (m : Nat) : Nat → List Nat → Bool
  | 0, _ => false
  | k + 1, l => memB m k l || numB m (memL m k l)
def rest1 (l : List Nat) : List Nat := numL H59 l
def rest2 (l : List Nat) : List Nat := numL H60 (rest1 l)
def memN (l : List Nat) : Nat := numV 7 (rest2 l)
def rest3 (l : List Nat) : List Nat := numL 7 (rest2 l)
def rest4 (m : Nat) (l : List Nat) : List Nat := memL m (memN l) (rest3 l)
/-- The snapshot that bytes tell (m: the greatest member that is read), what is left, whether it was bad. -/
def getS (m : Nat) (l : List Nat) : SnapS := ⟨numV H59 l, numV H60 (rest1 l), memV m (memN l) (rest3 l), textV 32768 (rest4 m l)⟩
def getL (m : Nat) (l : List Nat) : List Nat := textL 32768 (rest4 m l)
def getB (m : Nat) (l : List Nat) : Bool := (((numB H59 l || numB H60 (rest1 l)) || numB 7 (rest2 l)) || memB m (memN l) (rest3 l)) || textB 32768 (rest4 m l)
/-- Block b has a snapshot's four cells. -/
structure SBlk (w : World) (b : Nat) (i t : Int) (mv dv : Value) : Prop where
  c0 : w.cell? ⟨b, 0, none⟩ = some (.int .u64 i)
  c1 : w.cell? ⟨b, 1, none⟩ = some (.int .u64 t)
  c2 : w.cell? ⟨b, 2, none⟩ = some mv
  c3 : w.cell? ⟨b, 3, none⟩ = some dv
  f0 : w.frozen? ⟨b, 0, none⟩ = false
  f1 : w.frozen? ⟨b, 1, none⟩ = false
  f2 : w.frozen? ⟨b, 2, none⟩ = false
  f3 : w.frozen? ⟨b, 3, none⟩ = false
theorem SBlk.lt {w : World} {b : Nat} {i t : Int} {mv dv : Value} (h : SBlk w b i t mv dv) : b < w.heap.size := World.block_lt_of_cell? _ _ h.c0
theorem SBlk.kept {w w' : World} {b : Nat} {i t : Int} {mv dv : Value} {S : Nat → Prop} (h : SBlk w b i t mv dv) (hk : Kept w w' S) (hs : ¬ S b) : SBlk w' b i t mv dv :=
  ⟨hk.cell h.c0 hs, hk.cell h.c1 hs, hk.cell h.c2 hs, hk.cell h.c3 hs, (hk.frozen (a := ⟨b, 0, none⟩) h.lt hs).trans h.f0, (hk.frozen (a := ⟨b, 1, none⟩) h.lt hs).trans h.f1,
   (hk.frozen (a := ⟨b, 2, none⟩) h.lt hs).trans h.f2, (hk.frozen (a := ⟨b, 3, none⟩) h.lt hs).trans h.f3⟩
theorem SBlk.below {w w' : World} {b : Nat} {i t : Int} {mv dv : Value} (h : SBlk w b i t mv dv) (hb : Below w.heap.size w w') : SBlk w' b i t mv dv :=
  h.kept (Kept.of_below hb (S := fun _ => False) fun k h1 h2 => by omega) fun h => h
theorem SBlk.set1 {w : World} {b : Nat} {i t : Int} {mv dv : Value} (h : SBlk w b i t mv dv) (x : Int) : SBlk (w.setCell ⟨b, 1, none⟩ (.int .u64 x)) b i x mv dv := by
  refine ⟨?_, World.cell?_setCell_same _ _ _ h.c1, ?_, ?_, by rw [World.frozen?_setCell]; exact h.f0, by rw [World.frozen?_setCell]; exact h.f1, by rw [World.frozen?_setCell]; exact h.f2, by rw [World.frozen?_setCell]; exact h.f3⟩
  · rw [World.cell?_setCell_other _ _ _ _ (by simp)]; exact h.c0
  · rw [World.cell?_setCell_other _ _ _ _ (by simp)]; exact h.c2
  · rw [World.cell?_setCell_other _ _ _ _ (by simp)]; exact h.c3
theorem SBlk.set2 {w : World} {b : Nat} {i t : Int} {mv dv : Value} (h : SBlk w b i t mv dv) (x : Value) : SBlk (w.setCell ⟨b, 2, none⟩ x) b i t x dv := by
  refine ⟨?_, ?_, World.cell?_setCell_same _ _ _ h.c2, ?_, by rw [World.frozen?_setCell]; exact h.f0, by rw [World.frozen?_setCell]; exact h.f1, by rw [World.frozen?_setCell]; exact h.f2, by rw [World.frozen?_setCell]; exact h.f3⟩
  · rw [World.cell?_setCell_other _ _ _ _ (by simp)]; exact h.c0
  · rw [World.cell?_setCell_other _ _ _ _ (by simp)]; exact h.c1
  · rw [World.cell?_setCell_other _ _ _ _ (by simp)]; exact h.c3
theorem SBlk.set3 {w : World} {b : Nat} {i t : Int} {mv dv : Value} (h : SBlk w b i t mv dv) (x : Value) : SBlk (w.setCell ⟨b, 3, none⟩ x) b i t mv x := by
  refine ⟨?_, ?_, ?_, World.cell?_setCell_same _ _ _ h.c3, by rw [World.frozen?_setCell]; exact h.f0, by rw [World.frozen?_setCell]; exact h.f1, by rw [World.frozen?_setCell]; exact h.f2, by rw [World.frozen?_setCell]; exact h.f3⟩
  · rw [World.cell?_setCell_other _ _ _ _ (by simp)]; exact h.c0
  · rw [World.cell?_setCell_other _ _ _ _ (by simp)]; exact h.c1
  · rw [World.cell?_setCell_other _ _ _ _ (by simp)]; exact h.c2

end Go.Proofs.YtofhccpagnkalaaGreat

/- The document's Read of a snapshot; no conditions but the ranges. -/
namespace Go.Proofs.YtofhccpagnkalaaGreat
open Go.RowKit Go.Maps Go.Proofs.Own

instance (l : List Nat) : Decidable (WholeOk l) := inferInstanceAs (Decidable (_ ∧ _))
/-- Bytes are those of a sound snapshot (m: the greatest member that is read). -/
def readOk (m : Nat) (l : List Nat) : Prop := WholeOk l ∧ l.getD 1 0 = 4 ∧ endE (getL m (frBody l)) (getB m (frBody l)) = 0 ∧ (getS m (frBody l)).ok
instance (m : Nat) (l : List Nat) : Decidable (readOk m l) := inferInstanceAs (Decidable (_ ∧ _))
def zeroS : SnapS := ⟨0, 0, [], []⟩
/-- A snapshot's new block. -/
theorem SBlk.new (w : World) : SBlk (w.alloc (.cells #[.int .u64 0, .int .u64 0, .slice none 0 0, .slice none 0 0] 40)) w.heap.size 0 0 (.slice none 0 0) (.slice none 0 0) :=
  ⟨by go_cell, by go_cell, by go_cell, by go_cell, by simp, by simp, by simp, by simp⟩
theorem Reads.setNe {w : World} {k : IntKind} {v : Value} {zs : List Int} (h : Reads w k v zs) {a : Addr} (y : Value) (hne : ∀ x, w.cell? a ≠ some (.int k x)) : Reads (w.setCell a y) k v zs := by
  obtain ⟨ad, c, rfl, hc⟩ := h
  refine ⟨ad, c, rfl, fun j hj => ?_⟩
  obtain ⟨b, o, e, h1⟩ := hc j hj
  refine ⟨b, o, e, ?_⟩
  rw [World.cell?_setCell_other _ _ _ _ (fun e => hne _ (by rw [e]; exact h1))]
  exact h1
end Go.Proofs.YtofhccpagnkalaaGreat

/- Whether a state of the vow is sound, and whether one may follow another, in the program and in the document; no conditions. -/
namespace Go.Proofs.YtofhccpagnkalaaGreat
open Go.RowKit Go.Maps Go.Proofs.Own

def vSnd (t v : Int) : Bool := decide (t ≤ 1152921504606846976) && (decide (-1 ≤ v) && decide (v < 7))
def vMy (t v t' v' : Int) : Bool := vSnd t v && (vSnd t' v' && (if t' = t then decide (v' = v) || decide (v = -1) else decide (t < t')))

set_option maxHeartbeats 1000000 in
theorem vsound_any (t v : Int) (w : World) : Calls Tryz.prog 94 #[.agg #[.int .u64 t, .int .i64 v]] w fun e w' => e = .returned (.bool (vSnd t v)) ∧ Below w.heap.size w w' := by
  by_cases h1 : t ≤ 1152921504606846976 <;> by_cases h2 : -1 ≤ v <;> by_cases h3 : v < 7
  all_goals try (exfalso; omega)
  all_goals
    have HV : Hid (vSnd t v = _) := Lib.hid (by unfold vSnd; simp only [h1, h2, h3, decide_true, decide_false, Bool.and_true, Bool.and_false]; rfl)
    rw [HV.out]
    go_enter Tryz.func94, Tryz.ntmps94
    go_wp2_with fail
    go_ret
    exact ⟨rfl, (Below.refl _ _).alloc (Nat.le_refl _) _⟩
set_option maxHeartbeats 1000000 in
theorem vrsound_any (t v : Int) (w : World) : Calls Tryz.prog 104 #[.agg #[.int .u64 t, .int .i64 v]] w fun e w' => e = .returned (.bool (vSnd t v)) ∧ Below w.heap.size w w' := by
  by_cases h1 : t ≤ 1152921504606846976 <;> by_cases h2 : -1 ≤ v <;> by_cases h3 : v < 7
  all_goals try (exfalso; omega)
  all_goals
    have HV : Hid (vSnd t v = _) := Lib.hid (by unfold vSnd; simp only [h1, h2, h3, decide_true, decide_false, Bool.and_true, Bool.and_false]; rfl)
    have h4 : (v ≤ 6) = (v < 7) := by simp only [eq_iff_iff]; omega
    have h5 := h3
    rw [← h4] at h5
    clear h4
    rw [HV.out]
    go_enter Tryz.func104, Tryz.ntmps104
    go_wp2_with fail
    go_ret
    exact ⟨rfl, (Below.refl _ _).alloc (Nat.le_refl _) _⟩
set_option maxHeartbeats 2000000 in
theorem vmay_any (t v t' v' : Int) (w : World) : Calls Tryz.prog 95 #[.agg #[.int .u64 t, .int .i64 v], .agg #[.int .u64 t', .int .i64 v']] w fun e w' => e = .returned (.bool (vMy t v t' v')) ∧ Below w.heap.size w w' := by
  cases ha : vSnd t v
  · have HV : Hid (vMy t v t' v' = false) := Lib.hid (by unfold vMy; rw [ha]; rfl)
    rw [HV.out]
    have HA := Lib.hid ha
    clear ha
    go_enter Tryz.func95, Tryz.ntmps95
    go_wp2_with fail
    refine (vsound_any t v _).mono ?_
    rintro e w1 ⟨rfl, hb⟩
    have B1 : Hid (Below w.heap.size w w1) := Lib.hid ((((Below.refl _ _).alloc (Nat.le_refl _) _).alloc (by simp) _).trans (hb.mono (by simp; omega)))
    rw [HA.out]
    clear hb
    go_wp2_with fail
    go_ret
    exact ⟨rfl, B1.out⟩
  · have HA := Lib.hid ha
    cases hb : vSnd t' v'
    all_goals
      have HB := Lib.hid hb
      go_enter Tryz.func95, Tryz.ntmps95
      go_wp2_with fail
      refine (vsound_any t v _).mono ?_
      rintro e w1 ⟨rfl, hb1⟩
      have B1 : Hid (Below w.heap.size w w1) := Lib.hid ((((Below.refl _ _).alloc (Nat.le_refl _) _).alloc (by simp) _).trans (hb1.mono (by simp; omega)))
      have X1 : Hid ((w1.cell? ⟨w.heap.size, 0, none⟩ = some (.int .u64 t) ∧ w1.cell? ⟨w.heap.size, 1, none⟩ = some (.int .i64 v)) ∧ w1.cell? ⟨w.heap.size + 1, 0, none⟩ = some (.int .u64 t') ∧ w1.cell? ⟨w.heap.size + 1, 1, none⟩ = some (.int .i64 v')) := Lib.hid
        ⟨⟨(hb1.cell (p := ⟨w.heap.size, 0, none⟩) (by simp; omega)).trans (by go_cell), (hb1.cell (p := ⟨w.heap.size, 1, none⟩) (by simp; omega)).trans (by go_cell)⟩,
          (hb1.cell (p := ⟨w.heap.size + 1, 0, none⟩) (by simp)).trans (by go_cell), (hb1.cell (p := ⟨w.heap.size + 1, 1, none⟩) (by simp)).trans (by go_cell)⟩
      rw [HA.out]
      clear hb1
      obtain ⟨⟨x0, x1⟩, x2, x3⟩ := X1.out
      go_wp2_with fail
      refine (vsound_any t' v' w1).mono ?_
      rintro e w2 ⟨rfl, hb2⟩
      have B2 : Hid (Below w.heap.size w w2) := Lib.hid (B1.out.trans (hb2.mono B1.out.size))
      have X2 : Hid ((w2.cell? ⟨w.heap.size, 0, none⟩ = some (.int .u64 t) ∧ w2.cell? ⟨w.heap.size, 1, none⟩ = some (.int .i64 v)) ∧ w2.cell? ⟨w.heap.size + 1, 0, none⟩ = some (.int .u64 t') ∧ w2.cell? ⟨w.heap.size + 1, 1, none⟩ = some (.int .i64 v')) := Lib.hid
        ⟨⟨(hb2.cell (p := ⟨w.heap.size, 0, none⟩) (World.block_lt_of_cell? _ _ x0)).trans x0, (hb2.cell (p := ⟨w.heap.size, 1, none⟩) (World.block_lt_of_cell? _ _ x1)).trans x1⟩,
          (hb2.cell (p := ⟨w.heap.size + 1, 0, none⟩) (World.block_lt_of_cell? _ _ x2)).trans x2, (hb2.cell (p := ⟨w.heap.size + 1, 1, none⟩) (World.block_lt_of_cell? _ _ x3)).trans x3⟩
      rw [HB.out]
      clear hb2 x0 x1 x2 x3 hb
    · have HV : Hid (vMy t v t' v' = false) := Lib.hid (by unfold vMy; rw [HA.out, HB.out]; rfl)
      clear ha
      go_wp2_with fail
      go_ret
      exact ⟨by simp [HV.out], B2.out⟩
    · have HV : Hid (vMy t v t' v' = if t' = t then decide (v' = v) || decide (v = -1) else decide (t < t')) := Lib.hid (by unfold vMy; rw [HA.out, HB.out]; rfl)
      clear ha
      obtain ⟨⟨x0, x1⟩, x2, x3⟩ := X2.out
      by_cases h : t' = t
      · subst h
        by_cases h5 : v' = v
        · subst h5
          go_wp2_with fail
          go_ret
          exact ⟨by rw [HV.out]; simp, B2.out⟩
        · by_cases h6 : v = -1
          · subst h6
            have h7 : (v' == -1) = false := by simpa using h5
            go_wp2_with fail
            go_ret
            exact ⟨by rw [HV.out]; simp, B2.out⟩
          · have h7 : (v' == v) = false := by simpa using h5
            have h8 : (v == -1) = false := by simpa using h6
            go_wp2_with fail
            go_ret
            exact ⟨by rw [HV.out]; simp [h5, h6], B2.out⟩
      · have h7 : (t' == t) = false := by simpa using h
        by_cases h5 : t < t'
        all_goals
          go_wp2_with fail
          go_ret
          exact ⟨by rw [HV.out]; simp [h, h5], B2.out⟩
set_option maxHeartbeats 2000000 in
theorem vrmay_any (t v t' v' : Int) (w : World) : Calls Tryz.prog 105 #[.agg #[.int .u64 t, .int .i64 v], .agg #[.int .u64 t', .int .i64 v']] w fun e w' => e = .returned (.bool (vMy t v t' v')) ∧ Below w.heap.size w w' := by
  cases ha : vSnd t v
  · have HV : Hid (vMy t v t' v' = false) := Lib.hid (by unfold vMy; rw [ha]; rfl)
    rw [HV.out]
    have HA := Lib.hid ha
    clear ha
    go_enter Tryz.func105, Tryz.ntmps105
    go_wp2_with fail
    refine (vrsound_any t v _).mono ?_
    rintro e w1 ⟨rfl, hb⟩
    have B1 : Hid (Below w.heap.size w w1) := Lib.hid ((((Below.refl _ _).alloc (Nat.le_refl _) _).alloc (by simp) _).trans (hb.mono (by simp; omega)))
    rw [HA.out]
    clear hb
    go_wp2_with fail
    go_ret
    exact ⟨rfl, B1.out⟩
  · have HA := Lib.hid ha
    cases hb : vSnd t' v'
    all_goals
      have HB := Lib.hid hb
      go_enter Tryz.func105, Tryz.ntmps105
      go_wp2_with fail
      refine (vrsound_any t v _).mono ?_
      rintro e w1 ⟨rfl, hb1⟩
      have B1 : Hid (Below w.heap.size w w1) := Lib.hid ((((Below.refl _ _).alloc (Nat.le_refl _) _).alloc (by simp) _).trans (hb1.mono (by simp; omega)))
      have X1 : Hid ((w1.cell? ⟨w.heap.size, 0, none⟩ = some (.int .u64 t) ∧ w1.cell? ⟨w.heap.size, 1, none⟩ = some (.int .i64 v)) ∧ w1.cell? ⟨w.heap.size + 1, 0, none⟩ = some (.int .u64 t') ∧ w1.cell? ⟨w.heap.size + 1, 1, none⟩ = some (.int .i64 v')) := Lib.hid
        ⟨⟨(hb1.cell (p := ⟨w.heap.size, 0, none⟩) (by simp; omega)).trans (by go_cell), (hb1.cell (p := ⟨w.heap.size, 1, none⟩) (by simp; omega)).trans (by go_cell)⟩,
          (hb1.cell (p := ⟨w.heap.size + 1, 0, none⟩) (by simp)).trans (by go_cell), (hb1.cell (p := ⟨w.heap.size + 1, 1, none⟩) (by simp)).trans (by go_cell)⟩
      rw [HA.out]
      clear hb1
      obtain ⟨⟨x0, x1⟩, x2, x3⟩ := X1.out
      go_wp2_with fail
      refine (vrsound_any t' v' w1).mono ?_
      rintro e w2 ⟨rfl, hb2⟩
      have B2 : Hid (Below w.heap.size w w2) := Lib.hid (B1.out.trans (hb2.mono B1.out.size))
      have X2 : Hid ((w2.cell? ⟨w.heap.size, 0, none⟩ = some (.int .u64 t) ∧ w2.cell? ⟨w.heap.size, 1, none⟩ = some (.int .i64 v)) ∧ w2.cell? ⟨w.heap.size + 1, 0, none⟩ = some (.int .u64 t') ∧ w2.cell? ⟨w.heap.size + 1, 1, none⟩ = some (.int .i64 v')) := Lib.hid
        ⟨⟨(hb2.cell (p := ⟨w.heap.size, 0, none⟩) (World.block_lt_of_cell? _ _ x0)).trans x0, (hb2.cell (p := ⟨w.heap.size, 1, none⟩) (World.block_lt_of_cell? _ _ x1)).trans x1⟩,
          (hb2.cell (p := ⟨w.heap.size + 1, 0, none⟩) (World.block_lt_of_cell? _ _ x2)).trans x2, (hb2.cell (p := ⟨w.heap.size + 1, 1, none⟩) (World.block_lt_of_cell? _ _ x3)).trans x3⟩
      rw [HB.out]
      clear hb2 x0 x1 x2 x3 hb
    · have HV : Hid (vMy t v t' v' = false) := Lib.hid (by unfold vMy; rw [HA.out, HB.out]; rfl)
      clear ha
      go_wp2_with fail
      go_ret
      exact ⟨by simp [HV.out], B2.out⟩
    · have HV : Hid (vMy t v t' v' = if t' = t then decide (v' = v) || decide (v = -1) else decide (t < t')) := Lib.hid (by unfold vMy; rw [HA.out, HB.out]; rfl)
      clear ha
      obtain ⟨⟨x0, x1⟩, x2, x3⟩ := X2.out
      by_cases h : t' = t
      · subst h
        by_cases h5 : v' = v
        · subst h5
          go_wp2_with fail
          go_ret
          exact ⟨by rw [HV.out]; simp, B2.out⟩
        · by_cases h6 : v = -1
          · subst h6
            have h7 : (v' == -1) = false := by simpa using h5
            go_wp2_with fail
            go_ret
            exact ⟨by rw [HV.out]; simp, B2.out⟩
          · have h7 : (v' == v) = false := by simpa using h5
            have h8 : (v == -1) = false := by simpa using h6
            go_wp2_with fail
            go_ret
            exact ⟨by rw [HV.out]; simp [h5, h6], B2.out⟩
      · have h7 : (t' == t) = false := by simpa using h
        by_cases h5 : t < t'
        all_goals
          go_wp2_with fail
          go_ret
          exact ⟨by rw [HV.out]; simp [h, h5], B2.out⟩
end Go.Proofs.YtofhccpagnkalaaGreat
