/- What a snapshot out of bytes is; the document's Get; no conditions but the ranges. -/
import Derived.Test.YtofhccpagnkalaaGreatSame
import Derived.Test.YtofhccpagnkalaaGreatPlan
namespace Go.Proofs.YtofhccpagnkalaaGreat
open Go.RowKit Go.Maps Go.Proofs.Own
variable {rb : Nat}

def H59 : Nat := 576460752303423488
def H60 : Nat := 1152921504606846976
/-- k members: what is left, the members, whether one was bad. -/
def memL (m : Nat) : Nat → List Nat → List Nat
  | 0, l => l
  | k + 1, l => numL m (memL m k l)
def memV (m : Nat) : Nat → List Nat → List Int
  | 0, _ => []
  | k + 1, l => memV m k l ++ [(numV m (memL m k l) : Int)]
def memB (m : Nat) : Nat → List Nat → Bool
  | 0, _ => false
  | k + 1, l => memB m k l || numB m (memL m k l)
theorem length_memV (m k : Nat) (l : List Nat) : (memV m k l).length = k := by
  induction k with
  | zero => rfl
  | succ k ih => simp [memV, ih]
def rest1 (l : List Nat) : List Nat := numL H59 l
def rest2 (l : List Nat) : List Nat := numL H60 (rest1 l)
def memN (l : List Nat) : Nat := numV 7 (rest2 l)
def rest3 (l : List Nat) : List Nat := numL 7 (rest2 l)
def rest4 (m : Nat) (l : List Nat) : List Nat := memL m (memN l) (rest3 l)
/-- The snapshot that bytes tell (m: the greatest member that is read), what is left, whether it was bad. -/
def getS (m : Nat) (l : List Nat) : SnapS := ⟨numV H59 l, numV H60 (rest1 l), memV m (memN l) (rest3 l), textV 32768 (rest4 m l)⟩
def getL (m : Nat) (l : List Nat) : List Nat := textL 32768 (rest4 m l)
def getB (m : Nat) (l : List Nat) : Bool := (((numB H59 l || numB H60 (rest1 l)) || numB 7 (rest2 l)) || memB m (memN l) (rest3 l)) || textB 32768 (rest4 m l)
theorem memN_le (l : List Nat) : memN l ≤ 7 := numV_le _ _
theorem numL_mem {m : Nat} {l : List Nat} : ∀ c ∈ numL m l, c ∈ l := by
  intro c hc
  unfold numL at hc
  split at hc
  · exact List.mem_of_mem_drop hc
  · cases hc
theorem textV_mem {m : Nat} {l : List Nat} : ∀ c ∈ textV m l, c ∈ l := by
  intro c hc
  unfold textV at hc
  split at hc
  · exact numL_mem c (List.mem_of_mem_take hc)
  · cases hc
theorem textV_len (m : Nat) (l : List Nat) : (textV m l).length ≤ m := by
  unfold textV
  split
  · rw [List.length_take]; have := numV_le m l; omega
  · exact Nat.zero_le _

/-- Block b has a snapshot's four cells. -/
structure SBlk (w : World) (b : Nat) (i t : Int) (mv dv : Value) : Prop where
  c0 : w.cell? ⟨b, 0, none⟩ = some (.int .u64 i)
  c1 : w.cell? ⟨b, 1, none⟩ = some (.int .u64 t)
  c2 : w.cell? ⟨b, 2, none⟩ = some mv
  c3 : w.cell? ⟨b, 3, none⟩ = some dv
  f0 : w.frozen? ⟨b, 0, none⟩ = false
  f1 : w.frozen? ⟨b, 1, none⟩ = false
  f2 : w.frozen? ⟨b, 2, none⟩ = false
  f3 : w.frozen? ⟨b, 3, none⟩ = false
theorem SBlk.lt {w : World} {b : Nat} {i t : Int} {mv dv : Value} (h : SBlk w b i t mv dv) : b < w.heap.size := World.block_lt_of_cell? _ _ h.c0
theorem SBlk.kept {w w' : World} {b : Nat} {i t : Int} {mv dv : Value} {S : Nat → Prop} (h : SBlk w b i t mv dv) (hk : Kept w w' S) (hs : ¬ S b) : SBlk w' b i t mv dv :=
  ⟨hk.cell h.c0 hs, hk.cell h.c1 hs, hk.cell h.c2 hs, hk.cell h.c3 hs, (hk.frozen (a := ⟨b, 0, none⟩) h.lt hs).trans h.f0, (hk.frozen (a := ⟨b, 1, none⟩) h.lt hs).trans h.f1,
   (hk.frozen (a := ⟨b, 2, none⟩) h.lt hs).trans h.f2, (hk.frozen (a := ⟨b, 3, none⟩) h.lt hs).trans h.f3⟩
theorem SBlk.below {w w' : World} {b : Nat} {i t : Int} {mv dv : Value} (h : SBlk w b i t mv dv) (hb : Below w.heap.size w w') : SBlk w' b i t mv dv :=
  h.kept (Kept.of_below hb (S := fun _ => False) fun k h1 h2 => by omega) fun h => h
theorem SBlk.set0 {w : World} {b : Nat} {i t : Int} {mv dv : Value} (h : SBlk w b i t mv dv) (x : Int) : SBlk (w.setCell ⟨b, 0, none⟩ (.int .u64 x)) b x t mv dv := by
  refine ⟨World.cell?_setCell_same _ _ _ h.c0, ?_, ?_, ?_, by rw [World.frozen?_setCell]; exact h.f0, by rw [World.frozen?_setCell]; exact h.f1, by rw [World.frozen?_setCell]; exact h.f2, by rw [World.frozen?_setCell]; exact h.f3⟩
  · rw [World.cell?_setCell_other _ _ _ _ (by simp)]; exact h.c1
  · rw [World.cell?_setCell_other _ _ _ _ (by simp)]; exact h.c2
  · rw [World.cell?_setCell_other _ _ _ _ (by simp)]; exact h.c3
theorem SBlk.set1 {w : World} {b : Nat} {i t : Int} {mv dv : Value} (h : SBlk w b i t mv dv) (x : Int) : SBlk (w.setCell ⟨b, 1, none⟩ (.int .u64 x)) b i x mv dv := by
  refine ⟨?_, World.cell?_setCell_same _ _ _ h.c1, ?_, ?_, by rw [World.frozen?_setCell]; exact h.f0, by rw [World.frozen?_setCell]; exact h.f1, by rw [World.frozen?_setCell]; exact h.f2, by rw [World.frozen?_setCell]; exact h.f3⟩
  · rw [World.cell?_setCell_other _ _ _ _ (by simp)]; exact h.c0
  · rw [World.cell?_setCell_other _ _ _ _ (by simp)]; exact h.c2
  · rw [World.cell?_setCell_other _ _ _ _ (by simp)]; exact h.c3
theorem SBlk.set2 {w : World} {b : Nat} {i t : Int} {mv dv : Value} (h : SBlk w b i t mv dv) (x : Value) : SBlk (w.setCell ⟨b, 2, none⟩ x) b i t x dv := by
  refine ⟨?_, ?_, World.cell?_setCell_same _ _ _ h.c2, ?_, by rw [World.frozen?_setCell]; exact h.f0, by rw [World.frozen?_setCell]; exact h.f1, by rw [World.frozen?_setCell]; exact h.f2, by rw [World.frozen?_setCell]; exact h.f3⟩
  · rw [World.cell?_setCell_other _ _ _ _ (by simp)]; exact h.c0
  · rw [World.cell?_setCell_other _ _ _ _ (by simp)]; exact h.c1
  · rw [World.cell?_setCell_other _ _ _ _ (by simp)]; exact h.c3
theorem SBlk.set3 {w : World} {b : Nat} {i t : Int} {mv dv : Value} (h : SBlk w b i t mv dv) (x : Value) : SBlk (w.setCell ⟨b, 3, none⟩ x) b i t mv x := by
  refine ⟨?_, ?_, ?_, World.cell?_setCell_same _ _ _ h.c3, by rw [World.frozen?_setCell]; exact h.f0, by rw [World.frozen?_setCell]; exact h.f1, by rw [World.frozen?_setCell]; exact h.f2, by rw [World.frozen?_setCell]; exact h.f3⟩
  · rw [World.cell?_setCell_other _ _ _ _ (by simp)]; exact h.c0
  · rw [World.cell?_setCell_other _ _ _ _ (by simp)]; exact h.c1
  · rw [World.cell?_setCell_other _ _ _ _ (by simp)]; exact h.c2

/-- What holds while members are read. -/
structure MemI (w : World) (b rb : Nat) (m : Nat) (l : List Nat) (bad : Bool) (sb rs base : Nat) (i t : Int) (k : Nat) (mv : Value) (wr : World) : Prop where
  rd : RdrIs wr b rb (memL m k l) (bad || memB m k l)
  sn : SBlk wr sb i t mv (.slice none 0 0)
  rs : SBlk wr rs 0 0 (.slice none 0 0) (.slice none 0 0)
  own : Owns wr base 3 .i64 mv (memV m k l)
  kept : Kept w wr (fun k => k = b)
  le : base ≤ wr.heap.size

/-- A snapshot's value, its rows in blocks from B on. -/
def NewRows (B : Nat) (v : Value) : Prop := ∃ i t mv dv, v = .agg #[i, t, mv, dv] ∧ (∀ b, mv.ownBlock = some b → B ≤ b) ∧ (∀ b, dv.ownBlock = some b → B ≤ b)

set_option maxHeartbeats 4000000 in
set_option maxRecDepth 20000 in
theorem rget_new (b : Nat) (l : List Nat) (bad : Bool) (w : World) (h : RdrIs w b rb l bad) (hrb : rb < w.heap.size) :
    Calls Tryz.prog 90 #[.pointer (some ⟨b, 0, none⟩)] w fun e w' => ∃ v, e = .returned v ∧ SnapIs w' v (getS 6 l) ∧ RdrIs w' b rb (getL 6 l) (bad || getB 6 l) ∧ Kept w w' (fun k => k = b) ∧ NewRows w.heap.size v := by
  have H := Lib.hid h
  have hbs := h.lt
  have hlt : ∀ c ∈ l, c < 256 := by obtain ⟨v, _, hB, _⟩ := h.ex; exact hB.lt
  have HLT := Lib.hid hlt
  have E59 : Hid ((576460752303423488 : Int).toNat = H59) := Lib.hid rfl
  have E60 : Hid ((1152921504606846976 : Int).toNat = H60) := Lib.hid rfl
  have E7 : Hid ((7 : Int).toNat = 7) := Lib.hid rfl
  have E6 : Hid ((6 : Int).toNat = 6) := Lib.hid rfl
  clear h hlt
  go_enter Tryz.func90, Tryz.ntmps90
  go_wp2_with fail
  generalize hW : World.alloc (World.alloc w _) _ = W0
  have S0 : Hid (SBlk W0 (w.heap.size + 1) 0 0 (.slice none 0 0) (.slice none 0 0)) := Lib.hid (by subst hW; exact ⟨by go_cell, by go_cell, by go_cell, by go_cell, by simp, by simp, by simp, by simp⟩)
  have T0 : Hid (SBlk W0 w.heap.size 0 0 (.slice none 0 0) (.slice none 0 0)) := Lib.hid (by subst hW; exact ⟨by go_cell, by go_cell, by go_cell, by go_cell, by simp, by simp, by simp, by simp⟩)
  have B0 : Hid (Below w.heap.size w W0) := Lib.hid (by subst hW; exact ((Below.refl _ _).alloc (Nat.le_refl _) _).alloc (by simp) _)
  have R0 : Hid (RdrIs W0 b rb l bad) := Lib.hid (H.out.below B0.out)
  have Z0 : Hid (w.heap.size + 2 ≤ W0.heap.size) := Lib.hid (by subst hW; simp)
  clear hW
  refine (rnum_any b 576460752303423488 l bad _ R0.out (by decide) (by decide)).mono ?_
  rintro e w1 ⟨rfl, h1, k1⟩
  rw [E59.out] at h1 ⊢
  have R1 := Lib.hid h1
  have K1 := Lib.hid k1
  have hs1 := k1.size
  clear h1 k1
  have S1 : Hid (SBlk w1 (w.heap.size + 1) 0 0 (.slice none 0 0) (.slice none 0 0)) := Lib.hid (S0.out.kept K1.out (by omega))
  obtain ⟨c10, f10, b10⟩ : w1.cell? ⟨w.heap.size + 1, 0, none⟩ = some (.int .u64 0) ∧ w1.frozen? ⟨w.heap.size + 1, 0, none⟩ = false ∧ w.heap.size + 1 < w1.heap.size := ⟨S1.out.c0, S1.out.f0, S1.out.lt⟩
  go_wp2_with fail
  generalize hW : World.setCell _ _ _ = W1
  have S2 : Hid (SBlk W1 (w.heap.size + 1) (numV H59 l) 0 (.slice none 0 0) (.slice none 0 0)) := Lib.hid (by subst hW; exact S1.out.set0 _)
  have K2 : Hid (Kept w1 W1 (fun k => k = w.heap.size + 1)) := Lib.hid (by subst hW; exact Kept.setCell w1 ⟨w.heap.size + 1, 0, none⟩ _)
  have R2 : Hid (RdrIs W1 b rb (rest1 l) (bad || numB H59 l)) := Lib.hid (R1.out.kept K2.out (by omega) (by omega))
  have T2 : Hid (SBlk W1 w.heap.size 0 0 (.slice none 0 0) (.slice none 0 0)) := Lib.hid ((T0.out.kept K1.out (by omega)).kept K2.out (by omega))
  have A2 : Hid (Kept w W1 (fun k => k = b)) := Lib.hid (((Kept.of_below B0.out (S := fun k => k = b) (fun k h1 h2 => by omega)).trans K1.out).stepNew K2.out (by omega))
  clear hW c10 f10 b10
  refine (rnum_any b 1152921504606846976 (rest1 l) _ _ R2.out (by decide) (by decide)).mono ?_
  rintro e w3 ⟨rfl, h1, k1⟩
  rw [E60.out] at h1 ⊢
  have R3 := Lib.hid h1
  have K3 := Lib.hid k1
  have hs3 := k1.size
  clear h1 k1
  have S3 : Hid (SBlk w3 (w.heap.size + 1) (numV H59 l) 0 (.slice none 0 0) (.slice none 0 0)) := Lib.hid (S2.out.kept K3.out (by omega))
  obtain ⟨c10, f10, b10⟩ : w3.cell? ⟨w.heap.size + 1, 1, none⟩ = some (.int .u64 0) ∧ w3.frozen? ⟨w.heap.size + 1, 1, none⟩ = false ∧ w.heap.size + 1 < w3.heap.size := ⟨S3.out.c1, S3.out.f1, S3.out.lt⟩
  go_wp2_with fail
  generalize hW : World.setCell _ _ _ = W3
  have S4 : Hid (SBlk W3 (w.heap.size + 1) (numV H59 l) (numV H60 (rest1 l)) (.slice none 0 0) (.slice none 0 0)) := Lib.hid (by subst hW; exact S3.out.set1 _)
  have K4 : Hid (Kept w3 W3 (fun k => k = w.heap.size + 1)) := Lib.hid (by subst hW; exact Kept.setCell w3 ⟨w.heap.size + 1, 1, none⟩ _)
  have R4 : Hid (RdrIs W3 b rb (rest2 l) ((bad || numB H59 l) || numB H60 (rest1 l))) := Lib.hid (R3.out.kept K4.out (by omega) (by omega))
  have T4 : Hid (SBlk W3 w.heap.size 0 0 (.slice none 0 0) (.slice none 0 0)) := Lib.hid ((T2.out.kept K3.out (by omega)).kept K4.out (by omega))
  have A4 : Hid (Kept w W3 (fun k => k = b)) := Lib.hid ((A2.out.trans K3.out).stepNew K4.out (by omega))
  have Z4 : Hid (w.heap.size + 2 ≤ W3.heap.size) := Lib.hid (by have := S4.out.lt; omega)
  clear hW c10 f10 b10
  refine (rnum_any b 7 (rest2 l) _ _ R4.out (by decide) (by decide)).mono ?_
  rintro e w5 ⟨rfl, h1, k1⟩
  rw [E7.out] at h1 ⊢
  have hn7 : ((memN l : Nat) : Int) ≤ 7 := by have := memN_le l; omega
  have R5 : Hid (RdrIs w5 b rb (rest3 l) (((bad || numB H59 l) || numB H60 (rest1 l)) || numB 7 (rest2 l))) := Lib.hid h1
  have K5 := Lib.hid k1
  have hs5 := k1.size
  clear h1 k1
  rw [show numV 7 (rest2 l) = memN l from rfl]
  have S5 : Hid (SBlk w5 (w.heap.size + 1) (numV H59 l) (numV H60 (rest1 l)) (.slice none 0 0) (.slice none 0 0)) := Lib.hid (S4.out.kept K5.out (by omega))
  have T5 : Hid (SBlk w5 w.heap.size 0 0 (.slice none 0 0) (.slice none 0 0)) := Lib.hid (T4.out.kept K5.out (by omega))
  have A5 : Hid (Kept w w5 (fun k => k = b)) := Lib.hid (A4.out.trans K5.out)
  generalize hX : (((bad || numB H59 l) || numB H60 (rest1 l)) || numB 7 (rest2 l)) = bad3 at R5
  have HB := Lib.hid hX
  clear hX
  go_wp2_with fail
  go_loopw [5] (fun x wr => ∃ (k : Nat) (mv : Value), k ≤ memN l ∧ x = .int .i64 k ∧ MemI w b rb 6 (rest3 l) bad3 (w.heap.size + 1) w.heap.size (w.heap.size + 2) (numV H59 l) (numV H60 (rest1 l)) k mv wr) (fun x _ => memN l - (intOf x).toNat)
  case atStart => exact ⟨0, _, Nat.zero_le _, rfl, by rw [memL, memB, Bool.or_false]; exact R5.out, S5.out, T5.out, Owns.nil _ _ _ _, A5.out, by have := Z4.out; omega⟩
  case round =>
    obtain ⟨k, mv, hk, rfl, hI⟩ := hrel
    have I := Lib.hid hI
    have hsz := hI.le
    clear hI
    by_cases hlt : k < memN l
    · have hv6 : ((numV 6 (memL 6 k (rest3 l)) : Nat) : Int) ≤ 6 := by have := numV_le 6 (memL 6 k (rest3 l)); omega
      have hki : (k : Int) < (memN l : Int) := by omega
      have HLN : Hid ((memV 6 k (rest3 l)).length + [((numV 6 (memL 6 k (rest3 l)) : Nat) : Int)].length ≤ 4294967296) := Lib.hid (by rw [length_memV]; simp only [List.length_cons, List.length_nil]; have := memN_le l; omega)
      have hw6 : IntKind.i64.wrap ((numV 6 (memL 6 k (rest3 l)) : Nat) : Int) = ((numV 6 (memL 6 k (rest3 l)) : Nat) : Int) := by simp only [IntKind.wrap_i64]; omega
      go_wp2_with fail
      refine region_start [0, 1, 0, 4, 12, 28, 63, 127, 255] 24 (fun w' => w'.cell? ⟨w.heap.size + 1, 2, none⟩ = some mv) (by kernel_rfl) ?_
      refine stage_heads [0, 1, 2] (by kernel_rfl) (L := #[true, true, true, false, false, false, false, false, false]) (by kernel_rfl) (f' := 6) rfl (fun _ _ _ _ h => h) (fun w o h => (Stable.cell _ _).alloc h o) (.inr I.out.sn.c2) ?_
      simp only [List.flatMap_cons, List.flatMap_nil, List.drop_succ_cons, List.drop_zero, List.take_succ_cons, List.take_zero, List.cons_append, List.nil_append, List.append_nil]
      iterate 3 (first | (refine heads_load _ (by rfl) (fun w' hs => by have y0 := hs; go_simp; try with_reducible rfl) rfl ?_; simp only [Act.put, List.setIfInBounds_toArray, List.set_cons_zero, List.set_cons_succ]) | (refine heads_pure _ (by rfl) (fun w' => by go_simp; try with_reducible rfl) ?_; simp only [Act.put, List.setIfInBounds_toArray, List.set_cons_zero, List.set_cons_succ]))
      refine heads_nil ?_
      refine stage_op 3 (by kernel_rfl) (L := #[true, true, true, true, false, false, false, false, false]) (by kernel_rfl) ?_
      simp only [List.drop_succ_cons, List.drop_zero, List.take_succ_cons, List.take_zero]
      go_wp2_with fail; refine (rnum_any b 6 _ _ _ (I.out.rd.below ((Below.refl _ _).drew)) (by decide) (by decide)).mono ?_; rintro e u3 ⟨rfl, h3, k3⟩; rw [E6.out] at h3 ⊢; have H3 := Lib.hid h3; have K3 : Hid (Kept wr u3 (fun k => k = b)) := Lib.hid ((Kept.drew wr (fun k => k = b)).trans k3); clear h3 k3; have S3 : Hid (SBlk u3 (w.heap.size + 1) (numV H59 l) (numV H60 (rest1 l)) mv (.slice none 0 0)) := Lib.hid (I.out.sn.kept K3.out (by omega)); have S4 : Hid (SBlk u3 w.heap.size 0 0 (.slice none 0 0) (.slice none 0 0)) := Lib.hid (I.out.rs.kept K3.out (by omega)); have LE3 : Hid (w.heap.size + 2 ≤ u3.heap.size) := Lib.hid (Nat.le_trans I.out.le K3.out.size); have O3 : Hid (Owns u3 (w.heap.size + 2) 3 .i64 mv (memV 6 k (rest3 l))) := Lib.hid (I.out.own.kept K3.out (fun g hg e => by have := (I.out.own.lt g hg).1; omega)); go_wp2_with fail
      refine step_post (fun _ => S3.out.c2) ?_
      refine stage_heads [4] (by kernel_rfl) (L := #[true, true, true, true, true, false, false, false, false]) (by kernel_rfl) (f' := 4) rfl (fun _ _ _ _ h => h) (fun w o h => (Stable.cell _ _).alloc h o) (.inr (by first | exact S3.out.c2 | exact cell_drew S3.out.c2)) ?_
      simp only [List.flatMap_cons, List.flatMap_nil, List.drop_succ_cons, List.drop_zero, List.take_succ_cons, List.take_zero, List.append_nil]
      iterate 1 (first | (refine heads_load _ (by rfl) (fun w' hs => by have y0 := hs; go_simp; try with_reducible rfl) rfl ?_; simp only [Act.put, List.setIfInBounds_toArray, List.set_cons_zero, List.set_cons_succ]) | (refine heads_pure _ (by rfl) (fun w' => by go_simp; try with_reducible rfl) ?_; simp only [Act.put, List.setIfInBounds_toArray, List.set_cons_zero, List.set_cons_succ]))
      refine heads_nil ?_
      refine stage_op 5 (by kernel_rfl) (L := #[true, true, true, true, true, true, false, false, false]) (by kernel_rfl) ?_
      simp only [List.drop_succ_cons, List.drop_zero, List.take_succ_cons, List.take_zero]
      go_wp2_with fail; generalize hu5 : World.alloc _ _ = u5; have B5 : Hid (Below u3.heap.size u3 u5) := Lib.hid (by subst hu5; first | exact (Below.refl _ _).alloc (Nat.le_refl _) _ | exact ((Below.refl _ _).drew).alloc (Nat.le_refl _) _ | exact (((Below.refl _ _).drew).drew).alloc (Nat.le_refl _) _); have ONE5 : Hid (Reads u5 .i64 (.slice (some ⟨u3.heap.size, 0, none⟩) 1 1) [((numV 6 (memL 6 k (rest3 l)) : Nat) : Int)]) := Lib.hid (by subst hu5; first | exact Reads.one _ _ _ _); clear hu5
      refine step_post nofun ?_
      refine stage_op 6 (by kernel_rfl) (L := #[true, true, true, true, true, true, true, false, false]) (by kernel_rfl) ?_
      simp only [List.drop_succ_cons, List.drop_zero, List.take_succ_cons, List.take_zero]
      refine wpList_append_ints Tryz.i64s _ _ rfl (w.heap.size + 2) mv (.slice (some ⟨u3.heap.size, 0, none⟩) 1 1) (memV 6 k (rest3 l)) [((numV 6 (memL 6 k (rest3 l)) : Nat) : Int)] rfl rfl (by first | exact O3.out.below B5.out | exact (O3.out.below B5.out).drew) (by first | exact ONE5.out | exact ONE5.out.drew) (by decide) HLN.out (by have := LE3.out; have := B5.out.size; first | omega | (simp only [World.size_drew]; omega)) rfl ?_; intro v6 u6 hown6 hgr6 hat6 hnil6 hbel6; obtain ⟨a6, c6, rfl⟩ := hown6.shape; have O6 : Hid (Owns u6 (w.heap.size + 2) 3 .i64 (.slice a6 ((memV 6 k (rest3 l)).length + 1) c6) (memV 6 k (rest3 l) ++ [((numV 6 (memL 6 k (rest3 l)) : Nat) : Int)])) := Lib.hid (by have hh := hown6; rw [List.length_append] at hh; exact hh); have OL6 := O3.out.lt; have G6 : Hid (Kept u5 u6 (fun g => mv.ownBlock = some g)) := Lib.hid (by first | exact Kept.of_grown hgr6 | exact (Kept.drew u5 _).trans (Kept.of_grown hgr6)); have S6 : Hid (SBlk u6 (w.heap.size + 1) (numV H59 l) (numV H60 (rest1 l)) mv (.slice none 0 0)) := Lib.hid ((S3.out.below B5.out).kept G6.out (fun e => by have := (OL6 _ e).1; omega)); have S7 : Hid (SBlk u6 w.heap.size 0 0 (.slice none 0 0) (.slice none 0 0)) := Lib.hid ((S4.out.below B5.out).kept G6.out (fun e => by have := (OL6 _ e).1; omega)); have R6 : Hid (RdrIs u6 b rb (numL 6 (memL 6 k (rest3 l))) ((bad3 || memB 6 k (rest3 l)) || numB 6 (memL 6 k (rest3 l)))) := Lib.hid ((H3.out.below B5.out).kept G6.out (fun e => by have := (OL6 _ e).1; omega) (fun e => by have := (OL6 _ e).1; omega)); have K6 : Hid (Kept w u6 (fun k => k = b)) := Lib.hid (((I.out.kept.trans K3.out).trans (Kept.of_below B5.out (S := fun k => k = b) (fun k h1 h2 => by omega))).andThen G6.out (fun g hg e => by rcases e with e | e; exact e; have := (OL6 _ e).1; omega)); have Z6 : Hid (w.heap.size + 2 ≤ u6.heap.size) := Lib.hid (by have := LE3.out; have := B5.out.size; have := G6.out.size; omega); clear hown6 hgr6 hat6 hnil6 hbel6 OL6; go_wp2_with fail
      refine step_post nofun ?_
      refine stage_heads [7] (by kernel_rfl) (L := #[true, true, true, true, true, true, true, true, false]) (by kernel_rfl) (f' := 1) rfl (fun _ _ _ _ h => h) (fun w o h => (Stable.cell _ _).alloc h o) (.inl (by kernel_rfl)) ?_
      simp only [List.flatMap_cons, List.flatMap_nil, List.drop_succ_cons, List.drop_zero, List.take_succ_cons, List.take_zero, List.append_nil]
      iterate 1 (refine heads_pure _ (by rfl) (fun w' => by go_simp; try with_reducible rfl) ?_; simp only [Act.put, List.setIfInBounds_toArray, List.set_cons_zero, List.set_cons_succ])
      refine heads_nil ?_
      refine stage_op 8 (by kernel_rfl) (L := #[true, true, true, true, true, true, true, true, true]) (by kernel_rfl) ?_
      simp only [List.drop_succ_cons, List.drop_zero, List.take_succ_cons, List.take_zero]
      obtain ⟨g1, g2, g3⟩ : u6.cell? ⟨w.heap.size + 1, 2, none⟩ = some mv ∧ u6.frozen? ⟨w.heap.size + 1, 2, none⟩ = false ∧ w.heap.size + 1 < u6.heap.size := ⟨S6.out.c2, S6.out.f2, S6.out.lt⟩; go_wp2_with fail; generalize hu8 : World.setCell _ _ _ = u8; have S8 : Hid (SBlk u8 (w.heap.size + 1) (numV H59 l) (numV H60 (rest1 l)) (.slice a6 ((memV 6 k (rest3 l)).length + 1) c6) (.slice none 0 0)) := Lib.hid (by subst hu8; exact S6.out.set2 _); have G8 : Hid (Kept u6 u8 (fun g => g = w.heap.size + 1)) := Lib.hid (by subst hu8; exact Kept.setCell u6 ⟨w.heap.size + 1, 2, none⟩ _); clear hu8 g1 g2 g3
      refine step_post nofun ?_
      refine stage_done (by kernel_rfl) ?_

      clear hw6
      go_wp2_with fail
      go_roundw
      case rel =>
        refine ⟨k + 1, _, by omega, by go_num, ?_, S8.out, S7.out.kept G8.out (by omega), O6.out.kept G8.out (fun g hg e => by have := (O6.out.lt g hg).1; omega), K6.out.stepNew G8.out (by omega), by have := Z6.out; have := G8.out.size; omega⟩
        have hr := R6.out.kept G8.out (by omega) (by omega)
        rw [Bool.or_assoc] at hr
        exact hr
      case measure => simp [intOf]; omega
    · obtain rfl : k = memN l := by omega
      have RL : Hid (RdrIs wr b rb (rest4 6 l) (bad3 || memB 6 (memN l) (rest3 l))) := Lib.hid I.out.rd
      go_wp2_with fail
      refine (rtext_any b 32768 _ _ _ RL.out (by decide)).mono ?_
      rintro e w7 ⟨rfl, h7, k7⟩
      have H7 := Lib.hid h7
      have K7 := Lib.hid k7
      have hs7 := k7.size
      clear h7 k7
      have S7 : Hid (SBlk w7 (w.heap.size + 1) (numV H59 l) (numV H60 (rest1 l)) mv (.slice none 0 0)) := Lib.hid (I.out.sn.kept K7.out (by omega))
      have T7 : Hid (SBlk w7 w.heap.size 0 0 (.slice none 0 0) (.slice none 0 0)) := Lib.hid (I.out.rs.kept K7.out (by omega))
      have O7 : Hid (Owns w7 (w.heap.size + 2) 3 .i64 mv (memV 6 (memN l) (rest3 l))) := Lib.hid (I.out.own.kept K7.out (fun g hg e => by have := (I.out.own.lt g hg).1; omega))
      obtain ⟨am, cm, rfl⟩ := O7.out.shape
      have TS : Hid ((strN (textV 32768 (rest4 6 l))).size ≤ 2097152) := Lib.hid (by rw [size_strN]; have := textV_len 32768 (rest4 6 l); omega)
      have HTX : Hid (natsOf (strN (textV 32768 (rest4 6 l))) = textV 32768 (rest4 6 l)) := Lib.hid (natsOf_strN fun c hc => by obtain ⟨v, _, hB, _⟩ := RL.out.ex; exact hB.lt c (textV_mem c hc))
      go_wp2_with (refine wpList_to_bytes rfl 9 22 5 _ rfl Tryz.underlying9 Tryz.underlying22 Tryz.underlying5 _ rfl TS.out ?_; intro dv w8 hB8 hb8 hob8; have OB8 := Lib.hid hob8; clear hob8; obtain ⟨ad, cd, rfl, _⟩ := hB8.shape; have HB8 := Lib.hid hB8; have B8 := Lib.hid hb8; obtain ⟨g1, g2, g3⟩ : w8.cell? ⟨w.heap.size + 1, 3, none⟩ = some (.slice none 0 0) ∧ w8.frozen? ⟨w.heap.size + 1, 3, none⟩ = false ∧ w.heap.size + 1 < w8.heap.size := ⟨(S7.out.below B8.out).c3, (S7.out.below B8.out).f3, (S7.out.below B8.out).lt⟩; obtain ⟨g4, g5, g6⟩ : w8.cell? ⟨w.heap.size + 1, 0, none⟩ = some (.int .u64 (numV H59 l)) ∧ w8.cell? ⟨w.heap.size + 1, 1, none⟩ = some (.int .u64 (numV H60 (rest1 l))) ∧ w8.cell? ⟨w.heap.size + 1, 2, none⟩ = some (.slice am (memV 6 (memN l) (rest3 l)).length cm) := ⟨(S7.out.below B8.out).c0, (S7.out.below B8.out).c1, (S7.out.below B8.out).c2⟩; obtain ⟨r0, r1, r2, r3, q0, q1, q2, q3⟩ := T7.out.below B8.out; clear hB8 hb8)
      generalize hwF : World.setCell _ _ _ = wF
      have KF : Hid (Kept w8 wF (fun k => k = w.heap.size + 1 ∨ k = w.heap.size)) := Lib.hid (by
        subst hwF
        exact (((((Kept.setCell w8 ⟨w.heap.size + 1, 3, none⟩ _).mono (fun _ _ h => .inl h)).trans ((Kept.setCell _ ⟨w.heap.size, 0, none⟩ _).mono (fun _ _ h => .inr h))).trans ((Kept.setCell _ ⟨w.heap.size, 1, none⟩ _).mono (fun _ _ h => .inr h))).trans ((Kept.setCell _ ⟨w.heap.size, 2, none⟩ _).mono (fun _ _ h => .inr h))).trans ((Kept.setCell _ ⟨w.heap.size, 3, none⟩ _).mono (fun _ _ h => .inr h)))
      have HR : Hid (SBlk wF w.heap.size (numV H59 l) (numV H60 (rest1 l)) (.slice am (memV 6 (memN l) (rest3 l)).length cm) (.slice ad (natsOf (strN (textV 32768 (rest4 6 l)))).length cd)) := Lib.hid (by
        subst hwF
        exact (((((T7.out.below B8.out).kept (Kept.setCell w8 ⟨w.heap.size + 1, 3, none⟩ _) (show ¬ w.heap.size = w.heap.size + 1 by omega)).set0 _).set1 _).set2 _).set3 _)
      clear hwF g1 g2 g3 g4 g5 g6 r0 r1 r2 r3 q0 q1 q2 q3
      obtain ⟨r0, r1, r2, r3, _, _, _, _⟩ := HR.out
      refine bodyPost_ret (v := .agg #[.int .u64 (numV H59 l), .int .u64 (numV H60 (rest1 l)), .slice am (memV 6 (memN l) (rest3 l)).length cm, .slice ad (natsOf (strN (textV 32768 (rest4 6 l)))).length cd]) (by simp [results, Tryz.results90, go_sem, r0, r1, r2, r3]) rfl ?_
      refine ⟨_, rfl, ⟨_, _, rfl, ?_, ?_⟩, ?_, ?_, _, _, _, _, rfl, fun g hg => by have := (O7.out.lt g hg).1; omega, fun g hg => by have := OB8.out; rw [hg] at this; cases this; have := I.out.le; omega⟩
      · exact Ints.of_owns ((O7.out.below B8.out).kept KF.out (fun g hg e => by have := (O7.out.lt g hg).1; omega)) (by show (memV 6 (memN l) (rest3 l)).length ≤ 2097152; rw [length_memV]; have := memN_le l; omega)
      · have hh := HB8.out
        rw [HTX.out] at hh ⊢
        exact hh.keptOr KF.out (rb := w7.heap.size) (.inr (by have := OB8.out; rw [HTX.out] at this; exact this)) (by omega)
      · have hh := (H7.out.below B8.out).kept KF.out (by omega) (by omega)
        rw [show (bad || getB 6 l) = ((bad3 || memB 6 (memN l) (rest3 l)) || textB 32768 (rest4 6 l)) by rw [← HB.out]; simp only [getB, Bool.or_assoc]]
        exact hh
      · exact ((I.out.kept.trans K7.out).trans (Kept.of_below B8.out (S := fun k => k = b) (fun k h1 h2 => by omega))).andThen KF.out (fun g hg e => by rcases e with e | e | e; exact e; all_goals omega)
theorem rget_any (b : Nat) (l : List Nat) (bad : Bool) (w : World) (h : RdrIs w b rb l bad) (hrb : rb < w.heap.size) :
    Calls Tryz.prog 90 #[.pointer (some ⟨b, 0, none⟩)] w fun e w' => ∃ v, e = .returned v ∧ SnapIs w' v (getS 6 l) ∧ RdrIs w' b rb (getL 6 l) (bad || getB 6 l) ∧ Kept w w' (fun k => k = b) :=
  (rget_new b l bad w h hrb).mono fun _ _ ⟨v, h1, h2, h3, h4, _⟩ => ⟨v, h1, h2, h3, h4⟩
end Go.Proofs.YtofhccpagnkalaaGreat
