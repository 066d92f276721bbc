/- The contract of the program's Copy of a snapshot; no conditions but the ranges. -/
import Derived.Test.YtofhccpagnkalaaGreatSb
import Derived.Laws.CopyOwn
import Derived.Deep.OwnRows
namespace Go.Proofs.YtofhccpagnkalaaGreat
open Go.RowKit Go.Maps Go.Proofs.Own

/-- The value v is the snapshot s, in blocks from B on. -/
def SnapNew (w : World) (B : Nat) (v : Value) (s : SnapS) : Prop :=
  ∃ mv dv, v = .agg #[.int .u64 s.i, .int .u64 s.t, mv, dv] ∧ Owns w B 3 .i64 mv s.ms ∧ Owns w B 5 .u8 dv (ints s.d)

set_option maxHeartbeats 2000000 in
set_option maxRecDepth 20000 in
theorem scopy_any (v : Value) (s : SnapS) (w : World) (h : SnapIs w v s) :
    Calls Tryz.prog 47 #[v] w fun e w' => ∃ v', e = .returned v' ∧ SnapNew w' w.heap.size v' s ∧ Below w.heap.size w w' := by
  obtain ⟨mv, dv, rfl, hm, hd⟩ := h
  obtain ⟨a, c, rfl, _⟩ := hd.shape
  obtain ⟨am, cm, rfl, _⟩ := hm.shape
  obtain ⟨i, t, ms, d⟩ := s
  simp only at hm hd ⊢
  have HM := Lib.hid hm
  have HD := Lib.hid hd
  have hml : (ms.length : Int) ≤ 2097152 := by have : ms.length ≤ 2097152 := hm.small; omega
  have HMS : Hid (ms.length ≤ 2097152) := Lib.hid hm.small
  clear hm hd
  obtain ⟨i8, hi8, hz8, hy8, hw8⟩ : ∃ i, Tryz.prog.info? 3 = some i ∧ i.zero = some (.int .i64 0) ∧ i.size = 1 ∧ i.bytes = 8 := info_parts Tryz.infoInt
  have HI := Lib.hid (And.intro hi8 (And.intro hz8 (And.intro hy8 hw8)))
  have HSZ : Hid ((Tryz.prog.info? 3).map (·.size) = some 1) := Lib.hid (by rw [hi8]; simp [hy8])
  clear hi8 hz8 hy8 hw8
  go_enter Tryz.func47, Tryz.ntmps47
  have hb3 : Below w.heap.size w (((w.alloc (.cells #[.int .u64 i, .int .u64 t, .slice am ms.length cm, .slice a d.length c] 40)).alloc (.cells #[.int .u64 0, .int .u64 0, .slice none 0 0, .slice none 0 0] 40)).alloc (.cells (madeCells #[.int .i64 0] ms.length) 3)) :=
    (((Below.refl _ _).alloc (Nat.le_refl _) _).alloc (by simp) _).alloc (by simp; omega) _
  have SA : Hid (∀ o o' : Obj, SBlk (((w.alloc (.cells #[.int .u64 i, .int .u64 t, .slice am ms.length cm, .slice a d.length c] 40)).alloc o).alloc o') w.heap.size i t (.slice am ms.length cm) (.slice a d.length c)) := Lib.hid fun o o' =>
    ((SBlk.box w i t _ _).below ((Below.refl _ _).alloc (Nat.le_refl _) o)).below ((Below.refl _ _).alloc (Nat.le_refl _) o')
  have RA : Hid (∀ o' : Obj, SBlk (((w.alloc (.cells #[.int .u64 i, .int .u64 t, .slice am ms.length cm, .slice a d.length c] 40)).alloc (.cells #[.int .u64 0, .int .u64 0, .slice none 0 0, .slice none 0 0] 40)).alloc o') (w.heap.size + 1) 0 0 (.slice none 0 0) (.slice none 0 0)) := Lib.hid fun o' => by
    have h := (SBlk.new (w.alloc (.cells #[.int .u64 i, .int .u64 t, .slice am ms.length cm, .slice a d.length c] 40))).below ((Below.refl _ _).alloc (Nat.le_refl _) o')
    simpa using h
  have B3 := Lib.hid hb3
  clear hb3
  have HPOS : Hid (∀ w' : World, Below w.heap.size w w' → 0 < (ms.map (Value.int .i64)).length → (some (⟨w.heap.size + 1 + 1, 0, none⟩ : Addr)) = some ⟨w.heap.size + 1 + 1, 0, none⟩ ∧ ∃ ad, am = some ad ∧ ∀ j v, (ms.map (Value.int .i64))[j]? = some v → w'.cell? (ad.add j) = some v) := Lib.hid fun w' hb h0 => by
    rw [List.length_map] at h0
    have hM := HM.out.below hb
    obtain ⟨b, o, e, _⟩ := hM.cells.2.2 0 h0
    refine ⟨rfl, _, e, fun j u hu => ?_⟩
    have hj : j < ms.length := by have := (List.getElem?_eq_some_iff.1 hu).1; simpa using this
    obtain ⟨b', o', e', hc⟩ := hM.cells.2.2 j hj
    rw [e] at e'
    cases e'
    rw [Addr.add_lit, hc]
    simpa [hj] using hu
  go_wp2_with (first | (at_make; refine wpList_make_row _ rfl _ _ 38 rfl 3 i8 (.int .i64 0) Tryz.underlying38 HI.out.1 HI.out.2.1 HI.out.2.2.1 rfl .i64 .i64 ms.length rfl rfl (by rw [HI.out.2.2.2]; have := HMS.out; omega) (by have := HMS.out; omega) ?_) | (refine wpList_copy_splice rfl _ _ 38 38 rfl 3 Tryz.underlying38 HSZ.out (some ⟨w.heap.size + 1 + 1, 0, none⟩) am ms.length ms.length ms.length cm rfl rfl (w.heap.size + 1 + 1) 0 (madeCells #[.int .i64 0] ms.length).toList 3 (by have h := heap_alloc_new ((w.alloc (.cells #[.int .u64 i, .int .u64 t, .slice am ms.length cm, .slice a d.length c] 40)).alloc (.cells #[.int .u64 0, .int .u64 0, .slice none 0 0, .slice none 0 0] 40)) (.cells (madeCells #[.int .i64 0] ms.length) 3); simpa using h) (ms.map (Value.int .i64)) (by simp) (HPOS.out _ B3.out) (by simp [size_madeCells]) (ints_oneCell _ _) (w.heap.size + 2) _ (Below.refl _ _) (by omega) ?_; intro w3 HG3 hB3; have BB3 := Lib.hid hB3; have B03 : Hid (Below w.heap.size w w3) := Lib.hid (B3.out.trans (hB3.mono (by omega))); have S3 : Hid (SBlk w3 w.heap.size i t (.slice am ms.length cm) (.slice a d.length c)) := Lib.hid ((SA.out _ _).kept (Kept.of_below hB3 (S := fun k => w.heap.size + 2 ≤ k) (fun k _ h => h)) (by omega)); have R3 : Hid (SBlk w3 (w.heap.size + 1) 0 0 (.slice none 0 0) (.slice none 0 0)) := Lib.hid ((RA.out _).kept (Kept.of_below hB3 (S := fun k => w.heap.size + 2 ≤ k) (fun k _ h => h)) (by omega)); obtain ⟨r0, r1, r2, r3, f0, f1, f2, f3⟩ := S3.out; clear hB3))
  have HDI : Hid ((ints d).length ≤ 2097152) := Lib.hid (by rw [length_ints]; exact HD.out.small)
  refine (bclone _ _ w3 (HD.out.below B03.out).rd HDI.out).mono ?_
  rintro e w4 ⟨dv4, rfl, hown4, hb4⟩
  obtain ⟨a4, c4, rfl⟩ := hown4.shape
  have O4 := Lib.hid hown4
  have B4 := Lib.hid hb4
  have S4 : Hid (SBlk w4 w.heap.size i t (.slice am ms.length cm) (.slice a d.length c)) := Lib.hid (S3.out.below hb4)
  have R4 : Hid (SBlk w4 (w.heap.size + 1) 0 0 (.slice none 0 0) (.slice none 0 0)) := Lib.hid (R3.out.below hb4)
  have M4 : Hid (Owns w4 w.heap.size 3 .i64 (.slice (some ⟨w.heap.size + 1 + 1, 0, none⟩) ms.length ms.length) ms) := Lib.hid (by
    have h3 : Owns w3 w.heap.size 3 .i64 (.slice (some ⟨w.heap.size + 1 + 1, 0, none⟩) ms.length ms.length) ms := by
      refine Owns.lit (zs := ms) ?_ (by omega) (by have := HMS.out; omega)
      have h := HG3.out
      have e : splice (madeCells #[Value.int .i64 0] ms.length).toList 0 (ms.map (Value.int .i64)) = ms.map (Value.int .i64) := by
        simp [splice, size_madeCells]
      rwa [e] at h
    exact h3.below hb4)
  clear r0 r1 r2 r3 f0 f1 f2 f3 hown4 hb4 HG3
  obtain ⟨r0, r1, r2, r3, f0, f1, f2, f3⟩ := S4.out
  obtain ⟨q0, q1, q2, q3, g0, g1, g2, g3⟩ := R4.out
  go_wp2_with fail
  generalize hwF : World.setCell _ _ _ = wF
  have KF : Hid (Kept w4 wF (fun k => k = w.heap.size ∨ k = w.heap.size + 1)) := Lib.hid (by
    subst hwF
    refine Kept.trans ?_ ((Kept.set4 _ (w.heap.size + 1) i t _ _).mono (fun k _ h => .inr h))
    exact ((Kept.setCell w4 ⟨w.heap.size, 2, none⟩ _).mono (fun k _ h => .inl h)).trans ((Kept.setCell _ ⟨w.heap.size, 3, none⟩ _).mono (fun k _ h => .inl h)))
  have RF : Hid (SBlk wF (w.heap.size + 1) i t (.slice (some ⟨w.heap.size + 1 + 1, 0, none⟩) ms.length ms.length) (.slice a4 (ints d).length c4)) := Lib.hid (by
    subst hwF
    have k1 := (Kept.setCell w4 ⟨w.heap.size, 2, none⟩ (.slice (some ⟨w.heap.size + 1 + 1, 0, none⟩) ms.length ms.length))
    exact ((R4.out.kept k1 (by simp)).kept (Kept.setCell _ ⟨w.heap.size, 3, none⟩ (.slice a4 (ints d).length c4)) (by simp)).set4 i t _ _)
  clear hwF r0 r1 r2 r3 f0 f1 f2 f3 q0 q1 q2 q3 g0 g1 g2 g3
  obtain ⟨q0, q1, q2, q3, _, _, _, _⟩ := RF.out
  have hl3 := R3.out.lt
  refine bodyPost_ret (v := .agg #[.int .u64 i, .int .u64 t, .slice (some ⟨w.heap.size + 1 + 1, 0, none⟩) ms.length ms.length, .slice a4 (ints d).length c4]) (by simp [results, Tryz.results47, go_sem, q0, q1, q2, q3]) rfl ?_
  refine ⟨_, rfl, ⟨_, _, rfl, M4.out.kept KF.out (fun b hb => by
    simp only [Value.ownBlock] at hb
    obtain rfl := Option.some.inj hb
    omega), (O4.out.kept KF.out fun b hb => by have := (O4.out.lt b hb).1; omega).lower fun b hb => by have := (O4.out.lt b hb).1; omega⟩, ?_⟩
  exact (B03.out.trans (B4.out.mono B03.out.size)).trans (KF.out.below (by have := B03.out.size; have := B4.out.size; omega) (fun k hk => by omega))
end Go.Proofs.YtofhccpagnkalaaGreat
