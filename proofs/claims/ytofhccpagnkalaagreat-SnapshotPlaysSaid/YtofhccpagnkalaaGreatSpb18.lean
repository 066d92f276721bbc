/- Several texts in one: Idx, Save2, Sav. What each proves stands ahead of it; together they serve splays_law_holds. No conditions but those stated. -/
import Derived.Laws.EntriesVeiled
import Derived.Test.YtofhccpagnkalaaGreatSpb17
/- Indexing an array of functions; no conditions. -/
namespace Go.Proofs.YtofhccpagnkalaaGreat
open Go.RowKit Go.Maps Go.Proofs.Own

theorem Tryz.infoFn : (Tryz.prog.info? 92).map (fun i => (i.zero, i.size)) = some (some .nilFunc, 1) := by kernel_rfl
theorem idx_fn (a b c d v : Value) (i : Nat) (w : World) (h : #[a, b, c, d][i]? = some v) : (Instr.index 134 (.agg #[a, b, c, d]) (.int .i64 (i : Int))).run Tryz.prog w = .ok v w := by
  have hi : i < 4 := by have := (Array.getElem?_eq_some_iff.1 h).1; simpa using this
  have h4 : (i : Int) < 4 := by omega
  obtain ⟨i0, h1, h2⟩ := Option.map_eq_some_iff.1 Tryz.infoFn
  simp only [Prod.mk.injEq] at h2
  have hu := Tryz.underlying92
  simp [Instr.index, asIntOf, run_underlying Tryz.underlying134, hi, sizeOf, typeInfo, h1, h2.2, part, isAgg, run_underlying hu, Result.andThen, go_sem]
  exact (Array.getElem?_eq_some_iff.1 h).2
/-- The store's snapshot is laid anew. -/
theorem SBlk5.set4 {w : World} {sb db : Nat} {i t : Int} {mv dv : Value} (h : SBlk5 w sb db i t mv dv) (i' t' : Int) (mv' dv' : Value) :
    SBlk5 ((((w.setCell ⟨sb, 1, none⟩ (.int .u64 i')).setCell ⟨sb, 2, none⟩ (.int .u64 t')).setCell ⟨sb, 3, none⟩ mv').setCell ⟨sb, 4, none⟩ dv') sb db i' t' mv' dv' := by
  refine ⟨?_, ?_, ?_, ?_, ?_, ?_, ?_, ?_, ?_⟩
  · rw [World.cell?_setCell_other _ _ _ _ (by simp), World.cell?_setCell_other _ _ _ _ (by simp), World.cell?_setCell_other _ _ _ _ (by simp), World.cell?_setCell_other _ _ _ _ (by simp)]; exact h.c0
  · rw [World.cell?_setCell_other _ _ _ _ (by simp), World.cell?_setCell_other _ _ _ _ (by simp), World.cell?_setCell_other _ _ _ _ (by simp)]; exact World.cell?_setCell_same _ _ _ h.c1
  · rw [World.cell?_setCell_other _ _ _ _ (by simp), World.cell?_setCell_other _ _ _ _ (by simp)]
    exact World.cell?_setCell_same _ _ _ (by rw [World.cell?_setCell_other _ _ _ _ (by simp)]; exact h.c2)
  · rw [World.cell?_setCell_other _ _ _ _ (by simp)]
    exact World.cell?_setCell_same _ _ _ (by rw [World.cell?_setCell_other _ _ _ _ (by simp), World.cell?_setCell_other _ _ _ _ (by simp)]; exact h.c3)
  · exact World.cell?_setCell_same _ _ _ (by rw [World.cell?_setCell_other _ _ _ _ (by simp), World.cell?_setCell_other _ _ _ _ (by simp), World.cell?_setCell_other _ _ _ _ (by simp)]; exact h.c4)
  · rw [World.frozen?_setCell, World.frozen?_setCell, World.frozen?_setCell, World.frozen?_setCell]; exact h.f1
  · rw [World.frozen?_setCell, World.frozen?_setCell, World.frozen?_setCell, World.frozen?_setCell]; exact h.f2
  · rw [World.frozen?_setCell, World.frozen?_setCell, World.frozen?_setCell, World.frozen?_setCell]; exact h.f3
  · rw [World.frozen?_setCell, World.frozen?_setCell, World.frozen?_setCell, World.frozen?_setCell]; exact h.f4
theorem Kept.set5 (w : World) (sb : Nat) (a b c d : Value) : Kept w ((((w.setCell ⟨sb, 1, none⟩ a).setCell ⟨sb, 2, none⟩ b).setCell ⟨sb, 3, none⟩ c).setCell ⟨sb, 4, none⟩ d) (fun k => k = sb) :=
  (((Kept.setCell w ⟨sb, 1, none⟩ _).trans (Kept.setCell _ ⟨sb, 2, none⟩ _)).trans (Kept.setCell _ ⟨sb, 3, none⟩ _)).trans (Kept.setCell _ ⟨sb, 4, none⟩ _)
theorem DiskIs.set5 {w : World} {sb db db' mb tb : Nat} {D : DiskS} {i t : Int} {mv dv : Value} (h : DiskIs w db' mb tb D) (s : SBlk5 w sb db i t mv dv) (hn : ¬ Own3 db' mb tb sb) (hm : ∀ x, mv ≠ .int .u8 x) (hd : ∀ x, dv ≠ .int .u8 x) (a b c d : Value) :
    DiskIs ((((w.setCell ⟨sb, 1, none⟩ a).setCell ⟨sb, 2, none⟩ b).setCell ⟨sb, 3, none⟩ c).setCell ⟨sb, 4, none⟩ d) db' mb tb D := by
  refine DiskIs.setOther (DiskIs.setOther (DiskIs.setOther (DiskIs.setOther h _ hn ?_) _ hn ?_) _ hn ?_) _ hn ?_
  · intro x e; rw [s.c1] at e; cases e
  · intro x e; rw [World.cell?_setCell_other _ _ _ _ (by simp), s.c2] at e; cases e
  · intro x e; rw [World.cell?_setCell_other _ _ _ _ (by simp), World.cell?_setCell_other _ _ _ _ (by simp), s.c3] at e; exact hm x (Option.some.inj e)
  · intro x e; rw [World.cell?_setCell_other _ _ _ _ (by simp), World.cell?_setCell_other _ _ _ _ (by simp), World.cell?_setCell_other _ _ _ _ (by simp), s.c4] at e; exact hd x (Option.some.inj e)
end Go.Proofs.YtofhccpagnkalaaGreat

/- The store's Save where all goes well; no conditions but the ranges. -/
namespace Go.Proofs.YtofhccpagnkalaaGreat
open Go.RowKit Go.Maps Go.Proofs.Own

set_option maxHeartbeats 4000000 in
set_option maxRecDepth 20000 in
theorem ssave_old (sb db mb tb : Nat) (s x : SnapS) (v : Value) (w : World) (h : StoreIs w sb db mb tb s) (hx : SnapIs w v x) (hok : x.ok) (hle : x.i ≤ s.i) :
    Calls Tryz.prog 29 #[.pointer (some ⟨sb, 0, none⟩), v] w fun e w' => e = .returned (.int .i64 34) ∧ Below w.heap.size w w' := by
  have H := Lib.hid h
  have HX := Lib.hid hx
  have HOK := Lib.hid hok
  obtain ⟨mv, dv, rfl, hm, hd⟩ := hx
  obtain ⟨a, c, rfl, _⟩ := hd.shape
  obtain ⟨am, cm, rfl, _⟩ := hm.shape
  have hsl := h.lt
  clear h hm hd hok
  go_enter Tryz.func29, Tryz.ntmps29
  go_wp2_with fail
  generalize hw2 : World.alloc (World.alloc w _) _ = w2
  have B2 : Hid (Below w.heap.size w w2) := Lib.hid (by subst hw2; exact ((Below.refl _ _).alloc (Nat.le_refl _) _).alloc (by simp) _)
  have c2 : w2.cell? ⟨w.heap.size, 0, none⟩ = some (.pointer (some ⟨sb, 0, none⟩)) := by subst hw2; go_cell
  have S2 : Hid (SBlk w2 (w.heap.size + 1) x.i x.t (.slice am x.ms.length cm) (.slice a x.d.length c)) := Lib.hid (by
    subst hw2
    have k := SBlk.box (w.alloc (.cells #[.pointer (some ⟨sb, 0, none⟩)] 35)) x.i x.t (.slice am x.ms.length cm) (.slice a x.d.length c)
    simpa using k)
  have l2 : w.heap.size + 1 < w2.heap.size := S2.out.lt
  clear hw2
  refine (snone sb db mb tb s w2 (H.out.below B2.out)).mono ?_
  rintro e w2' ⟨rfl, rfl⟩
  obtain ⟨r0, r1, r2, r3, _, _, _, _⟩ := S2.out
  go_wp2_with fail
  refine (sbytes_yes _ x w2 (HX.out.below B2.out) HOK.out).mono ?_
  rintro e w3 ⟨bv, rfl, hB3, hb3, ho3⟩
  obtain ⟨ab, cb, rfl, _⟩ := hB3.shape
  have HO3 := Lib.hid ho3
  have HB3 := Lib.hid hB3
  have B3 := Lib.hid hb3
  have c3 := Below.at hb3 c2 (by show w.heap.size < w2.heap.size; omega)
  have r3' := Below.at hb3 r0 l2
  have l3 := hb3.size
  have H3 : Hid (StoreIs w3 sb db mb tb s) := Lib.hid ((H.out.below B2.out).below hb3)
  clear hB3 hb3 ho3 r0 r1 r2 r3 c2
  generalize (frP 4 (snapW x)).length = nb
  go_wp2_with fail
  have S3 := H3.out
  obtain ⟨mv3, dv3, hS3, _⟩ := S3
  have y0 := cell_alloc c3 (.cells #[.slice ab nb cb] 22)
  have y1 := cell_alloc r3' (.cells #[.slice ab nb cb] 22)
  have y2 := cell_alloc hS3.c1 (.cells #[.slice ab nb cb] 22)
  have B4 : Hid (Below w.heap.size w (w3.alloc (.cells #[.slice ab nb cb] 22))) := Lib.hid ((B2.out.trans (B3.out.mono B2.out.size)).alloc (by have := B2.out.size; omega) _)
  clear hS3 c3 r3'
  generalize World.alloc w3 _ = w4 at *
  go_quiet (fail)
  have IQ : Hid (Below w.heap.size w (w4.drewN nq)) := Lib.hid (below_drewN B4.out nq)
  generalize w4.drewN nq = wq at IQ ⊢
  go_wp2_with fail
  go_ret
  exact ⟨rfl, IQ.out⟩

set_option maxHeartbeats 4000000 in
set_option maxRecDepth 20000 in
theorem ssave_ok (sb db mb tb : Nat) (s x : SnapS) (D D1 D2 D3 D4 : DiskS) (v : Value) (w : World) (h : StoreIs w sb db mb tb s) (hx : SnapIs w v x) (hxk : ∀ w', Kept w w' (Own3 db mb tb) → SnapIs w' v x) (hok : x.ok) (hgt : s.i < x.i) (hd0 : DiskIs w db mb tb D)
    (g0 : DGood D) (g1 : DGood D1) (g2 : DGood D2) (g3 : DGood D3) (e1 : goneD D = (D1, 0)) (e2 : appendD D1 nOther (frP 4 (snapW x)) = (D2, 0)) (e3 : syncD D2 nOther = (D3, 0)) (e4 : moveD D3 nOther nSnap = (D4, 0)) :
    Calls Tryz.prog 29 #[.pointer (some ⟨sb, 0, none⟩), v] w fun e w' => e = .returned (.int .i64 0) ∧ DiskIs w' db mb tb D4 ∧ StoreIs w' sb db mb tb x ∧ Kept w w' (fun k => Own3 db mb tb k ∨ k = sb) := by
  have H := Lib.hid h
  have HX := Lib.hid hx
  have HXK := Lib.hid hxk
  have HOK := Lib.hid hok
  have D0 := Lib.hid hd0
  have G0 := Lib.hid g0
  have G1 := Lib.hid g1
  have G2 := Lib.hid g2
  have G3 := Lib.hid g3
  have E1 := Lib.hid e1
  have E2 := Lib.hid e2
  have E3 := Lib.hid e3
  have E4 := Lib.hid e4
  have hgt' : ¬ x.i ≤ s.i := by omega
  obtain ⟨mv, dv, rfl, hm, hd⟩ := hx
  obtain ⟨a, c, rfl, _⟩ := hd.shape
  obtain ⟨am, cm, rfl, _⟩ := hm.shape
  have hsl := h.lt
  clear h hm hd hok hd0 g0 g1 g2 g3 e1 e2 e3 e4 hxk
  go_enter Tryz.func29, Tryz.ntmps29
  go_wp2_with fail
  generalize hw2 : World.alloc (World.alloc w _) _ = w2
  have B2 : Hid (Below w.heap.size w w2) := Lib.hid (by subst hw2; exact ((Below.refl _ _).alloc (Nat.le_refl _) _).alloc (by simp) _)
  have c2 : w2.cell? ⟨w.heap.size, 0, none⟩ = some (.pointer (some ⟨sb, 0, none⟩)) := by subst hw2; go_cell
  have S2 : Hid (SBlk w2 (w.heap.size + 1) x.i x.t (.slice am x.ms.length cm) (.slice a x.d.length c)) := Lib.hid (by
    subst hw2
    have k := SBlk.box (w.alloc (.cells #[.pointer (some ⟨sb, 0, none⟩)] 35)) x.i x.t (.slice am x.ms.length cm) (.slice a x.d.length c)
    simpa using k)
  have l2 : w.heap.size + 1 < w2.heap.size := S2.out.lt
  clear hw2
  refine (snone sb db mb tb s w2 (H.out.below B2.out)).mono ?_
  rintro e w2' ⟨rfl, rfl⟩
  obtain ⟨r0, r1, r2, r3, _, _, _, _⟩ := S2.out
  go_wp2_with fail
  refine (sbytes_yes _ x w2 (HX.out.below B2.out) HOK.out).mono ?_
  rintro e w3 ⟨bv, rfl, hB3, hb3, ho3⟩
  obtain ⟨ab, cb, rfl, _⟩ := hB3.shape
  have HO3 := Lib.hid ho3
  have HB3 := Lib.hid hB3
  have B3 := Lib.hid hb3
  have c3 := Below.at hb3 c2 (by show w.heap.size < w2.heap.size; omega)
  have r3' := Below.at hb3 r0 l2
  have l3 := hb3.size
  have H3 : Hid (StoreIs w3 sb db mb tb s) := Lib.hid ((H.out.below B2.out).below hb3)
  clear hB3 hb3 ho3 r0 r1 r2 r3 c2
  generalize hnb : (frP 4 (snapW x)).length = nb at HB3 HO3
  go_wp2_with fail
  have S3 := H3.out
  obtain ⟨mv3, dv3, hS3, _⟩ := S3
  have y0 := cell_alloc c3 (.cells #[.slice ab nb cb] 22)
  have y1 := cell_alloc r3' (.cells #[.slice ab nb cb] 22)
  have y2 := cell_alloc hS3.c1 (.cells #[.slice ab nb cb] 22)
  have B4 : Hid (Below w.heap.size w (w3.alloc (.cells #[.slice ab nb cb] 22))) := Lib.hid ((B2.out.trans (B3.out.mono B2.out.size)).alloc (by have := B2.out.size; omega) _)
  have Y3 : Hid ((w3.alloc (.cells #[.slice ab nb cb] 22)).cell? ⟨w3.heap.size, 0, none⟩ = some (.slice ab nb cb)) := Lib.hid (by go_cell)
  have X4 : Hid (SBlk (w3.alloc (.cells #[.slice ab nb cb] 22)) (w.heap.size + 1) x.i x.t (.slice am x.ms.length cm) (.slice a x.d.length c)) := Lib.hid ((S2.out.kept (Kept.of_below B3.out (S := fun _ => False) fun k h1 h2 => by omega) (fun h => h)).kept (Kept.alloc _ _ (fun _ => False)) (fun h => h))
  clear hS3 c3 r3'
  have hbc : w3.heap.size < (w3.alloc (.cells #[.slice ab nb cb] 22)).heap.size := by simp
  have HB4 : Hid (Bytes (w3.alloc (.cells #[.slice ab nb cb] 22)) (.slice ab nb cb) (frP 4 (snapW x))) := Lib.hid (HB3.out.alloc _)
  generalize w3.heap.size = bc at *
  generalize World.alloc w3 _ = w4 at *
  go_quiet (fail)
  have IQ : Hid (Below w.heap.size w (w4.drewN nq)) := Lib.hid (below_drewN B4.out nq)
  have YQ : Hid ((w4.drewN nq).cell? ⟨w.heap.size, 0, none⟩ = some (.pointer (some ⟨sb, 0, none⟩)) ∧ (w4.drewN nq).cell? ⟨bc, 0, none⟩ = some (.slice ab nb cb) ∧ SBlk (w4.drewN nq) (w.heap.size + 1) x.i x.t (.slice am x.ms.length cm) (.slice a x.d.length c) ∧ Bytes (w4.drewN nq) (.slice ab nb cb) (frP 4 (snapW x)) ∧ bc < (w4.drewN nq).heap.size) := by
    have k := below_drewN (Below.refl w4.heap.size w4) nq
    exact Lib.hid ⟨Below.at k y0 (World.block_lt_of_cell? _ _ y0), Below.at k Y3.out hbc, X4.out.below k, HB4.out.below k, Nat.lt_of_lt_of_le hbc k.size⟩
  clear y0 y1 y2 hbc
  generalize w4.drewN nq = wq at IQ YQ ⊢
  have z0 := YQ.out.1
  have hmf : ∀ (fn : Fn) (first cap : Array Value) (w : World), (Instr.makeFunc fn first cap).run Tryz.prog w = .ok (.func fn first cap) w := fun _ _ _ _ => rfl
  go_wp2_with fail
  have l3' : w2.heap.size ≤ bc := l3
  have hW0s : wq.heap.size ≤ (World.alloc wq (.cells #[.func (Fn.func 41) #[.pointer (some ⟨sb, 0, none⟩)] #[], .func (Fn.func 73) #[] #[.pointer (some ⟨w.heap.size, 0, none⟩), .pointer (some ⟨bc, 0, none⟩)], .func (Fn.func 74) #[] #[.pointer (some ⟨w.heap.size, 0, none⟩)], .func (Fn.func 76) #[] #[.pointer (some ⟨w.heap.size, 0, none⟩)]] 134)).heap.size := by simp
  clear hW0s
  generalize hW0 : World.alloc wq _ = W0
  have BW0 : Below wq.heap.size wq W0 := by subst hW0; exact (Below.refl _ _).alloc (Nat.le_refl _) _
  clear hW0
  have T0 : Hid (W0.cell? ⟨w.heap.size, 0, none⟩ = some (.pointer (some ⟨sb, 0, none⟩)) ∧ W0.cell? ⟨bc, 0, none⟩ = some (.slice ab nb cb) ∧ SBlk W0 (w.heap.size + 1) x.i x.t (.slice am x.ms.length cm) (.slice a x.d.length c) ∧ Bytes W0 (.slice ab nb cb) (frP 4 (snapW x))) :=
    Lib.hid ⟨Below.at BW0 YQ.out.1 (World.block_lt_of_cell? _ _ YQ.out.1), Below.at BW0 YQ.out.2.1 YQ.out.2.2.2.2, YQ.out.2.2.1.below BW0, YQ.out.2.2.2.1.below BW0⟩
  have IW : Hid (Below w.heap.size w W0) := Lib.hid (IQ.out.trans (BW0.mono IQ.out.size))
  have DW := Lib.hid (D0.out.below IW.out)
  have HW := Lib.hid (H.out.below IW.out)
  have N3 : Hid (¬ Own3 db mb tb w.heap.size ∧ ¬ Own3 db mb tb (w.heap.size + 1) ∧ ¬ Own3 db mb tb bc ∧ ∀ g, (Value.slice ab nb cb).ownBlock = some g → ¬ Own3 db mb tb g) := Lib.hid ⟨fun e => by have := D0.out.lt3 _ e; omega, fun e => by have := D0.out.lt3 _ e; omega, fun e => by have := D0.out.lt3 _ e; omega, fun g hg e => by have := D0.out.lt3 _ e; have := HO3.out g hg; omega⟩
  clear BW0 z0 YQ IQ B4 X4 Y3 HB4 S2 B2 B3 H3 HB3 HO3 l2 l3 l3' hnb
  go_loopw [38] (fun i wr => ∃ (j : Nat) (Dc : DiskS), i = .int .i64 j ∧ ((j = 0 ∧ Dc = D) ∨ (j = 1 ∧ Dc = D1) ∨ (j = 2 ∧ Dc = D2) ∨ (j = 3 ∧ Dc = D3) ∨ (j = 4 ∧ Dc = D4)) ∧ DiskIs wr db mb tb Dc ∧ Kept W0 wr (Own3 db mb tb)) (fun i _ => 4 - (intOf i).toNat)
  case atStart => exact ⟨0, D, rfl, .inl ⟨rfl, rfl⟩, DW.out, Kept.refl _ _⟩
  case round =>
    obtain ⟨j, Dc, rfl, hc, hdr, hkr⟩ := hrel
    have DR := Lib.hid hdr
    have KR := Lib.hid hkr
    have HR : Hid (StoreIs wr sb db mb tb s) := Lib.hid (HW.out.kept hkr)
    have TR : Hid (wr.cell? ⟨w.heap.size, 0, none⟩ = some (.pointer (some ⟨sb, 0, none⟩)) ∧ wr.cell? ⟨bc, 0, none⟩ = some (.slice ab nb cb) ∧ SBlk wr (w.heap.size + 1) x.i x.t (.slice am x.ms.length cm) (.slice a x.d.length c) ∧ Bytes wr (.slice ab nb cb) (frP 4 (snapW x))) :=
      Lib.hid ⟨hkr.cell T0.out.1 N3.out.1, hkr.cell T0.out.2.1 N3.out.2.2.1, T0.out.2.2.1.kept hkr N3.out.2.1, T0.out.2.2.2.kept hkr N3.out.2.2.2⟩
    have HC : Hid (wr.cell? ⟨sb, 0, none⟩ = some (.pointer (some ⟨db, 0, none⟩))) := Lib.hid (by obtain ⟨_, _, h, _⟩ := HR.out; exact h.c0)
    clear hdr hkr
    rcases hc with ⟨rfl, rfl⟩ | ⟨rfl, rfl⟩ | ⟨rfl, rfl⟩ | ⟨rfl, rfl⟩ | ⟨rfl, rfl⟩
    · rw [show ((0 : Nat) : Int) = 0 from rfl]
      have hix := fun w0 => idx_fn (.func (Fn.func 41) #[.pointer (some ⟨sb, 0, none⟩)] #[]) (.func (Fn.func 73) #[] #[.pointer (some ⟨w.heap.size, 0, none⟩), .pointer (some ⟨bc, 0, none⟩)]) (.func (Fn.func 74) #[] #[.pointer (some ⟨w.heap.size, 0, none⟩)]) (.func (Fn.func 76) #[] #[.pointer (some ⟨w.heap.size, 0, none⟩)]) _ 0 w0 rfl
      rw [show ((0 : Nat) : Int) = 0 from rfl] at hix
      go_wp2_with fail
      refine (sgone_any sb db mb tb _ wr HC.out DR.out G0.out).mono ?_
      rintro e w5 ⟨rfl, hd5, hk5⟩
      rw [E1.out] at hd5 ⊢
      have D5 := Lib.hid hd5
      have K5 := Lib.hid (KR.out.trans hk5)
      clear hd5 hk5 hix
      go_wp2_with fail
      go_roundw
      case rel => exact ⟨1, D1, by first | rfl | go_num, .inr (.inl ⟨rfl, rfl⟩), D5.out, K5.out⟩
      all_goals (show 4 - ((1 : Int)).toNat < 4 - ((0 : Int)).toNat; decide)
    · rw [show ((1 : Nat) : Int) = 1 from rfl]
      have hix := fun w0 => idx_fn (.func (Fn.func 41) #[.pointer (some ⟨sb, 0, none⟩)] #[]) (.func (Fn.func 73) #[] #[.pointer (some ⟨w.heap.size, 0, none⟩), .pointer (some ⟨bc, 0, none⟩)]) (.func (Fn.func 74) #[] #[.pointer (some ⟨w.heap.size, 0, none⟩)]) (.func (Fn.func 76) #[] #[.pointer (some ⟨w.heap.size, 0, none⟩)]) _ 1 w0 rfl
      rw [show ((1 : Nat) : Int) = 1 from rfl] at hix
      go_wp2_with fail
      refine (save1_any w.heap.size bc sb db mb tb _ ab nb cb _ wr TR.out.1 TR.out.2.1 HC.out DR.out G1.out TR.out.2.2.2).mono ?_
      rintro e w5 ⟨rfl, hd5, hk5⟩
      rw [E2.out] at hd5 ⊢
      have D5 := Lib.hid hd5
      have K5 := Lib.hid (KR.out.trans hk5)
      clear hd5 hk5 hix
      go_wp2_with fail
      go_roundw
      case rel => exact ⟨2, D2, by first | rfl | go_num, .inr (.inr (.inl ⟨rfl, rfl⟩)), D5.out, K5.out⟩
      all_goals (show 4 - ((2 : Int)).toNat < 4 - ((1 : Int)).toNat; decide)
    · rw [show ((2 : Nat) : Int) = 2 from rfl]
      have hix := fun w0 => idx_fn (.func (Fn.func 41) #[.pointer (some ⟨sb, 0, none⟩)] #[]) (.func (Fn.func 73) #[] #[.pointer (some ⟨w.heap.size, 0, none⟩), .pointer (some ⟨bc, 0, none⟩)]) (.func (Fn.func 74) #[] #[.pointer (some ⟨w.heap.size, 0, none⟩)]) (.func (Fn.func 76) #[] #[.pointer (some ⟨w.heap.size, 0, none⟩)]) _ 2 w0 rfl
      rw [show ((2 : Nat) : Int) = 2 from rfl] at hix
      go_wp2_with fail
      refine (save2_any w.heap.size sb db mb tb _ wr TR.out.1 HC.out DR.out G2.out).mono ?_
      rintro e w5 ⟨rfl, hd5, hk5⟩
      rw [E3.out] at hd5 ⊢
      have D5 := Lib.hid hd5
      have K5 := Lib.hid (KR.out.trans hk5)
      clear hd5 hk5 hix
      go_wp2_with fail
      go_roundw
      case rel => exact ⟨3, D3, by first | rfl | go_num, .inr (.inr (.inr (.inl ⟨rfl, rfl⟩))), D5.out, K5.out⟩
      all_goals (show 4 - ((3 : Int)).toNat < 4 - ((2 : Int)).toNat; decide)
    · rw [show ((3 : Nat) : Int) = 3 from rfl]
      have hix := fun w0 => idx_fn (.func (Fn.func 41) #[.pointer (some ⟨sb, 0, none⟩)] #[]) (.func (Fn.func 73) #[] #[.pointer (some ⟨w.heap.size, 0, none⟩), .pointer (some ⟨bc, 0, none⟩)]) (.func (Fn.func 74) #[] #[.pointer (some ⟨w.heap.size, 0, none⟩)]) (.func (Fn.func 76) #[] #[.pointer (some ⟨w.heap.size, 0, none⟩)]) _ 3 w0 rfl
      rw [show ((3 : Nat) : Int) = 3 from rfl] at hix
      go_wp2_with fail
      refine (save3_any w.heap.size sb db mb tb _ wr TR.out.1 HC.out DR.out G3.out).mono ?_
      rintro e w5 ⟨rfl, hd5, hk5⟩
      rw [E4.out] at hd5 ⊢
      have D5 := Lib.hid hd5
      have K5 := Lib.hid (KR.out.trans hk5)
      clear hd5 hk5 hix
      go_wp2_with fail
      go_roundw
      case rel => exact ⟨4, D4, by first | rfl | go_num, .inr (.inr (.inr (.inr (⟨rfl, rfl⟩)))), D5.out, K5.out⟩
      all_goals (show 4 - ((4 : Int)).toNat < 4 - ((3 : Int)).toNat; decide)
    · rw [show ((4 : Nat) : Int) = 4 from rfl]
      go_wp2_with fail
      obtain ⟨mvs, dvs, hS5, hms, hds, _, _, hno⟩ := HR.out
      have HS5 := Lib.hid hS5
      have HNO := Lib.hid hno
      have HMV : Hid (∀ x, mvs ≠ .int .u8 x) := Lib.hid (by obtain ⟨_, _, e, _⟩ := hms.shape; rw [e]; exact fun x h => by cases h)
      have HDV : Hid (∀ x, dvs ≠ .int .u8 x) := Lib.hid (by obtain ⟨_, _, e, _⟩ := hds.shape; rw [e]; exact fun x h => by cases h)
      have hlw : w.heap.size < wr.heap.size := World.block_lt_of_cell? _ _ TR.out.1
      have ST := Stable.from wr
      have KW : Hid (Kept w wr (Own3 db mb tb)) := Lib.hid ((Kept.below3 IW.out).trans KR.out)
      clear hS5 hno hms hds
      refine region_start [0, 0, 2, 7, 15, 31] 4 (fun w' => Below wr.heap.size wr w') (by kernel_rfl) ?_
      refine stage_heads [0, 1] (by kernel_rfl) (L := #[true, true, false, false, false, false]) (by kernel_rfl) (f' := 4) rfl (fun _ _ _ _ h => h) (fun w o h => ST.alloc h o) (.inr (by first | exact Below.refl _ _ | exact (Below.refl _ _).drew)) ?_
      simp only [List.flatMap_cons, List.flatMap_nil, List.drop_succ_cons, List.drop_zero, List.take_succ_cons, List.take_zero, List.cons_append, List.nil_append, List.append_nil]
      iterate 2 (first | (refine heads_load _ (by rfl) (fun w' hs => by have y0 := Below.at hs TR.out.1 hlw; obtain ⟨r0, r1, r2, r3, _, _, _, _⟩ := TR.out.2.2.1.below hs; go_simp; try with_reducible rfl) rfl ?_; simp only [Act.put, List.setIfInBounds_toArray, List.set_cons_zero, List.set_cons_succ]) | (refine heads_pure _ (by rfl) (fun w' => by go_simp; try with_reducible rfl) ?_; simp only [Act.put, List.setIfInBounds_toArray, List.set_cons_zero, List.set_cons_succ]))
      refine heads_nil ?_
      refine stage_op 2 (by kernel_rfl) (L := #[true, true, true, false, false, false]) (by kernel_rfl) ?_
      simp only [List.drop_succ_cons, List.drop_zero, List.take_succ_cons, List.take_zero]
      go_wp2_with fail; refine (scopy_any _ x _ ((HXK.out wr KW.out).below (by first | exact Below.refl _ _ | exact (Below.refl _ _).drew))).mono ?_; rintro e w6 ⟨v6, rfl, ⟨mv6, dv6, rfl, om, od⟩, hb6⟩; obtain ⟨am6, cm6, rfl⟩ := om.shape; obtain ⟨ad6, cd6, rfl⟩ := od.shape; have OM : Hid (Owns w6 wr.heap.size 3 .i64 (.slice am6 x.ms.length cm6) x.ms) := Lib.hid om; have OD : Hid (Owns w6 wr.heap.size 5 .u8 (.slice ad6 (ints x.d).length cd6) (ints x.d)) := Lib.hid od; have I6 : Hid (Below wr.heap.size wr w6) := Lib.hid (by first | exact hb6 | exact ((Below.refl _ _).drew).trans hb6); clear om od hb6; go_wp2_with fail
      refine step_post (fun _ => I6.out) ?_
      refine stage_heads [3, 4] (by kernel_rfl) (L := #[true, true, true, true, true, false]) (by kernel_rfl) (f' := 1) rfl (fun _ _ _ _ h => h) (fun w o h => ST.alloc h o) (.inl (by kernel_rfl)) ?_
      simp only [List.flatMap_cons, List.flatMap_nil, List.drop_succ_cons, List.drop_zero, List.take_succ_cons, List.take_zero, List.cons_append, List.nil_append, List.append_nil]
      iterate 2 (refine heads_pure _ (by rfl) (fun w' => by go_simp; try with_reducible rfl) ?_; simp only [Act.put, List.setIfInBounds_toArray, List.set_cons_zero, List.set_cons_succ])
      refine heads_nil ?_
      refine stage_op 5 (by kernel_rfl) (L := #[true, true, true, true, true, true]) (by kernel_rfl) ?_
      simp only [List.drop_succ_cons, List.drop_zero, List.take_succ_cons, List.take_zero]
      obtain ⟨_, k1, k2, k3, k4, f1, f2, f3, f4⟩ := HS5.out.kept (Kept.of_below I6.out (S := fun _ => False) fun k h1 h2 => by omega) (fun h => h); go_wp2_with fail
      refine step_post nofun ?_
      refine stage_done (by kernel_rfl) ?_
      generalize hwF : World.setCell _ _ _ = wF
      have S6 : Hid (SBlk5 w6 sb db s.i s.t mvs dvs) := Lib.hid (HS5.out.kept (Kept.of_below I6.out (S := fun _ => False) fun k h1 h2 => by omega) (fun h => h))
      have KF : Hid (Kept w6 wF (fun k => k = sb)) := Lib.hid (by subst hwF; exact Kept.set5 _ _ _ _ _ _)
      have SF : Hid (SBlk5 wF sb db x.i x.t (.slice am6 x.ms.length cm6) (.slice ad6 (ints x.d).length cd6)) := Lib.hid (by subst hwF; exact S6.out.set4 _ _ _ _)
      have DF : Hid (DiskIs wF db mb tb Dc) := Lib.hid (by subst hwF; exact (DR.out.below I6.out).set5 S6.out HNO.out HMV.out HDV.out _ _ _ _)
      have hsw := HS5.out.lt
      have NW : Hid (∀ g, wr.heap.size ≤ g → ¬ Own3 db mb tb g ∧ g ≠ sb) := Lib.hid fun g hg => ⟨fun e => by have := DR.out.lt3 _ e; omega, by omega⟩
      have HXD : Hid ((∀ c ∈ x.d, c < 256) ∧ x.d.length ≤ 2097152 ∧ x.ms.length ≤ 2097152) := Lib.hid (by obtain ⟨_, _, _, h1, h2⟩ := HX.out; exact ⟨h2.lt, h2.small, h1.small⟩)
      clear hwF k1 k2 k3 k4 f1 f2 f3 f4
      go_wp2_with fail
      go_ret
      refine ⟨rfl, DF.out, ⟨_, _, SF.out, Ints.of_owns (OM.out.kept KF.out fun g hg => (NW.out g (OM.out.lt g hg).1).2) HXD.out.2.2, Bytes.of_owns (OD.out.kept KF.out fun g hg => (NW.out g (OD.out.lt g hg).1).2) HXD.out.1 HXD.out.2.1, fun g hg => NW.out g (OM.out.lt g hg).1, fun g hg => NW.out g (OD.out.lt g hg).1, HNO.out⟩, ?_⟩
      refine (KW.out.mono fun k _ h => .inl h).trans (Kept.trans ?_ (KF.out.mono fun k _ h => .inr h))
      exact Kept.of_below I6.out fun k h1 h2 => by omega
end Go.Proofs.YtofhccpagnkalaaGreat

/- The store's Save, every way; no conditions but the ranges. -/
namespace Go.Proofs.YtofhccpagnkalaaGreat
open Go.RowKit Go.Maps Go.Proofs.Own

/-- The four steps of a Save of the bytes b. -/
def save4 (D : DiskS) (b : List Nat) : DiskS × Nat :=
  if (goneD D).2 ≠ 0 then goneD D else if (appendD (goneD D).1 nOther b).2 ≠ 0 then appendD (goneD D).1 nOther b
  else if (syncD (appendD (goneD D).1 nOther b).1 nOther).2 ≠ 0 then syncD (appendD (goneD D).1 nOther b).1 nOther
  else moveD (syncD (appendD (goneD D).1 nOther b).1 nOther).1 nOther nSnap
def saveD (D : DiskS) (s x : SnapS) : DiskS × Nat := if ¬ x.ok then (D, 2) else if x.i ≤ s.i then (D, 34) else save4 D (frP 4 (snapW x))
theorem save4_good {D : DiskS} (b : List Nat) (h : DGood D) (hs : D.steps + 4 ≤ 1000000000) : DGood (save4 D b).1 ∧ (save4 D b).1.steps ≤ D.steps + 4 := by
  have h1 := goneD_good h (by omega)
  have h2 := h1.1.append nOther b (by omega)
  have h3 := h2.1.sync nOther (by omega)
  have h4 := h3.1.move nOther nSnap (by omega)
  unfold save4
  split
  · exact ⟨h1.1, by omega⟩
  · split
    · exact ⟨h2.1, by omega⟩
    · split
      · exact ⟨h3.1, by omega⟩
      · exact ⟨h4.1, by omega⟩
theorem saveD_good {D : DiskS} (s x : SnapS) (h : DGood D) (hs : D.steps + 4 ≤ 1000000000) : DGood (saveD D s x).1 ∧ (saveD D s x).1.steps ≤ D.steps + 4 := by
  unfold saveD
  split
  · exact ⟨h, by simp only; omega⟩
  · split
    · exact ⟨h, by simp only; omega⟩
    · exact save4_good _ h hs
set_option maxHeartbeats 1600000 in
set_option maxRecDepth 20000 in
theorem ssave_bad (sb db mb tb : Nat) (s x : SnapS) (v : Value) (w : World) (h : StoreIs w sb db mb tb s) (hx : SnapIs w v x) (hok : ¬ x.ok) :
    Calls Tryz.prog 29 #[.pointer (some ⟨sb, 0, none⟩), v] w fun e w' => e = .returned (.int .i64 2) ∧ Below w.heap.size w w' := by
  have H := Lib.hid h
  have HX := Lib.hid hx
  have HOK := Lib.hid hok
  obtain ⟨mv, dv, rfl, hm, hd⟩ := hx
  obtain ⟨a, c, rfl, _⟩ := hd.shape
  obtain ⟨am, cm, rfl, _⟩ := hm.shape
  have hsl := h.lt
  clear h hm hd hok
  go_enter Tryz.func29, Tryz.ntmps29
  go_wp2_with fail
  generalize hw2 : World.alloc (World.alloc w _) _ = w2
  have B2 : Hid (Below w.heap.size w w2) := Lib.hid (by subst hw2; exact ((Below.refl _ _).alloc (Nat.le_refl _) _).alloc (by simp) _)
  have c2 : w2.cell? ⟨w.heap.size, 0, none⟩ = some (.pointer (some ⟨sb, 0, none⟩)) := by subst hw2; go_cell
  have S2 : Hid (SBlk w2 (w.heap.size + 1) x.i x.t (.slice am x.ms.length cm) (.slice a x.d.length c)) := Lib.hid (by
    subst hw2
    have k := SBlk.box (w.alloc (.cells #[.pointer (some ⟨sb, 0, none⟩)] 35)) x.i x.t (.slice am x.ms.length cm) (.slice a x.d.length c)
    simpa using k)
  have l2 : w.heap.size + 1 < w2.heap.size := S2.out.lt
  clear hw2
  refine (snone sb db mb tb s w2 (H.out.below B2.out)).mono ?_
  rintro e w2' ⟨rfl, rfl⟩
  obtain ⟨r0, r1, r2, r3, _, _, _, _⟩ := S2.out
  go_wp2_with fail
  refine (sbytes_no _ x w2 (HX.out.below B2.out) HOK.out).mono ?_
  rintro e w3 ⟨rfl, hb3⟩
  have B3 : Hid (Below w.heap.size w w3) := Lib.hid (B2.out.trans (hb3.mono B2.out.size))
  have c3 := Below.at hb3 c2 (by show w.heap.size < w2.heap.size; omega)
  have r3' := Below.at hb3 r0 l2
  have l3 := hb3.size
  clear hb3 r0 r1 r2 r3 c2
  go_wp2_with fail
  go_ret
  exact ⟨rfl, B3.out.alloc (by have := B3.out.size; omega) _⟩

end Go.Proofs.YtofhccpagnkalaaGreat
