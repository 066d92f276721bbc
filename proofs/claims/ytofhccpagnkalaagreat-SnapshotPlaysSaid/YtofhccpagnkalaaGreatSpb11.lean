/- Several texts in one: Read, Pread, RdEq. What each proves stands ahead of it; together they serve splays_law_holds. No conditions but those stated. -/
import Derived.Test.YtofhccpagnkalaaGreatSpb10
/- The document's Read of a snapshot; no conditions but the ranges. -/
namespace Go.Proofs.YtofhccpagnkalaaGreat
open Go.RowKit Go.Maps Go.Proofs.Own

instance (l : List Nat) : Decidable (WholeOk l) := inferInstanceAs (Decidable (_ ∧ _))
/-- Bytes are those of a sound snapshot (m: the greatest member that is read). -/
def readOk (m : Nat) (l : List Nat) : Prop := WholeOk l ∧ l.getD 1 0 = 4 ∧ endE (getL m (frBody l)) (getB m (frBody l)) = 0 ∧ (getS m (frBody l)).ok
instance (m : Nat) (l : List Nat) : Decidable (readOk m l) := inferInstanceAs (Decidable (_ ∧ _))
def zeroS : SnapS := ⟨0, 0, [], []⟩
def readS (m : Nat) (l : List Nat) : SnapS := if readOk m l then getS m (frBody l) else zeroS
def readB (m : Nat) (l : List Nat) : Bool := decide (readOk m l)
theorem zero_is (w : World) : SnapIs w (.agg #[.int .u64 0, .int .u64 0, .slice none 0 0, .slice none 0 0]) zeroS := ⟨_, _, rfl, Ints.nil w, Bytes.nil w⟩
def ReadNew (b : Bool) (s : SnapS) (w : World) : Ending → World → Prop := fun E w' => ∃ v, E = .returned (.tuple #[v, .bool b]) ∧ SnapIs w' v s ∧ Below w.heap.size w w' ∧ NewRows w.heap.size v
def ReadPost (b : Bool) (s : SnapS) (w : World) : Ending → World → Prop := fun E w' => ∃ v, E = .returned (.tuple #[v, .bool b]) ∧ SnapIs w' v s ∧ Below w.heap.size w w'
theorem read_no {m : Nat} {l : List Nat} (h : ¬ readOk m l) : readB m l = false ∧ readS m l = zeroS := ⟨decide_eq_false h, if_neg h⟩
theorem read_yes {m : Nat} {l : List Nat} (h : readOk m l) : readB m l = true ∧ readS m l = getS m (frBody l) := ⟨decide_eq_true h, if_pos h⟩
/-- A snapshot's new block. -/
theorem SBlk.new (w : World) : SBlk (w.alloc (.cells #[.int .u64 0, .int .u64 0, .slice none 0 0, .slice none 0 0] 40)) w.heap.size 0 0 (.slice none 0 0) (.slice none 0 0) :=
  ⟨by go_cell, by go_cell, by go_cell, by go_cell, by simp, by simp, by simp, by simp⟩
theorem SBlk.set4 {w : World} {b : Nat} {i t : Int} {mv dv : Value} (h : SBlk w b i t mv dv) (i' t' : Int) (mv' dv' : Value) :
    SBlk ((((w.setCell ⟨b, 0, none⟩ (.int .u64 i')).setCell ⟨b, 1, none⟩ (.int .u64 t')).setCell ⟨b, 2, none⟩ mv').setCell ⟨b, 3, none⟩ dv') b i' t' mv' dv' := (((h.set0 i').set1 t').set2 mv').set3 dv'
theorem Reads.setNe {w : World} {k : IntKind} {v : Value} {zs : List Int} (h : Reads w k v zs) {a : Addr} (y : Value) (hne : ∀ x, w.cell? a ≠ some (.int k x)) : Reads (w.setCell a y) k v zs := by
  obtain ⟨ad, c, rfl, hc⟩ := h
  refine ⟨ad, c, rfl, fun j hj => ?_⟩
  obtain ⟨b, o, e, h1⟩ := hc j hj
  refine ⟨b, o, e, ?_⟩
  rw [World.cell?_setCell_other _ _ _ _ (fun e => hne _ (by rw [e]; exact h1))]
  exact h1
theorem Reads.set4 {w : World} {b : Nat} {i t : Int} {mv dv : Value} (S : SBlk w b i t mv dv) {k : IntKind} {v : Value} {zs : List Int} (h : Reads w k v zs) (hk : k ≠ .u64) (hm : ∀ x, mv ≠ .int k x) (hd : ∀ x, dv ≠ .int k x) (i' t' : Int) (mv' dv' : Value) :
    Reads ((((w.setCell ⟨b, 0, none⟩ (.int .u64 i')).setCell ⟨b, 1, none⟩ (.int .u64 t')).setCell ⟨b, 2, none⟩ mv').setCell ⟨b, 3, none⟩ dv') k v zs := by
  have S1 := S.set0 i'
  have S2 := S1.set1 t'
  have S3 := S2.set2 mv'
  refine Reads.setNe (Reads.setNe (Reads.setNe (Reads.setNe h _ fun x e => ?_) _ fun x e => ?_) _ fun x e => ?_) _ fun x e => ?_
  · rw [S.c0] at e; cases e; exact hk rfl
  · rw [S1.c1] at e; cases e; exact hk rfl
  · rw [S2.c2] at e; exact hm x (Option.some.inj e)
  · rw [S3.c3] at e; exact hd x (Option.some.inj e)
theorem SnapIs.set4 {w : World} {b : Nat} {i t : Int} (S : SBlk w b i t (.slice none 0 0) (.slice none 0 0)) {v : Value} {s : SnapS} (h : SnapIs w v s) (i' t' : Int) (mv' dv' : Value) :
    SnapIs ((((w.setCell ⟨b, 0, none⟩ (.int .u64 i')).setCell ⟨b, 1, none⟩ (.int .u64 t')).setCell ⟨b, 2, none⟩ mv').setCell ⟨b, 3, none⟩ dv') v s := by
  obtain ⟨mv, dv, h1, h2, h3⟩ := h
  exact ⟨mv, dv, h1, ⟨h2.shape, Reads.set4 S h2.rd (by decide) nofun nofun i' t' mv' dv', h2.small⟩, ⟨h3.shape, Reads.set4 S h3.rd (by decide) nofun nofun i' t' mv' dv', h3.lt, h3.small⟩⟩
theorem Kept.set4 (w : World) (b : Nat) (i' t' : Int) (mv' dv' : Value) :
    Kept w ((((w.setCell ⟨b, 0, none⟩ (.int .u64 i')).setCell ⟨b, 1, none⟩ (.int .u64 t')).setCell ⟨b, 2, none⟩ mv').setCell ⟨b, 3, none⟩ dv') (fun k => k = b) :=
  (((Kept.setCell w ⟨b, 0, none⟩ _).trans (Kept.setCell _ ⟨b, 1, none⟩ _)).trans (Kept.setCell _ ⟨b, 2, none⟩ _)).trans (Kept.setCell _ ⟨b, 3, none⟩ _)

set_option maxHeartbeats 2000000 in
set_option maxRecDepth 20000 in
theorem rread_no1 (v : Value) (l : List Nat) (w : World) (hB : Bytes w v l) (ht : takeE l ≠ 0) : Calls Tryz.prog 45 #[v] w (ReadPost (readB 6 l) (readS 6 l) w) := by
  have HB := Lib.hid hB
  have HV : Hid (readB 6 l = false ∧ readS 6 l = zeroS) := Lib.hid (read_no fun h => ht h.1.1)
  obtain ⟨k, hk⟩ : ∃ k, k = takeE l := ⟨_, rfl⟩
  have hk0 : ((k : Int) != 0) = true := by simp; omega
  have HK := Lib.hid hk
  have HT := Lib.hid ht
  obtain ⟨a, c, rfl, _⟩ := hB.shape
  clear hB hk ht
  go_enter Tryz.func45, Tryz.ntmps45
  go_wp2_with fail
  refine (rtake_any _ l _ (HB.out.alloc _)).mono ?_
  rintro e w1 ⟨hb1, hno, hyes⟩
  have he := hno HT.out
  subst he
  rw [← HK.out]
  have B1 : Hid (Below w.heap.size w w1) := Lib.hid (((Below.refl w.heap.size w).alloc (Nat.le_refl _) (.cells #[.int .u64 0, .int .u64 0, .slice none 0 0, .slice none 0 0] 40)).trans (hb1.mono (by simp)))
  have S1 : Hid (SBlk w1 w.heap.size 0 0 (.slice none 0 0) (.slice none 0 0)) := Lib.hid ((SBlk.new w).below hb1)
  obtain ⟨r0, r1, r2, r3, q0, q1, q2, q3⟩ := S1.out
  have L1 := S1.out.lt
  clear hb1 hno hyes
  go_wp2_with fail
  generalize hwF : World.setCell _ _ _ = wF
  have KF : Hid (Kept w1 wF (fun k => k = w.heap.size)) := Lib.hid (by subst hwF; exact Kept.set4 _ _ _ _ _ _)
  have HR : Hid (SBlk wF w.heap.size 0 0 (.slice none 0 0) (.slice none 0 0)) := Lib.hid (by subst hwF; exact S1.out.set4 _ _ _ _)
  clear hwF r0 r1 r2 r3 q0 q1 q2 q3
  obtain ⟨z0, z1, z2, z3, _, _, _, _⟩ := HR.out
  refine bodyPost_ret (v := .tuple #[.agg #[.int .u64 0, .int .u64 0, .slice none 0 0, .slice none 0 0], .bool false]) (by simp [results, Tryz.results45, go_sem, z0, z1, z2, z3]) rfl ?_
  rw [HV.out.1, HV.out.2]
  exact ⟨_, rfl, zero_is _, B1.out.trans ((KF.out.below (B := w.heap.size) B1.out.size (fun k hk => by omega)))⟩

set_option maxHeartbeats 2000000 in
set_option maxRecDepth 20000 in
theorem rread_no2 (v : Value) (l : List Nat) (w : World) (hB : Bytes w v l) (ht : takeE l = 0) (hk : l.getD 1 0 ≠ 4 ∨ frN l + 8 ≠ l.length) : Calls Tryz.prog 45 #[v] w (ReadPost (readB 6 l) (readS 6 l) w) := by
  have HB := Lib.hid hB
  have HV : Hid (readB 6 l = false ∧ readS 6 l = zeroS) := Lib.hid (read_no fun h => hk.elim (fun g => g h.2.1) (fun g => g h.1.2))
  have HT := Lib.hid ht
  have hx : l.getD 1 0 < 256 := hB.getD_lt 1
  obtain ⟨a, c, rfl, _⟩ := hB.shape
  have hkk : (((l.getD 1 0 : Nat) : Int) != 4) = true ∨ ((((l.getD 1 0 : Nat) : Int) != 4) = false ∧ (((frN l + 8 : Nat) : Int) != (l.length : Int)) = true) := by
    by_cases h4 : l.getD 1 0 = 4
    · rw [h4]
      refine .inr ⟨rfl, bne_iff_ne.2 ?_⟩
      rcases hk with h | h
      · exact absurd h4 h
      · omega
    · exact .inl (bne_iff_ne.2 (by omega))
  clear hB ht hk
  generalize hnn : frN l + 8 = n at hkk
  have HN := Lib.hid hnn
  generalize hxx : l.getD 1 0 = x at hkk hx
  have HX := Lib.hid hxx
  clear hnn hxx
  rcases hkk with k1 | ⟨k1, k2⟩
  all_goals
    go_enter Tryz.func45, Tryz.ntmps45
    go_wp2_with fail
    refine (rtake_any _ l _ (HB.out.alloc _)).mono ?_
    rintro e w1 ⟨hb1, hno, hyes⟩
    obtain ⟨v1, rfl, hB1⟩ := hyes HT.out
    rw [HN.out, HX.out]
    clear hB1
    have B1 : Hid (Below w.heap.size w w1) := Lib.hid (((Below.refl w.heap.size w).alloc (Nat.le_refl _) (.cells #[.int .u64 0, .int .u64 0, .slice none 0 0, .slice none 0 0] 40)).trans (hb1.mono (by simp)))
    have S1 : Hid (SBlk w1 w.heap.size 0 0 (.slice none 0 0) (.slice none 0 0)) := Lib.hid ((SBlk.new w).below hb1)
    obtain ⟨r0, r1, r2, r3, q0, q1, q2, q3⟩ := S1.out
    have L1 := S1.out.lt
    clear hb1 hno hyes
    go_wp2_with fail
    generalize hwF : World.setCell _ _ _ = wF
    have KF : Hid (Kept w1 wF (fun k => k = w.heap.size)) := Lib.hid (by subst hwF; exact Kept.set4 _ _ _ _ _ _)
    have HR : Hid (SBlk wF w.heap.size 0 0 (.slice none 0 0) (.slice none 0 0)) := Lib.hid (by subst hwF; exact S1.out.set4 _ _ _ _)
    clear hwF r0 r1 r2 r3 q0 q1 q2 q3
    obtain ⟨z0, z1, z2, z3, _, _, _, _⟩ := HR.out
    refine bodyPost_ret (v := .tuple #[.agg #[.int .u64 0, .int .u64 0, .slice none 0 0, .slice none 0 0], .bool false]) (by simp [results, Tryz.results45, go_sem, z0, z1, z2, z3]) rfl ?_
    rw [HV.out.1, HV.out.2]
    exact ⟨_, rfl, zero_is _, B1.out.trans ((KF.out.below (B := w.heap.size) B1.out.size (fun k hk => by omega)))⟩

set_option maxHeartbeats 2000000 in
set_option maxRecDepth 20000 in
theorem rread_end (v : Value) (l : List Nat) (w : World) (hB : Bytes w v l) (ht : takeE l = 0) (h4 : l.getD 1 0 = 4) (hn : frN l + 8 = l.length) (he : endE (getL 6 (frBody l)) (getB 6 (frBody l)) ≠ 0) : Calls Tryz.prog 45 #[v] w (ReadPost (readB 6 l) (readS 6 l) w) := by
  have HB := Lib.hid hB
  have HV : Hid (readB 6 l = false ∧ readS 6 l = zeroS) := Lib.hid (read_no fun h => he h.2.2.1)
  obtain ⟨ee, hee⟩ : ∃ k, endE (getL 6 (frBody l)) (getB 6 (frBody l)) = k := ⟨_, rfl⟩
  have hk0 : ((ee : Int) != 0) = true := bne_iff_ne.2 (by omega)
  have HE := Lib.hid hee
  clear he hee
  have HT := Lib.hid ht
  have HF : Hid (l.getD 1 0 = 4 ∧ frN l + 8 = l.length) := Lib.hid ⟨h4, hn⟩
  obtain ⟨a, c, rfl, _⟩ := hB.shape
  clear hB ht h4 hn
  go_enter Tryz.func45, Tryz.ntmps45
  go_wp2_with fail
  refine (rtake_any _ l _ (HB.out.alloc _)).mono ?_
  rintro e w1 ⟨hb1, hno, hyes⟩
  obtain ⟨v1, rfl, hB1⟩ := hyes HT.out
  rw [HF.out.1, HF.out.2]
  have HB1 := Lib.hid hB1
  obtain ⟨a1, c1, rfl, _⟩ := hB1.shape
  clear hB1
  have B1 : Hid (Below w.heap.size w w1) := Lib.hid (((Below.refl w.heap.size w).alloc (Nat.le_refl _) (.cells #[.int .u64 0, .int .u64 0, .slice none 0 0, .slice none 0 0] 40)).trans (hb1.mono (by simp)))
  have S1 : Hid (SBlk w1 w.heap.size 0 0 (.slice none 0 0) (.slice none 0 0)) := Lib.hid ((SBlk.new w).below hb1)
  obtain ⟨r0, r1, r2, r3, q0, q1, q2, q3⟩ := S1.out
  have L1 := S1.out.lt
  clear hb1 hno hyes
  go_wp2_with fail
  generalize hW2 : World.alloc w1 _ = w2
  have B2 : Hid (Below w1.heap.size w1 w2) := Lib.hid (by subst hW2; exact (Below.refl _ _).alloc (Nat.le_refl _) _)
  have RB : ∃ rb : Nat, rb < w1.heap.size ∧ (frBody l = [] ∨ (Value.slice a1 (frBody l).length c1).ownBlock = some rb) := by
    by_cases h0 : frBody l = []
    · exact ⟨w.heap.size, L1, .inl h0⟩
    · obtain ⟨b, e1, e2⟩ := HB1.out.lt_block h0
      exact ⟨b, e2, .inr e1⟩
  obtain ⟨rb, hrb, hown⟩ := RB
  have R2 : Hid (RdrIs w2 w1.heap.size rb (frBody l) false) := Lib.hid (by
    subst hW2
    exact ⟨⟨_, by go_cell, HB1.out.alloc _, hown⟩, by omega, by go_cell, by simp, by simp⟩)
  have S2 : Hid (SBlk w2 w.heap.size 0 0 (.slice none 0 0) (.slice none 0 0)) := Lib.hid (S1.out.below B2.out)
  have HRB : Hid (rb < w2.heap.size) := Lib.hid (by have := B2.out.size; omega)
  clear hW2 hrb hown r0 r1 r2 r3 q0 q1 q2 q3
  refine (rget_any w1.heap.size (frBody l) false _ R2.out HRB.out).mono ?_
  rintro e w3 ⟨v3, rfl, hs3, hr3, hk3⟩
  rw [Bool.false_or] at hr3
  have R3 := Lib.hid hr3
  have K3 := Lib.hid hk3
  have HS3 := Lib.hid hs3
  have S3 : Hid (SBlk w3 w.heap.size 0 0 (.slice none 0 0) (.slice none 0 0)) := Lib.hid (S2.out.kept K3.out (by omega))
  have B3 : Hid (Below w.heap.size w w3) := Lib.hid ((B1.out.trans (B2.out.mono B1.out.size)).trans (K3.out.below (B := w.heap.size) (Nat.le_trans B1.out.size B2.out.size) (fun k hk => by have := B1.out.size; omega)))
  have HSND : Hid (∀ w4 : World, Below w3.heap.size w3 w4 → SnapIs w4 v3 (getS 6 (frBody l))) := Lib.hid fun w4 hb => HS3.out.below hb
  obtain ⟨mv, dv, rfl, hm, hd⟩ := hs3
  obtain ⟨am, cm, rfl, _⟩ := hm.shape
  obtain ⟨ad, cd, rfl, _⟩ := hd.shape
  clear hr3 hk3 hm hd
  generalize hI : (getS 6 (frBody l)).i = I3 at *
  generalize hT3 : (getS 6 (frBody l)).t = T3 at *
  go_wp2_with fail
  generalize hW4 : World.alloc w3 _ = w4
  have B4 : Hid (Below w3.heap.size w3 w4) := Lib.hid (by subst hW4; exact (Below.refl _ _).alloc (Nat.le_refl _) _)
  have C4 : Hid (SBlk w4 w3.heap.size I3 T3 (.slice am (getS 6 (frBody l)).ms.length cm) (.slice ad (getS 6 (frBody l)).d.length cd)) := Lib.hid (by subst hW4; exact ⟨by go_cell, by go_cell, by go_cell, by go_cell, by simp, by simp, by simp, by simp⟩)
  have S4 : Hid (SBlk w4 w.heap.size 0 0 (.slice none 0 0) (.slice none 0 0)) := Lib.hid (S3.out.below B4.out)
  have R4 : Hid (RdrIs w4 w1.heap.size rb (getL 6 (frBody l)) (getB 6 (frBody l))) := Lib.hid (R3.out.below B4.out)
  have Q4 : Hid (Below w.heap.size w w4) := Lib.hid (B3.out.trans (B4.out.mono B3.out.size))
  clear hW4
  refine (rend_any w1.heap.size _ _ _ R4.out).mono ?_
  rintro e w4' ⟨rfl, rfl⟩
  rw [HE.out]
  obtain ⟨r0, r1, r2, r3, q0, q1, q2, q3⟩ := S4.out
  have L4 := S4.out.lt
  go_wp2_with fail
  generalize hwF : World.setCell _ _ _ = wF
  have KF : Hid (Kept w4 wF (fun k => k = w.heap.size)) := Lib.hid (by subst hwF; exact Kept.set4 _ _ _ _ _ _)
  have HR : Hid (SBlk wF w.heap.size 0 0 (.slice none 0 0) (.slice none 0 0)) := Lib.hid (by subst hwF; exact S4.out.set4 _ _ _ _)
  clear hwF r0 r1 r2 r3 q0 q1 q2 q3
  obtain ⟨z0, z1, z2, z3, _, _, _, _⟩ := HR.out
  refine bodyPost_ret (v := .tuple #[.agg #[.int .u64 0, .int .u64 0, .slice none 0 0, .slice none 0 0], .bool false]) (by simp [results, Tryz.results45, go_sem, z0, z1, z2, z3]) rfl ?_
  rw [HV.out.1, HV.out.2]
  exact ⟨_, rfl, zero_is _, Q4.out.trans ((KF.out.below (B := w.heap.size) Q4.out.size (fun k hk => by omega)))⟩

set_option maxHeartbeats 2000000 in
set_option maxRecDepth 20000 in
theorem rread_bad (v : Value) (l : List Nat) (w : World) (hB : Bytes w v l) (ht : takeE l = 0) (h4 : l.getD 1 0 = 4) (hn : frN l + 8 = l.length) (he : endE (getL 6 (frBody l)) (getB 6 (frBody l)) = 0) (hok : ¬ (getS 6 (frBody l)).ok) : Calls Tryz.prog 45 #[v] w (ReadPost (readB 6 l) (readS 6 l) w) := by
  have HB := Lib.hid hB
  have HV : Hid (readB 6 l = false ∧ readS 6 l = zeroS) := Lib.hid (read_no fun h => hok h.2.2.2)
  have HE := Lib.hid he
  have HOK : Hid ((getS 6 (frBody l)).okB = false) := Lib.hid (decide_eq_false hok)
  clear he hok
  have HT := Lib.hid ht
  have HF : Hid (l.getD 1 0 = 4 ∧ frN l + 8 = l.length) := Lib.hid ⟨h4, hn⟩
  obtain ⟨a, c, rfl, _⟩ := hB.shape
  clear hB ht h4 hn
  go_enter Tryz.func45, Tryz.ntmps45
  go_wp2_with fail
  refine (rtake_any _ l _ (HB.out.alloc _)).mono ?_
  rintro e w1 ⟨hb1, hno, hyes⟩
  obtain ⟨v1, rfl, hB1⟩ := hyes HT.out
  rw [HF.out.1, HF.out.2]
  have HB1 := Lib.hid hB1
  obtain ⟨a1, c1, rfl, _⟩ := hB1.shape
  clear hB1
  have B1 : Hid (Below w.heap.size w w1) := Lib.hid (((Below.refl w.heap.size w).alloc (Nat.le_refl _) (.cells #[.int .u64 0, .int .u64 0, .slice none 0 0, .slice none 0 0] 40)).trans (hb1.mono (by simp)))
  have S1 : Hid (SBlk w1 w.heap.size 0 0 (.slice none 0 0) (.slice none 0 0)) := Lib.hid ((SBlk.new w).below hb1)
  obtain ⟨r0, r1, r2, r3, q0, q1, q2, q3⟩ := S1.out
  have L1 := S1.out.lt
  clear hb1 hno hyes
  go_wp2_with fail
  generalize hW2 : World.alloc w1 _ = w2
  have B2 : Hid (Below w1.heap.size w1 w2) := Lib.hid (by subst hW2; exact (Below.refl _ _).alloc (Nat.le_refl _) _)
  have RB : ∃ rb : Nat, rb < w1.heap.size ∧ (frBody l = [] ∨ (Value.slice a1 (frBody l).length c1).ownBlock = some rb) := by
    by_cases h0 : frBody l = []
    · exact ⟨w.heap.size, L1, .inl h0⟩
    · obtain ⟨b, e1, e2⟩ := HB1.out.lt_block h0
      exact ⟨b, e2, .inr e1⟩
  obtain ⟨rb, hrb, hown⟩ := RB
  have R2 : Hid (RdrIs w2 w1.heap.size rb (frBody l) false) := Lib.hid (by
    subst hW2
    exact ⟨⟨_, by go_cell, HB1.out.alloc _, hown⟩, by omega, by go_cell, by simp, by simp⟩)
  have S2 : Hid (SBlk w2 w.heap.size 0 0 (.slice none 0 0) (.slice none 0 0)) := Lib.hid (S1.out.below B2.out)
  have HRB : Hid (rb < w2.heap.size) := Lib.hid (by have := B2.out.size; omega)
  clear hW2 hrb hown r0 r1 r2 r3 q0 q1 q2 q3
  refine (rget_any w1.heap.size (frBody l) false _ R2.out HRB.out).mono ?_
  rintro e w3 ⟨v3, rfl, hs3, hr3, hk3⟩
  rw [Bool.false_or] at hr3
  have R3 := Lib.hid hr3
  have K3 := Lib.hid hk3
  have HS3 := Lib.hid hs3
  have S3 : Hid (SBlk w3 w.heap.size 0 0 (.slice none 0 0) (.slice none 0 0)) := Lib.hid (S2.out.kept K3.out (by omega))
  have B3 : Hid (Below w.heap.size w w3) := Lib.hid ((B1.out.trans (B2.out.mono B1.out.size)).trans (K3.out.below (B := w.heap.size) (Nat.le_trans B1.out.size B2.out.size) (fun k hk => by have := B1.out.size; omega)))
  have HSND : Hid (∀ w4 : World, Below w3.heap.size w3 w4 → SnapIs w4 v3 (getS 6 (frBody l))) := Lib.hid fun w4 hb => HS3.out.below hb
  obtain ⟨mv, dv, rfl, hm, hd⟩ := hs3
  obtain ⟨am, cm, rfl, _⟩ := hm.shape
  obtain ⟨ad, cd, rfl, _⟩ := hd.shape
  clear hr3 hk3 hm hd
  generalize hI : (getS 6 (frBody l)).i = I3 at *
  generalize hT3 : (getS 6 (frBody l)).t = T3 at *
  go_wp2_with fail
  generalize hW4 : World.alloc w3 _ = w4
  have B4 : Hid (Below w3.heap.size w3 w4) := Lib.hid (by subst hW4; exact (Below.refl _ _).alloc (Nat.le_refl _) _)
  have C4 : Hid (SBlk w4 w3.heap.size I3 T3 (.slice am (getS 6 (frBody l)).ms.length cm) (.slice ad (getS 6 (frBody l)).d.length cd)) := Lib.hid (by subst hW4; exact ⟨by go_cell, by go_cell, by go_cell, by go_cell, by simp, by simp, by simp, by simp⟩)
  have S4 : Hid (SBlk w4 w.heap.size 0 0 (.slice none 0 0) (.slice none 0 0)) := Lib.hid (S3.out.below B4.out)
  have R4 : Hid (RdrIs w4 w1.heap.size rb (getL 6 (frBody l)) (getB 6 (frBody l))) := Lib.hid (R3.out.below B4.out)
  have Q4 : Hid (Below w.heap.size w w4) := Lib.hid (B3.out.trans (B4.out.mono B3.out.size))
  clear hW4
  refine (rend_any w1.heap.size _ _ _ R4.out).mono ?_
  rintro e w4' ⟨rfl, rfl⟩
  rw [HE.out]
  obtain ⟨r0, r1, r2, r3, q0, q1, q2, q3⟩ := S4.out
  obtain ⟨y0, y1, y2, y3, _, _, _, _⟩ := C4.out
  have L4 := S4.out.lt
  have SN4 : Hid (SnapIs w4 (.agg #[.int .u64 I3, .int .u64 T3, .slice am (getS 6 (frBody l)).ms.length cm, .slice ad (getS 6 (frBody l)).d.length cd]) (getS 6 (frBody l))) := Lib.hid (HSND.out w4 B4.out)
  go_wp2_with fail
  refine (rsound_any _ _ _ SN4.out).mono ?_
  rintro e w5 ⟨rfl, hb5⟩
  rw [HOK.out]
  have B5 := Lib.hid hb5
  have S5 : Hid (SBlk w5 w.heap.size 0 0 (.slice none 0 0) (.slice none 0 0)) := Lib.hid (S4.out.below B5.out)
  have C5 : Hid (SBlk w5 w3.heap.size I3 T3 (.slice am (getS 6 (frBody l)).ms.length cm) (.slice ad (getS 6 (frBody l)).d.length cd)) := Lib.hid (C4.out.below B5.out)
  have Q5 : Hid (Below w.heap.size w w5) := Lib.hid (Q4.out.trans (B5.out.mono Q4.out.size))
  clear hb5 r0 r1 r2 r3 q0 q1 q2 q3 y0 y1 y2 y3
  obtain ⟨r0, r1, r2, r3, q0, q1, q2, q3⟩ := S5.out
  obtain ⟨y0, y1, y2, y3, _, _, _, _⟩ := C5.out
  have L5 := S5.out.lt
  go_wp2_with fail
  generalize hwF : World.setCell _ _ _ = wF
  have KF : Hid (Kept w5 wF (fun k => k = w.heap.size)) := Lib.hid (by subst hwF; exact Kept.set4 _ _ _ _ _ _)
  have HR : Hid (SBlk wF w.heap.size 0 0 (.slice none 0 0) (.slice none 0 0)) := Lib.hid (by subst hwF; exact S5.out.set4 _ _ _ _)
  clear hwF r0 r1 r2 r3 q0 q1 q2 q3
  obtain ⟨z0, z1, z2, z3, _, _, _, _⟩ := HR.out
  refine bodyPost_ret (v := .tuple #[.agg #[.int .u64 0, .int .u64 0, .slice none 0 0, .slice none 0 0], .bool false]) (by simp [results, Tryz.results45, go_sem, z0, z1, z2, z3]) rfl ?_
  rw [HV.out.1, HV.out.2]
  exact ⟨_, rfl, zero_is _, Q5.out.trans ((KF.out.below (B := w.heap.size) Q5.out.size (fun k hk => by omega)))⟩

set_option maxHeartbeats 2000000 in
set_option maxRecDepth 20000 in
theorem rread_good (v : Value) (l : List Nat) (w : World) (hB : Bytes w v l) (ht : takeE l = 0) (h4 : l.getD 1 0 = 4) (hn : frN l + 8 = l.length) (he : endE (getL 6 (frBody l)) (getB 6 (frBody l)) = 0) (hok : (getS 6 (frBody l)).ok) : Calls Tryz.prog 45 #[v] w (ReadNew (readB 6 l) (readS 6 l) w) := by
  have HB := Lib.hid hB
  have HV : Hid (readB 6 l = true ∧ readS 6 l = getS 6 (frBody l)) := Lib.hid (read_yes ⟨⟨ht, hn⟩, h4, he, hok⟩)
  have HE := Lib.hid he
  have HOK : Hid ((getS 6 (frBody l)).okB = true) := Lib.hid (decide_eq_true hok)
  clear he hok
  have HT := Lib.hid ht
  have HF : Hid (l.getD 1 0 = 4 ∧ frN l + 8 = l.length) := Lib.hid ⟨h4, hn⟩
  obtain ⟨a, c, rfl, _⟩ := hB.shape
  clear hB ht h4 hn
  go_enter Tryz.func45, Tryz.ntmps45
  go_wp2_with fail
  refine (rtake_any _ l _ (HB.out.alloc _)).mono ?_
  rintro e w1 ⟨hb1, hno, hyes⟩
  obtain ⟨v1, rfl, hB1⟩ := hyes HT.out
  rw [HF.out.1, HF.out.2]
  have HB1 := Lib.hid hB1
  obtain ⟨a1, c1, rfl, _⟩ := hB1.shape
  clear hB1
  have B1 : Hid (Below w.heap.size w w1) := Lib.hid (((Below.refl w.heap.size w).alloc (Nat.le_refl _) (.cells #[.int .u64 0, .int .u64 0, .slice none 0 0, .slice none 0 0] 40)).trans (hb1.mono (by simp)))
  have S1 : Hid (SBlk w1 w.heap.size 0 0 (.slice none 0 0) (.slice none 0 0)) := Lib.hid ((SBlk.new w).below hb1)
  obtain ⟨r0, r1, r2, r3, q0, q1, q2, q3⟩ := S1.out
  have L1 := S1.out.lt
  clear hb1 hno hyes
  go_wp2_with fail
  generalize hW2 : World.alloc w1 _ = w2
  have B2 : Hid (Below w1.heap.size w1 w2) := Lib.hid (by subst hW2; exact (Below.refl _ _).alloc (Nat.le_refl _) _)
  have RB : ∃ rb : Nat, rb < w1.heap.size ∧ (frBody l = [] ∨ (Value.slice a1 (frBody l).length c1).ownBlock = some rb) := by
    by_cases h0 : frBody l = []
    · exact ⟨w.heap.size, L1, .inl h0⟩
    · obtain ⟨b, e1, e2⟩ := HB1.out.lt_block h0
      exact ⟨b, e2, .inr e1⟩
  obtain ⟨rb, hrb, hown⟩ := RB
  have R2 : Hid (RdrIs w2 w1.heap.size rb (frBody l) false) := Lib.hid (by
    subst hW2
    exact ⟨⟨_, by go_cell, HB1.out.alloc _, hown⟩, by omega, by go_cell, by simp, by simp⟩)
  have S2 : Hid (SBlk w2 w.heap.size 0 0 (.slice none 0 0) (.slice none 0 0)) := Lib.hid (S1.out.below B2.out)
  have HRB : Hid (rb < w2.heap.size) := Lib.hid (by have := B2.out.size; omega)
  clear hW2 hrb hown r0 r1 r2 r3 q0 q1 q2 q3
  refine (rget_new w1.heap.size (frBody l) false _ R2.out HRB.out).mono ?_
  rintro e w3 ⟨v3, rfl, hs3, hr3, hk3, hn3⟩
  rw [Bool.false_or] at hr3
  have R3 := Lib.hid hr3
  have K3 := Lib.hid hk3
  have HS3 := Lib.hid hs3
  have S3 : Hid (SBlk w3 w.heap.size 0 0 (.slice none 0 0) (.slice none 0 0)) := Lib.hid (S2.out.kept K3.out (by omega))
  have B3 : Hid (Below w.heap.size w w3) := Lib.hid ((B1.out.trans (B2.out.mono B1.out.size)).trans (K3.out.below (B := w.heap.size) (Nat.le_trans B1.out.size B2.out.size) (fun k hk => by have := B1.out.size; omega)))
  have HSND : Hid (∀ w4 : World, Below w3.heap.size w3 w4 → SnapIs w4 v3 (getS 6 (frBody l))) := Lib.hid fun w4 hb => HS3.out.below hb
  obtain ⟨mv, dv, rfl, hm, hd⟩ := hs3
  obtain ⟨_, _, _, _, he3, hn1, hn2⟩ := hn3
  simp only [Value.agg.injEq, Array.mk.injEq, List.cons.injEq, and_true] at he3
  obtain ⟨rfl, rfl, rfl, rfl⟩ := he3
  obtain ⟨am, cm, rfl, _⟩ := hm.shape
  obtain ⟨ad, cd, rfl, _⟩ := hd.shape
  have HN1 := Lib.hid hn1
  have HN2 := Lib.hid hn2
  clear hr3 hk3 hm hd hn1 hn2
  generalize hI : (getS 6 (frBody l)).i = I3 at *
  generalize hT3 : (getS 6 (frBody l)).t = T3 at *
  go_wp2_with fail
  generalize hW4 : World.alloc w3 _ = w4
  have B4 : Hid (Below w3.heap.size w3 w4) := Lib.hid (by subst hW4; exact (Below.refl _ _).alloc (Nat.le_refl _) _)
  have C4 : Hid (SBlk w4 w3.heap.size I3 T3 (.slice am (getS 6 (frBody l)).ms.length cm) (.slice ad (getS 6 (frBody l)).d.length cd)) := Lib.hid (by subst hW4; exact ⟨by go_cell, by go_cell, by go_cell, by go_cell, by simp, by simp, by simp, by simp⟩)
  have S4 : Hid (SBlk w4 w.heap.size 0 0 (.slice none 0 0) (.slice none 0 0)) := Lib.hid (S3.out.below B4.out)
  have R4 : Hid (RdrIs w4 w1.heap.size rb (getL 6 (frBody l)) (getB 6 (frBody l))) := Lib.hid (R3.out.below B4.out)
  have Q4 : Hid (Below w.heap.size w w4) := Lib.hid (B3.out.trans (B4.out.mono B3.out.size))
  clear hW4
  refine (rend_any w1.heap.size _ _ _ R4.out).mono ?_
  rintro e w4' ⟨rfl, rfl⟩
  rw [HE.out]
  obtain ⟨r0, r1, r2, r3, q0, q1, q2, q3⟩ := S4.out
  obtain ⟨y0, y1, y2, y3, _, _, _, _⟩ := C4.out
  have L4 := S4.out.lt
  have SN4 : Hid (SnapIs w4 (.agg #[.int .u64 I3, .int .u64 T3, .slice am (getS 6 (frBody l)).ms.length cm, .slice ad (getS 6 (frBody l)).d.length cd]) (getS 6 (frBody l))) := Lib.hid (HSND.out w4 B4.out)
  go_wp2_with fail
  refine (rsound_any _ _ _ SN4.out).mono ?_
  rintro e w5 ⟨rfl, hb5⟩
  rw [HOK.out]
  have B5 := Lib.hid hb5
  have S5 : Hid (SBlk w5 w.heap.size 0 0 (.slice none 0 0) (.slice none 0 0)) := Lib.hid (S4.out.below B5.out)
  have C5 : Hid (SBlk w5 w3.heap.size I3 T3 (.slice am (getS 6 (frBody l)).ms.length cm) (.slice ad (getS 6 (frBody l)).d.length cd)) := Lib.hid (C4.out.below B5.out)
  have Q5 : Hid (Below w.heap.size w w5) := Lib.hid (Q4.out.trans (B5.out.mono Q4.out.size))
  clear hb5 r0 r1 r2 r3 q0 q1 q2 q3 y0 y1 y2 y3
  obtain ⟨r0, r1, r2, r3, q0, q1, q2, q3⟩ := S5.out
  obtain ⟨y0, y1, y2, y3, _, _, _, _⟩ := C5.out
  have L5 := S5.out.lt
  go_wp2_with fail
  generalize hwF : World.setCell _ _ _ = wF
  have KF : Hid (Kept w5 wF (fun k => k = w.heap.size)) := Lib.hid (by subst hwF; exact Kept.set4 _ _ _ _ _ _)
  have HR : Hid (SBlk wF w.heap.size I3 T3 (.slice am (getS 6 (frBody l)).ms.length cm) (.slice ad (getS 6 (frBody l)).d.length cd)) := Lib.hid (by subst hwF; exact S5.out.set4 _ _ _ _)
  have HSN : Hid (SnapIs wF (.agg #[.int .u64 I3, .int .u64 T3, .slice am (getS 6 (frBody l)).ms.length cm, .slice ad (getS 6 (frBody l)).d.length cd]) (getS 6 (frBody l))) := Lib.hid (by subst hwF; exact SnapIs.set4 S5.out (SN4.out.below B5.out) _ _ _ _)
  clear hwF r0 r1 r2 r3 q0 q1 q2 q3 y0 y1 y2 y3
  obtain ⟨z0, z1, z2, z3, _, _, _, _⟩ := HR.out
  refine bodyPost_ret (v := .tuple #[.agg #[.int .u64 I3, .int .u64 T3, .slice am (getS 6 (frBody l)).ms.length cm, .slice ad (getS 6 (frBody l)).d.length cd], .bool true]) (by simp [results, Tryz.results45, go_sem, z0, z1, z2, z3]) rfl ?_
  rw [HV.out.1, HV.out.2]
  refine ⟨_, rfl, ?_, Q5.out.trans ((KF.out.below (B := w.heap.size) Q5.out.size (fun k hk => by omega))), _, _, _, _, rfl, fun g hg => by have := HN1.out g hg; have := B1.out.size; have := B2.out.size; omega, fun g hg => by have := HN2.out g hg; have := B1.out.size; have := B2.out.size; omega⟩
  exact HSN.out

theorem rread_any (v : Value) (l : List Nat) (w : World) (hB : Bytes w v l) : Calls Tryz.prog 45 #[v] w (ReadPost (readB 6 l) (readS 6 l) w) := by
  by_cases ht : takeE l = 0
  · by_cases hk : l.getD 1 0 = 4 ∧ frN l + 8 = l.length
    · by_cases he : endE (getL 6 (frBody l)) (getB 6 (frBody l)) = 0
      · by_cases hok : (getS 6 (frBody l)).ok
        · exact (rread_good v l w hB ht hk.1 hk.2 he hok).mono fun E w' ⟨v, h1, h2, h3, _⟩ => ⟨v, h1, h2, h3⟩
        · exact rread_bad v l w hB ht hk.1 hk.2 he hok
      · exact rread_end v l w hB ht hk.1 hk.2 he
    · exact rread_no2 v l w hB ht (by omega)
  · exact rread_no1 v l w hB ht
theorem rread_new (v : Value) (l : List Nat) (w : World) (hB : Bytes w v l) (h : readB 6 l = true) : Calls Tryz.prog 45 #[v] w (ReadNew (readB 6 l) (readS 6 l) w) := by
  obtain ⟨⟨ht, hn⟩, hk, he, hok⟩ := of_decide_eq_true h
  exact rread_good v l w hB ht hk hn he hok
end Go.Proofs.YtofhccpagnkalaaGreat

/- The program's Read of a snapshot; no conditions but the ranges. -/
namespace Go.Proofs.YtofhccpagnkalaaGreat
open Go.RowKit Go.Maps Go.Proofs.Own


set_option maxHeartbeats 4000000 in
set_option maxRecDepth 20000 in
theorem pread_no (v : Value) (l : List Nat) (w : World) (hB : Bytes w v l) (ht : ¬ WholeOk l) : Calls Tryz.prog 43 #[v] w (ReadPost (readB 7 l) (readS 7 l) w) := by
  have HB := Lib.hid hB
  have HV : Hid (readB 7 l = false ∧ readS 7 l = zeroS) := Lib.hid (read_no fun h => ht h.1)
  have HT := Lib.hid ht
  obtain ⟨a, c, rfl, _⟩ := hB.shape
  clear hB ht
  go_enter Tryz.func43, Tryz.ntmps43
  go_wp2_with fail
  refine (whole_any _ l _ (HB.out.alloc _)).mono ?_
  rintro e w1 ⟨hb1, hno, hyes⟩
  have he := hno HT.out
  subst he
  have B1 : Hid (Below w.heap.size w w1) := Lib.hid (((Below.refl w.heap.size w).alloc (Nat.le_refl _) (.cells #[.int .u64 0, .int .u64 0, .slice none 0 0, .slice none 0 0] 40)).trans (hb1.mono (by simp)))
  have S1 : Hid (SBlk w1 w.heap.size 0 0 (.slice none 0 0) (.slice none 0 0)) := Lib.hid ((SBlk.new w).below hb1)
  obtain ⟨r0, r1, r2, r3, q0, q1, q2, q3⟩ := S1.out
  have L1 := S1.out.lt
  clear hb1 hno hyes
  go_wp2_with fail
  generalize hwF : World.setCell _ _ _ = wF
  have KF : Hid (Kept w1 wF (fun k => k = w.heap.size)) := Lib.hid (by subst hwF; exact Kept.set4 _ _ _ _ _ _)
  have HR : Hid (SBlk wF w.heap.size 0 0 (.slice none 0 0) (.slice none 0 0)) := Lib.hid (by subst hwF; exact S1.out.set4 _ _ _ _)
  clear hwF r0 r1 r2 r3 q0 q1 q2 q3
  obtain ⟨z0, z1, z2, z3, _, _, _, _⟩ := HR.out
  refine bodyPost_ret (v := .tuple #[.agg #[.int .u64 0, .int .u64 0, .slice none 0 0, .slice none 0 0], .bool false]) (by simp [results, Tryz.results43, go_sem, z0, z1, z2, z3]) rfl ?_
  rw [HV.out.1, HV.out.2]
  exact ⟨_, rfl, zero_is _, B1.out.trans ((KF.out.below (B := w.heap.size) B1.out.size (fun k hk => by omega)))⟩

set_option maxHeartbeats 4000000 in
set_option maxRecDepth 20000 in
theorem pread_kind (v : Value) (l : List Nat) (w : World) (hB : Bytes w v l) (ht : WholeOk l) (hk : l.getD 1 0 ≠ 4) : Calls Tryz.prog 43 #[v] w (ReadPost (readB 7 l) (readS 7 l) w) := by
  have HB := Lib.hid hB
  have HV : Hid (readB 7 l = false ∧ readS 7 l = zeroS) := Lib.hid (read_no fun h => hk h.2.1)
  have HT := Lib.hid ht
  have hx : l.getD 1 0 < 256 := hB.getD_lt 1
  have hkb : (((l.getD 1 0 : Nat) : Int) != 4) = true := bne_iff_ne.2 (by omega)
  obtain ⟨a, c, rfl, _⟩ := hB.shape
  clear hB ht hk
  generalize hxx : l.getD 1 0 = x at hkb hx
  have HX := Lib.hid hxx
  clear hxx
  go_enter Tryz.func43, Tryz.ntmps43
  go_wp2_with fail
  refine (whole_any _ l _ (HB.out.alloc _)).mono ?_
  rintro e w1 ⟨hb1, hno, hyes⟩
  obtain ⟨v1, rfl, hB1⟩ := hyes HT.out
  rw [HX.out]
  clear hB1
  have B1 : Hid (Below w.heap.size w w1) := Lib.hid (((Below.refl w.heap.size w).alloc (Nat.le_refl _) (.cells #[.int .u64 0, .int .u64 0, .slice none 0 0, .slice none 0 0] 40)).trans (hb1.mono (by simp)))
  have S1 : Hid (SBlk w1 w.heap.size 0 0 (.slice none 0 0) (.slice none 0 0)) := Lib.hid ((SBlk.new w).below hb1)
  obtain ⟨r0, r1, r2, r3, q0, q1, q2, q3⟩ := S1.out
  have L1 := S1.out.lt
  clear hb1 hno hyes
  go_wp2_with fail
  generalize hwF : World.setCell _ _ _ = wF
  have KF : Hid (Kept w1 wF (fun k => k = w.heap.size)) := Lib.hid (by subst hwF; exact Kept.set4 _ _ _ _ _ _)
  have HR : Hid (SBlk wF w.heap.size 0 0 (.slice none 0 0) (.slice none 0 0)) := Lib.hid (by subst hwF; exact S1.out.set4 _ _ _ _)
  clear hwF r0 r1 r2 r3 q0 q1 q2 q3
  obtain ⟨z0, z1, z2, z3, _, _, _, _⟩ := HR.out
  refine bodyPost_ret (v := .tuple #[.agg #[.int .u64 0, .int .u64 0, .slice none 0 0, .slice none 0 0], .bool false]) (by simp [results, Tryz.results43, go_sem, z0, z1, z2, z3]) rfl ?_
  rw [HV.out.1, HV.out.2]
  exact ⟨_, rfl, zero_is _, B1.out.trans ((KF.out.below (B := w.heap.size) B1.out.size (fun k hk => by omega)))⟩

set_option maxHeartbeats 4000000 in
set_option maxRecDepth 20000 in
theorem pread_end (v : Value) (l : List Nat) (w : World) (hB : Bytes w v l) (ht : WholeOk l) (h4 : l.getD 1 0 = 4) (he : endE (getL 7 (frBody l)) (getB 7 (frBody l)) ≠ 0) : Calls Tryz.prog 43 #[v] w (ReadPost (readB 7 l) (readS 7 l) w) := by
  have HB := Lib.hid hB
  have HV : Hid (readB 7 l = false ∧ readS 7 l = zeroS) := Lib.hid (read_no fun h => he h.2.2.1)
  obtain ⟨ee, hee⟩ : ∃ k, endE (getL 7 (frBody l)) (getB 7 (frBody l)) = k := ⟨_, rfl⟩
  have hk0 : ((ee : Int) != 0) = true := bne_iff_ne.2 (by omega)
  have HE := Lib.hid hee
  clear he hee
  have HT := Lib.hid ht
  have HF : Hid (l.getD 1 0 = 4) := Lib.hid h4
  have E59 : Hid ((576460752303423488 : Int).toNat = H59) := Lib.hid rfl
  have E60 : Hid ((1152921504606846976 : Int).toNat = H60) := Lib.hid rfl
  have E7 : Hid ((7 : Int).toNat = 7) := Lib.hid rfl
  obtain ⟨a, c, rfl, _⟩ := hB.shape
  clear hB ht h4
  go_enter Tryz.func43, Tryz.ntmps43
  go_wp2_with fail
  refine (whole_any _ l _ (HB.out.alloc _)).mono ?_
  rintro e w1 ⟨hb1, hno, hyes⟩
  obtain ⟨v1, rfl, hB1⟩ := hyes HT.out
  rw [HF.out]
  have HB1 := Lib.hid hB1
  have RB : ∃ rb : Nat, rb < w1.heap.size ∧ (frBody l = [] ∨ v1.ownBlock = some rb) := by
    by_cases h0 : frBody l = []
    · exact ⟨w.heap.size, ((SBlk.new w).below hb1).lt, .inl h0⟩
    · obtain ⟨b, e1, e2⟩ := HB1.out.lt_block h0
      exact ⟨b, e2, .inr e1⟩
  obtain ⟨rb, hrb, hown⟩ := RB
  have HO := Lib.hid hown
  clear hown
  obtain ⟨a1, c1, rfl, _⟩ := hB1.shape
  clear hB1
  have B1 : Hid (Below w.heap.size w w1) := Lib.hid (((Below.refl w.heap.size w).alloc (Nat.le_refl _) (.cells #[.int .u64 0, .int .u64 0, .slice none 0 0, .slice none 0 0] 40)).trans (hb1.mono (by simp)))
  have S1 : Hid (SBlk w1 w.heap.size 0 0 (.slice none 0 0) (.slice none 0 0)) := Lib.hid ((SBlk.new w).below hb1)
  obtain ⟨r0, r1, r2, r3, q0, q1, q2, q3⟩ := S1.out
  have L1 := S1.out.lt
  clear hb1 hno hyes
  go_wp2_with fail
  refine (qopen_any _ (frBody l) _ HB1.out HO.out (by omega)).mono ?_
  rintro e w2 ⟨rfl, h2, hb2⟩
  have R2 := Lib.hid h2
  have B2 := Lib.hid hb2
  have hs2 := hb2.size
  have L2 := h2.lt
  clear h2 hb2 r0 r1 r2 r3 q0 q1 q2 q3
  have S2 : Hid (SBlk w2 w.heap.size 0 0 (.slice none 0 0) (.slice none 0 0)) := Lib.hid (S1.out.below B2.out)
  generalize hbd : frBody l = bd at *
  go_wp2_with fail
  refine (qnum_any w1.heap.size 576460752303423488 bd false _ R2.out (by decide) (by decide)).mono ?_
  rintro e w3 ⟨rfl, h1, k1⟩
  rw [E59.out] at h1 ⊢
  have R3 : Hid (RdrIs w3 w1.heap.size rb (rest1 bd) (numB H59 bd)) := Lib.hid (by rw [Bool.false_or] at h1; exact h1)
  have K3 := Lib.hid k1
  have hs3 := k1.size
  clear h1 k1
  go_wp2_with fail
  refine (qnum_any w1.heap.size 1152921504606846976 (rest1 bd) _ _ R3.out (by decide) (by decide)).mono ?_
  rintro e w4 ⟨rfl, h1, k1⟩
  rw [E60.out] at h1 ⊢
  have R4 := Lib.hid h1
  have K4 := Lib.hid k1
  have hs4 := k1.size
  clear h1 k1
  have A4 : Hid (Kept w2 w4 (fun k => k = w1.heap.size)) := Lib.hid (K3.out.trans K4.out)
  go_wp2_with fail
  generalize hW : World.alloc w4 _ = w5
  have B5 : Hid (Below w4.heap.size w4 w5) := Lib.hid (by subst hW; exact (Below.refl _ _).alloc (Nat.le_refl _) _)
  have S5 : Hid (SBlk w5 w4.heap.size (numV H59 bd) (numV H60 (rest1 bd)) (.slice none 0 0) (.slice none 0 0)) := Lib.hid (by subst hW; exact ⟨by go_cell, by go_cell, by go_cell, by go_cell, by simp, by simp, by simp, by simp⟩)
  clear hW
  have R5 : Hid (RdrIs w5 w1.heap.size rb (rest2 bd) (numB H59 bd || numB H60 (rest1 bd))) := Lib.hid (R4.out.below B5.out)
  have T5 : Hid (SBlk w5 w.heap.size 0 0 (.slice none 0 0) (.slice none 0 0)) := Lib.hid (((S2.out.kept A4.out (by omega))).below B5.out)
  have A5 : Hid (Kept w2 w5 (fun k => k = w1.heap.size)) := Lib.hid (A4.out.trans (Kept.of_below B5.out (S := fun k => k = w1.heap.size) (fun k h1 h2 => by omega)))
  have hsb := S5.out.lt
  generalize hSB : w4.heap.size = sb at *
  have hsb2 : w2.heap.size ≤ sb := by omega
  refine (qnum_any w1.heap.size 7 (rest2 bd) _ _ R5.out (by decide) (by decide)).mono ?_
  rintro e w6 ⟨rfl, h1, k1⟩
  rw [E7.out] at h1 ⊢
  have hn7 : ((memN bd : Nat) : Int) ≤ 7 := by have := memN_le bd; omega
  have R6 : Hid (RdrIs w6 w1.heap.size rb (rest3 bd) ((numB H59 bd || numB H60 (rest1 bd)) || numB 7 (rest2 bd))) := Lib.hid h1
  have K6 := Lib.hid k1
  have hs6 := k1.size
  clear h1 k1
  rw [show numV 7 (rest2 bd) = memN bd from rfl]
  have S6 : Hid (SBlk w6 sb (numV H59 bd) (numV H60 (rest1 bd)) (.slice none 0 0) (.slice none 0 0)) := Lib.hid (S5.out.kept K6.out (by omega))
  have T6 : Hid (SBlk w6 w.heap.size 0 0 (.slice none 0 0) (.slice none 0 0)) := Lib.hid (T5.out.kept K6.out (by omega))
  have A6 : Hid (Kept w2 w6 (fun k => k = w1.heap.size)) := Lib.hid (A5.out.trans K6.out)
  generalize hX : ((numB H59 bd || numB H60 (rest1 bd)) || numB 7 (rest2 bd)) = bad3 at R6
  have HBX := Lib.hid hX
  clear hX
  go_wp2_with fail
  go_loopw [31] (fun x wr => ∃ (k : Nat) (mv : Value), k ≤ memN bd ∧ x = .int .u64 k ∧ MemI w2 w1.heap.size rb 7 (rest3 bd) bad3 sb w.heap.size (sb + 1) (numV H59 bd) (numV H60 (rest1 bd)) k mv wr) (fun x _ => memN bd - (intOf x).toNat)
  case atStart => exact ⟨0, _, Nat.zero_le _, rfl, by rw [memL, memB, Bool.or_false]; exact R6.out, S6.out, T6.out, Owns.nil _ _ _ _, A6.out, by omega⟩
  case round =>
    obtain ⟨k, mv, hk, rfl, hI⟩ := hrel
    have I := Lib.hid hI
    have hsz := hI.le
    clear hI
    by_cases hlt : k < memN bd
    · have hv6 : ((numV 7 (memL 7 k (rest3 bd)) : Nat) : Int) ≤ 7 := by have := numV_le 7 (memL 7 k (rest3 bd)); omega
      have hki : (k : Int) < (memN bd : Int) := by omega
      have HLN : Hid ((memV 7 k (rest3 bd)).length + [((numV 7 (memL 7 k (rest3 bd)) : Nat) : Int)].length ≤ 4294967296) := Lib.hid (by rw [length_memV]; simp only [List.length_cons, List.length_nil]; have := memN_le bd; omega)
      have hw6 : IntKind.i64.wrap ((numV 7 (memL 7 k (rest3 bd)) : Nat) : Int) = ((numV 7 (memL 7 k (rest3 bd)) : Nat) : Int) := by simp only [IntKind.wrap_i64]; omega
      go_wp2_with fail
      refine region_start [0, 1, 0, 4, 12, 28, 63, 127, 255] 24 (fun w' => w'.cell? ⟨sb, 2, none⟩ = some mv) (by kernel_rfl) ?_
      refine stage_heads [0, 1, 2] (by kernel_rfl) (L := #[true, true, true, false, false, false, false, false, false]) (by kernel_rfl) (f' := 6) rfl (fun _ _ _ _ h => h) (fun w o h => (Stable.cell _ _).alloc h o) (.inr I.out.sn.c2) ?_
      simp only [List.flatMap_cons, List.flatMap_nil, List.drop_succ_cons, List.drop_zero, List.take_succ_cons, List.take_zero, List.cons_append, List.nil_append, List.append_nil]
      iterate 3 (first | (refine heads_load _ (by rfl) (fun w' hs => by have y0 := hs; go_simp; try with_reducible rfl) rfl ?_; simp only [Act.put, List.setIfInBounds_toArray, List.set_cons_zero, List.set_cons_succ]) | (refine heads_pure _ (by rfl) (fun w' => by go_simp; try with_reducible rfl) ?_; simp only [Act.put, List.setIfInBounds_toArray, List.set_cons_zero, List.set_cons_succ]))
      refine heads_nil ?_
      refine stage_op 3 (by kernel_rfl) (L := #[true, true, true, true, false, false, false, false, false]) (by kernel_rfl) ?_
      simp only [List.drop_succ_cons, List.drop_zero, List.take_succ_cons, List.take_zero]
      go_wp2_with fail; refine (qnum_any w1.heap.size 7 _ _ _ (I.out.rd.below ((Below.refl _ _).drew)) (by decide) (by decide)).mono ?_; rintro e u3 ⟨rfl, h3, k3⟩; rw [E7.out] at h3 ⊢; have H3 := Lib.hid h3; have K3 : Hid (Kept wr u3 (fun k => k = w1.heap.size)) := Lib.hid ((Kept.drew wr (fun k => k = w1.heap.size)).trans k3); clear h3 k3; have S3 : Hid (SBlk u3 sb (numV H59 bd) (numV H60 (rest1 bd)) mv (.slice none 0 0)) := Lib.hid (I.out.sn.kept K3.out (by omega)); have S4 : Hid (SBlk u3 w.heap.size 0 0 (.slice none 0 0) (.slice none 0 0)) := Lib.hid (I.out.rs.kept K3.out (by omega)); have LE3 : Hid (sb + 1 ≤ u3.heap.size) := Lib.hid (Nat.le_trans I.out.le K3.out.size); have O3 : Hid (Owns u3 (sb + 1) 3 .i64 mv (memV 7 k (rest3 bd))) := Lib.hid (I.out.own.kept K3.out (fun g hg e => by have := (I.out.own.lt g hg).1; omega)); go_wp2_with fail
      refine step_post (fun _ => S3.out.c2) ?_
      refine stage_heads [4] (by kernel_rfl) (L := #[true, true, true, true, true, false, false, false, false]) (by kernel_rfl) (f' := 4) rfl (fun _ _ _ _ h => h) (fun w o h => (Stable.cell _ _).alloc h o) (.inr (by first | exact S3.out.c2 | exact cell_drew S3.out.c2)) ?_
      simp only [List.flatMap_cons, List.flatMap_nil, List.drop_succ_cons, List.drop_zero, List.take_succ_cons, List.take_zero, List.append_nil]
      iterate 1 (first | (refine heads_load _ (by rfl) (fun w' hs => by have y0 := hs; go_simp; try with_reducible rfl) rfl ?_; simp only [Act.put, List.setIfInBounds_toArray, List.set_cons_zero, List.set_cons_succ]) | (refine heads_pure _ (by rfl) (fun w' => by go_simp; try with_reducible rfl) ?_; simp only [Act.put, List.setIfInBounds_toArray, List.set_cons_zero, List.set_cons_succ]))
      refine heads_nil ?_
      refine stage_op 5 (by kernel_rfl) (L := #[true, true, true, true, true, true, false, false, false]) (by kernel_rfl) ?_
      simp only [List.drop_succ_cons, List.drop_zero, List.take_succ_cons, List.take_zero]
      go_wp2_with fail; generalize hu5 : World.alloc _ _ = u5; have B5 : Hid (Below u3.heap.size u3 u5) := Lib.hid (by subst hu5; first | exact (Below.refl _ _).alloc (Nat.le_refl _) _ | exact ((Below.refl _ _).drew).alloc (Nat.le_refl _) _ | exact (((Below.refl _ _).drew).drew).alloc (Nat.le_refl _) _); have ONE5 : Hid (Reads u5 .i64 (.slice (some ⟨u3.heap.size, 0, none⟩) 1 1) [((numV 7 (memL 7 k (rest3 bd)) : Nat) : Int)]) := Lib.hid (by subst hu5; first | exact Reads.one _ _ _ _); clear hu5
      refine step_post nofun ?_
      refine stage_op 6 (by kernel_rfl) (L := #[true, true, true, true, true, true, true, false, false]) (by kernel_rfl) ?_
      simp only [List.drop_succ_cons, List.drop_zero, List.take_succ_cons, List.take_zero]
      refine wpList_append_ints Tryz.i64s _ _ rfl (sb + 1) mv (.slice (some ⟨u3.heap.size, 0, none⟩) 1 1) (memV 7 k (rest3 bd)) [((numV 7 (memL 7 k (rest3 bd)) : Nat) : Int)] rfl rfl (by first | exact O3.out.below B5.out | exact (O3.out.below B5.out).drew) (by first | exact ONE5.out | exact ONE5.out.drew) (by decide) HLN.out (by have := LE3.out; have := B5.out.size; first | omega | (simp only [World.size_drew]; omega)) rfl ?_; intro v6 u6 hown6 hgr6 hat6 hnil6 hbel6; obtain ⟨a6, c6, rfl⟩ := hown6.shape; have O6 : Hid (Owns u6 (sb + 1) 3 .i64 (.slice a6 ((memV 7 k (rest3 bd)).length + 1) c6) (memV 7 k (rest3 bd) ++ [((numV 7 (memL 7 k (rest3 bd)) : Nat) : Int)])) := Lib.hid (by have hh := hown6; rw [List.length_append] at hh; exact hh); have OL6 := O3.out.lt; have G6 : Hid (Kept u5 u6 (fun g => mv.ownBlock = some g)) := Lib.hid (by first | exact Kept.of_grown hgr6 | exact (Kept.drew u5 _).trans (Kept.of_grown hgr6)); have S6 : Hid (SBlk u6 sb (numV H59 bd) (numV H60 (rest1 bd)) mv (.slice none 0 0)) := Lib.hid ((S3.out.below B5.out).kept G6.out (fun e => by have := (OL6 _ e).1; omega)); have S7 : Hid (SBlk u6 w.heap.size 0 0 (.slice none 0 0) (.slice none 0 0)) := Lib.hid ((S4.out.below B5.out).kept G6.out (fun e => by have := (OL6 _ e).1; omega)); have R6 : Hid (RdrIs u6 w1.heap.size rb (numL 7 (memL 7 k (rest3 bd))) ((bad3 || memB 7 k (rest3 bd)) || numB 7 (memL 7 k (rest3 bd)))) := Lib.hid ((H3.out.below B5.out).kept G6.out (fun e => by have := (OL6 _ e).1; omega) (fun e => by have := (OL6 _ e).1; omega)); have K6 : Hid (Kept w2 u6 (fun k => k = w1.heap.size)) := Lib.hid (((I.out.kept.trans K3.out).trans (Kept.of_below B5.out (S := fun k => k = w1.heap.size) (fun k h1 h2 => by omega))).andThen G6.out (fun g hg e => by rcases e with e | e; exact e; have := (OL6 _ e).1; omega)); have Z6 : Hid (sb + 1 ≤ u6.heap.size) := Lib.hid (by have := LE3.out; have := B5.out.size; have := G6.out.size; omega); clear hown6 hgr6 hat6 hnil6 hbel6 OL6; go_wp2_with fail
      refine step_post nofun ?_
      refine stage_heads [7] (by kernel_rfl) (L := #[true, true, true, true, true, true, true, true, false]) (by kernel_rfl) (f' := 1) rfl (fun _ _ _ _ h => h) (fun w o h => (Stable.cell _ _).alloc h o) (.inl (by kernel_rfl)) ?_
      simp only [List.flatMap_cons, List.flatMap_nil, List.drop_succ_cons, List.drop_zero, List.take_succ_cons, List.take_zero, List.append_nil]
      iterate 1 (refine heads_pure _ (by rfl) (fun w' => by go_simp; try with_reducible rfl) ?_; simp only [Act.put, List.setIfInBounds_toArray, List.set_cons_zero, List.set_cons_succ])
      refine heads_nil ?_
      refine stage_op 8 (by kernel_rfl) (L := #[true, true, true, true, true, true, true, true, true]) (by kernel_rfl) ?_
      simp only [List.drop_succ_cons, List.drop_zero, List.take_succ_cons, List.take_zero]
      obtain ⟨g1, g2, g3⟩ : u6.cell? ⟨sb, 2, none⟩ = some mv ∧ u6.frozen? ⟨sb, 2, none⟩ = false ∧ sb < u6.heap.size := ⟨S6.out.c2, S6.out.f2, S6.out.lt⟩; go_wp2_with fail; generalize hu8 : World.setCell _ _ _ = u8; have S8 : Hid (SBlk u8 sb (numV H59 bd) (numV H60 (rest1 bd)) (.slice a6 ((memV 7 k (rest3 bd)).length + 1) c6) (.slice none 0 0)) := Lib.hid (by subst hu8; exact S6.out.set2 _); have G8 : Hid (Kept u6 u8 (fun g => g = sb)) := Lib.hid (by subst hu8; exact Kept.setCell u6 ⟨sb, 2, none⟩ _); clear hu8 g1 g2 g3
      refine step_post nofun ?_
      refine stage_done (by kernel_rfl) ?_
      clear hw6
      go_wp2_with fail
      go_roundw
      case rel =>
        refine ⟨k + 1, _, by omega, by go_num, ?_, S8.out, S7.out.kept G8.out (by omega), O6.out.kept G8.out (fun g hg e => by have := (O6.out.lt g hg).1; omega), K6.out.stepNew G8.out (by omega), by have := Z6.out; have := G8.out.size; omega⟩
        have hr := R6.out.kept G8.out (by omega) (by omega)
        rw [Bool.or_assoc] at hr
        exact hr
      case measure => simp [intOf]; omega
    · obtain rfl : k = memN bd := by omega
      have RL : Hid (RdrIs wr w1.heap.size rb (rest4 7 bd) (bad3 || memB 7 (memN bd) (rest3 bd))) := Lib.hid I.out.rd
      go_wp2_with fail
      refine (qtext_any w1.heap.size 32768 _ _ _ RL.out (by decide)).mono ?_
      rintro e w7 ⟨rfl, h7, k7⟩
      have H7 := Lib.hid h7
      have K7 := Lib.hid k7
      have hs7 := k7.size
      clear h7 k7
      have S7 : Hid (SBlk w7 sb (numV H59 bd) (numV H60 (rest1 bd)) mv (.slice none 0 0)) := Lib.hid (I.out.sn.kept K7.out (by omega))
      have T7 : Hid (SBlk w7 w.heap.size 0 0 (.slice none 0 0) (.slice none 0 0)) := Lib.hid (I.out.rs.kept K7.out (by omega))
      have O7 : Hid (Owns w7 (sb + 1) 3 .i64 mv (memV 7 (memN bd) (rest3 bd))) := Lib.hid (I.out.own.kept K7.out (fun g hg e => by have := (I.out.own.lt g hg).1; omega))
      obtain ⟨am, cm, rfl⟩ := O7.out.shape
      have TS : Hid ((strN (textV 32768 (rest4 7 bd))).size ≤ 2097152) := Lib.hid (by rw [size_strN]; have := textV_len 32768 (rest4 7 bd); omega)
      have HTX : Hid (natsOf (strN (textV 32768 (rest4 7 bd))) = textV 32768 (rest4 7 bd)) := Lib.hid (natsOf_strN fun c hc => by obtain ⟨v, _, hB, _⟩ := RL.out.ex; exact hB.lt c (textV_mem c hc))
      have A7 : Hid (Kept w2 w7 (fun k => k = w1.heap.size)) := Lib.hid (I.out.kept.trans K7.out)
      go_wp2_with (refine wpList_to_bytes rfl 9 22 5 _ rfl Tryz.underlying9 Tryz.underlying22 Tryz.underlying5 _ rfl TS.out ?_; intro dv w8 hB8 hb8 hob8; have OB8 := Lib.hid hob8; clear hob8; obtain ⟨ad, cd, rfl, _⟩ := hB8.shape; have HB8 := Lib.hid hB8; have B8 := Lib.hid hb8; obtain ⟨g1, g2, g3⟩ : w8.cell? ⟨sb, 3, none⟩ = some (.slice none 0 0) ∧ w8.frozen? ⟨sb, 3, none⟩ = false ∧ sb < w8.heap.size := ⟨(S7.out.below B8.out).c3, (S7.out.below B8.out).f3, (S7.out.below B8.out).lt⟩; clear hB8 hb8)
      generalize hwF : World.setCell _ _ _ = w9
      have S9 : Hid (SBlk w9 sb (numV H59 bd) (numV H60 (rest1 bd)) (.slice am (memV 7 (memN bd) (rest3 bd)).length cm) (.slice ad (natsOf (strN (textV 32768 (rest4 7 bd)))).length cd)) := Lib.hid (by subst hwF; exact (S7.out.below B8.out).set3 _)
      have K9 : Hid (Kept w8 w9 (fun k => k = sb)) := Lib.hid (by subst hwF; exact Kept.setCell w8 ⟨sb, 3, none⟩ _)
      have T9 : Hid (SBlk w9 w.heap.size 0 0 (.slice none 0 0) (.slice none 0 0)) := Lib.hid ((T7.out.below B8.out).kept K9.out (by omega))
      have R9 : Hid (RdrIs w9 w1.heap.size rb (getL 7 bd) (getB 7 bd)) := Lib.hid (by
        have hh := (H7.out.below B8.out).kept K9.out (by omega) (by omega)
        rw [show getB 7 bd = ((bad3 || memB 7 (memN bd) (rest3 bd)) || textB 32768 (rest4 7 bd)) by rw [← HBX.out]; rfl]
        exact hh)
      have HI9 : Hid (Ints w9 (.slice am (memV 7 (memN bd) (rest3 bd)).length cm) (getS 7 bd).ms) := Lib.hid (Ints.of_owns ((O7.out.below B8.out).kept K9.out (fun g hg e => by have := (O7.out.lt g hg).1; omega)) (by show (memV 7 (memN bd) (rest3 bd)).length ≤ 2097152; rw [length_memV]; have := memN_le bd; omega))
      have HD9 : Hid (Bytes w9 (.slice ad (natsOf (strN (textV 32768 (rest4 7 bd)))).length cd) (getS 7 bd).d) := Lib.hid (by
        have hh := HB8.out
        have ho := OB8.out
        rw [HTX.out] at hh ho ⊢
        exact hh.keptOr K9.out (.inr ho) (by omega))
      have SN9 : Hid (SnapIs w9 (.agg #[.int .u64 (numV H59 bd), .int .u64 (numV H60 (rest1 bd)), .slice am (memV 7 (memN bd) (rest3 bd)).length cm, .slice ad (natsOf (strN (textV 32768 (rest4 7 bd)))).length cd]) (getS 7 bd)) := Lib.hid ⟨_, _, rfl, HI9.out, HD9.out⟩
      have Q9 : Hid (Below w.heap.size w w9) := Lib.hid (B1.out.trans (((B2.out.mono B1.out.size).trans ((A7.out.below (B := w.heap.size) (by omega) (fun k hk => by omega)).trans (B8.out.mono (by omega)))).trans (K9.out.below (B := w.heap.size) (by have := B8.out.size; omega) (fun k hk => by omega))))
      clear hwF g1 g2 g3
      generalize (natsOf (strN (textV 32768 (rest4 7 bd)))).length = dl at *
      generalize (memV 7 (memN bd) (rest3 bd)).length = ml at *
      generalize hI3 : (numV H59 bd : Int) = I3 at *
      generalize hT3 : (numV H60 (rest1 bd) : Int) = T3 at *
      refine (qend_any w1.heap.size _ _ _ R9.out).mono ?_
      rintro e w9' ⟨rfl, rfl⟩
      rw [HE.out]
      obtain ⟨r0, r1, r2, r3, q0, q1, q2, q3⟩ := T9.out
      obtain ⟨y0, y1, y2, y3, _, _, _, _⟩ := S9.out
      have L9 := T9.out.lt
      go_wp2_with fail
      generalize hwF : World.setCell _ _ _ = wF
      have KF : Hid (Kept w9 wF (fun k => k = w.heap.size)) := Lib.hid (by subst hwF; exact Kept.set4 _ _ _ _ _ _)
      have HR : Hid (SBlk wF w.heap.size 0 0 (.slice none 0 0) (.slice none 0 0)) := Lib.hid (by subst hwF; exact T9.out.set4 _ _ _ _)
      clear hwF r0 r1 r2 r3 q0 q1 q2 q3
      obtain ⟨z0, z1, z2, z3, _, _, _, _⟩ := HR.out
      refine bodyPost_ret (v := .tuple #[.agg #[.int .u64 0, .int .u64 0, .slice none 0 0, .slice none 0 0], .bool false]) (by simp [results, Tryz.results43, go_sem, z0, z1, z2, z3]) rfl ?_
      rw [HV.out.1, HV.out.2]
      exact ⟨_, rfl, zero_is _, Q9.out.trans ((KF.out.below (B := w.heap.size) Q9.out.size (fun k hk => by omega)))⟩

set_option maxHeartbeats 4000000 in
set_option maxRecDepth 20000 in
theorem pread_bad (v : Value) (l : List Nat) (w : World) (hB : Bytes w v l) (ht : WholeOk l) (h4 : l.getD 1 0 = 4) (he : endE (getL 7 (frBody l)) (getB 7 (frBody l)) = 0) (hok : ¬ (getS 7 (frBody l)).ok) : Calls Tryz.prog 43 #[v] w (ReadPost (readB 7 l) (readS 7 l) w) := by
  have HB := Lib.hid hB
  have HV : Hid (readB 7 l = false ∧ readS 7 l = zeroS) := Lib.hid (read_no fun h => hok h.2.2.2)
  have HE := Lib.hid he
  have HOK : Hid ((getS 7 (frBody l)).okB = false) := Lib.hid (decide_eq_false hok)
  clear he hok
  have HT := Lib.hid ht
  have HF : Hid (l.getD 1 0 = 4) := Lib.hid h4
  have E59 : Hid ((576460752303423488 : Int).toNat = H59) := Lib.hid rfl
  have E60 : Hid ((1152921504606846976 : Int).toNat = H60) := Lib.hid rfl
  have E7 : Hid ((7 : Int).toNat = 7) := Lib.hid rfl
  obtain ⟨a, c, rfl, _⟩ := hB.shape
  clear hB ht h4
  go_enter Tryz.func43, Tryz.ntmps43
  go_wp2_with fail
  refine (whole_any _ l _ (HB.out.alloc _)).mono ?_
  rintro e w1 ⟨hb1, hno, hyes⟩
  obtain ⟨v1, rfl, hB1⟩ := hyes HT.out
  rw [HF.out]
  have HB1 := Lib.hid hB1
  have RB : ∃ rb : Nat, rb < w1.heap.size ∧ (frBody l = [] ∨ v1.ownBlock = some rb) := by
    by_cases h0 : frBody l = []
    · exact ⟨w.heap.size, ((SBlk.new w).below hb1).lt, .inl h0⟩
    · obtain ⟨b, e1, e2⟩ := HB1.out.lt_block h0
      exact ⟨b, e2, .inr e1⟩
  obtain ⟨rb, hrb, hown⟩ := RB
  have HO := Lib.hid hown
  clear hown
  obtain ⟨a1, c1, rfl, _⟩ := hB1.shape
  clear hB1
  have B1 : Hid (Below w.heap.size w w1) := Lib.hid (((Below.refl w.heap.size w).alloc (Nat.le_refl _) (.cells #[.int .u64 0, .int .u64 0, .slice none 0 0, .slice none 0 0] 40)).trans (hb1.mono (by simp)))
  have S1 : Hid (SBlk w1 w.heap.size 0 0 (.slice none 0 0) (.slice none 0 0)) := Lib.hid ((SBlk.new w).below hb1)
  obtain ⟨r0, r1, r2, r3, q0, q1, q2, q3⟩ := S1.out
  have L1 := S1.out.lt
  clear hb1 hno hyes
  go_wp2_with fail
  refine (qopen_any _ (frBody l) _ HB1.out HO.out (by omega)).mono ?_
  rintro e w2 ⟨rfl, h2, hb2⟩
  have R2 := Lib.hid h2
  have B2 := Lib.hid hb2
  have hs2 := hb2.size
  have L2 := h2.lt
  clear h2 hb2 r0 r1 r2 r3 q0 q1 q2 q3
  have S2 : Hid (SBlk w2 w.heap.size 0 0 (.slice none 0 0) (.slice none 0 0)) := Lib.hid (S1.out.below B2.out)
  generalize hbd : frBody l = bd at *
  go_wp2_with fail
  refine (qnum_any w1.heap.size 576460752303423488 bd false _ R2.out (by decide) (by decide)).mono ?_
  rintro e w3 ⟨rfl, h1, k1⟩
  rw [E59.out] at h1 ⊢
  have R3 : Hid (RdrIs w3 w1.heap.size rb (rest1 bd) (numB H59 bd)) := Lib.hid (by rw [Bool.false_or] at h1; exact h1)
  have K3 := Lib.hid k1
  have hs3 := k1.size
  clear h1 k1
  go_wp2_with fail
  refine (qnum_any w1.heap.size 1152921504606846976 (rest1 bd) _ _ R3.out (by decide) (by decide)).mono ?_
  rintro e w4 ⟨rfl, h1, k1⟩
  rw [E60.out] at h1 ⊢
  have R4 := Lib.hid h1
  have K4 := Lib.hid k1
  have hs4 := k1.size
  clear h1 k1
  have A4 : Hid (Kept w2 w4 (fun k => k = w1.heap.size)) := Lib.hid (K3.out.trans K4.out)
  go_wp2_with fail
  generalize hW : World.alloc w4 _ = w5
  have B5 : Hid (Below w4.heap.size w4 w5) := Lib.hid (by subst hW; exact (Below.refl _ _).alloc (Nat.le_refl _) _)
  have S5 : Hid (SBlk w5 w4.heap.size (numV H59 bd) (numV H60 (rest1 bd)) (.slice none 0 0) (.slice none 0 0)) := Lib.hid (by subst hW; exact ⟨by go_cell, by go_cell, by go_cell, by go_cell, by simp, by simp, by simp, by simp⟩)
  clear hW
  have R5 : Hid (RdrIs w5 w1.heap.size rb (rest2 bd) (numB H59 bd || numB H60 (rest1 bd))) := Lib.hid (R4.out.below B5.out)
  have T5 : Hid (SBlk w5 w.heap.size 0 0 (.slice none 0 0) (.slice none 0 0)) := Lib.hid (((S2.out.kept A4.out (by omega))).below B5.out)
  have A5 : Hid (Kept w2 w5 (fun k => k = w1.heap.size)) := Lib.hid (A4.out.trans (Kept.of_below B5.out (S := fun k => k = w1.heap.size) (fun k h1 h2 => by omega)))
  have hsb := S5.out.lt
  generalize hSB : w4.heap.size = sb at *
  have hsb2 : w2.heap.size ≤ sb := by omega
  refine (qnum_any w1.heap.size 7 (rest2 bd) _ _ R5.out (by decide) (by decide)).mono ?_
  rintro e w6 ⟨rfl, h1, k1⟩
  rw [E7.out] at h1 ⊢
  have hn7 : ((memN bd : Nat) : Int) ≤ 7 := by have := memN_le bd; omega
  have R6 : Hid (RdrIs w6 w1.heap.size rb (rest3 bd) ((numB H59 bd || numB H60 (rest1 bd)) || numB 7 (rest2 bd))) := Lib.hid h1
  have K6 := Lib.hid k1
  have hs6 := k1.size
  clear h1 k1
  rw [show numV 7 (rest2 bd) = memN bd from rfl]
  have S6 : Hid (SBlk w6 sb (numV H59 bd) (numV H60 (rest1 bd)) (.slice none 0 0) (.slice none 0 0)) := Lib.hid (S5.out.kept K6.out (by omega))
  have T6 : Hid (SBlk w6 w.heap.size 0 0 (.slice none 0 0) (.slice none 0 0)) := Lib.hid (T5.out.kept K6.out (by omega))
  have A6 : Hid (Kept w2 w6 (fun k => k = w1.heap.size)) := Lib.hid (A5.out.trans K6.out)
  generalize hX : ((numB H59 bd || numB H60 (rest1 bd)) || numB 7 (rest2 bd)) = bad3 at R6
  have HBX := Lib.hid hX
  clear hX
  go_wp2_with fail
  go_loopw [31] (fun x wr => ∃ (k : Nat) (mv : Value), k ≤ memN bd ∧ x = .int .u64 k ∧ MemI w2 w1.heap.size rb 7 (rest3 bd) bad3 sb w.heap.size (sb + 1) (numV H59 bd) (numV H60 (rest1 bd)) k mv wr) (fun x _ => memN bd - (intOf x).toNat)
  case atStart => exact ⟨0, _, Nat.zero_le _, rfl, by rw [memL, memB, Bool.or_false]; exact R6.out, S6.out, T6.out, Owns.nil _ _ _ _, A6.out, by omega⟩
  case round =>
    obtain ⟨k, mv, hk, rfl, hI⟩ := hrel
    have I := Lib.hid hI
    have hsz := hI.le
    clear hI
    by_cases hlt : k < memN bd
    · have hv6 : ((numV 7 (memL 7 k (rest3 bd)) : Nat) : Int) ≤ 7 := by have := numV_le 7 (memL 7 k (rest3 bd)); omega
      have hki : (k : Int) < (memN bd : Int) := by omega
      have HLN : Hid ((memV 7 k (rest3 bd)).length + [((numV 7 (memL 7 k (rest3 bd)) : Nat) : Int)].length ≤ 4294967296) := Lib.hid (by rw [length_memV]; simp only [List.length_cons, List.length_nil]; have := memN_le bd; omega)
      have hw6 : IntKind.i64.wrap ((numV 7 (memL 7 k (rest3 bd)) : Nat) : Int) = ((numV 7 (memL 7 k (rest3 bd)) : Nat) : Int) := by simp only [IntKind.wrap_i64]; omega
      go_wp2_with fail
      refine region_start [0, 1, 0, 4, 12, 28, 63, 127, 255] 24 (fun w' => w'.cell? ⟨sb, 2, none⟩ = some mv) (by kernel_rfl) ?_
      refine stage_heads [0, 1, 2] (by kernel_rfl) (L := #[true, true, true, false, false, false, false, false, false]) (by kernel_rfl) (f' := 6) rfl (fun _ _ _ _ h => h) (fun w o h => (Stable.cell _ _).alloc h o) (.inr I.out.sn.c2) ?_
      simp only [List.flatMap_cons, List.flatMap_nil, List.drop_succ_cons, List.drop_zero, List.take_succ_cons, List.take_zero, List.cons_append, List.nil_append, List.append_nil]
      iterate 3 (first | (refine heads_load _ (by rfl) (fun w' hs => by have y0 := hs; go_simp; try with_reducible rfl) rfl ?_; simp only [Act.put, List.setIfInBounds_toArray, List.set_cons_zero, List.set_cons_succ]) | (refine heads_pure _ (by rfl) (fun w' => by go_simp; try with_reducible rfl) ?_; simp only [Act.put, List.setIfInBounds_toArray, List.set_cons_zero, List.set_cons_succ]))
      refine heads_nil ?_
      refine stage_op 3 (by kernel_rfl) (L := #[true, true, true, true, false, false, false, false, false]) (by kernel_rfl) ?_
      simp only [List.drop_succ_cons, List.drop_zero, List.take_succ_cons, List.take_zero]
      go_wp2_with fail; refine (qnum_any w1.heap.size 7 _ _ _ (I.out.rd.below ((Below.refl _ _).drew)) (by decide) (by decide)).mono ?_; rintro e u3 ⟨rfl, h3, k3⟩; rw [E7.out] at h3 ⊢; have H3 := Lib.hid h3; have K3 : Hid (Kept wr u3 (fun k => k = w1.heap.size)) := Lib.hid ((Kept.drew wr (fun k => k = w1.heap.size)).trans k3); clear h3 k3; have S3 : Hid (SBlk u3 sb (numV H59 bd) (numV H60 (rest1 bd)) mv (.slice none 0 0)) := Lib.hid (I.out.sn.kept K3.out (by omega)); have S4 : Hid (SBlk u3 w.heap.size 0 0 (.slice none 0 0) (.slice none 0 0)) := Lib.hid (I.out.rs.kept K3.out (by omega)); have LE3 : Hid (sb + 1 ≤ u3.heap.size) := Lib.hid (Nat.le_trans I.out.le K3.out.size); have O3 : Hid (Owns u3 (sb + 1) 3 .i64 mv (memV 7 k (rest3 bd))) := Lib.hid (I.out.own.kept K3.out (fun g hg e => by have := (I.out.own.lt g hg).1; omega)); go_wp2_with fail
      refine step_post (fun _ => S3.out.c2) ?_
      refine stage_heads [4] (by kernel_rfl) (L := #[true, true, true, true, true, false, false, false, false]) (by kernel_rfl) (f' := 4) rfl (fun _ _ _ _ h => h) (fun w o h => (Stable.cell _ _).alloc h o) (.inr (by first | exact S3.out.c2 | exact cell_drew S3.out.c2)) ?_
      simp only [List.flatMap_cons, List.flatMap_nil, List.drop_succ_cons, List.drop_zero, List.take_succ_cons, List.take_zero, List.append_nil]
      iterate 1 (first | (refine heads_load _ (by rfl) (fun w' hs => by have y0 := hs; go_simp; try with_reducible rfl) rfl ?_; simp only [Act.put, List.setIfInBounds_toArray, List.set_cons_zero, List.set_cons_succ]) | (refine heads_pure _ (by rfl) (fun w' => by go_simp; try with_reducible rfl) ?_; simp only [Act.put, List.setIfInBounds_toArray, List.set_cons_zero, List.set_cons_succ]))
      refine heads_nil ?_
      refine stage_op 5 (by kernel_rfl) (L := #[true, true, true, true, true, true, false, false, false]) (by kernel_rfl) ?_
      simp only [List.drop_succ_cons, List.drop_zero, List.take_succ_cons, List.take_zero]
      go_wp2_with fail; generalize hu5 : World.alloc _ _ = u5; have B5 : Hid (Below u3.heap.size u3 u5) := Lib.hid (by subst hu5; first | exact (Below.refl _ _).alloc (Nat.le_refl _) _ | exact ((Below.refl _ _).drew).alloc (Nat.le_refl _) _ | exact (((Below.refl _ _).drew).drew).alloc (Nat.le_refl _) _); have ONE5 : Hid (Reads u5 .i64 (.slice (some ⟨u3.heap.size, 0, none⟩) 1 1) [((numV 7 (memL 7 k (rest3 bd)) : Nat) : Int)]) := Lib.hid (by subst hu5; first | exact Reads.one _ _ _ _); clear hu5
      refine step_post nofun ?_
      refine stage_op 6 (by kernel_rfl) (L := #[true, true, true, true, true, true, true, false, false]) (by kernel_rfl) ?_
      simp only [List.drop_succ_cons, List.drop_zero, List.take_succ_cons, List.take_zero]
      refine wpList_append_ints Tryz.i64s _ _ rfl (sb + 1) mv (.slice (some ⟨u3.heap.size, 0, none⟩) 1 1) (memV 7 k (rest3 bd)) [((numV 7 (memL 7 k (rest3 bd)) : Nat) : Int)] rfl rfl (by first | exact O3.out.below B5.out | exact (O3.out.below B5.out).drew) (by first | exact ONE5.out | exact ONE5.out.drew) (by decide) HLN.out (by have := LE3.out; have := B5.out.size; first | omega | (simp only [World.size_drew]; omega)) rfl ?_; intro v6 u6 hown6 hgr6 hat6 hnil6 hbel6; obtain ⟨a6, c6, rfl⟩ := hown6.shape; have O6 : Hid (Owns u6 (sb + 1) 3 .i64 (.slice a6 ((memV 7 k (rest3 bd)).length + 1) c6) (memV 7 k (rest3 bd) ++ [((numV 7 (memL 7 k (rest3 bd)) : Nat) : Int)])) := Lib.hid (by have hh := hown6; rw [List.length_append] at hh; exact hh); have OL6 := O3.out.lt; have G6 : Hid (Kept u5 u6 (fun g => mv.ownBlock = some g)) := Lib.hid (by first | exact Kept.of_grown hgr6 | exact (Kept.drew u5 _).trans (Kept.of_grown hgr6)); have S6 : Hid (SBlk u6 sb (numV H59 bd) (numV H60 (rest1 bd)) mv (.slice none 0 0)) := Lib.hid ((S3.out.below B5.out).kept G6.out (fun e => by have := (OL6 _ e).1; omega)); have S7 : Hid (SBlk u6 w.heap.size 0 0 (.slice none 0 0) (.slice none 0 0)) := Lib.hid ((S4.out.below B5.out).kept G6.out (fun e => by have := (OL6 _ e).1; omega)); have R6 : Hid (RdrIs u6 w1.heap.size rb (numL 7 (memL 7 k (rest3 bd))) ((bad3 || memB 7 k (rest3 bd)) || numB 7 (memL 7 k (rest3 bd)))) := Lib.hid ((H3.out.below B5.out).kept G6.out (fun e => by have := (OL6 _ e).1; omega) (fun e => by have := (OL6 _ e).1; omega)); have K6 : Hid (Kept w2 u6 (fun k => k = w1.heap.size)) := Lib.hid (((I.out.kept.trans K3.out).trans (Kept.of_below B5.out (S := fun k => k = w1.heap.size) (fun k h1 h2 => by omega))).andThen G6.out (fun g hg e => by rcases e with e | e; exact e; have := (OL6 _ e).1; omega)); have Z6 : Hid (sb + 1 ≤ u6.heap.size) := Lib.hid (by have := LE3.out; have := B5.out.size; have := G6.out.size; omega); clear hown6 hgr6 hat6 hnil6 hbel6 OL6; go_wp2_with fail
      refine step_post nofun ?_
      refine stage_heads [7] (by kernel_rfl) (L := #[true, true, true, true, true, true, true, true, false]) (by kernel_rfl) (f' := 1) rfl (fun _ _ _ _ h => h) (fun w o h => (Stable.cell _ _).alloc h o) (.inl (by kernel_rfl)) ?_
      simp only [List.flatMap_cons, List.flatMap_nil, List.drop_succ_cons, List.drop_zero, List.take_succ_cons, List.take_zero, List.append_nil]
      iterate 1 (refine heads_pure _ (by rfl) (fun w' => by go_simp; try with_reducible rfl) ?_; simp only [Act.put, List.setIfInBounds_toArray, List.set_cons_zero, List.set_cons_succ])
      refine heads_nil ?_
      refine stage_op 8 (by kernel_rfl) (L := #[true, true, true, true, true, true, true, true, true]) (by kernel_rfl) ?_
      simp only [List.drop_succ_cons, List.drop_zero, List.take_succ_cons, List.take_zero]
      obtain ⟨g1, g2, g3⟩ : u6.cell? ⟨sb, 2, none⟩ = some mv ∧ u6.frozen? ⟨sb, 2, none⟩ = false ∧ sb < u6.heap.size := ⟨S6.out.c2, S6.out.f2, S6.out.lt⟩; go_wp2_with fail; generalize hu8 : World.setCell _ _ _ = u8; have S8 : Hid (SBlk u8 sb (numV H59 bd) (numV H60 (rest1 bd)) (.slice a6 ((memV 7 k (rest3 bd)).length + 1) c6) (.slice none 0 0)) := Lib.hid (by subst hu8; exact S6.out.set2 _); have G8 : Hid (Kept u6 u8 (fun g => g = sb)) := Lib.hid (by subst hu8; exact Kept.setCell u6 ⟨sb, 2, none⟩ _); clear hu8 g1 g2 g3
      refine step_post nofun ?_
      refine stage_done (by kernel_rfl) ?_
      clear hw6
      go_wp2_with fail
      go_roundw
      case rel =>
        refine ⟨k + 1, _, by omega, by go_num, ?_, S8.out, S7.out.kept G8.out (by omega), O6.out.kept G8.out (fun g hg e => by have := (O6.out.lt g hg).1; omega), K6.out.stepNew G8.out (by omega), by have := Z6.out; have := G8.out.size; omega⟩
        have hr := R6.out.kept G8.out (by omega) (by omega)
        rw [Bool.or_assoc] at hr
        exact hr
      case measure => simp [intOf]; omega
    · obtain rfl : k = memN bd := by omega
      have RL : Hid (RdrIs wr w1.heap.size rb (rest4 7 bd) (bad3 || memB 7 (memN bd) (rest3 bd))) := Lib.hid I.out.rd
      go_wp2_with fail
      refine (qtext_any w1.heap.size 32768 _ _ _ RL.out (by decide)).mono ?_
      rintro e w7 ⟨rfl, h7, k7⟩
      have H7 := Lib.hid h7
      have K7 := Lib.hid k7
      have hs7 := k7.size
      clear h7 k7
      have S7 : Hid (SBlk w7 sb (numV H59 bd) (numV H60 (rest1 bd)) mv (.slice none 0 0)) := Lib.hid (I.out.sn.kept K7.out (by omega))
      have T7 : Hid (SBlk w7 w.heap.size 0 0 (.slice none 0 0) (.slice none 0 0)) := Lib.hid (I.out.rs.kept K7.out (by omega))
      have O7 : Hid (Owns w7 (sb + 1) 3 .i64 mv (memV 7 (memN bd) (rest3 bd))) := Lib.hid (I.out.own.kept K7.out (fun g hg e => by have := (I.out.own.lt g hg).1; omega))
      obtain ⟨am, cm, rfl⟩ := O7.out.shape
      have TS : Hid ((strN (textV 32768 (rest4 7 bd))).size ≤ 2097152) := Lib.hid (by rw [size_strN]; have := textV_len 32768 (rest4 7 bd); omega)
      have HTX : Hid (natsOf (strN (textV 32768 (rest4 7 bd))) = textV 32768 (rest4 7 bd)) := Lib.hid (natsOf_strN fun c hc => by obtain ⟨v, _, hB, _⟩ := RL.out.ex; exact hB.lt c (textV_mem c hc))
      have A7 : Hid (Kept w2 w7 (fun k => k = w1.heap.size)) := Lib.hid (I.out.kept.trans K7.out)
      go_wp2_with (refine wpList_to_bytes rfl 9 22 5 _ rfl Tryz.underlying9 Tryz.underlying22 Tryz.underlying5 _ rfl TS.out ?_; intro dv w8 hB8 hb8 hob8; have OB8 := Lib.hid hob8; clear hob8; obtain ⟨ad, cd, rfl, _⟩ := hB8.shape; have HB8 := Lib.hid hB8; have B8 := Lib.hid hb8; obtain ⟨g1, g2, g3⟩ : w8.cell? ⟨sb, 3, none⟩ = some (.slice none 0 0) ∧ w8.frozen? ⟨sb, 3, none⟩ = false ∧ sb < w8.heap.size := ⟨(S7.out.below B8.out).c3, (S7.out.below B8.out).f3, (S7.out.below B8.out).lt⟩; clear hB8 hb8)
      generalize hwF : World.setCell _ _ _ = w9
      have S9 : Hid (SBlk w9 sb (numV H59 bd) (numV H60 (rest1 bd)) (.slice am (memV 7 (memN bd) (rest3 bd)).length cm) (.slice ad (natsOf (strN (textV 32768 (rest4 7 bd)))).length cd)) := Lib.hid (by subst hwF; exact (S7.out.below B8.out).set3 _)
      have K9 : Hid (Kept w8 w9 (fun k => k = sb)) := Lib.hid (by subst hwF; exact Kept.setCell w8 ⟨sb, 3, none⟩ _)
      have T9 : Hid (SBlk w9 w.heap.size 0 0 (.slice none 0 0) (.slice none 0 0)) := Lib.hid ((T7.out.below B8.out).kept K9.out (by omega))
      have R9 : Hid (RdrIs w9 w1.heap.size rb (getL 7 bd) (getB 7 bd)) := Lib.hid (by
        have hh := (H7.out.below B8.out).kept K9.out (by omega) (by omega)
        rw [show getB 7 bd = ((bad3 || memB 7 (memN bd) (rest3 bd)) || textB 32768 (rest4 7 bd)) by rw [← HBX.out]; rfl]
        exact hh)
      have HI9 : Hid (Ints w9 (.slice am (memV 7 (memN bd) (rest3 bd)).length cm) (getS 7 bd).ms) := Lib.hid (Ints.of_owns ((O7.out.below B8.out).kept K9.out (fun g hg e => by have := (O7.out.lt g hg).1; omega)) (by show (memV 7 (memN bd) (rest3 bd)).length ≤ 2097152; rw [length_memV]; have := memN_le bd; omega))
      have HD9 : Hid (Bytes w9 (.slice ad (natsOf (strN (textV 32768 (rest4 7 bd)))).length cd) (getS 7 bd).d) := Lib.hid (by
        have hh := HB8.out
        have ho := OB8.out
        rw [HTX.out] at hh ho ⊢
        exact hh.keptOr K9.out (.inr ho) (by omega))
      have SN9 : Hid (SnapIs w9 (.agg #[.int .u64 (numV H59 bd), .int .u64 (numV H60 (rest1 bd)), .slice am (memV 7 (memN bd) (rest3 bd)).length cm, .slice ad (natsOf (strN (textV 32768 (rest4 7 bd)))).length cd]) (getS 7 bd)) := Lib.hid ⟨_, _, rfl, HI9.out, HD9.out⟩
      have Q9 : Hid (Below w.heap.size w w9) := Lib.hid (B1.out.trans (((B2.out.mono B1.out.size).trans ((A7.out.below (B := w.heap.size) (by omega) (fun k hk => by omega)).trans (B8.out.mono (by omega)))).trans (K9.out.below (B := w.heap.size) (by have := B8.out.size; omega) (fun k hk => by omega))))
      clear hwF g1 g2 g3
      generalize (natsOf (strN (textV 32768 (rest4 7 bd)))).length = dl at *
      generalize (memV 7 (memN bd) (rest3 bd)).length = ml at *
      generalize hI3 : (numV H59 bd : Int) = I3 at *
      generalize hT3 : (numV H60 (rest1 bd) : Int) = T3 at *
      refine (qend_any w1.heap.size _ _ _ R9.out).mono ?_
      rintro e w9' ⟨rfl, rfl⟩
      rw [HE.out]
      obtain ⟨r0, r1, r2, r3, q0, q1, q2, q3⟩ := T9.out
      obtain ⟨y0, y1, y2, y3, _, _, _, _⟩ := S9.out
      have L9 := T9.out.lt
      go_wp2_with fail
      refine (sound_any _ _ _ SN9.out).mono ?_
      rintro e wa ⟨rfl, hba⟩
      rw [HOK.out]
      have Ba := Lib.hid hba
      have Ta : Hid (SBlk wa w.heap.size 0 0 (.slice none 0 0) (.slice none 0 0)) := Lib.hid (T9.out.below Ba.out)
      have Sa : Hid (SBlk wa sb I3 T3 (.slice am ml cm) (.slice ad dl cd)) := Lib.hid (S9.out.below Ba.out)
      have Qa : Hid (Below w.heap.size w wa) := Lib.hid (Q9.out.trans (Ba.out.mono Q9.out.size))
      clear hba r0 r1 r2 r3 q0 q1 q2 q3 y0 y1 y2 y3
      obtain ⟨r0, r1, r2, r3, q0, q1, q2, q3⟩ := Ta.out
      obtain ⟨y0, y1, y2, y3, _, _, _, _⟩ := Sa.out
      have La := Ta.out.lt
      go_wp2_with fail
      generalize hwF : World.setCell _ _ _ = wF
      have KF : Hid (Kept wa wF (fun k => k = w.heap.size)) := Lib.hid (by subst hwF; exact Kept.set4 _ _ _ _ _ _)
      have HR : Hid (SBlk wF w.heap.size 0 0 (.slice none 0 0) (.slice none 0 0)) := Lib.hid (by subst hwF; exact Ta.out.set4 _ _ _ _)
      clear hwF r0 r1 r2 r3 q0 q1 q2 q3
      obtain ⟨z0, z1, z2, z3, _, _, _, _⟩ := HR.out
      refine bodyPost_ret (v := .tuple #[.agg #[.int .u64 0, .int .u64 0, .slice none 0 0, .slice none 0 0], .bool false]) (by simp [results, Tryz.results43, go_sem, z0, z1, z2, z3]) rfl ?_
      rw [HV.out.1, HV.out.2]
      exact ⟨_, rfl, zero_is _, Qa.out.trans ((KF.out.below (B := w.heap.size) Qa.out.size (fun k hk => by omega)))⟩

set_option maxHeartbeats 4000000 in
set_option maxRecDepth 20000 in
theorem pread_good (v : Value) (l : List Nat) (w : World) (hB : Bytes w v l) (ht : WholeOk l) (h4 : l.getD 1 0 = 4) (he : endE (getL 7 (frBody l)) (getB 7 (frBody l)) = 0) (hok : (getS 7 (frBody l)).ok) : Calls Tryz.prog 43 #[v] w (ReadNew (readB 7 l) (readS 7 l) w) := by
  have HB := Lib.hid hB
  have HV : Hid (readB 7 l = true ∧ readS 7 l = getS 7 (frBody l)) := Lib.hid (read_yes ⟨ht, h4, he, hok⟩)
  have HE := Lib.hid he
  have HOK : Hid ((getS 7 (frBody l)).okB = true) := Lib.hid (decide_eq_true hok)
  clear he hok
  have HT := Lib.hid ht
  have HF : Hid (l.getD 1 0 = 4) := Lib.hid h4
  have E59 : Hid ((576460752303423488 : Int).toNat = H59) := Lib.hid rfl
  have E60 : Hid ((1152921504606846976 : Int).toNat = H60) := Lib.hid rfl
  have E7 : Hid ((7 : Int).toNat = 7) := Lib.hid rfl
  obtain ⟨a, c, rfl, _⟩ := hB.shape
  clear hB ht h4
  go_enter Tryz.func43, Tryz.ntmps43
  go_wp2_with fail
  refine (whole_any _ l _ (HB.out.alloc _)).mono ?_
  rintro e w1 ⟨hb1, hno, hyes⟩
  obtain ⟨v1, rfl, hB1⟩ := hyes HT.out
  rw [HF.out]
  have HB1 := Lib.hid hB1
  have RB : ∃ rb : Nat, rb < w1.heap.size ∧ (frBody l = [] ∨ v1.ownBlock = some rb) := by
    by_cases h0 : frBody l = []
    · exact ⟨w.heap.size, ((SBlk.new w).below hb1).lt, .inl h0⟩
    · obtain ⟨b, e1, e2⟩ := HB1.out.lt_block h0
      exact ⟨b, e2, .inr e1⟩
  obtain ⟨rb, hrb, hown⟩ := RB
  have HO := Lib.hid hown
  clear hown
  obtain ⟨a1, c1, rfl, _⟩ := hB1.shape
  clear hB1
  have B1 : Hid (Below w.heap.size w w1) := Lib.hid (((Below.refl w.heap.size w).alloc (Nat.le_refl _) (.cells #[.int .u64 0, .int .u64 0, .slice none 0 0, .slice none 0 0] 40)).trans (hb1.mono (by simp)))
  have S1 : Hid (SBlk w1 w.heap.size 0 0 (.slice none 0 0) (.slice none 0 0)) := Lib.hid ((SBlk.new w).below hb1)
  obtain ⟨r0, r1, r2, r3, q0, q1, q2, q3⟩ := S1.out
  have L1 := S1.out.lt
  clear hb1 hno hyes
  go_wp2_with fail
  refine (qopen_any _ (frBody l) _ HB1.out HO.out (by omega)).mono ?_
  rintro e w2 ⟨rfl, h2, hb2⟩
  have R2 := Lib.hid h2
  have B2 := Lib.hid hb2
  have hs2 := hb2.size
  have L2 := h2.lt
  clear h2 hb2 r0 r1 r2 r3 q0 q1 q2 q3
  have S2 : Hid (SBlk w2 w.heap.size 0 0 (.slice none 0 0) (.slice none 0 0)) := Lib.hid (S1.out.below B2.out)
  generalize hbd : frBody l = bd at *
  go_wp2_with fail
  refine (qnum_any w1.heap.size 576460752303423488 bd false _ R2.out (by decide) (by decide)).mono ?_
  rintro e w3 ⟨rfl, h1, k1⟩
  rw [E59.out] at h1 ⊢
  have R3 : Hid (RdrIs w3 w1.heap.size rb (rest1 bd) (numB H59 bd)) := Lib.hid (by rw [Bool.false_or] at h1; exact h1)
  have K3 := Lib.hid k1
  have hs3 := k1.size
  clear h1 k1
  go_wp2_with fail
  refine (qnum_any w1.heap.size 1152921504606846976 (rest1 bd) _ _ R3.out (by decide) (by decide)).mono ?_
  rintro e w4 ⟨rfl, h1, k1⟩
  rw [E60.out] at h1 ⊢
  have R4 := Lib.hid h1
  have K4 := Lib.hid k1
  have hs4 := k1.size
  clear h1 k1
  have A4 : Hid (Kept w2 w4 (fun k => k = w1.heap.size)) := Lib.hid (K3.out.trans K4.out)
  go_wp2_with fail
  generalize hW : World.alloc w4 _ = w5
  have B5 : Hid (Below w4.heap.size w4 w5) := Lib.hid (by subst hW; exact (Below.refl _ _).alloc (Nat.le_refl _) _)
  have S5 : Hid (SBlk w5 w4.heap.size (numV H59 bd) (numV H60 (rest1 bd)) (.slice none 0 0) (.slice none 0 0)) := Lib.hid (by subst hW; exact ⟨by go_cell, by go_cell, by go_cell, by go_cell, by simp, by simp, by simp, by simp⟩)
  clear hW
  have R5 : Hid (RdrIs w5 w1.heap.size rb (rest2 bd) (numB H59 bd || numB H60 (rest1 bd))) := Lib.hid (R4.out.below B5.out)
  have T5 : Hid (SBlk w5 w.heap.size 0 0 (.slice none 0 0) (.slice none 0 0)) := Lib.hid (((S2.out.kept A4.out (by omega))).below B5.out)
  have A5 : Hid (Kept w2 w5 (fun k => k = w1.heap.size)) := Lib.hid (A4.out.trans (Kept.of_below B5.out (S := fun k => k = w1.heap.size) (fun k h1 h2 => by omega)))
  have hsb := S5.out.lt
  generalize hSB : w4.heap.size = sb at *
  have hsb2 : w2.heap.size ≤ sb := by omega
  refine (qnum_any w1.heap.size 7 (rest2 bd) _ _ R5.out (by decide) (by decide)).mono ?_
  rintro e w6 ⟨rfl, h1, k1⟩
  rw [E7.out] at h1 ⊢
  have hn7 : ((memN bd : Nat) : Int) ≤ 7 := by have := memN_le bd; omega
  have R6 : Hid (RdrIs w6 w1.heap.size rb (rest3 bd) ((numB H59 bd || numB H60 (rest1 bd)) || numB 7 (rest2 bd))) := Lib.hid h1
  have K6 := Lib.hid k1
  have hs6 := k1.size
  clear h1 k1
  rw [show numV 7 (rest2 bd) = memN bd from rfl]
  have S6 : Hid (SBlk w6 sb (numV H59 bd) (numV H60 (rest1 bd)) (.slice none 0 0) (.slice none 0 0)) := Lib.hid (S5.out.kept K6.out (by omega))
  have T6 : Hid (SBlk w6 w.heap.size 0 0 (.slice none 0 0) (.slice none 0 0)) := Lib.hid (T5.out.kept K6.out (by omega))
  have A6 : Hid (Kept w2 w6 (fun k => k = w1.heap.size)) := Lib.hid (A5.out.trans K6.out)
  generalize hX : ((numB H59 bd || numB H60 (rest1 bd)) || numB 7 (rest2 bd)) = bad3 at R6
  have HBX := Lib.hid hX
  clear hX
  go_wp2_with fail
  go_loopw [31] (fun x wr => ∃ (k : Nat) (mv : Value), k ≤ memN bd ∧ x = .int .u64 k ∧ MemI w2 w1.heap.size rb 7 (rest3 bd) bad3 sb w.heap.size (sb + 1) (numV H59 bd) (numV H60 (rest1 bd)) k mv wr) (fun x _ => memN bd - (intOf x).toNat)
  case atStart => exact ⟨0, _, Nat.zero_le _, rfl, by rw [memL, memB, Bool.or_false]; exact R6.out, S6.out, T6.out, Owns.nil _ _ _ _, A6.out, by omega⟩
  case round =>
    obtain ⟨k, mv, hk, rfl, hI⟩ := hrel
    have I := Lib.hid hI
    have hsz := hI.le
    clear hI
    by_cases hlt : k < memN bd
    · have hv6 : ((numV 7 (memL 7 k (rest3 bd)) : Nat) : Int) ≤ 7 := by have := numV_le 7 (memL 7 k (rest3 bd)); omega
      have hki : (k : Int) < (memN bd : Int) := by omega
      have HLN : Hid ((memV 7 k (rest3 bd)).length + [((numV 7 (memL 7 k (rest3 bd)) : Nat) : Int)].length ≤ 4294967296) := Lib.hid (by rw [length_memV]; simp only [List.length_cons, List.length_nil]; have := memN_le bd; omega)
      have hw6 : IntKind.i64.wrap ((numV 7 (memL 7 k (rest3 bd)) : Nat) : Int) = ((numV 7 (memL 7 k (rest3 bd)) : Nat) : Int) := by simp only [IntKind.wrap_i64]; omega
      go_wp2_with fail
      refine region_start [0, 1, 0, 4, 12, 28, 63, 127, 255] 24 (fun w' => w'.cell? ⟨sb, 2, none⟩ = some mv) (by kernel_rfl) ?_
      refine stage_heads [0, 1, 2] (by kernel_rfl) (L := #[true, true, true, false, false, false, false, false, false]) (by kernel_rfl) (f' := 6) rfl (fun _ _ _ _ h => h) (fun w o h => (Stable.cell _ _).alloc h o) (.inr I.out.sn.c2) ?_
      simp only [List.flatMap_cons, List.flatMap_nil, List.drop_succ_cons, List.drop_zero, List.take_succ_cons, List.take_zero, List.cons_append, List.nil_append, List.append_nil]
      iterate 3 (first | (refine heads_load _ (by rfl) (fun w' hs => by have y0 := hs; go_simp; try with_reducible rfl) rfl ?_; simp only [Act.put, List.setIfInBounds_toArray, List.set_cons_zero, List.set_cons_succ]) | (refine heads_pure _ (by rfl) (fun w' => by go_simp; try with_reducible rfl) ?_; simp only [Act.put, List.setIfInBounds_toArray, List.set_cons_zero, List.set_cons_succ]))
      refine heads_nil ?_
      refine stage_op 3 (by kernel_rfl) (L := #[true, true, true, true, false, false, false, false, false]) (by kernel_rfl) ?_
      simp only [List.drop_succ_cons, List.drop_zero, List.take_succ_cons, List.take_zero]
      go_wp2_with fail; refine (qnum_any w1.heap.size 7 _ _ _ (I.out.rd.below ((Below.refl _ _).drew)) (by decide) (by decide)).mono ?_; rintro e u3 ⟨rfl, h3, k3⟩; rw [E7.out] at h3 ⊢; have H3 := Lib.hid h3; have K3 : Hid (Kept wr u3 (fun k => k = w1.heap.size)) := Lib.hid ((Kept.drew wr (fun k => k = w1.heap.size)).trans k3); clear h3 k3; have S3 : Hid (SBlk u3 sb (numV H59 bd) (numV H60 (rest1 bd)) mv (.slice none 0 0)) := Lib.hid (I.out.sn.kept K3.out (by omega)); have S4 : Hid (SBlk u3 w.heap.size 0 0 (.slice none 0 0) (.slice none 0 0)) := Lib.hid (I.out.rs.kept K3.out (by omega)); have LE3 : Hid (sb + 1 ≤ u3.heap.size) := Lib.hid (Nat.le_trans I.out.le K3.out.size); have O3 : Hid (Owns u3 (sb + 1) 3 .i64 mv (memV 7 k (rest3 bd))) := Lib.hid (I.out.own.kept K3.out (fun g hg e => by have := (I.out.own.lt g hg).1; omega)); go_wp2_with fail
      refine step_post (fun _ => S3.out.c2) ?_
      refine stage_heads [4] (by kernel_rfl) (L := #[true, true, true, true, true, false, false, false, false]) (by kernel_rfl) (f' := 4) rfl (fun _ _ _ _ h => h) (fun w o h => (Stable.cell _ _).alloc h o) (.inr (by first | exact S3.out.c2 | exact cell_drew S3.out.c2)) ?_
      simp only [List.flatMap_cons, List.flatMap_nil, List.drop_succ_cons, List.drop_zero, List.take_succ_cons, List.take_zero, List.append_nil]
      iterate 1 (first | (refine heads_load _ (by rfl) (fun w' hs => by have y0 := hs; go_simp; try with_reducible rfl) rfl ?_; simp only [Act.put, List.setIfInBounds_toArray, List.set_cons_zero, List.set_cons_succ]) | (refine heads_pure _ (by rfl) (fun w' => by go_simp; try with_reducible rfl) ?_; simp only [Act.put, List.setIfInBounds_toArray, List.set_cons_zero, List.set_cons_succ]))
      refine heads_nil ?_
      refine stage_op 5 (by kernel_rfl) (L := #[true, true, true, true, true, true, false, false, false]) (by kernel_rfl) ?_
      simp only [List.drop_succ_cons, List.drop_zero, List.take_succ_cons, List.take_zero]
      go_wp2_with fail; generalize hu5 : World.alloc _ _ = u5; have B5 : Hid (Below u3.heap.size u3 u5) := Lib.hid (by subst hu5; first | exact (Below.refl _ _).alloc (Nat.le_refl _) _ | exact ((Below.refl _ _).drew).alloc (Nat.le_refl _) _ | exact (((Below.refl _ _).drew).drew).alloc (Nat.le_refl _) _); have ONE5 : Hid (Reads u5 .i64 (.slice (some ⟨u3.heap.size, 0, none⟩) 1 1) [((numV 7 (memL 7 k (rest3 bd)) : Nat) : Int)]) := Lib.hid (by subst hu5; first | exact Reads.one _ _ _ _); clear hu5
      refine step_post nofun ?_
      refine stage_op 6 (by kernel_rfl) (L := #[true, true, true, true, true, true, true, false, false]) (by kernel_rfl) ?_
      simp only [List.drop_succ_cons, List.drop_zero, List.take_succ_cons, List.take_zero]
      refine wpList_append_ints Tryz.i64s _ _ rfl (sb + 1) mv (.slice (some ⟨u3.heap.size, 0, none⟩) 1 1) (memV 7 k (rest3 bd)) [((numV 7 (memL 7 k (rest3 bd)) : Nat) : Int)] rfl rfl (by first | exact O3.out.below B5.out | exact (O3.out.below B5.out).drew) (by first | exact ONE5.out | exact ONE5.out.drew) (by decide) HLN.out (by have := LE3.out; have := B5.out.size; first | omega | (simp only [World.size_drew]; omega)) rfl ?_; intro v6 u6 hown6 hgr6 hat6 hnil6 hbel6; obtain ⟨a6, c6, rfl⟩ := hown6.shape; have O6 : Hid (Owns u6 (sb + 1) 3 .i64 (.slice a6 ((memV 7 k (rest3 bd)).length + 1) c6) (memV 7 k (rest3 bd) ++ [((numV 7 (memL 7 k (rest3 bd)) : Nat) : Int)])) := Lib.hid (by have hh := hown6; rw [List.length_append] at hh; exact hh); have OL6 := O3.out.lt; have G6 : Hid (Kept u5 u6 (fun g => mv.ownBlock = some g)) := Lib.hid (by first | exact Kept.of_grown hgr6 | exact (Kept.drew u5 _).trans (Kept.of_grown hgr6)); have S6 : Hid (SBlk u6 sb (numV H59 bd) (numV H60 (rest1 bd)) mv (.slice none 0 0)) := Lib.hid ((S3.out.below B5.out).kept G6.out (fun e => by have := (OL6 _ e).1; omega)); have S7 : Hid (SBlk u6 w.heap.size 0 0 (.slice none 0 0) (.slice none 0 0)) := Lib.hid ((S4.out.below B5.out).kept G6.out (fun e => by have := (OL6 _ e).1; omega)); have R6 : Hid (RdrIs u6 w1.heap.size rb (numL 7 (memL 7 k (rest3 bd))) ((bad3 || memB 7 k (rest3 bd)) || numB 7 (memL 7 k (rest3 bd)))) := Lib.hid ((H3.out.below B5.out).kept G6.out (fun e => by have := (OL6 _ e).1; omega) (fun e => by have := (OL6 _ e).1; omega)); have K6 : Hid (Kept w2 u6 (fun k => k = w1.heap.size)) := Lib.hid (((I.out.kept.trans K3.out).trans (Kept.of_below B5.out (S := fun k => k = w1.heap.size) (fun k h1 h2 => by omega))).andThen G6.out (fun g hg e => by rcases e with e | e; exact e; have := (OL6 _ e).1; omega)); have Z6 : Hid (sb + 1 ≤ u6.heap.size) := Lib.hid (by have := LE3.out; have := B5.out.size; have := G6.out.size; omega); clear hown6 hgr6 hat6 hnil6 hbel6 OL6; go_wp2_with fail
      refine step_post nofun ?_
      refine stage_heads [7] (by kernel_rfl) (L := #[true, true, true, true, true, true, true, true, false]) (by kernel_rfl) (f' := 1) rfl (fun _ _ _ _ h => h) (fun w o h => (Stable.cell _ _).alloc h o) (.inl (by kernel_rfl)) ?_
      simp only [List.flatMap_cons, List.flatMap_nil, List.drop_succ_cons, List.drop_zero, List.take_succ_cons, List.take_zero, List.append_nil]
      iterate 1 (refine heads_pure _ (by rfl) (fun w' => by go_simp; try with_reducible rfl) ?_; simp only [Act.put, List.setIfInBounds_toArray, List.set_cons_zero, List.set_cons_succ])
      refine heads_nil ?_
      refine stage_op 8 (by kernel_rfl) (L := #[true, true, true, true, true, true, true, true, true]) (by kernel_rfl) ?_
      simp only [List.drop_succ_cons, List.drop_zero, List.take_succ_cons, List.take_zero]
      obtain ⟨g1, g2, g3⟩ : u6.cell? ⟨sb, 2, none⟩ = some mv ∧ u6.frozen? ⟨sb, 2, none⟩ = false ∧ sb < u6.heap.size := ⟨S6.out.c2, S6.out.f2, S6.out.lt⟩; go_wp2_with fail; generalize hu8 : World.setCell _ _ _ = u8; have S8 : Hid (SBlk u8 sb (numV H59 bd) (numV H60 (rest1 bd)) (.slice a6 ((memV 7 k (rest3 bd)).length + 1) c6) (.slice none 0 0)) := Lib.hid (by subst hu8; exact S6.out.set2 _); have G8 : Hid (Kept u6 u8 (fun g => g = sb)) := Lib.hid (by subst hu8; exact Kept.setCell u6 ⟨sb, 2, none⟩ _); clear hu8 g1 g2 g3
      refine step_post nofun ?_
      refine stage_done (by kernel_rfl) ?_
      clear hw6
      go_wp2_with fail
      go_roundw
      case rel =>
        refine ⟨k + 1, _, by omega, by go_num, ?_, S8.out, S7.out.kept G8.out (by omega), O6.out.kept G8.out (fun g hg e => by have := (O6.out.lt g hg).1; omega), K6.out.stepNew G8.out (by omega), by have := Z6.out; have := G8.out.size; omega⟩
        have hr := R6.out.kept G8.out (by omega) (by omega)
        rw [Bool.or_assoc] at hr
        exact hr
      case measure => simp [intOf]; omega
    · obtain rfl : k = memN bd := by omega
      have RL : Hid (RdrIs wr w1.heap.size rb (rest4 7 bd) (bad3 || memB 7 (memN bd) (rest3 bd))) := Lib.hid I.out.rd
      go_wp2_with fail
      refine (qtext_any w1.heap.size 32768 _ _ _ RL.out (by decide)).mono ?_
      rintro e w7 ⟨rfl, h7, k7⟩
      have H7 := Lib.hid h7
      have K7 := Lib.hid k7
      have hs7 := k7.size
      clear h7 k7
      have S7 : Hid (SBlk w7 sb (numV H59 bd) (numV H60 (rest1 bd)) mv (.slice none 0 0)) := Lib.hid (I.out.sn.kept K7.out (by omega))
      have T7 : Hid (SBlk w7 w.heap.size 0 0 (.slice none 0 0) (.slice none 0 0)) := Lib.hid (I.out.rs.kept K7.out (by omega))
      have O7 : Hid (Owns w7 (sb + 1) 3 .i64 mv (memV 7 (memN bd) (rest3 bd))) := Lib.hid (I.out.own.kept K7.out (fun g hg e => by have := (I.out.own.lt g hg).1; omega))
      obtain ⟨am, cm, rfl⟩ := O7.out.shape
      have TS : Hid ((strN (textV 32768 (rest4 7 bd))).size ≤ 2097152) := Lib.hid (by rw [size_strN]; have := textV_len 32768 (rest4 7 bd); omega)
      have HTX : Hid (natsOf (strN (textV 32768 (rest4 7 bd))) = textV 32768 (rest4 7 bd)) := Lib.hid (natsOf_strN fun c hc => by obtain ⟨v, _, hB, _⟩ := RL.out.ex; exact hB.lt c (textV_mem c hc))
      have A7 : Hid (Kept w2 w7 (fun k => k = w1.heap.size)) := Lib.hid (I.out.kept.trans K7.out)
      go_wp2_with (refine wpList_to_bytes rfl 9 22 5 _ rfl Tryz.underlying9 Tryz.underlying22 Tryz.underlying5 _ rfl TS.out ?_; intro dv w8 hB8 hb8 hob8; have OB8 := Lib.hid hob8; clear hob8; obtain ⟨ad, cd, rfl, _⟩ := hB8.shape; have HB8 := Lib.hid hB8; have B8 := Lib.hid hb8; obtain ⟨g1, g2, g3⟩ : w8.cell? ⟨sb, 3, none⟩ = some (.slice none 0 0) ∧ w8.frozen? ⟨sb, 3, none⟩ = false ∧ sb < w8.heap.size := ⟨(S7.out.below B8.out).c3, (S7.out.below B8.out).f3, (S7.out.below B8.out).lt⟩; clear hB8 hb8)
      generalize hwF : World.setCell _ _ _ = w9
      have S9 : Hid (SBlk w9 sb (numV H59 bd) (numV H60 (rest1 bd)) (.slice am (memV 7 (memN bd) (rest3 bd)).length cm) (.slice ad (natsOf (strN (textV 32768 (rest4 7 bd)))).length cd)) := Lib.hid (by subst hwF; exact (S7.out.below B8.out).set3 _)
      have K9 : Hid (Kept w8 w9 (fun k => k = sb)) := Lib.hid (by subst hwF; exact Kept.setCell w8 ⟨sb, 3, none⟩ _)
      have T9 : Hid (SBlk w9 w.heap.size 0 0 (.slice none 0 0) (.slice none 0 0)) := Lib.hid ((T7.out.below B8.out).kept K9.out (by omega))
      have R9 : Hid (RdrIs w9 w1.heap.size rb (getL 7 bd) (getB 7 bd)) := Lib.hid (by
        have hh := (H7.out.below B8.out).kept K9.out (by omega) (by omega)
        rw [show getB 7 bd = ((bad3 || memB 7 (memN bd) (rest3 bd)) || textB 32768 (rest4 7 bd)) by rw [← HBX.out]; rfl]
        exact hh)
      have HI9 : Hid (Ints w9 (.slice am (memV 7 (memN bd) (rest3 bd)).length cm) (getS 7 bd).ms) := Lib.hid (Ints.of_owns ((O7.out.below B8.out).kept K9.out (fun g hg e => by have := (O7.out.lt g hg).1; omega)) (by show (memV 7 (memN bd) (rest3 bd)).length ≤ 2097152; rw [length_memV]; have := memN_le bd; omega))
      have HD9 : Hid (Bytes w9 (.slice ad (natsOf (strN (textV 32768 (rest4 7 bd)))).length cd) (getS 7 bd).d) := Lib.hid (by
        have hh := HB8.out
        have ho := OB8.out
        rw [HTX.out] at hh ho ⊢
        exact hh.keptOr K9.out (.inr ho) (by omega))
      have SN9 : Hid (SnapIs w9 (.agg #[.int .u64 (numV H59 bd), .int .u64 (numV H60 (rest1 bd)), .slice am (memV 7 (memN bd) (rest3 bd)).length cm, .slice ad (natsOf (strN (textV 32768 (rest4 7 bd)))).length cd]) (getS 7 bd)) := Lib.hid ⟨_, _, rfl, HI9.out, HD9.out⟩
      have Q9 : Hid (Below w.heap.size w w9) := Lib.hid (B1.out.trans (((B2.out.mono B1.out.size).trans ((A7.out.below (B := w.heap.size) (by omega) (fun k hk => by omega)).trans (B8.out.mono (by omega)))).trans (K9.out.below (B := w.heap.size) (by have := B8.out.size; omega) (fun k hk => by omega))))
      clear hwF g1 g2 g3
      generalize (natsOf (strN (textV 32768 (rest4 7 bd)))).length = dl at *
      generalize (memV 7 (memN bd) (rest3 bd)).length = ml at *
      generalize hI3 : (numV H59 bd : Int) = I3 at *
      generalize hT3 : (numV H60 (rest1 bd) : Int) = T3 at *
      refine (qend_any w1.heap.size _ _ _ R9.out).mono ?_
      rintro e w9' ⟨rfl, rfl⟩
      rw [HE.out]
      obtain ⟨r0, r1, r2, r3, q0, q1, q2, q3⟩ := T9.out
      obtain ⟨y0, y1, y2, y3, _, _, _, _⟩ := S9.out
      have L9 := T9.out.lt
      go_wp2_with fail
      refine (sound_any _ _ _ SN9.out).mono ?_
      rintro e wa ⟨rfl, hba⟩
      rw [HOK.out]
      have Ba := Lib.hid hba
      have Ta : Hid (SBlk wa w.heap.size 0 0 (.slice none 0 0) (.slice none 0 0)) := Lib.hid (T9.out.below Ba.out)
      have Sa : Hid (SBlk wa sb I3 T3 (.slice am ml cm) (.slice ad dl cd)) := Lib.hid (S9.out.below Ba.out)
      have Qa : Hid (Below w.heap.size w wa) := Lib.hid (Q9.out.trans (Ba.out.mono Q9.out.size))
      clear hba r0 r1 r2 r3 q0 q1 q2 q3 y0 y1 y2 y3
      obtain ⟨r0, r1, r2, r3, q0, q1, q2, q3⟩ := Ta.out
      obtain ⟨y0, y1, y2, y3, _, _, _, _⟩ := Sa.out
      have La := Ta.out.lt
      go_wp2_with fail
      generalize hwF : World.setCell _ _ _ = wF
      have KF : Hid (Kept wa wF (fun k => k = w.heap.size)) := Lib.hid (by subst hwF; exact Kept.set4 _ _ _ _ _ _)
      have HR : Hid (SBlk wF w.heap.size I3 T3 (.slice am ml cm) (.slice ad dl cd)) := Lib.hid (by subst hwF; exact Ta.out.set4 _ _ _ _)
      have HSN : Hid (SnapIs wF (.agg #[.int .u64 I3, .int .u64 T3, .slice am ml cm, .slice ad dl cd]) (getS 7 bd)) := Lib.hid (by subst hwF; exact SnapIs.set4 Ta.out (SN9.out.below Ba.out) _ _ _ _)
      clear hwF r0 r1 r2 r3 q0 q1 q2 q3 y0 y1 y2 y3
      obtain ⟨z0, z1, z2, z3, _, _, _, _⟩ := HR.out
      refine bodyPost_ret (v := .tuple #[.agg #[.int .u64 I3, .int .u64 T3, .slice am ml cm, .slice ad dl cd], .bool true]) (by simp [results, Tryz.results43, go_sem, z0, z1, z2, z3]) rfl ?_
      rw [HV.out.1, HV.out.2]
      exact ⟨_, rfl, HSN.out, Qa.out.trans ((KF.out.below (B := w.heap.size) Qa.out.size (fun k hk => by omega))), _, _, _, _, rfl, fun g hg => by have := (O7.out.lt g hg).1; omega, fun g hg => by have := OB8.out; rw [hg] at this; cases this; omega⟩

theorem pread_any (v : Value) (l : List Nat) (w : World) (hB : Bytes w v l) : Calls Tryz.prog 43 #[v] w (ReadPost (readB 7 l) (readS 7 l) w) := by
  by_cases ht : WholeOk l
  · by_cases hk : l.getD 1 0 = 4
    · by_cases he : endE (getL 7 (frBody l)) (getB 7 (frBody l)) = 0
      · by_cases hok : (getS 7 (frBody l)).ok
        · exact (pread_good v l w hB ht hk he hok).mono fun E w' ⟨v, h1, h2, h3, _⟩ => ⟨v, h1, h2, h3⟩
        · exact pread_bad v l w hB ht hk he hok
      · exact pread_end v l w hB ht hk he
    · exact pread_kind v l w hB ht hk
  · exact pread_no v l w hB ht
theorem pread_new (v : Value) (l : List Nat) (w : World) (hB : Bytes w v l) (h : readB 7 l = true) : Calls Tryz.prog 43 #[v] w (ReadNew (readB 7 l) (readS 7 l) w) := by
  obtain ⟨ht, hk, he, hok⟩ := of_decide_eq_true h
  exact pread_good v l w hB ht hk he hok
end Go.Proofs.YtofhccpagnkalaaGreat

/- Both Reads of a snapshot tell the same; plain. -/
namespace Go.Proofs.YtofhccpagnkalaaGreat
open Go.RowKit Go.Maps Go.Proofs.Own

theorem num67_of_le {l : List Nat} (h : numV 7 l ≤ 6) : numV 6 l = numV 7 l ∧ numL 6 l = numL 7 l ∧ numB 6 l = numB 7 l := by
  unfold numV numL numB at *
  by_cases hb : numBad l
  · have h6 : ¬ numGood 6 l := fun g => g.1 hb
    have h7 : ¬ numGood 7 l := fun g => g.1 hb
    simp [h6, h7]
  · by_cases h7 : numX l ≤ 7
    · have g7 : numGood 7 l := ⟨hb, h7⟩
      rw [if_pos g7] at h
      have g6 : numGood 6 l := ⟨hb, h⟩
      simp [g6, g7]
    · have g7 : ¬ numGood 7 l := fun g => h7 g.2
      have g6 : ¬ numGood 6 l := fun g => h7 (Nat.le_trans g.2 (by decide))
      simp [g6, g7]
theorem num67_of_ok {l : List Nat} (h : numB 6 l = false) : numV 6 l = numV 7 l ∧ numL 6 l = numL 7 l ∧ numB 6 l = numB 7 l := by
  have g6 : numGood 6 l := by
    unfold numB at h
    by_cases g : numGood 6 l
    · exact g
    · rw [if_neg g] at h; cases h
  have g7 : numGood 7 l := ⟨g6.1, Nat.le_trans g6.2 (by decide)⟩
  unfold numV numL numB
  simp [g6, g7]
theorem mem67_of_le (l : List Nat) : ∀ k, (∀ x ∈ memV 7 k l, x ≤ 6) → memV 6 k l = memV 7 k l ∧ memL 6 k l = memL 7 k l ∧ memB 6 k l = memB 7 k l
  | 0, _ => ⟨rfl, rfl, rfl⟩
  | k + 1, h => by
    have ih := mem67_of_le l k fun x hx => h x (by rw [memV]; simp [hx])
    have hl : ((numV 7 (memL 7 k l) : Nat) : Int) ≤ 6 := h _ (by rw [memV]; simp)
    have hn := num67_of_le (l := memL 7 k l) (by omega)
    refine ⟨?_, ?_, ?_⟩
    · rw [memV, memV, ih.1, ih.2.1, hn.1]
    · rw [memL, memL, ih.2.1, hn.2.1]
    · rw [memB, memB, ih.2.2, ih.2.1, hn.2.2]
theorem mem67_of_ok (l : List Nat) : ∀ k, memB 6 k l = false → memV 6 k l = memV 7 k l ∧ memL 6 k l = memL 7 k l ∧ memB 6 k l = memB 7 k l
  | 0, _ => ⟨rfl, rfl, rfl⟩
  | k + 1, h => by
    rw [memB, Bool.or_eq_false_iff] at h
    have ih := mem67_of_ok l k h.1
    have hn := num67_of_ok h.2
    rw [ih.2.1] at hn
    refine ⟨?_, ?_, ?_⟩
    · rw [memV, memV, ih.1, ih.2.1, hn.1]
    · rw [memL, memL, ih.2.1, hn.2.1]
    · rw [memB, memB, ih.2.2, ih.2.1, hn.2.2]
theorem get67 {l : List Nat} (h : memV 6 (memN l) (rest3 l) = memV 7 (memN l) (rest3 l) ∧ memL 6 (memN l) (rest3 l) = memL 7 (memN l) (rest3 l) ∧ memB 6 (memN l) (rest3 l) = memB 7 (memN l) (rest3 l)) :
    getS 6 l = getS 7 l ∧ getL 6 l = getL 7 l ∧ getB 6 l = getB 7 l := by
  have e : rest4 6 l = rest4 7 l := h.2.1
  unfold getS getL getB
  rw [e, h.1, h.2.2]
  exact ⟨rfl, rfl, rfl⟩
theorem get67_of_ok7 {l : List Nat} (h : (getS 7 l).ok) : getS 6 l = getS 7 l ∧ getL 6 l = getL 7 l ∧ getB 6 l = getB 7 l := by
  refine get67 (mem67_of_le _ _ fun x hx => ?_)
  have hm : msOk (memV 7 (memN l) (rest3 l)) := h.2.2.2.2.1
  obtain ⟨j, hj, rfl⟩ := List.getElem_of_mem hx
  have := (hm.2.2 j hj).2
  rw [getDi hj] at this
  omega
theorem get67_of_end6 {l : List Nat} (h : endE (getL 6 l) (getB 6 l) = 0) : getS 6 l = getS 7 l ∧ getL 6 l = getL 7 l ∧ getB 6 l = getB 7 l := by
  have hb : getB 6 l = false := by
    unfold endE at h
    split at h
    · cases h
    · rename_i hn
      cases e : getB 6 l
      · rfl
      · exact absurd (.inl e) hn
  unfold getB at hb
  rw [Bool.or_eq_false_iff, Bool.or_eq_false_iff] at hb
  exact get67 (mem67_of_ok _ _ hb.1.2)
theorem readOk67 (l : List Nat) : readOk 6 l ↔ readOk 7 l := by
  constructor
  · intro h
    obtain ⟨h1, h2, h3, h4⟩ := h
    obtain ⟨e1, e2, e3⟩ := get67_of_end6 h3
    exact ⟨h1, h2, by rw [← e2, ← e3]; exact h3, by rw [← e1]; exact h4⟩
  · intro h
    obtain ⟨h1, h2, h3, h4⟩ := h
    obtain ⟨e1, e2, e3⟩ := get67_of_ok7 h4
    exact ⟨h1, h2, by rw [e2, e3]; exact h3, by rw [e1]; exact h4⟩
theorem readB67 (l : List Nat) : readB 6 l = readB 7 l := by
  unfold readB
  by_cases h : readOk 7 l
  · rw [decide_eq_true h, decide_eq_true ((readOk67 l).2 h)]
  · rw [decide_eq_false h, decide_eq_false fun g => h ((readOk67 l).1 g)]
theorem readS67 (l : List Nat) : readS 6 l = readS 7 l := by
  unfold readS
  by_cases h : readOk 7 l
  · rw [if_pos h, if_pos ((readOk67 l).2 h), (get67_of_ok7 h.2.2.2).1]
  · rw [if_neg h, if_neg fun g => h ((readOk67 l).1 g)]
end Go.Proofs.YtofhccpagnkalaaGreat
