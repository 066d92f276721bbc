/- The document's Read of a snapshot; no conditions but the ranges. -/
import Derived.Test.YtofhccpagnkalaaGreatGet
namespace Go.Proofs.YtofhccpagnkalaaGreat
open Go.RowKit Go.Maps Go.Proofs.Own

instance (l : List Nat) : Decidable (WholeOk l) := inferInstanceAs (Decidable (_ ∧ _))
/-- Bytes are those of a sound snapshot (m: the greatest member that is read). -/
def readOk (m : Nat) (l : List Nat) : Prop := WholeOk l ∧ l.getD 1 0 = 4 ∧ endE (getL m (frBody l)) (getB m (frBody l)) = 0 ∧ (getS m (frBody l)).ok
instance (m : Nat) (l : List Nat) : Decidable (readOk m l) := inferInstanceAs (Decidable (_ ∧ _))
def zeroS : SnapS := ⟨0, 0, [], []⟩
def readS (m : Nat) (l : List Nat) : SnapS := if readOk m l then getS m (frBody l) else zeroS
def readB (m : Nat) (l : List Nat) : Bool := decide (readOk m l)
theorem zero_is (w : World) : SnapIs w (.agg #[.int .u64 0, .int .u64 0, .slice none 0 0, .slice none 0 0]) zeroS := ⟨_, _, rfl, Ints.nil w, Bytes.nil w⟩
def ReadNew (b : Bool) (s : SnapS) (w : World) : Ending → World → Prop := fun E w' => ∃ v, E = .returned (.tuple #[v, .bool b]) ∧ SnapIs w' v s ∧ Below w.heap.size w w' ∧ NewRows w.heap.size v
def ReadPost (b : Bool) (s : SnapS) (w : World) : Ending → World → Prop := fun E w' => ∃ v, E = .returned (.tuple #[v, .bool b]) ∧ SnapIs w' v s ∧ Below w.heap.size w w'
theorem read_no {m : Nat} {l : List Nat} (h : ¬ readOk m l) : readB m l = false ∧ readS m l = zeroS := ⟨decide_eq_false h, if_neg h⟩
theorem read_yes {m : Nat} {l : List Nat} (h : readOk m l) : readB m l = true ∧ readS m l = getS m (frBody l) := ⟨decide_eq_true h, if_pos h⟩
/-- A snapshot's new block. -/
theorem SBlk.new (w : World) : SBlk (w.alloc (.cells #[.int .u64 0, .int .u64 0, .slice none 0 0, .slice none 0 0] 40)) w.heap.size 0 0 (.slice none 0 0) (.slice none 0 0) :=
  ⟨by go_cell, by go_cell, by go_cell, by go_cell, by simp, by simp, by simp, by simp⟩
theorem SBlk.set4 {w : World} {b : Nat} {i t : Int} {mv dv : Value} (h : SBlk w b i t mv dv) (i' t' : Int) (mv' dv' : Value) :
    SBlk ((((w.setCell ⟨b, 0, none⟩ (.int .u64 i')).setCell ⟨b, 1, none⟩ (.int .u64 t')).setCell ⟨b, 2, none⟩ mv').setCell ⟨b, 3, none⟩ dv') b i' t' mv' dv' := (((h.set0 i').set1 t').set2 mv').set3 dv'
theorem Reads.setNe {w : World} {k : IntKind} {v : Value} {zs : List Int} (h : Reads w k v zs) {a : Addr} (y : Value) (hne : ∀ x, w.cell? a ≠ some (.int k x)) : Reads (w.setCell a y) k v zs := by
  obtain ⟨ad, c, rfl, hc⟩ := h
  refine ⟨ad, c, rfl, fun j hj => ?_⟩
  obtain ⟨b, o, e, h1⟩ := hc j hj
  refine ⟨b, o, e, ?_⟩
  rw [World.cell?_setCell_other _ _ _ _ (fun e => hne _ (by rw [e]; exact h1))]
  exact h1
theorem Reads.set4 {w : World} {b : Nat} {i t : Int} {mv dv : Value} (S : SBlk w b i t mv dv) {k : IntKind} {v : Value} {zs : List Int} (h : Reads w k v zs) (hk : k ≠ .u64) (hm : ∀ x, mv ≠ .int k x) (hd : ∀ x, dv ≠ .int k x) (i' t' : Int) (mv' dv' : Value) :
    Reads ((((w.setCell ⟨b, 0, none⟩ (.int .u64 i')).setCell ⟨b, 1, none⟩ (.int .u64 t')).setCell ⟨b, 2, none⟩ mv').setCell ⟨b, 3, none⟩ dv') k v zs := by
  have S1 := S.set0 i'
  have S2 := S1.set1 t'
  have S3 := S2.set2 mv'
  refine Reads.setNe (Reads.setNe (Reads.setNe (Reads.setNe h _ fun x e => ?_) _ fun x e => ?_) _ fun x e => ?_) _ fun x e => ?_
  · rw [S.c0] at e; cases e; exact hk rfl
  · rw [S1.c1] at e; cases e; exact hk rfl
  · rw [S2.c2] at e; exact hm x (Option.some.inj e)
  · rw [S3.c3] at e; exact hd x (Option.some.inj e)
theorem SnapIs.set4 {w : World} {b : Nat} {i t : Int} (S : SBlk w b i t (.slice none 0 0) (.slice none 0 0)) {v : Value} {s : SnapS} (h : SnapIs w v s) (i' t' : Int) (mv' dv' : Value) :
    SnapIs ((((w.setCell ⟨b, 0, none⟩ (.int .u64 i')).setCell ⟨b, 1, none⟩ (.int .u64 t')).setCell ⟨b, 2, none⟩ mv').setCell ⟨b, 3, none⟩ dv') v s := by
  obtain ⟨mv, dv, h1, h2, h3⟩ := h
  exact ⟨mv, dv, h1, ⟨h2.shape, Reads.set4 S h2.rd (by decide) nofun nofun i' t' mv' dv', h2.small⟩, ⟨h3.shape, Reads.set4 S h3.rd (by decide) nofun nofun i' t' mv' dv', h3.lt, h3.small⟩⟩
theorem Kept.set4 (w : World) (b : Nat) (i' t' : Int) (mv' dv' : Value) :
    Kept w ((((w.setCell ⟨b, 0, none⟩ (.int .u64 i')).setCell ⟨b, 1, none⟩ (.int .u64 t')).setCell ⟨b, 2, none⟩ mv').setCell ⟨b, 3, none⟩ dv') (fun k => k = b) :=
  (((Kept.setCell w ⟨b, 0, none⟩ _).trans (Kept.setCell _ ⟨b, 1, none⟩ _)).trans (Kept.setCell _ ⟨b, 2, none⟩ _)).trans (Kept.setCell _ ⟨b, 3, none⟩ _)

set_option maxHeartbeats 2000000 in
set_option maxRecDepth 20000 in
theorem rread_no1 (v : Value) (l : List Nat) (w : World) (hB : Bytes w v l) (ht : takeE l ≠ 0) : Calls Tryz.prog 45 #[v] w (ReadPost (readB 6 l) (readS 6 l) w) := by
  have HB := Lib.hid hB
  have HV : Hid (readB 6 l = false ∧ readS 6 l = zeroS) := Lib.hid (read_no fun h => ht h.1.1)
  obtain ⟨k, hk⟩ : ∃ k, k = takeE l := ⟨_, rfl⟩
  have hk0 : ((k : Int) != 0) = true := by simp; omega
  have HK := Lib.hid hk
  have HT := Lib.hid ht
  obtain ⟨a, c, rfl, _⟩ := hB.shape
  clear hB hk ht
  go_enter Tryz.func45, Tryz.ntmps45
  go_wp2_with fail
  refine (rtake_any _ l _ (HB.out.alloc _)).mono ?_
  rintro e w1 ⟨hb1, hno, hyes⟩
  have he := hno HT.out
  subst he
  rw [← HK.out]
  have B1 : Hid (Below w.heap.size w w1) := Lib.hid (((Below.refl w.heap.size w).alloc (Nat.le_refl _) (.cells #[.int .u64 0, .int .u64 0, .slice none 0 0, .slice none 0 0] 40)).trans (hb1.mono (by simp)))
  have S1 : Hid (SBlk w1 w.heap.size 0 0 (.slice none 0 0) (.slice none 0 0)) := Lib.hid ((SBlk.new w).below hb1)
  obtain ⟨r0, r1, r2, r3, q0, q1, q2, q3⟩ := S1.out
  have L1 := S1.out.lt
  clear hb1 hno hyes
  go_wp2_with fail
  generalize hwF : World.setCell _ _ _ = wF
  have KF : Hid (Kept w1 wF (fun k => k = w.heap.size)) := Lib.hid (by subst hwF; exact Kept.set4 _ _ _ _ _ _)
  have HR : Hid (SBlk wF w.heap.size 0 0 (.slice none 0 0) (.slice none 0 0)) := Lib.hid (by subst hwF; exact S1.out.set4 _ _ _ _)
  clear hwF r0 r1 r2 r3 q0 q1 q2 q3
  obtain ⟨z0, z1, z2, z3, _, _, _, _⟩ := HR.out
  refine bodyPost_ret (v := .tuple #[.agg #[.int .u64 0, .int .u64 0, .slice none 0 0, .slice none 0 0], .bool false]) (by simp [results, Tryz.results45, go_sem, z0, z1, z2, z3]) rfl ?_
  rw [HV.out.1, HV.out.2]
  exact ⟨_, rfl, zero_is _, B1.out.trans ((KF.out.below (B := w.heap.size) B1.out.size (fun k hk => by omega)))⟩

set_option maxHeartbeats 2000000 in
set_option maxRecDepth 20000 in
theorem rread_no2 (v : Value) (l : List Nat) (w : World) (hB : Bytes w v l) (ht : takeE l = 0) (hk : l.getD 1 0 ≠ 4 ∨ frN l + 8 ≠ l.length) : Calls Tryz.prog 45 #[v] w (ReadPost (readB 6 l) (readS 6 l) w) := by
  have HB := Lib.hid hB
  have HV : Hid (readB 6 l = false ∧ readS 6 l = zeroS) := Lib.hid (read_no fun h => hk.elim (fun g => g h.2.1) (fun g => g h.1.2))
  have HT := Lib.hid ht
  have hx : l.getD 1 0 < 256 := hB.getD_lt 1
  obtain ⟨a, c, rfl, _⟩ := hB.shape
  have hkk : (((l.getD 1 0 : Nat) : Int) != 4) = true ∨ ((((l.getD 1 0 : Nat) : Int) != 4) = false ∧ (((frN l + 8 : Nat) : Int) != (l.length : Int)) = true) := by
    by_cases h4 : l.getD 1 0 = 4
    · rw [h4]
      refine .inr ⟨rfl, bne_iff_ne.2 ?_⟩
      rcases hk with h | h
      · exact absurd h4 h
      · omega
    · exact .inl (bne_iff_ne.2 (by omega))
  clear hB ht hk
  generalize hnn : frN l + 8 = n at hkk
  have HN := Lib.hid hnn
  generalize hxx : l.getD 1 0 = x at hkk hx
  have HX := Lib.hid hxx
  clear hnn hxx
  rcases hkk with k1 | ⟨k1, k2⟩
  all_goals
    go_enter Tryz.func45, Tryz.ntmps45
    go_wp2_with fail
    refine (rtake_any _ l _ (HB.out.alloc _)).mono ?_
    rintro e w1 ⟨hb1, hno, hyes⟩
    obtain ⟨v1, rfl, hB1⟩ := hyes HT.out
    rw [HN.out, HX.out]
    clear hB1
    have B1 : Hid (Below w.heap.size w w1) := Lib.hid (((Below.refl w.heap.size w).alloc (Nat.le_refl _) (.cells #[.int .u64 0, .int .u64 0, .slice none 0 0, .slice none 0 0] 40)).trans (hb1.mono (by simp)))
    have S1 : Hid (SBlk w1 w.heap.size 0 0 (.slice none 0 0) (.slice none 0 0)) := Lib.hid ((SBlk.new w).below hb1)
    obtain ⟨r0, r1, r2, r3, q0, q1, q2, q3⟩ := S1.out
    have L1 := S1.out.lt
    clear hb1 hno hyes
    go_wp2_with fail
    generalize hwF : World.setCell _ _ _ = wF
    have KF : Hid (Kept w1 wF (fun k => k = w.heap.size)) := Lib.hid (by subst hwF; exact Kept.set4 _ _ _ _ _ _)
    have HR : Hid (SBlk wF w.heap.size 0 0 (.slice none 0 0) (.slice none 0 0)) := Lib.hid (by subst hwF; exact S1.out.set4 _ _ _ _)
    clear hwF r0 r1 r2 r3 q0 q1 q2 q3
    obtain ⟨z0, z1, z2, z3, _, _, _, _⟩ := HR.out
    refine bodyPost_ret (v := .tuple #[.agg #[.int .u64 0, .int .u64 0, .slice none 0 0, .slice none 0 0], .bool false]) (by simp [results, Tryz.results45, go_sem, z0, z1, z2, z3]) rfl ?_
    rw [HV.out.1, HV.out.2]
    exact ⟨_, rfl, zero_is _, B1.out.trans ((KF.out.below (B := w.heap.size) B1.out.size (fun k hk => by omega)))⟩

set_option maxHeartbeats 2000000 in
set_option maxRecDepth 20000 in
theorem rread_end (v : Value) (l : List Nat) (w : World) (hB : Bytes w v l) (ht : takeE l = 0) (h4 : l.getD 1 0 = 4) (hn : frN l + 8 = l.length) (he : endE (getL 6 (frBody l)) (getB 6 (frBody l)) ≠ 0) : Calls Tryz.prog 45 #[v] w (ReadPost (readB 6 l) (readS 6 l) w) := by
  have HB := Lib.hid hB
  have HV : Hid (readB 6 l = false ∧ readS 6 l = zeroS) := Lib.hid (read_no fun h => he h.2.2.1)
  obtain ⟨ee, hee⟩ : ∃ k, endE (getL 6 (frBody l)) (getB 6 (frBody l)) = k := ⟨_, rfl⟩
  have hk0 : ((ee : Int) != 0) = true := bne_iff_ne.2 (by omega)
  have HE := Lib.hid hee
  clear he hee
  have HT := Lib.hid ht
  have HF : Hid (l.getD 1 0 = 4 ∧ frN l + 8 = l.length) := Lib.hid ⟨h4, hn⟩
  obtain ⟨a, c, rfl, _⟩ := hB.shape
  clear hB ht h4 hn
  go_enter Tryz.func45, Tryz.ntmps45
  go_wp2_with fail
  refine (rtake_any _ l _ (HB.out.alloc _)).mono ?_
  rintro e w1 ⟨hb1, hno, hyes⟩
  obtain ⟨v1, rfl, hB1⟩ := hyes HT.out
  rw [HF.out.1, HF.out.2]
  have HB1 := Lib.hid hB1
  obtain ⟨a1, c1, rfl, _⟩ := hB1.shape
  clear hB1
  have B1 : Hid (Below w.heap.size w w1) := Lib.hid (((Below.refl w.heap.size w).alloc (Nat.le_refl _) (.cells #[.int .u64 0, .int .u64 0, .slice none 0 0, .slice none 0 0] 40)).trans (hb1.mono (by simp)))
  have S1 : Hid (SBlk w1 w.heap.size 0 0 (.slice none 0 0) (.slice none 0 0)) := Lib.hid ((SBlk.new w).below hb1)
  obtain ⟨r0, r1, r2, r3, q0, q1, q2, q3⟩ := S1.out
  have L1 := S1.out.lt
  clear hb1 hno hyes
  go_wp2_with fail
  generalize hW2 : World.alloc w1 _ = w2
  have B2 : Hid (Below w1.heap.size w1 w2) := Lib.hid (by subst hW2; exact (Below.refl _ _).alloc (Nat.le_refl _) _)
  have RB : ∃ rb : Nat, rb < w1.heap.size ∧ (frBody l = [] ∨ (Value.slice a1 (frBody l).length c1).ownBlock = some rb) := by
    by_cases h0 : frBody l = []
    · exact ⟨w.heap.size, L1, .inl h0⟩
    · obtain ⟨b, e1, e2⟩ := HB1.out.lt_block h0
      exact ⟨b, e2, .inr e1⟩
  obtain ⟨rb, hrb, hown⟩ := RB
  have R2 : Hid (RdrIs w2 w1.heap.size rb (frBody l) false) := Lib.hid (by
    subst hW2
    exact ⟨⟨_, by go_cell, HB1.out.alloc _, hown⟩, by omega, by go_cell, by simp, by simp⟩)
  have S2 : Hid (SBlk w2 w.heap.size 0 0 (.slice none 0 0) (.slice none 0 0)) := Lib.hid (S1.out.below B2.out)
  have HRB : Hid (rb < w2.heap.size) := Lib.hid (by have := B2.out.size; omega)
  clear hW2 hrb hown r0 r1 r2 r3 q0 q1 q2 q3
  refine (rget_any w1.heap.size (frBody l) false _ R2.out HRB.out).mono ?_
  rintro e w3 ⟨v3, rfl, hs3, hr3, hk3⟩
  rw [Bool.false_or] at hr3
  have R3 := Lib.hid hr3
  have K3 := Lib.hid hk3
  have HS3 := Lib.hid hs3
  have S3 : Hid (SBlk w3 w.heap.size 0 0 (.slice none 0 0) (.slice none 0 0)) := Lib.hid (S2.out.kept K3.out (by omega))
  have B3 : Hid (Below w.heap.size w w3) := Lib.hid ((B1.out.trans (B2.out.mono B1.out.size)).trans (K3.out.below (B := w.heap.size) (Nat.le_trans B1.out.size B2.out.size) (fun k hk => by have := B1.out.size; omega)))
  have HSND : Hid (∀ w4 : World, Below w3.heap.size w3 w4 → SnapIs w4 v3 (getS 6 (frBody l))) := Lib.hid fun w4 hb => HS3.out.below hb
  obtain ⟨mv, dv, rfl, hm, hd⟩ := hs3
  obtain ⟨am, cm, rfl, _⟩ := hm.shape
  obtain ⟨ad, cd, rfl, _⟩ := hd.shape
  clear hr3 hk3 hm hd
  generalize hI : (getS 6 (frBody l)).i = I3 at *
  generalize hT3 : (getS 6 (frBody l)).t = T3 at *
  go_wp2_with fail
  generalize hW4 : World.alloc w3 _ = w4
  have B4 : Hid (Below w3.heap.size w3 w4) := Lib.hid (by subst hW4; exact (Below.refl _ _).alloc (Nat.le_refl _) _)
  have C4 : Hid (SBlk w4 w3.heap.size I3 T3 (.slice am (getS 6 (frBody l)).ms.length cm) (.slice ad (getS 6 (frBody l)).d.length cd)) := Lib.hid (by subst hW4; exact ⟨by go_cell, by go_cell, by go_cell, by go_cell, by simp, by simp, by simp, by simp⟩)
  have S4 : Hid (SBlk w4 w.heap.size 0 0 (.slice none 0 0) (.slice none 0 0)) := Lib.hid (S3.out.below B4.out)
  have R4 : Hid (RdrIs w4 w1.heap.size rb (getL 6 (frBody l)) (getB 6 (frBody l))) := Lib.hid (R3.out.below B4.out)
  have Q4 : Hid (Below w.heap.size w w4) := Lib.hid (B3.out.trans (B4.out.mono B3.out.size))
  clear hW4
  refine (rend_any w1.heap.size _ _ _ R4.out).mono ?_
  rintro e w4' ⟨rfl, rfl⟩
  rw [HE.out]
  obtain ⟨r0, r1, r2, r3, q0, q1, q2, q3⟩ := S4.out
  have L4 := S4.out.lt
  go_wp2_with fail
  generalize hwF : World.setCell _ _ _ = wF
  have KF : Hid (Kept w4 wF (fun k => k = w.heap.size)) := Lib.hid (by subst hwF; exact Kept.set4 _ _ _ _ _ _)
  have HR : Hid (SBlk wF w.heap.size 0 0 (.slice none 0 0) (.slice none 0 0)) := Lib.hid (by subst hwF; exact S4.out.set4 _ _ _ _)
  clear hwF r0 r1 r2 r3 q0 q1 q2 q3
  obtain ⟨z0, z1, z2, z3, _, _, _, _⟩ := HR.out
  refine bodyPost_ret (v := .tuple #[.agg #[.int .u64 0, .int .u64 0, .slice none 0 0, .slice none 0 0], .bool false]) (by simp [results, Tryz.results45, go_sem, z0, z1, z2, z3]) rfl ?_
  rw [HV.out.1, HV.out.2]
  exact ⟨_, rfl, zero_is _, Q4.out.trans ((KF.out.below (B := w.heap.size) Q4.out.size (fun k hk => by omega)))⟩

set_option maxHeartbeats 2000000 in
set_option maxRecDepth 20000 in
theorem rread_bad (v : Value) (l : List Nat) (w : World) (hB : Bytes w v l) (ht : takeE l = 0) (h4 : l.getD 1 0 = 4) (hn : frN l + 8 = l.length) (he : endE (getL 6 (frBody l)) (getB 6 (frBody l)) = 0) (hok : ¬ (getS 6 (frBody l)).ok) : Calls Tryz.prog 45 #[v] w (ReadPost (readB 6 l) (readS 6 l) w) := by
  have HB := Lib.hid hB
  have HV : Hid (readB 6 l = false ∧ readS 6 l = zeroS) := Lib.hid (read_no fun h => hok h.2.2.2)
  have HE := Lib.hid he
  have HOK : Hid ((getS 6 (frBody l)).okB = false) := Lib.hid (decide_eq_false hok)
  clear he hok
  have HT := Lib.hid ht
  have HF : Hid (l.getD 1 0 = 4 ∧ frN l + 8 = l.length) := Lib.hid ⟨h4, hn⟩
  obtain ⟨a, c, rfl, _⟩ := hB.shape
  clear hB ht h4 hn
  go_enter Tryz.func45, Tryz.ntmps45
  go_wp2_with fail
  refine (rtake_any _ l _ (HB.out.alloc _)).mono ?_
  rintro e w1 ⟨hb1, hno, hyes⟩
  obtain ⟨v1, rfl, hB1⟩ := hyes HT.out
  rw [HF.out.1, HF.out.2]
  have HB1 := Lib.hid hB1
  obtain ⟨a1, c1, rfl, _⟩ := hB1.shape
  clear hB1
  have B1 : Hid (Below w.heap.size w w1) := Lib.hid (((Below.refl w.heap.size w).alloc (Nat.le_refl _) (.cells #[.int .u64 0, .int .u64 0, .slice none 0 0, .slice none 0 0] 40)).trans (hb1.mono (by simp)))
  have S1 : Hid (SBlk w1 w.heap.size 0 0 (.slice none 0 0) (.slice none 0 0)) := Lib.hid ((SBlk.new w).below hb1)
  obtain ⟨r0, r1, r2, r3, q0, q1, q2, q3⟩ := S1.out
  have L1 := S1.out.lt
  clear hb1 hno hyes
  go_wp2_with fail
  generalize hW2 : World.alloc w1 _ = w2
  have B2 : Hid (Below w1.heap.size w1 w2) := Lib.hid (by subst hW2; exact (Below.refl _ _).alloc (Nat.le_refl _) _)
  have RB : ∃ rb : Nat, rb < w1.heap.size ∧ (frBody l = [] ∨ (Value.slice a1 (frBody l).length c1).ownBlock = some rb) := by
    by_cases h0 : frBody l = []
    · exact ⟨w.heap.size, L1, .inl h0⟩
    · obtain ⟨b, e1, e2⟩ := HB1.out.lt_block h0
      exact ⟨b, e2, .inr e1⟩
  obtain ⟨rb, hrb, hown⟩ := RB
  have R2 : Hid (RdrIs w2 w1.heap.size rb (frBody l) false) := Lib.hid (by
    subst hW2
    exact ⟨⟨_, by go_cell, HB1.out.alloc _, hown⟩, by omega, by go_cell, by simp, by simp⟩)
  have S2 : Hid (SBlk w2 w.heap.size 0 0 (.slice none 0 0) (.slice none 0 0)) := Lib.hid (S1.out.below B2.out)
  have HRB : Hid (rb < w2.heap.size) := Lib.hid (by have := B2.out.size; omega)
  clear hW2 hrb hown r0 r1 r2 r3 q0 q1 q2 q3
  refine (rget_any w1.heap.size (frBody l) false _ R2.out HRB.out).mono ?_
  rintro e w3 ⟨v3, rfl, hs3, hr3, hk3⟩
  rw [Bool.false_or] at hr3
  have R3 := Lib.hid hr3
  have K3 := Lib.hid hk3
  have HS3 := Lib.hid hs3
  have S3 : Hid (SBlk w3 w.heap.size 0 0 (.slice none 0 0) (.slice none 0 0)) := Lib.hid (S2.out.kept K3.out (by omega))
  have B3 : Hid (Below w.heap.size w w3) := Lib.hid ((B1.out.trans (B2.out.mono B1.out.size)).trans (K3.out.below (B := w.heap.size) (Nat.le_trans B1.out.size B2.out.size) (fun k hk => by have := B1.out.size; omega)))
  have HSND : Hid (∀ w4 : World, Below w3.heap.size w3 w4 → SnapIs w4 v3 (getS 6 (frBody l))) := Lib.hid fun w4 hb => HS3.out.below hb
  obtain ⟨mv, dv, rfl, hm, hd⟩ := hs3
  obtain ⟨am, cm, rfl, _⟩ := hm.shape
  obtain ⟨ad, cd, rfl, _⟩ := hd.shape
  clear hr3 hk3 hm hd
  generalize hI : (getS 6 (frBody l)).i = I3 at *
  generalize hT3 : (getS 6 (frBody l)).t = T3 at *
  go_wp2_with fail
  generalize hW4 : World.alloc w3 _ = w4
  have B4 : Hid (Below w3.heap.size w3 w4) := Lib.hid (by subst hW4; exact (Below.refl _ _).alloc (Nat.le_refl _) _)
  have C4 : Hid (SBlk w4 w3.heap.size I3 T3 (.slice am (getS 6 (frBody l)).ms.length cm) (.slice ad (getS 6 (frBody l)).d.length cd)) := Lib.hid (by subst hW4; exact ⟨by go_cell, by go_cell, by go_cell, by go_cell, by simp, by simp, by simp, by simp⟩)
  have S4 : Hid (SBlk w4 w.heap.size 0 0 (.slice none 0 0) (.slice none 0 0)) := Lib.hid (S3.out.below B4.out)
  have R4 : Hid (RdrIs w4 w1.heap.size rb (getL 6 (frBody l)) (getB 6 (frBody l))) := Lib.hid (R3.out.below B4.out)
  have Q4 : Hid (Below w.heap.size w w4) := Lib.hid (B3.out.trans (B4.out.mono B3.out.size))
  clear hW4
  refine (rend_any w1.heap.size _ _ _ R4.out).mono ?_
  rintro e w4' ⟨rfl, rfl⟩
  rw [HE.out]
  obtain ⟨r0, r1, r2, r3, q0, q1, q2, q3⟩ := S4.out
  obtain ⟨y0, y1, y2, y3, _, _, _, _⟩ := C4.out
  have L4 := S4.out.lt
  have SN4 : Hid (SnapIs w4 (.agg #[.int .u64 I3, .int .u64 T3, .slice am (getS 6 (frBody l)).ms.length cm, .slice ad (getS 6 (frBody l)).d.length cd]) (getS 6 (frBody l))) := Lib.hid (HSND.out w4 B4.out)
  go_wp2_with fail
  refine (rsound_any _ _ _ SN4.out).mono ?_
  rintro e w5 ⟨rfl, hb5⟩
  rw [HOK.out]
  have B5 := Lib.hid hb5
  have S5 : Hid (SBlk w5 w.heap.size 0 0 (.slice none 0 0) (.slice none 0 0)) := Lib.hid (S4.out.below B5.out)
  have C5 : Hid (SBlk w5 w3.heap.size I3 T3 (.slice am (getS 6 (frBody l)).ms.length cm) (.slice ad (getS 6 (frBody l)).d.length cd)) := Lib.hid (C4.out.below B5.out)
  have Q5 : Hid (Below w.heap.size w w5) := Lib.hid (Q4.out.trans (B5.out.mono Q4.out.size))
  clear hb5 r0 r1 r2 r3 q0 q1 q2 q3 y0 y1 y2 y3
  obtain ⟨r0, r1, r2, r3, q0, q1, q2, q3⟩ := S5.out
  obtain ⟨y0, y1, y2, y3, _, _, _, _⟩ := C5.out
  have L5 := S5.out.lt
  go_wp2_with fail
  generalize hwF : World.setCell _ _ _ = wF
  have KF : Hid (Kept w5 wF (fun k => k = w.heap.size)) := Lib.hid (by subst hwF; exact Kept.set4 _ _ _ _ _ _)
  have HR : Hid (SBlk wF w.heap.size 0 0 (.slice none 0 0) (.slice none 0 0)) := Lib.hid (by subst hwF; exact S5.out.set4 _ _ _ _)
  clear hwF r0 r1 r2 r3 q0 q1 q2 q3
  obtain ⟨z0, z1, z2, z3, _, _, _, _⟩ := HR.out
  refine bodyPost_ret (v := .tuple #[.agg #[.int .u64 0, .int .u64 0, .slice none 0 0, .slice none 0 0], .bool false]) (by simp [results, Tryz.results45, go_sem, z0, z1, z2, z3]) rfl ?_
  rw [HV.out.1, HV.out.2]
  exact ⟨_, rfl, zero_is _, Q5.out.trans ((KF.out.below (B := w.heap.size) Q5.out.size (fun k hk => by omega)))⟩

set_option maxHeartbeats 2000000 in
set_option maxRecDepth 20000 in
theorem rread_good (v : Value) (l : List Nat) (w : World) (hB : Bytes w v l) (ht : takeE l = 0) (h4 : l.getD 1 0 = 4) (hn : frN l + 8 = l.length) (he : endE (getL 6 (frBody l)) (getB 6 (frBody l)) = 0) (hok : (getS 6 (frBody l)).ok) : Calls Tryz.prog 45 #[v] w (ReadNew (readB 6 l) (readS 6 l) w) := by
  have HB := Lib.hid hB
  have HV : Hid (readB 6 l = true ∧ readS 6 l = getS 6 (frBody l)) := Lib.hid (read_yes ⟨⟨ht, hn⟩, h4, he, hok⟩)
  have HE := Lib.hid he
  have HOK : Hid ((getS 6 (frBody l)).okB = true) := Lib.hid (decide_eq_true hok)
  clear he hok
  have HT := Lib.hid ht
  have HF : Hid (l.getD 1 0 = 4 ∧ frN l + 8 = l.length) := Lib.hid ⟨h4, hn⟩
  obtain ⟨a, c, rfl, _⟩ := hB.shape
  clear hB ht h4 hn
  go_enter Tryz.func45, Tryz.ntmps45
  go_wp2_with fail
  refine (rtake_any _ l _ (HB.out.alloc _)).mono ?_
  rintro e w1 ⟨hb1, hno, hyes⟩
  obtain ⟨v1, rfl, hB1⟩ := hyes HT.out
  rw [HF.out.1, HF.out.2]
  have HB1 := Lib.hid hB1
  obtain ⟨a1, c1, rfl, _⟩ := hB1.shape
  clear hB1
  have B1 : Hid (Below w.heap.size w w1) := Lib.hid (((Below.refl w.heap.size w).alloc (Nat.le_refl _) (.cells #[.int .u64 0, .int .u64 0, .slice none 0 0, .slice none 0 0] 40)).trans (hb1.mono (by simp)))
  have S1 : Hid (SBlk w1 w.heap.size 0 0 (.slice none 0 0) (.slice none 0 0)) := Lib.hid ((SBlk.new w).below hb1)
  obtain ⟨r0, r1, r2, r3, q0, q1, q2, q3⟩ := S1.out
  have L1 := S1.out.lt
  clear hb1 hno hyes
  go_wp2_with fail
  generalize hW2 : World.alloc w1 _ = w2
  have B2 : Hid (Below w1.heap.size w1 w2) := Lib.hid (by subst hW2; exact (Below.refl _ _).alloc (Nat.le_refl _) _)
  have RB : ∃ rb : Nat, rb < w1.heap.size ∧ (frBody l = [] ∨ (Value.slice a1 (frBody l).length c1).ownBlock = some rb) := by
    by_cases h0 : frBody l = []
    · exact ⟨w.heap.size, L1, .inl h0⟩
    · obtain ⟨b, e1, e2⟩ := HB1.out.lt_block h0
      exact ⟨b, e2, .inr e1⟩
  obtain ⟨rb, hrb, hown⟩ := RB
  have R2 : Hid (RdrIs w2 w1.heap.size rb (frBody l) false) := Lib.hid (by
    subst hW2
    exact ⟨⟨_, by go_cell, HB1.out.alloc _, hown⟩, by omega, by go_cell, by simp, by simp⟩)
  have S2 : Hid (SBlk w2 w.heap.size 0 0 (.slice none 0 0) (.slice none 0 0)) := Lib.hid (S1.out.below B2.out)
  have HRB : Hid (rb < w2.heap.size) := Lib.hid (by have := B2.out.size; omega)
  clear hW2 hrb hown r0 r1 r2 r3 q0 q1 q2 q3
  refine (rget_new w1.heap.size (frBody l) false _ R2.out HRB.out).mono ?_
  rintro e w3 ⟨v3, rfl, hs3, hr3, hk3, hn3⟩
  rw [Bool.false_or] at hr3
  have R3 := Lib.hid hr3
  have K3 := Lib.hid hk3
  have HS3 := Lib.hid hs3
  have S3 : Hid (SBlk w3 w.heap.size 0 0 (.slice none 0 0) (.slice none 0 0)) := Lib.hid (S2.out.kept K3.out (by omega))
  have B3 : Hid (Below w.heap.size w w3) := Lib.hid ((B1.out.trans (B2.out.mono B1.out.size)).trans (K3.out.below (B := w.heap.size) (Nat.le_trans B1.out.size B2.out.size) (fun k hk => by have := B1.out.size; omega)))
  have HSND : Hid (∀ w4 : World, Below w3.heap.size w3 w4 → SnapIs w4 v3 (getS 6 (frBody l))) := Lib.hid fun w4 hb => HS3.out.below hb
  obtain ⟨mv, dv, rfl, hm, hd⟩ := hs3
  obtain ⟨_, _, _, _, he3, hn1, hn2⟩ := hn3
  simp only [Value.agg.injEq, Array.mk.injEq, List.cons.injEq, and_true] at he3
  obtain ⟨rfl, rfl, rfl, rfl⟩ := he3
  obtain ⟨am, cm, rfl, _⟩ := hm.shape
  obtain ⟨ad, cd, rfl, _⟩ := hd.shape
  have HN1 := Lib.hid hn1
  have HN2 := Lib.hid hn2
  clear hr3 hk3 hm hd hn1 hn2
  generalize hI : (getS 6 (frBody l)).i = I3 at *
  generalize hT3 : (getS 6 (frBody l)).t = T3 at *
  go_wp2_with fail
  generalize hW4 : World.alloc w3 _ = w4
  have B4 : Hid (Below w3.heap.size w3 w4) := Lib.hid (by subst hW4; exact (Below.refl _ _).alloc (Nat.le_refl _) _)
  have C4 : Hid (SBlk w4 w3.heap.size I3 T3 (.slice am (getS 6 (frBody l)).ms.length cm) (.slice ad (getS 6 (frBody l)).d.length cd)) := Lib.hid (by subst hW4; exact ⟨by go_cell, by go_cell, by go_cell, by go_cell, by simp, by simp, by simp, by simp⟩)
  have S4 : Hid (SBlk w4 w.heap.size 0 0 (.slice none 0 0) (.slice none 0 0)) := Lib.hid (S3.out.below B4.out)
  have R4 : Hid (RdrIs w4 w1.heap.size rb (getL 6 (frBody l)) (getB 6 (frBody l))) := Lib.hid (R3.out.below B4.out)
  have Q4 : Hid (Below w.heap.size w w4) := Lib.hid (B3.out.trans (B4.out.mono B3.out.size))
  clear hW4
  refine (rend_any w1.heap.size _ _ _ R4.out).mono ?_
  rintro e w4' ⟨rfl, rfl⟩
  rw [HE.out]
  obtain ⟨r0, r1, r2, r3, q0, q1, q2, q3⟩ := S4.out
  obtain ⟨y0, y1, y2, y3, _, _, _, _⟩ := C4.out
  have L4 := S4.out.lt
  have SN4 : Hid (SnapIs w4 (.agg #[.int .u64 I3, .int .u64 T3, .slice am (getS 6 (frBody l)).ms.length cm, .slice ad (getS 6 (frBody l)).d.length cd]) (getS 6 (frBody l))) := Lib.hid (HSND.out w4 B4.out)
  go_wp2_with fail
  refine (rsound_any _ _ _ SN4.out).mono ?_
  rintro e w5 ⟨rfl, hb5⟩
  rw [HOK.out]
  have B5 := Lib.hid hb5
  have S5 : Hid (SBlk w5 w.heap.size 0 0 (.slice none 0 0) (.slice none 0 0)) := Lib.hid (S4.out.below B5.out)
  have C5 : Hid (SBlk w5 w3.heap.size I3 T3 (.slice am (getS 6 (frBody l)).ms.length cm) (.slice ad (getS 6 (frBody l)).d.length cd)) := Lib.hid (C4.out.below B5.out)
  have Q5 : Hid (Below w.heap.size w w5) := Lib.hid (Q4.out.trans (B5.out.mono Q4.out.size))
  clear hb5 r0 r1 r2 r3 q0 q1 q2 q3 y0 y1 y2 y3
  obtain ⟨r0, r1, r2, r3, q0, q1, q2, q3⟩ := S5.out
  obtain ⟨y0, y1, y2, y3, _, _, _, _⟩ := C5.out
  have L5 := S5.out.lt
  go_wp2_with fail
  generalize hwF : World.setCell _ _ _ = wF
  have KF : Hid (Kept w5 wF (fun k => k = w.heap.size)) := Lib.hid (by subst hwF; exact Kept.set4 _ _ _ _ _ _)
  have HR : Hid (SBlk wF w.heap.size I3 T3 (.slice am (getS 6 (frBody l)).ms.length cm) (.slice ad (getS 6 (frBody l)).d.length cd)) := Lib.hid (by subst hwF; exact S5.out.set4 _ _ _ _)
  have HSN : Hid (SnapIs wF (.agg #[.int .u64 I3, .int .u64 T3, .slice am (getS 6 (frBody l)).ms.length cm, .slice ad (getS 6 (frBody l)).d.length cd]) (getS 6 (frBody l))) := Lib.hid (by subst hwF; exact SnapIs.set4 S5.out (SN4.out.below B5.out) _ _ _ _)
  clear hwF r0 r1 r2 r3 q0 q1 q2 q3 y0 y1 y2 y3
  obtain ⟨z0, z1, z2, z3, _, _, _, _⟩ := HR.out
  refine bodyPost_ret (v := .tuple #[.agg #[.int .u64 I3, .int .u64 T3, .slice am (getS 6 (frBody l)).ms.length cm, .slice ad (getS 6 (frBody l)).d.length cd], .bool true]) (by simp [results, Tryz.results45, go_sem, z0, z1, z2, z3]) rfl ?_
  rw [HV.out.1, HV.out.2]
  refine ⟨_, rfl, ?_, Q5.out.trans ((KF.out.below (B := w.heap.size) Q5.out.size (fun k hk => by omega))), _, _, _, _, rfl, fun g hg => by have := HN1.out g hg; have := B1.out.size; have := B2.out.size; omega, fun g hg => by have := HN2.out g hg; have := B1.out.size; have := B2.out.size; omega⟩
  exact HSN.out

theorem rread_any (v : Value) (l : List Nat) (w : World) (hB : Bytes w v l) : Calls Tryz.prog 45 #[v] w (ReadPost (readB 6 l) (readS 6 l) w) := by
  by_cases ht : takeE l = 0
  · by_cases hk : l.getD 1 0 = 4 ∧ frN l + 8 = l.length
    · by_cases he : endE (getL 6 (frBody l)) (getB 6 (frBody l)) = 0
      · by_cases hok : (getS 6 (frBody l)).ok
        · exact (rread_good v l w hB ht hk.1 hk.2 he hok).mono fun E w' ⟨v, h1, h2, h3, _⟩ => ⟨v, h1, h2, h3⟩
        · exact rread_bad v l w hB ht hk.1 hk.2 he hok
      · exact rread_end v l w hB ht hk.1 hk.2 he
    · exact rread_no2 v l w hB ht (by omega)
  · exact rread_no1 v l w hB ht
theorem rread_new (v : Value) (l : List Nat) (w : World) (hB : Bytes w v l) (h : readB 6 l = true) : Calls Tryz.prog 45 #[v] w (ReadNew (readB 6 l) (readS 6 l) w) := by
  obtain ⟨⟨ht, hn⟩, hk, he, hok⟩ := of_decide_eq_true h
  exact rread_good v l w hB ht hk hn he hok
end Go.Proofs.YtofhccpagnkalaaGreat
