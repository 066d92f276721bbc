/- Which snapshots are sound, both ways; no conditions but the ranges. -/
import Derived.Test.YtofhccpagnkalaaGreatSnd
namespace Go.Proofs.YtofhccpagnkalaaGreat
open Go.RowKit Go.Maps Go.Proofs.Own

/-- A snapshot. -/
structure SnapS where
  i : Int
  t : Int
  ms : List Int
  d : List Nat
/-- The value v is the snapshot s. -/
def SnapIs (w : World) (v : Value) (s : SnapS) : Prop := ∃ mv dv, v = .agg #[.int .u64 s.i, .int .u64 s.t, mv, dv] ∧ Ints w mv s.ms ∧ Bytes w dv s.d
theorem SnapIs.below {w w' : World} {v : Value} {s : SnapS} (h : SnapIs w v s) (hb : Below w.heap.size w w') : SnapIs w' v s := by
  obtain ⟨mv, dv, h1, h2, h3⟩ := h
  exact ⟨mv, dv, h1, h2.below hb, h3.below hb⟩
theorem SnapIs.st (v : Value) (s : SnapS) : Stable fun w => SnapIs w v s := ⟨fun hs hb => hs.below hb⟩
/-- It may be. -/
def SnapS.ok (s : SnapS) : Prop := 1 ≤ s.i ∧ s.i < 576460752303423488 ∧ 1 ≤ s.t ∧ s.t ≤ 1152921504606846976 ∧ msOk s.ms ∧ s.d.length ≤ 32768
instance (s : SnapS) : Decidable s.ok := inferInstanceAs (Decidable (_ ∧ _))
def SnapS.okB (s : SnapS) : Bool := decide s.ok

theorem Below.bcell {W w1 : World} (hb : Below W.heap.size W w1) : (∀ b o, b < W.heap.size → w1.cell? ⟨b, o, none⟩ = W.cell? ⟨b, o, none⟩) ∧ (∀ b o, b < W.heap.size → w1.frozen? ⟨b, o, none⟩ = W.frozen? ⟨b, o, none⟩) :=
  ⟨fun b o h => hb.cell (p := ⟨b, o, none⟩) h, fun b o h => hb.frozen (p := ⟨b, o, none⟩) h⟩

set_option maxHeartbeats 1000000 in
set_option maxRecDepth 20000 in
theorem sound_any (v : Value) (s : SnapS) (w : World) (h : SnapIs w v s) :
    Calls Tryz.prog 88 #[v] w fun e w' => e = .returned (.bool s.okB) ∧ Below w.heap.size w w' := by
  obtain ⟨mv, dv, rfl, hm, hd⟩ := h
  obtain ⟨i, t, ms, d⟩ := s
  have HM := Lib.hid hm
  have hdl : (d.length : Int) ≤ 2097152 := by have : d.length ≤ 2097152 := hd.small; omega
  obtain ⟨a, c, rfl, _⟩ := hd.shape
  obtain ⟨am, cm, rfl, _⟩ := hm.shape
  have AL : Hid (∀ o : Obj, Ints (w.alloc o) (.slice am ms.length cm) ms) := Lib.hid fun o => HM.out.alloc o
  clear hm hd
  by_cases h1 : 1 ≤ i
  · by_cases h2 : i < 576460752303423488
    · by_cases h3 : 1 ≤ t
      · by_cases h4 : t ≤ 1152921504606846976
        · have HC := Lib.hid (show 1 ≤ i ∧ i < 576460752303423488 ∧ 1 ≤ t ∧ t ≤ 1152921504606846976 from ⟨h1, h2, h3, h4⟩)
          by_cases hm : msOk ms
          · have hmb : msOkB ms = true := decide_eq_true hm
            have HMO := Lib.hid hm
            by_cases h5 : d.length ≤ 32768
            · have HV : Hid ((SnapS.mk i t ms d).okB = true) := Lib.hid (decide_eq_true ⟨h1, h2, h3, h4, hm, h5⟩)
              rw [HV.out]
              have h5i : (d.length : Int) ≤ 32768 := by omega
              have HMB := Lib.hid hmb
              clear hm h5 hmb
              go_enter Tryz.func88, Tryz.ntmps88
              go_wp2_with fail
              refine (rising_any _ ms _ (AL.out _)).mono ?_
              rintro e w1 ⟨rfl, rfl⟩
              rw [HMB.out]
              go_wp2_with fail
              go_ret
              exact ⟨rfl, (Below.refl _ _).alloc (Nat.le_refl _) _⟩
            · have HV : Hid ((SnapS.mk i t ms d).okB = false) := Lib.hid (decide_eq_false fun h => h5 h.2.2.2.2.2)
              rw [HV.out]
              have h5i : ¬ (d.length : Int) ≤ 32768 := by omega
              have H5B : Hid (decide ((d.length : Int) ≤ 32768) = false) := Lib.hid (decide_eq_false h5i)
              have HMB := Lib.hid hmb
              clear hm h5 hmb
              go_enter Tryz.func88, Tryz.ntmps88
              go_wp2_with fail
              refine (rising_any _ ms _ (AL.out _)).mono ?_
              rintro e w1 ⟨rfl, rfl⟩
              rw [HMB.out]
              go_wp2_with fail
              go_ret
              exact ⟨ret_bool H5B.out, (Below.refl _ _).alloc (Nat.le_refl _) _⟩
          · have hmb : msOkB ms = false := decide_eq_false hm
            have HV : Hid ((SnapS.mk i t ms d).okB = false) := Lib.hid (decide_eq_false fun h => hm h.2.2.2.2.1)
            rw [HV.out]
            have HMB := Lib.hid hmb
            clear hm hmb
            go_enter Tryz.func88, Tryz.ntmps88
            go_wp2_with fail
            refine (rising_any _ ms _ (AL.out _)).mono ?_
            rintro e w1 ⟨rfl, rfl⟩
            rw [HMB.out]
            go_wp2_with fail
            go_ret
            exact ⟨rfl, (Below.refl _ _).alloc (Nat.le_refl _) _⟩
        · have HV : Hid ((SnapS.mk i t ms d).okB = false) := Lib.hid (decide_eq_false fun h => h4 h.2.2.2.1)
          rw [HV.out]
          go_enter Tryz.func88, Tryz.ntmps88
          go_wp2_with fail
          go_ret
          exact ⟨rfl, (Below.refl _ _).alloc (Nat.le_refl _) _⟩
      · have HV : Hid ((SnapS.mk i t ms d).okB = false) := Lib.hid (decide_eq_false fun h => h3 h.2.2.1)
        rw [HV.out]
        go_enter Tryz.func88, Tryz.ntmps88
        go_wp2_with fail
        go_ret
        exact ⟨rfl, (Below.refl _ _).alloc (Nat.le_refl _) _⟩
    · have HV : Hid ((SnapS.mk i t ms d).okB = false) := Lib.hid (decide_eq_false fun h => h2 h.2.1)
      rw [HV.out]
      go_enter Tryz.func88, Tryz.ntmps88
      go_wp2_with fail
      go_ret
      exact ⟨rfl, (Below.refl _ _).alloc (Nat.le_refl _) _⟩
  · have HV : Hid ((SnapS.mk i t ms d).okB = false) := Lib.hid (decide_eq_false fun h => h1 h.1)
    rw [HV.out]
    go_enter Tryz.func88, Tryz.ntmps88
    go_wp2_with fail
    go_ret
    exact ⟨rfl, (Below.refl _ _).alloc (Nat.le_refl _) _⟩

set_option maxHeartbeats 1000000 in
set_option maxRecDepth 20000 in
theorem rsound_any (v : Value) (s : SnapS) (w : World) (h : SnapIs w v s) :
    Calls Tryz.prog 92 #[v] w fun e w' => e = .returned (.bool s.okB) ∧ Below w.heap.size w w' := by
  obtain ⟨mv, dv, rfl, hm, hd⟩ := h
  obtain ⟨i, t, ms, d⟩ := s
  have HM := Lib.hid hm
  have hdl : (d.length : Int) ≤ 2097152 := by have : d.length ≤ 2097152 := hd.small; omega
  obtain ⟨a, c, rfl, _⟩ := hd.shape
  obtain ⟨am, cm, rfl, _⟩ := hm.shape
  have AL : Hid (∀ o : Obj, Ints (w.alloc o) (.slice am ms.length cm) ms) := Lib.hid fun o => HM.out.alloc o
  clear hm hd
  by_cases h1 : 1 ≤ i
  · by_cases h2 : i < 576460752303423488
    · by_cases h3 : 1 ≤ t
      · by_cases h4 : t ≤ 1152921504606846976
        · have HC := Lib.hid (show 1 ≤ i ∧ i < 576460752303423488 ∧ 1 ≤ t ∧ t ≤ 1152921504606846976 from ⟨h1, h2, h3, h4⟩)
          by_cases hm : msOk ms
          · have hmb : msOkB ms = true := decide_eq_true hm
            have HMO := Lib.hid hm
            by_cases h5 : d.length ≤ 32768
            · have HV : Hid ((SnapS.mk i t ms d).okB = true) := Lib.hid (decide_eq_true ⟨h1, h2, h3, h4, hm, h5⟩)
              rw [HV.out]
              have h5i : (d.length : Int) ≤ 32768 := by omega
              have HMB := Lib.hid hmb
              clear hm h5 hmb
              go_enter Tryz.func92, Tryz.ntmps92
              go_wp2_with fail
              refine (members_any _ ms _ (AL.out _)).mono ?_
              rintro e w1 ⟨rfl, hb1⟩; have B1 := Lib.hid (((Below.refl w.heap.size w).alloc (Nat.le_refl _) (.cells #[.int .u64 i, .int .u64 t, .slice am ms.length cm, .slice a d.length c] 40)).trans (hb1.mono (by simp))); obtain ⟨g0, g1⟩ := Below.bcell hb1; have hs1 := hb1.size; simp only [World.size_alloc] at hs1; clear hb1
              rw [HMB.out]
              go_wp2_with fail
              go_ret
              exact ⟨rfl, B1.out⟩
            · have HV : Hid ((SnapS.mk i t ms d).okB = false) := Lib.hid (decide_eq_false fun h => h5 h.2.2.2.2.2)
              rw [HV.out]
              have h5i : ¬ (d.length : Int) ≤ 32768 := by omega
              have H5B : Hid (decide ((d.length : Int) ≤ 32768) = false) := Lib.hid (decide_eq_false h5i)
              have HMB := Lib.hid hmb
              clear hm h5 hmb
              go_enter Tryz.func92, Tryz.ntmps92
              go_wp2_with fail
              refine (members_any _ ms _ (AL.out _)).mono ?_
              rintro e w1 ⟨rfl, hb1⟩; have B1 := Lib.hid (((Below.refl w.heap.size w).alloc (Nat.le_refl _) (.cells #[.int .u64 i, .int .u64 t, .slice am ms.length cm, .slice a d.length c] 40)).trans (hb1.mono (by simp))); obtain ⟨g0, g1⟩ := Below.bcell hb1; have hs1 := hb1.size; simp only [World.size_alloc] at hs1; clear hb1
              rw [HMB.out]
              go_wp2_with fail
              go_ret
              exact ⟨ret_bool H5B.out, B1.out⟩
          · have hmb : msOkB ms = false := decide_eq_false hm
            have HV : Hid ((SnapS.mk i t ms d).okB = false) := Lib.hid (decide_eq_false fun h => hm h.2.2.2.2.1)
            rw [HV.out]
            have HMB := Lib.hid hmb
            clear hm hmb
            go_enter Tryz.func92, Tryz.ntmps92
            go_wp2_with fail
            refine (members_any _ ms _ (AL.out _)).mono ?_
            rintro e w1 ⟨rfl, hb1⟩; have B1 := Lib.hid (((Below.refl w.heap.size w).alloc (Nat.le_refl _) (.cells #[.int .u64 i, .int .u64 t, .slice am ms.length cm, .slice a d.length c] 40)).trans (hb1.mono (by simp))); obtain ⟨g0, g1⟩ := Below.bcell hb1; have hs1 := hb1.size; simp only [World.size_alloc] at hs1; clear hb1
            rw [HMB.out]
            go_wp2_with fail
            go_ret
            exact ⟨rfl, B1.out⟩
        · have HV : Hid ((SnapS.mk i t ms d).okB = false) := Lib.hid (decide_eq_false fun h => h4 h.2.2.2.1)
          rw [HV.out]
          go_enter Tryz.func92, Tryz.ntmps92
          go_wp2_with fail
          go_ret
          exact ⟨rfl, (Below.refl _ _).alloc (Nat.le_refl _) _⟩
      · have HV : Hid ((SnapS.mk i t ms d).okB = false) := Lib.hid (decide_eq_false fun h => h3 h.2.2.1)
        rw [HV.out]
        go_enter Tryz.func92, Tryz.ntmps92
        go_wp2_with fail
        go_ret
        exact ⟨rfl, (Below.refl _ _).alloc (Nat.le_refl _) _⟩
    · have HV : Hid ((SnapS.mk i t ms d).okB = false) := Lib.hid (decide_eq_false fun h => h2 h.2.1)
      rw [HV.out]
      go_enter Tryz.func92, Tryz.ntmps92
      go_wp2_with fail
      go_ret
      exact ⟨rfl, (Below.refl _ _).alloc (Nat.le_refl _) _⟩
  · have HV : Hid ((SnapS.mk i t ms d).okB = false) := Lib.hid (decide_eq_false fun h => h1 h.1)
    rw [HV.out]
    go_enter Tryz.func92, Tryz.ntmps92
    go_wp2_with fail
    go_ret
    exact ⟨rfl, (Below.refl _ _).alloc (Nat.le_refl _) _⟩
end Go.Proofs.YtofhccpagnkalaaGreat
