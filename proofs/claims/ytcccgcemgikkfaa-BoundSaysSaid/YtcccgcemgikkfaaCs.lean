/- A cluster's Sound, both ways, as one predicate; the reference's bounds. -/
import Derived.Test.YtcccgcemgikkfaaCfg
namespace Go.Proofs.Ytcccgcemgikkfaa
open Go.RowKit Go.Maps Go.Proofs.Own

/-- A cluster's config is sound. -/
def CS (S M el bt ev rm : Int) : Prop := (1 ≤ S ∧ S ≤ 7 ∧ 1 ≤ M ∧ M ≤ S ∧ 0 ≤ rm ∧ rm ≤ 1048576) ∧ SS el bt ev
instance (S M el bt ev rm : Int) : Decidable (CS S M el bt ev rm) := by unfold CS; infer_instance

theorem csound (S M el bt ev rm : Int) (w : World) :
    Calls Try.prog 39 #[.agg #[.int .i64 S, .int .i64 M, .int .i64 el, .int .i64 bt, .int .i64 ev, .int .i64 rm]] w fun e w' => e = .returned (.bool (decide (CS S M el bt ev rm))) ∧ Below w.heap.size w w' := by
  by_cases a0 : ¬ (1 ≤ S)
  ·
    go_enter Try.func39, Try.ntmps39
    go_wp2_with fail
    go_ret
    exact ⟨ret_bool (by first | exact (decide_eq_false (fun h : CS S M el bt ev rm => by have h1 := h.1; omega)).symm), (Below.refl _ _).alloc (Nat.le_refl _) _⟩

  replace a0 := Decidable.not_not.1 a0
  by_cases a1 : ¬ (S ≤ 7)
  ·
    go_enter Try.func39, Try.ntmps39
    go_wp2_with fail
    go_ret
    exact ⟨ret_bool (by first | exact (decide_eq_false (fun h : CS S M el bt ev rm => by have h1 := h.1; omega)).symm), (Below.refl _ _).alloc (Nat.le_refl _) _⟩

  replace a1 := Decidable.not_not.1 a1
  by_cases a2 : ¬ (1 ≤ M)
  ·
    go_enter Try.func39, Try.ntmps39
    go_wp2_with fail
    go_ret
    exact ⟨ret_bool (by first | exact (decide_eq_false (fun h : CS S M el bt ev rm => by have h1 := h.1; omega)).symm), (Below.refl _ _).alloc (Nat.le_refl _) _⟩

  replace a2 := Decidable.not_not.1 a2
  by_cases a3 : ¬ (M ≤ S)
  ·
    go_enter Try.func39, Try.ntmps39
    go_wp2_with fail
    go_ret
    exact ⟨ret_bool (by first | exact (decide_eq_false (fun h : CS S M el bt ev rm => by have h1 := h.1; omega)).symm), (Below.refl _ _).alloc (Nat.le_refl _) _⟩

  replace a3 := Decidable.not_not.1 a3
  by_cases a4 : ¬ (0 ≤ rm)
  ·
    go_enter Try.func39, Try.ntmps39
    go_wp2_with fail
    go_ret
    exact ⟨ret_bool (by first | exact (decide_eq_false (fun h : CS S M el bt ev rm => by have h1 := h.1; omega)).symm), (Below.refl _ _).alloc (Nat.le_refl _) _⟩

  replace a4 := Decidable.not_not.1 a4
  by_cases a5 : ¬ (rm ≤ 1048576)
  ·
    go_enter Try.func39, Try.ntmps39
    go_wp2_with fail
    go_ret
    exact ⟨ret_bool (by first | exact (decide_eq_false (fun h : CS S M el bt ev rm => by have h1 := h.1; omega)).symm), (Below.refl _ _).alloc (Nat.le_refl _) _⟩

  replace a5 := Decidable.not_not.1 a5
  obtain ⟨m, rfl⟩ := Int.eq_ofNat_of_zero_le (show 0 ≤ M by omega)
  have HA := Lib.hid (show (1 ≤ m ∧ m ≤ 7) by omega)
  go_enter Try.func39, Try.ntmps39
  go_wp2_with fail
  refine (cconfig S el bt ev rm m _ HA.out.1 HA.out.2).mono ?_
  rintro e w1 ⟨v, rfl, hr, hb1⟩
  obtain ⟨va, vc, rfl⟩ := hr.shape
  have HR := Lib.hid hr
  have HB1 := Lib.hid hb1
  clear hr hb1
  go_wp2_with fail
  refine (sserver _ m el bt ev _ HR.out HA.out.1 HA.out.2).mono ?_
  rintro e w2 ⟨rfl, hb2⟩
  go_wp2_with fail
  go_ret
  refine ⟨ret_bool (decide_eq_decide.2 ⟨fun h => ⟨⟨a0, a1, a2, a3, a4, a5⟩, h⟩, fun h => h.2⟩), ((Below.refl _ _).alloc (Nat.le_refl _) _).trans ((HB1.out.mono (by simp)).trans (hb2.mono (by have := HB1.out.size; simp only [World.size_alloc] at this; omega)))⟩

theorem rcsound (S M el bt ev rm : Int) (w : World) :
    Calls Try.prog 34 #[.agg #[.int .i64 S, .int .i64 M, .int .i64 el, .int .i64 bt, .int .i64 ev, .int .i64 rm]] w fun e w' => e = .returned (.bool (decide (CS S M el bt ev rm))) ∧ Below w.heap.size w w' := by
  by_cases a0 : ¬ (1 ≤ S)
  ·
    go_enter Try.func34, Try.ntmps34
    go_wp2_with fail
    go_ret
    exact ⟨ret_bool (by first | exact (decide_eq_false (fun h : CS S M el bt ev rm => by have h1 := h.1; omega)).symm), (Below.refl _ _).alloc (Nat.le_refl _) _⟩

  replace a0 := Decidable.not_not.1 a0
  by_cases a1 : ¬ (S ≤ 7)
  ·
    go_enter Try.func34, Try.ntmps34
    go_wp2_with fail
    go_ret
    exact ⟨ret_bool (by first | exact (decide_eq_false (fun h : CS S M el bt ev rm => by have h1 := h.1; omega)).symm), (Below.refl _ _).alloc (Nat.le_refl _) _⟩

  replace a1 := Decidable.not_not.1 a1
  by_cases a2 : ¬ (1 ≤ M)
  ·
    go_enter Try.func34, Try.ntmps34
    go_wp2_with fail
    go_ret
    exact ⟨ret_bool (by first | exact (decide_eq_false (fun h : CS S M el bt ev rm => by have h1 := h.1; omega)).symm), (Below.refl _ _).alloc (Nat.le_refl _) _⟩

  replace a2 := Decidable.not_not.1 a2
  by_cases a3 : ¬ (M ≤ S)
  ·
    go_enter Try.func34, Try.ntmps34
    go_wp2_with fail
    go_ret
    exact ⟨ret_bool (by first | exact (decide_eq_false (fun h : CS S M el bt ev rm => by have h1 := h.1; omega)).symm), (Below.refl _ _).alloc (Nat.le_refl _) _⟩

  replace a3 := Decidable.not_not.1 a3
  by_cases a4 : ¬ (0 ≤ rm)
  ·
    go_enter Try.func34, Try.ntmps34
    go_wp2_with fail
    go_ret
    exact ⟨ret_bool (by first | exact (decide_eq_false (fun h : CS S M el bt ev rm => by have h1 := h.1; omega)).symm), (Below.refl _ _).alloc (Nat.le_refl _) _⟩

  replace a4 := Decidable.not_not.1 a4
  by_cases a5 : ¬ (rm ≤ 1048576)
  ·
    go_enter Try.func34, Try.ntmps34
    go_wp2_with fail
    go_ret
    exact ⟨ret_bool (by first | exact (decide_eq_false (fun h : CS S M el bt ev rm => by have h1 := h.1; omega)).symm), (Below.refl _ _).alloc (Nat.le_refl _) _⟩

  replace a5 := Decidable.not_not.1 a5
  obtain ⟨m, rfl⟩ := Int.eq_ofNat_of_zero_le (show 0 ≤ M by omega)
  have HA := Lib.hid (show (1 ≤ m ∧ m ≤ 7) by omega)
  go_enter Try.func34, Try.ntmps34
  go_wp2_with fail
  refine (rconfig S el bt ev rm m _ HA.out.1 HA.out.2).mono ?_
  rintro e w1 ⟨v, rfl, hr, hb1⟩
  obtain ⟨va, vc, rfl⟩ := hr.shape
  have HR := Lib.hid hr
  have HB1 := Lib.hid hb1
  clear hr hb1
  go_wp2_with fail
  refine (srserver _ m el bt ev _ HR.out HA.out.1 HA.out.2).mono ?_
  rintro e w2 ⟨rfl, hb2⟩
  go_wp2_with fail
  go_ret
  refine ⟨ret_bool (decide_eq_decide.2 ⟨fun h => ⟨⟨a0, a1, a2, a3, a4, a5⟩, h⟩, fun h => h.2⟩), ((Below.refl _ _).alloc (Nat.le_refl _) _).trans ((HB1.out.mono (by simp)).trans (hb2.mono (by have := HB1.out.size; simp only [World.size_alloc] at this; omega)))⟩

theorem rpat (S M el bt ev rm : Int) (w : World) :
    Calls Try.prog 18 #[.agg #[.int .i64 S, .int .i64 M, .int .i64 el, .int .i64 bt, .int .i64 ev, .int .i64 rm]] w fun e w' => e = .returned (.int .i64 (if CS S M el bt ev rm then el + 2 * S else 0)) ∧ Below w.heap.size w w' := by
  by_cases hc : CS S M el bt ev rm
  · have d0 : decide (CS S M el bt ev rm) = true := decide_eq_true hc
    have hb := hc.1
    have hr : 2 ≤ el ∧ el ≤ 64 := ⟨hc.2.1.1, hc.2.1.2.1⟩
    go_enter Try.func18, Try.ntmps18
    go_wp2_with (go_at_call 34; refine (rcsound S M el bt ev rm _).mono ?_; rintro e w1 ⟨rfl, hb1⟩; have c0 := Below.at hb1 (show (w.alloc _).cell? ⟨w.heap.size, 0, none⟩ = some (.int .i64 S) by simp) (by simp); have c2 := Below.at hb1 (show (w.alloc _).cell? ⟨w.heap.size, 2, none⟩ = some (.int .i64 el) by simp) (by simp))
    go_ret
    exact ⟨ret_int (by rfl), ((Below.refl _ _).alloc (Nat.le_refl _) _).trans (hb1.mono (by simp))⟩

  · have d0 : decide (CS S M el bt ev rm) = false := decide_eq_false hc
    go_enter Try.func18, Try.ntmps18
    go_wp2_with (go_at_call 34; refine (rcsound S M el bt ev rm _).mono ?_; rintro e w1 ⟨rfl, hb1⟩; have c0 := Below.at hb1 (show (w.alloc _).cell? ⟨w.heap.size, 0, none⟩ = some (.int .i64 S) by simp) (by simp); have c2 := Below.at hb1 (show (w.alloc _).cell? ⟨w.heap.size, 2, none⟩ = some (.int .i64 el) by simp) (by simp))
    go_ret
    exact ⟨ret_int (by rfl), ((Below.refl _ _).alloc (Nat.le_refl _) _).trans (hb1.mono (by simp))⟩


theorem rset (S M el bt ev rm : Int) (w : World) :
    Calls Try.prog 20 #[.agg #[.int .i64 S, .int .i64 M, .int .i64 el, .int .i64 bt, .int .i64 ev, .int .i64 rm]] w fun e w' => e = .returned (.int .i64 (if CS S M el bt ev rm then 8 * (el + 2 * S) + 4 * el else 0)) ∧ Below w.heap.size w w' := by
  by_cases hc : CS S M el bt ev rm
  · have d0 : decide (CS S M el bt ev rm) = true := decide_eq_true hc
    have hb := hc.1
    have hr : 2 ≤ el ∧ el ≤ 64 := ⟨hc.2.1.1, hc.2.1.2.1⟩
    go_enter Try.func20, Try.ntmps20
    go_wp2_with (go_at_call 34; refine (rcsound S M el bt ev rm _).mono ?_; rintro e w1 ⟨rfl, hb1⟩; have c0 := Below.at hb1 (show (w.alloc _).cell? ⟨w.heap.size, 0, none⟩ = some (.int .i64 S) by simp) (by simp); have c2 := Below.at hb1 (show (w.alloc _).cell? ⟨w.heap.size, 2, none⟩ = some (.int .i64 el) by simp) (by simp))
    go_ret
    exact ⟨ret_int (by rfl), ((Below.refl _ _).alloc (Nat.le_refl _) _).trans (hb1.mono (by simp))⟩

  · have d0 : decide (CS S M el bt ev rm) = false := decide_eq_false hc
    go_enter Try.func20, Try.ntmps20
    go_wp2_with (go_at_call 34; refine (rcsound S M el bt ev rm _).mono ?_; rintro e w1 ⟨rfl, hb1⟩; have c0 := Below.at hb1 (show (w.alloc _).cell? ⟨w.heap.size, 0, none⟩ = some (.int .i64 S) by simp) (by simp); have c2 := Below.at hb1 (show (w.alloc _).cell? ⟨w.heap.size, 2, none⟩ = some (.int .i64 el) by simp) (by simp))
    go_ret
    exact ⟨ret_int (by rfl), ((Below.refl _ _).alloc (Nat.le_refl _) _).trans (hb1.mono (by simp))⟩


theorem rsrv (S M el bt ev rm : Int) (w : World) :
    Calls Try.prog 22 #[.agg #[.int .i64 S, .int .i64 M, .int .i64 el, .int .i64 bt, .int .i64 ev, .int .i64 rm]] w fun e w' => e = .returned (.int .i64 (if CS S M el bt ev rm then 12 * el + 18 * S + 8 else 0)) ∧ Below w.heap.size w w' := by
  by_cases hc : CS S M el bt ev rm
  · have d0 : decide (CS S M el bt ev rm) = true := decide_eq_true hc
    have hb := hc.1
    have hr : 2 ≤ el ∧ el ≤ 64 := ⟨hc.2.1.1, hc.2.1.2.1⟩
    go_enter Try.func22, Try.ntmps22
    go_wp2_with (go_at_call 34; refine (rcsound S M el bt ev rm _).mono ?_; rintro e w1 ⟨rfl, hb1⟩; have c0 := Below.at hb1 (show (w.alloc _).cell? ⟨w.heap.size, 0, none⟩ = some (.int .i64 S) by simp) (by simp); have c2 := Below.at hb1 (show (w.alloc _).cell? ⟨w.heap.size, 2, none⟩ = some (.int .i64 el) by simp) (by simp))
    go_ret
    exact ⟨ret_int (by rfl), ((Below.refl _ _).alloc (Nat.le_refl _) _).trans (hb1.mono (by simp))⟩

  · have d0 : decide (CS S M el bt ev rm) = false := decide_eq_false hc
    go_enter Try.func22, Try.ntmps22
    go_wp2_with (go_at_call 34; refine (rcsound S M el bt ev rm _).mono ?_; rintro e w1 ⟨rfl, hb1⟩; have c0 := Below.at hb1 (show (w.alloc _).cell? ⟨w.heap.size, 0, none⟩ = some (.int .i64 S) by simp) (by simp); have c2 := Below.at hb1 (show (w.alloc _).cell? ⟨w.heap.size, 2, none⟩ = some (.int .i64 el) by simp) (by simp))
    go_ret
    exact ⟨ret_int (by rfl), ((Below.refl _ _).alloc (Nat.le_refl _) _).trans (hb1.mono (by simp))⟩


theorem rdrn (S M el bt ev rm : Int) (w : World) :
    Calls Try.prog 24 #[.agg #[.int .i64 S, .int .i64 M, .int .i64 el, .int .i64 bt, .int .i64 ev, .int .i64 rm]] w fun e w' => e = .returned (.int .i64 (if CS S M el bt ev rm then 24 else 0)) ∧ Below w.heap.size w w' := by
  by_cases hc : CS S M el bt ev rm
  · have d0 : decide (CS S M el bt ev rm) = true := decide_eq_true hc
    have hb := hc.1
    have hr : 2 ≤ el ∧ el ≤ 64 := ⟨hc.2.1.1, hc.2.1.2.1⟩
    go_enter Try.func24, Try.ntmps24
    go_wp2_with (go_at_call 34; refine (rcsound S M el bt ev rm _).mono ?_; rintro e w1 ⟨rfl, hb1⟩; have c0 := Below.at hb1 (show (w.alloc _).cell? ⟨w.heap.size, 0, none⟩ = some (.int .i64 S) by simp) (by simp); have c2 := Below.at hb1 (show (w.alloc _).cell? ⟨w.heap.size, 2, none⟩ = some (.int .i64 el) by simp) (by simp))
    go_ret
    exact ⟨ret_int (by rfl), ((Below.refl _ _).alloc (Nat.le_refl _) _).trans (hb1.mono (by simp))⟩

  · have d0 : decide (CS S M el bt ev rm) = false := decide_eq_false hc
    go_enter Try.func24, Try.ntmps24
    go_wp2_with (go_at_call 34; refine (rcsound S M el bt ev rm _).mono ?_; rintro e w1 ⟨rfl, hb1⟩; have c0 := Below.at hb1 (show (w.alloc _).cell? ⟨w.heap.size, 0, none⟩ = some (.int .i64 S) by simp) (by simp); have c2 := Below.at hb1 (show (w.alloc _).cell? ⟨w.heap.size, 2, none⟩ = some (.int .i64 el) by simp) (by simp))
    go_ret
    exact ⟨ret_int (by rfl), ((Below.refl _ _).alloc (Nat.le_refl _) _).trans (hb1.mono (by simp))⟩

end Go.Proofs.Ytcccgcemgikkfaa
