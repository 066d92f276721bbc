/- The Sounds of a raft's, a server's and a cluster's config, both ways; no conditions but what the guards give. -/
import Derived.Test.YtcccgcemgikkfaaMem2
import Derived.OpenShut
namespace Go.Proofs.Ytcccgcemgikkfaa
open Go.RowKit Go.Maps Go.Proofs.Own

/-- A raft's periods are sound. -/
def RS (el bt : Int) : Prop := 2 ≤ el ∧ el ≤ 64 ∧ 1 ≤ bt ∧ bt < el
instance (el bt : Int) : Decidable (RS el bt) := by unfold RS; infer_instance
/-- .. and how often a server writes down. -/
def SS (el bt ev : Int) : Prop := RS el bt ∧ 1 ≤ ev ∧ ev ≤ 48
instance (el bt ev : Int) : Decidable (SS el bt ev) := by unfold SS; infer_instance

theorem sraft (sv : Value) (m : Nat) (el bt : Int) (w : World) (hr : Reads w .i64 sv (rng m)) (h1 : 1 ≤ m) (h7 : m ≤ 7) :
    Calls Try.prog 45 #[.agg #[.int .i64 0, sv, .int .i64 el, .int .i64 bt]] w fun e w' => e = .returned (.bool (decide (RS el bt))) ∧ Below w.heap.size w w' := by
  have HR := Lib.hid hr
  obtain ⟨a, c, rfl⟩ := hr.shape
  clear hr
  by_cases a1 : ¬ (2 ≤ el)
  ·
    go_enter Try.func45, Try.ntmps45
    go_wp2_with (go_at_call 47; refine (msound _ m _ (HR.out.alloc _) h1 h7).mono ?_; rintro e w1 ⟨rfl, hb1⟩; have c2 := Below.at hb1 (show (w.alloc _).cell? ⟨w.heap.size, 2, none⟩ = some (.int .i64 el) by simp) (by simp); have c3 := Below.at hb1 (show (w.alloc _).cell? ⟨w.heap.size, 3, none⟩ = some (.int .i64 bt) by simp) (by simp))
    go_ret
    exact ⟨ret_bool (by first | exact decide_eq_decide.2 (show bt < el ↔ (2 ≤ el ∧ el ≤ 64 ∧ 1 ≤ bt ∧ bt < el) by omega) | exact (decide_eq_true (show 2 ≤ el ∧ el ≤ 64 ∧ 1 ≤ bt ∧ bt < el by omega)).symm | exact (decide_eq_false (fun h : 2 ≤ el ∧ el ≤ 64 ∧ 1 ≤ bt ∧ bt < el => by omega)).symm), ((Below.refl _ _).alloc (Nat.le_refl _) _).trans (hb1.mono (by simp))⟩

  replace a1 := Decidable.not_not.1 a1
  by_cases a2 : ¬ (el ≤ 64)
  ·
    go_enter Try.func45, Try.ntmps45
    go_wp2_with (go_at_call 47; refine (msound _ m _ (HR.out.alloc _) h1 h7).mono ?_; rintro e w1 ⟨rfl, hb1⟩; have c2 := Below.at hb1 (show (w.alloc _).cell? ⟨w.heap.size, 2, none⟩ = some (.int .i64 el) by simp) (by simp); have c3 := Below.at hb1 (show (w.alloc _).cell? ⟨w.heap.size, 3, none⟩ = some (.int .i64 bt) by simp) (by simp))
    go_ret
    exact ⟨ret_bool (by first | exact decide_eq_decide.2 (show bt < el ↔ (2 ≤ el ∧ el ≤ 64 ∧ 1 ≤ bt ∧ bt < el) by omega) | exact (decide_eq_true (show 2 ≤ el ∧ el ≤ 64 ∧ 1 ≤ bt ∧ bt < el by omega)).symm | exact (decide_eq_false (fun h : 2 ≤ el ∧ el ≤ 64 ∧ 1 ≤ bt ∧ bt < el => by omega)).symm), ((Below.refl _ _).alloc (Nat.le_refl _) _).trans (hb1.mono (by simp))⟩

  replace a2 := Decidable.not_not.1 a2
  by_cases a3 : ¬ (1 ≤ bt)
  ·
    go_enter Try.func45, Try.ntmps45
    go_wp2_with (go_at_call 47; refine (msound _ m _ (HR.out.alloc _) h1 h7).mono ?_; rintro e w1 ⟨rfl, hb1⟩; have c2 := Below.at hb1 (show (w.alloc _).cell? ⟨w.heap.size, 2, none⟩ = some (.int .i64 el) by simp) (by simp); have c3 := Below.at hb1 (show (w.alloc _).cell? ⟨w.heap.size, 3, none⟩ = some (.int .i64 bt) by simp) (by simp))
    go_ret
    exact ⟨ret_bool (by first | exact decide_eq_decide.2 (show bt < el ↔ (2 ≤ el ∧ el ≤ 64 ∧ 1 ≤ bt ∧ bt < el) by omega) | exact (decide_eq_true (show 2 ≤ el ∧ el ≤ 64 ∧ 1 ≤ bt ∧ bt < el by omega)).symm | exact (decide_eq_false (fun h : 2 ≤ el ∧ el ≤ 64 ∧ 1 ≤ bt ∧ bt < el => by omega)).symm), ((Below.refl _ _).alloc (Nat.le_refl _) _).trans (hb1.mono (by simp))⟩

  replace a3 := Decidable.not_not.1 a3
  by_cases a4 : bt < el
  ·
    go_enter Try.func45, Try.ntmps45
    go_wp2_with (go_at_call 47; refine (msound _ m _ (HR.out.alloc _) h1 h7).mono ?_; rintro e w1 ⟨rfl, hb1⟩; have c2 := Below.at hb1 (show (w.alloc _).cell? ⟨w.heap.size, 2, none⟩ = some (.int .i64 el) by simp) (by simp); have c3 := Below.at hb1 (show (w.alloc _).cell? ⟨w.heap.size, 3, none⟩ = some (.int .i64 bt) by simp) (by simp))
    go_ret
    exact ⟨ret_bool (by first | exact decide_eq_decide.2 (show bt < el ↔ (2 ≤ el ∧ el ≤ 64 ∧ 1 ≤ bt ∧ bt < el) by omega) | exact (decide_eq_true (show 2 ≤ el ∧ el ≤ 64 ∧ 1 ≤ bt ∧ bt < el by omega)).symm | exact (decide_eq_false (fun h : 2 ≤ el ∧ el ≤ 64 ∧ 1 ≤ bt ∧ bt < el => by omega)).symm), ((Below.refl _ _).alloc (Nat.le_refl _) _).trans (hb1.mono (by simp))⟩

  ·
    go_enter Try.func45, Try.ntmps45
    go_wp2_with (go_at_call 47; refine (msound _ m _ (HR.out.alloc _) h1 h7).mono ?_; rintro e w1 ⟨rfl, hb1⟩; have c2 := Below.at hb1 (show (w.alloc _).cell? ⟨w.heap.size, 2, none⟩ = some (.int .i64 el) by simp) (by simp); have c3 := Below.at hb1 (show (w.alloc _).cell? ⟨w.heap.size, 3, none⟩ = some (.int .i64 bt) by simp) (by simp))
    go_ret
    exact ⟨ret_bool (by first | exact decide_eq_decide.2 (show bt < el ↔ (2 ≤ el ∧ el ≤ 64 ∧ 1 ≤ bt ∧ bt < el) by omega) | exact (decide_eq_true (show 2 ≤ el ∧ el ≤ 64 ∧ 1 ≤ bt ∧ bt < el by omega)).symm | exact (decide_eq_false (fun h : 2 ≤ el ∧ el ≤ 64 ∧ 1 ≤ bt ∧ bt < el => by omega)).symm), ((Below.refl _ _).alloc (Nat.le_refl _) _).trans (hb1.mono (by simp))⟩

theorem srraft (sv : Value) (m : Nat) (el bt : Int) (w : World) (hr : Reads w .i64 sv (rng m)) (h1 : 1 ≤ m) (h7 : m ≤ 7) :
    Calls Try.prog 44 #[.agg #[.int .i64 0, sv, .int .i64 el, .int .i64 bt]] w fun e w' => e = .returned (.bool (decide (RS el bt))) ∧ Below w.heap.size w w' := by
  have HR := Lib.hid hr
  obtain ⟨a, c, rfl⟩ := hr.shape
  clear hr
  by_cases a1 : ¬ (2 ≤ el)
  ·
    go_enter Try.func44, Try.ntmps44
    go_wp2_with (go_at_call 46; refine (rsound29 _ m _ (HR.out.alloc _) h1 h7).mono ?_; rintro e w1 ⟨rfl, hb1⟩; have c2 := Below.at hb1 (show (w.alloc _).cell? ⟨w.heap.size, 2, none⟩ = some (.int .i64 el) by simp) (by simp); have c3 := Below.at hb1 (show (w.alloc _).cell? ⟨w.heap.size, 3, none⟩ = some (.int .i64 bt) by simp) (by simp))
    go_ret
    exact ⟨ret_bool (by first | exact decide_eq_decide.2 (show bt < el ↔ (2 ≤ el ∧ el ≤ 64 ∧ 1 ≤ bt ∧ bt < el) by omega) | exact (decide_eq_true (show 2 ≤ el ∧ el ≤ 64 ∧ 1 ≤ bt ∧ bt < el by omega)).symm | exact (decide_eq_false (fun h : 2 ≤ el ∧ el ≤ 64 ∧ 1 ≤ bt ∧ bt < el => by omega)).symm), ((Below.refl _ _).alloc (Nat.le_refl _) _).trans (hb1.mono (by simp))⟩

  replace a1 := Decidable.not_not.1 a1
  by_cases a2 : ¬ (el ≤ 64)
  ·
    go_enter Try.func44, Try.ntmps44
    go_wp2_with (go_at_call 46; refine (rsound29 _ m _ (HR.out.alloc _) h1 h7).mono ?_; rintro e w1 ⟨rfl, hb1⟩; have c2 := Below.at hb1 (show (w.alloc _).cell? ⟨w.heap.size, 2, none⟩ = some (.int .i64 el) by simp) (by simp); have c3 := Below.at hb1 (show (w.alloc _).cell? ⟨w.heap.size, 3, none⟩ = some (.int .i64 bt) by simp) (by simp))
    go_ret
    exact ⟨ret_bool (by first | exact decide_eq_decide.2 (show bt < el ↔ (2 ≤ el ∧ el ≤ 64 ∧ 1 ≤ bt ∧ bt < el) by omega) | exact (decide_eq_true (show 2 ≤ el ∧ el ≤ 64 ∧ 1 ≤ bt ∧ bt < el by omega)).symm | exact (decide_eq_false (fun h : 2 ≤ el ∧ el ≤ 64 ∧ 1 ≤ bt ∧ bt < el => by omega)).symm), ((Below.refl _ _).alloc (Nat.le_refl _) _).trans (hb1.mono (by simp))⟩

  replace a2 := Decidable.not_not.1 a2
  by_cases a3 : ¬ (1 ≤ bt)
  ·
    go_enter Try.func44, Try.ntmps44
    go_wp2_with (go_at_call 46; refine (rsound29 _ m _ (HR.out.alloc _) h1 h7).mono ?_; rintro e w1 ⟨rfl, hb1⟩; have c2 := Below.at hb1 (show (w.alloc _).cell? ⟨w.heap.size, 2, none⟩ = some (.int .i64 el) by simp) (by simp); have c3 := Below.at hb1 (show (w.alloc _).cell? ⟨w.heap.size, 3, none⟩ = some (.int .i64 bt) by simp) (by simp))
    go_ret
    exact ⟨ret_bool (by first | exact decide_eq_decide.2 (show bt < el ↔ (2 ≤ el ∧ el ≤ 64 ∧ 1 ≤ bt ∧ bt < el) by omega) | exact (decide_eq_true (show 2 ≤ el ∧ el ≤ 64 ∧ 1 ≤ bt ∧ bt < el by omega)).symm | exact (decide_eq_false (fun h : 2 ≤ el ∧ el ≤ 64 ∧ 1 ≤ bt ∧ bt < el => by omega)).symm), ((Below.refl _ _).alloc (Nat.le_refl _) _).trans (hb1.mono (by simp))⟩

  replace a3 := Decidable.not_not.1 a3
  by_cases a4 : bt < el
  ·
    go_enter Try.func44, Try.ntmps44
    go_wp2_with (go_at_call 46; refine (rsound29 _ m _ (HR.out.alloc _) h1 h7).mono ?_; rintro e w1 ⟨rfl, hb1⟩; have c2 := Below.at hb1 (show (w.alloc _).cell? ⟨w.heap.size, 2, none⟩ = some (.int .i64 el) by simp) (by simp); have c3 := Below.at hb1 (show (w.alloc _).cell? ⟨w.heap.size, 3, none⟩ = some (.int .i64 bt) by simp) (by simp))
    go_ret
    exact ⟨ret_bool (by first | exact decide_eq_decide.2 (show bt < el ↔ (2 ≤ el ∧ el ≤ 64 ∧ 1 ≤ bt ∧ bt < el) by omega) | exact (decide_eq_true (show 2 ≤ el ∧ el ≤ 64 ∧ 1 ≤ bt ∧ bt < el by omega)).symm | exact (decide_eq_false (fun h : 2 ≤ el ∧ el ≤ 64 ∧ 1 ≤ bt ∧ bt < el => by omega)).symm), ((Below.refl _ _).alloc (Nat.le_refl _) _).trans (hb1.mono (by simp))⟩

  ·
    go_enter Try.func44, Try.ntmps44
    go_wp2_with (go_at_call 46; refine (rsound29 _ m _ (HR.out.alloc _) h1 h7).mono ?_; rintro e w1 ⟨rfl, hb1⟩; have c2 := Below.at hb1 (show (w.alloc _).cell? ⟨w.heap.size, 2, none⟩ = some (.int .i64 el) by simp) (by simp); have c3 := Below.at hb1 (show (w.alloc _).cell? ⟨w.heap.size, 3, none⟩ = some (.int .i64 bt) by simp) (by simp))
    go_ret
    exact ⟨ret_bool (by first | exact decide_eq_decide.2 (show bt < el ↔ (2 ≤ el ∧ el ≤ 64 ∧ 1 ≤ bt ∧ bt < el) by omega) | exact (decide_eq_true (show 2 ≤ el ∧ el ≤ 64 ∧ 1 ≤ bt ∧ bt < el by omega)).symm | exact (decide_eq_false (fun h : 2 ≤ el ∧ el ≤ 64 ∧ 1 ≤ bt ∧ bt < el => by omega)).symm), ((Below.refl _ _).alloc (Nat.le_refl _) _).trans (hb1.mono (by simp))⟩

theorem sserver (sv : Value) (m : Nat) (el bt ev : Int) (w : World) (hr : Reads w .i64 sv (rng m)) (h1 : 1 ≤ m) (h7 : m ≤ 7) :
    Calls Try.prog 42 #[.agg #[.int .i64 0, sv, .int .i64 el, .int .i64 bt, .int .i64 ev]] w fun e w' => e = .returned (.bool (decide (SS el bt ev))) ∧ Below w.heap.size w w' := by
  have HR := Lib.hid hr
  obtain ⟨a, c, rfl⟩ := hr.shape
  clear hr
  by_cases a0 : ¬ RS el bt
  · have d0 : decide (RS el bt) = false := decide_eq_false a0
    go_enter Try.func42, Try.ntmps42
    go_wp2_with (go_at_call 45; refine (sraft _ m el bt _ (HR.out.alloc _) h1 h7).mono ?_; rintro e w1 ⟨rfl, hb1⟩; have c4 := Below.at hb1 (show (w.alloc _).cell? ⟨w.heap.size, 4, none⟩ = some (.int .i64 ev) by simp) (by simp))
    go_ret
    exact ⟨ret_bool (by first | exact decide_eq_decide.2 ⟨fun h => ⟨a0, a1, h⟩, fun h => h.2.2⟩ | exact (decide_eq_true ⟨a0, by omega, by omega⟩).symm | exact (decide_eq_false (fun h => by have h1 := h.1; have h2 := h.2.1; have h3 := h.2.2; first | exact a0 h1 | omega)).symm), ((Below.refl _ _).alloc (Nat.le_refl _) _).trans (hb1.mono (by simp))⟩

  replace a0 := Decidable.not_not.1 a0
  have d0 : decide (RS el bt) = true := decide_eq_true a0
  by_cases a1 : ¬ (1 ≤ ev)
  ·
    go_enter Try.func42, Try.ntmps42
    go_wp2_with (go_at_call 45; refine (sraft _ m el bt _ (HR.out.alloc _) h1 h7).mono ?_; rintro e w1 ⟨rfl, hb1⟩; have c4 := Below.at hb1 (show (w.alloc _).cell? ⟨w.heap.size, 4, none⟩ = some (.int .i64 ev) by simp) (by simp))
    go_ret
    exact ⟨ret_bool (by first | exact decide_eq_decide.2 ⟨fun h => ⟨a0, a1, h⟩, fun h => h.2.2⟩ | exact (decide_eq_true ⟨a0, by omega, by omega⟩).symm | exact (decide_eq_false (fun h => by have h1 := h.1; have h2 := h.2.1; have h3 := h.2.2; first | exact a0 h1 | omega)).symm), ((Below.refl _ _).alloc (Nat.le_refl _) _).trans (hb1.mono (by simp))⟩

  replace a1 := Decidable.not_not.1 a1
  by_cases a2 : ev ≤ 48
  ·
    go_enter Try.func42, Try.ntmps42
    go_wp2_with (go_at_call 45; refine (sraft _ m el bt _ (HR.out.alloc _) h1 h7).mono ?_; rintro e w1 ⟨rfl, hb1⟩; have c4 := Below.at hb1 (show (w.alloc _).cell? ⟨w.heap.size, 4, none⟩ = some (.int .i64 ev) by simp) (by simp))
    go_ret
    exact ⟨ret_bool (by first | exact decide_eq_decide.2 ⟨fun h => ⟨a0, a1, h⟩, fun h => h.2.2⟩ | exact (decide_eq_true ⟨a0, by omega, by omega⟩).symm | exact (decide_eq_false (fun h => by have h1 := h.1; have h2 := h.2.1; have h3 := h.2.2; first | exact a0 h1 | omega)).symm), ((Below.refl _ _).alloc (Nat.le_refl _) _).trans (hb1.mono (by simp))⟩

  ·
    go_enter Try.func42, Try.ntmps42
    go_wp2_with (go_at_call 45; refine (sraft _ m el bt _ (HR.out.alloc _) h1 h7).mono ?_; rintro e w1 ⟨rfl, hb1⟩; have c4 := Below.at hb1 (show (w.alloc _).cell? ⟨w.heap.size, 4, none⟩ = some (.int .i64 ev) by simp) (by simp))
    go_ret
    exact ⟨ret_bool (by first | exact decide_eq_decide.2 ⟨fun h => ⟨a0, a1, h⟩, fun h => h.2.2⟩ | exact (decide_eq_true ⟨a0, by omega, by omega⟩).symm | exact (decide_eq_false (fun h => by have h1 := h.1; have h2 := h.2.1; have h3 := h.2.2; first | exact a0 h1 | omega)).symm), ((Below.refl _ _).alloc (Nat.le_refl _) _).trans (hb1.mono (by simp))⟩

theorem srserver (sv : Value) (m : Nat) (el bt ev : Int) (w : World) (hr : Reads w .i64 sv (rng m)) (h1 : 1 ≤ m) (h7 : m ≤ 7) :
    Calls Try.prog 40 #[.agg #[.int .i64 0, sv, .int .i64 el, .int .i64 bt, .int .i64 ev]] w fun e w' => e = .returned (.bool (decide (SS el bt ev))) ∧ Below w.heap.size w w' := by
  have HR := Lib.hid hr
  obtain ⟨a, c, rfl⟩ := hr.shape
  clear hr
  by_cases a0 : ¬ RS el bt
  · have d0 : decide (RS el bt) = false := decide_eq_false a0
    go_enter Try.func40, Try.ntmps40
    go_wp2_with (go_at_call 44; refine (srraft _ m el bt _ (HR.out.alloc _) h1 h7).mono ?_; rintro e w1 ⟨rfl, hb1⟩; have c4 := Below.at hb1 (show (w.alloc _).cell? ⟨w.heap.size, 4, none⟩ = some (.int .i64 ev) by simp) (by simp))
    go_ret
    exact ⟨ret_bool (by first | exact decide_eq_decide.2 ⟨fun h => ⟨a0, a1, h⟩, fun h => h.2.2⟩ | exact (decide_eq_true ⟨a0, by omega, by omega⟩).symm | exact (decide_eq_false (fun h => by have h1 := h.1; have h2 := h.2.1; have h3 := h.2.2; first | exact a0 h1 | omega)).symm), ((Below.refl _ _).alloc (Nat.le_refl _) _).trans (hb1.mono (by simp))⟩

  replace a0 := Decidable.not_not.1 a0
  have d0 : decide (RS el bt) = true := decide_eq_true a0
  by_cases a1 : ¬ (1 ≤ ev)
  ·
    go_enter Try.func40, Try.ntmps40
    go_wp2_with (go_at_call 44; refine (srraft _ m el bt _ (HR.out.alloc _) h1 h7).mono ?_; rintro e w1 ⟨rfl, hb1⟩; have c4 := Below.at hb1 (show (w.alloc _).cell? ⟨w.heap.size, 4, none⟩ = some (.int .i64 ev) by simp) (by simp))
    go_ret
    exact ⟨ret_bool (by first | exact decide_eq_decide.2 ⟨fun h => ⟨a0, a1, h⟩, fun h => h.2.2⟩ | exact (decide_eq_true ⟨a0, by omega, by omega⟩).symm | exact (decide_eq_false (fun h => by have h1 := h.1; have h2 := h.2.1; have h3 := h.2.2; first | exact a0 h1 | omega)).symm), ((Below.refl _ _).alloc (Nat.le_refl _) _).trans (hb1.mono (by simp))⟩

  replace a1 := Decidable.not_not.1 a1
  by_cases a2 : ev ≤ 48
  ·
    go_enter Try.func40, Try.ntmps40
    go_wp2_with (go_at_call 44; refine (srraft _ m el bt _ (HR.out.alloc _) h1 h7).mono ?_; rintro e w1 ⟨rfl, hb1⟩; have c4 := Below.at hb1 (show (w.alloc _).cell? ⟨w.heap.size, 4, none⟩ = some (.int .i64 ev) by simp) (by simp))
    go_ret
    exact ⟨ret_bool (by first | exact decide_eq_decide.2 ⟨fun h => ⟨a0, a1, h⟩, fun h => h.2.2⟩ | exact (decide_eq_true ⟨a0, by omega, by omega⟩).symm | exact (decide_eq_false (fun h => by have h1 := h.1; have h2 := h.2.1; have h3 := h.2.2; first | exact a0 h1 | omega)).symm), ((Below.refl _ _).alloc (Nat.le_refl _) _).trans (hb1.mono (by simp))⟩

  ·
    go_enter Try.func40, Try.ntmps40
    go_wp2_with (go_at_call 44; refine (srraft _ m el bt _ (HR.out.alloc _) h1 h7).mono ?_; rintro e w1 ⟨rfl, hb1⟩; have c4 := Below.at hb1 (show (w.alloc _).cell? ⟨w.heap.size, 4, none⟩ = some (.int .i64 ev) by simp) (by simp))
    go_ret
    exact ⟨ret_bool (by first | exact decide_eq_decide.2 ⟨fun h => ⟨a0, a1, h⟩, fun h => h.2.2⟩ | exact (decide_eq_true ⟨a0, by omega, by omega⟩).symm | exact (decide_eq_false (fun h => by have h1 := h.1; have h2 := h.2.1; have h3 := h.2.2; first | exact a0 h1 | omega)).symm), ((Below.refl _ _).alloc (Nat.le_refl _) _).trans (hb1.mono (by simp))⟩
end Go.Proofs.Ytcccgcemgikkfaa
