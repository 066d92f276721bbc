/- The bounds, as the program tells them; the law's own example. -/
import Derived.Test.YtcccgcemgikkfaaCs
namespace Go.Proofs.Ytcccgcemgikkfaa
open Go.RowKit Go.Maps Go.Proofs.Own

theorem cs_small {S M el bt ev rm : Int} (h : CS S M el bt ev rm) : (1 ≤ S ∧ S ≤ 7) ∧ 2 ≤ el ∧ el ≤ 64 := ⟨⟨h.1.1, h.1.2.1⟩, h.2.1.1, h.2.1.2.1⟩

theorem kpat (b : Nat) (S M el bt ev rm : Int) (w : World) (hc : CS S M el bt ev rm) (c0 : w.cell? ⟨b, 0, none⟩ = some (.int .i64 S)) (c1 : w.cell? ⟨b, 1, none⟩ = some (.int .i64 M)) (c2 : w.cell? ⟨b, 2, none⟩ = some (.int .i64 el)) (c3 : w.cell? ⟨b, 3, none⟩ = some (.int .i64 bt)) (c4 : w.cell? ⟨b, 4, none⟩ = some (.int .i64 ev)) (c5 : w.cell? ⟨b, 5, none⟩ = some (.int .i64 rm)) :
    Calls Try.prog 33 #[.pointer (some ⟨b, 0, none⟩)] w fun e w' => e = .returned (.int .i64 (el + 2 * S)) ∧ Below w.heap.size w w' := by
  have hb := cs_small hc
  obtain ⟨⟨hS1, hS7⟩, hE2, hE64⟩ := hb
  have hbs : b < w.heap.size := World.block_lt_of_cell? _ _ c0
  go_enter Try.func33, Try.ntmps33
  go_wp2_with fail
  go_ret
  exact ⟨rfl, Below.refl _ _⟩

theorem opat (b : Nat) (S M el bt ev rm : Int) (w : World) (c0 : w.cell? ⟨b, 0, none⟩ = some (.int .i64 S)) (c1 : w.cell? ⟨b, 1, none⟩ = some (.int .i64 M)) (c2 : w.cell? ⟨b, 2, none⟩ = some (.int .i64 el)) (c3 : w.cell? ⟨b, 3, none⟩ = some (.int .i64 bt)) (c4 : w.cell? ⟨b, 4, none⟩ = some (.int .i64 ev)) (c5 : w.cell? ⟨b, 5, none⟩ = some (.int .i64 rm)) :
    Calls Try.prog 32 #[.agg #[.int .i64 S, .int .i64 M, .int .i64 el, .int .i64 bt, .int .i64 ev, .int .i64 rm], .func (.func 33) #[] #[.pointer (some ⟨b, 0, none⟩)]] w fun e w' => e = .returned (.int .i64 (if CS S M el bt ev rm then el + 2 * S else 0)) ∧ Below w.heap.size w w' := by
  have hbs : b < w.heap.size := World.block_lt_of_cell? _ _ c0
  by_cases hc : CS S M el bt ev rm
  · have d0 : decide (CS S M el bt ev rm) = true := decide_eq_true hc
    have HC := Lib.hid hc
    go_enter Try.func32, Try.ntmps32
    go_wp2_with fail
    refine (csound S M el bt ev rm _).mono ?_
    rintro e w1 ⟨rfl, hb1⟩
    have hb1' := ((Below.refl w.heap.size w).alloc (Nat.le_refl _) _).trans (hb1.mono (by simp))
    have HB := Lib.hid hb1'
    clear hb1 hb1'
    go_wp2_with fail
    refine (kpat b S M el bt ev rm _ HC.out (Below.at HB.out c0 hbs) (Below.at HB.out c1 hbs) (Below.at HB.out c2 hbs) (Below.at HB.out c3 hbs) (Below.at HB.out c4 hbs) (Below.at HB.out c5 hbs)).mono ?_
    rintro e w2 ⟨rfl, hb2⟩
    go_wp2_with fail
    go_ret
    exact ⟨rfl, HB.out.trans (hb2.mono HB.out.size)⟩
  · have d0 : decide (CS S M el bt ev rm) = false := decide_eq_false hc
    go_enter Try.func32, Try.ntmps32
    go_wp2_with fail
    refine (csound S M el bt ev rm _).mono ?_
    rintro e w1 ⟨rfl, hb1⟩
    go_wp2_with fail
    go_ret
    exact ⟨rfl, ((Below.refl _ _).alloc (Nat.le_refl _) _).trans (hb1.mono (by simp))⟩

theorem bpat (S M el bt ev rm : Int) (w : World) :
    Calls Try.prog 17 #[.agg #[.int .i64 S, .int .i64 M, .int .i64 el, .int .i64 bt, .int .i64 ev, .int .i64 rm]] w fun e w' => e = .returned (.int .i64 (if CS S M el bt ev rm then el + 2 * S else 0)) ∧ Below w.heap.size w w' := by
  have hmf : ∀ (fn : Fn) (first cap : Array Value) (w : World), (Instr.makeFunc fn first cap).run Try.prog w = .ok (.func fn first cap) w := fun _ _ _ _ => rfl
  generalize hT : (if CS S M el bt ev rm then el + 2 * S else 0) = t
  go_enter Try.func17, Try.ntmps17
  go_wp2_with fail
  refine (opat w.heap.size S M el bt ev rm _ (by go_cell) (by go_cell) (by go_cell) (by go_cell) (by go_cell) (by go_cell)).mono ?_
  rintro e w1 ⟨he, hb1⟩
  rw [hT] at he
  subst he
  clear hT
  go_wp2_with fail
  go_ret
  exact ⟨rfl, ((Below.refl _ _).alloc (Nat.le_refl _) _).trans (hb1.mono (by simp))⟩

theorem kset (b : Nat) (S M el bt ev rm : Int) (w : World) (hc : CS S M el bt ev rm) (c0 : w.cell? ⟨b, 0, none⟩ = some (.int .i64 S)) (c1 : w.cell? ⟨b, 1, none⟩ = some (.int .i64 M)) (c2 : w.cell? ⟨b, 2, none⟩ = some (.int .i64 el)) (c3 : w.cell? ⟨b, 3, none⟩ = some (.int .i64 bt)) (c4 : w.cell? ⟨b, 4, none⟩ = some (.int .i64 ev)) (c5 : w.cell? ⟨b, 5, none⟩ = some (.int .i64 rm)) :
    Calls Try.prog 35 #[.pointer (some ⟨b, 0, none⟩)] w fun e w' => e = .returned (.int .i64 (8 * (el + 2 * S) + 4 * el)) ∧ Below w.heap.size w w' := by
  have hb := cs_small hc
  obtain ⟨⟨hS1, hS7⟩, hE2, hE64⟩ := hb
  have hbs : b < w.heap.size := World.block_lt_of_cell? _ _ c0
  have hv : (if CS S M el bt ev rm then el + 2 * S else 0) = el + 2 * S := if_pos hc
  go_enter Try.func35, Try.ntmps35
  go_wp2_with fail
  go_region_held3 (fun w' => w'.cell? ⟨b, 0, none⟩ = some (.int .i64 S) ∧ w'.cell? ⟨b, 1, none⟩ = some (.int .i64 M) ∧ w'.cell? ⟨b, 2, none⟩ = some (.int .i64 el) ∧ w'.cell? ⟨b, 3, none⟩ = some (.int .i64 bt) ∧ w'.cell? ⟨b, 4, none⟩ = some (.int .i64 ev) ∧ w'.cell? ⟨b, 5, none⟩ = some (.int .i64 rm))
    (first | go_keep) ((go_at_call 17; refine (bpat S M el bt ev rm _).mono ?_; rintro e w1 ⟨he, hb1⟩; rw [hv] at he; subst he; have d0 := Below.at hb1 c0 hbs; have d1 := Below.at hb1 c1 hbs; have d2 := Below.at hb1 c2 hbs; have d3 := Below.at hb1 c3 hbs; have d4 := Below.at hb1 c4 hbs; have d5 := Below.at hb1 c5 hbs))
  go_wp2_with fail
  go_ret
  refine ⟨ret_int ?_, ((Below.refl _ _).drew).trans hb1⟩
  simp only [Act.put, Array.getD_eq_getD_getElem?, IntKind.wrap_i64]
  omega

theorem oset (b : Nat) (S M el bt ev rm : Int) (w : World) (c0 : w.cell? ⟨b, 0, none⟩ = some (.int .i64 S)) (c1 : w.cell? ⟨b, 1, none⟩ = some (.int .i64 M)) (c2 : w.cell? ⟨b, 2, none⟩ = some (.int .i64 el)) (c3 : w.cell? ⟨b, 3, none⟩ = some (.int .i64 bt)) (c4 : w.cell? ⟨b, 4, none⟩ = some (.int .i64 ev)) (c5 : w.cell? ⟨b, 5, none⟩ = some (.int .i64 rm)) :
    Calls Try.prog 32 #[.agg #[.int .i64 S, .int .i64 M, .int .i64 el, .int .i64 bt, .int .i64 ev, .int .i64 rm], .func (.func 35) #[] #[.pointer (some ⟨b, 0, none⟩)]] w fun e w' => e = .returned (.int .i64 (if CS S M el bt ev rm then 8 * (el + 2 * S) + 4 * el else 0)) ∧ Below w.heap.size w w' := by
  have hbs : b < w.heap.size := World.block_lt_of_cell? _ _ c0
  by_cases hc : CS S M el bt ev rm
  · have d0 : decide (CS S M el bt ev rm) = true := decide_eq_true hc
    have HC := Lib.hid hc
    go_enter Try.func32, Try.ntmps32
    go_wp2_with fail
    refine (csound S M el bt ev rm _).mono ?_
    rintro e w1 ⟨rfl, hb1⟩
    have hb1' := ((Below.refl w.heap.size w).alloc (Nat.le_refl _) _).trans (hb1.mono (by simp))
    have HB := Lib.hid hb1'
    clear hb1 hb1'
    go_wp2_with fail
    refine (kset b S M el bt ev rm _ HC.out (Below.at HB.out c0 hbs) (Below.at HB.out c1 hbs) (Below.at HB.out c2 hbs) (Below.at HB.out c3 hbs) (Below.at HB.out c4 hbs) (Below.at HB.out c5 hbs)).mono ?_
    rintro e w2 ⟨rfl, hb2⟩
    go_wp2_with fail
    go_ret
    exact ⟨rfl, HB.out.trans (hb2.mono HB.out.size)⟩
  · have d0 : decide (CS S M el bt ev rm) = false := decide_eq_false hc
    go_enter Try.func32, Try.ntmps32
    go_wp2_with fail
    refine (csound S M el bt ev rm _).mono ?_
    rintro e w1 ⟨rfl, hb1⟩
    go_wp2_with fail
    go_ret
    exact ⟨rfl, ((Below.refl _ _).alloc (Nat.le_refl _) _).trans (hb1.mono (by simp))⟩

theorem bset (S M el bt ev rm : Int) (w : World) :
    Calls Try.prog 19 #[.agg #[.int .i64 S, .int .i64 M, .int .i64 el, .int .i64 bt, .int .i64 ev, .int .i64 rm]] w fun e w' => e = .returned (.int .i64 (if CS S M el bt ev rm then 8 * (el + 2 * S) + 4 * el else 0)) ∧ Below w.heap.size w w' := by
  have hmf : ∀ (fn : Fn) (first cap : Array Value) (w : World), (Instr.makeFunc fn first cap).run Try.prog w = .ok (.func fn first cap) w := fun _ _ _ _ => rfl
  generalize hT : (if CS S M el bt ev rm then 8 * (el + 2 * S) + 4 * el else 0) = t
  go_enter Try.func19, Try.ntmps19
  go_wp2_with fail
  refine (oset w.heap.size S M el bt ev rm _ (by go_cell) (by go_cell) (by go_cell) (by go_cell) (by go_cell) (by go_cell)).mono ?_
  rintro e w1 ⟨he, hb1⟩
  rw [hT] at he
  subst he
  clear hT
  go_wp2_with fail
  go_ret
  exact ⟨rfl, ((Below.refl _ _).alloc (Nat.le_refl _) _).trans (hb1.mono (by simp))⟩

theorem ksrv (b : Nat) (S M el bt ev rm : Int) (w : World) (hc : CS S M el bt ev rm) (c0 : w.cell? ⟨b, 0, none⟩ = some (.int .i64 S)) (c1 : w.cell? ⟨b, 1, none⟩ = some (.int .i64 M)) (c2 : w.cell? ⟨b, 2, none⟩ = some (.int .i64 el)) (c3 : w.cell? ⟨b, 3, none⟩ = some (.int .i64 bt)) (c4 : w.cell? ⟨b, 4, none⟩ = some (.int .i64 ev)) (c5 : w.cell? ⟨b, 5, none⟩ = some (.int .i64 rm)) :
    Calls Try.prog 36 #[.pointer (some ⟨b, 0, none⟩)] w fun e w' => e = .returned (.int .i64 ((8 * (el + 2 * S) + 4 * el) + 2 * S + 8)) ∧ Below w.heap.size w w' := by
  have hb := cs_small hc
  obtain ⟨⟨hS1, hS7⟩, hE2, hE64⟩ := hb
  have hbs : b < w.heap.size := World.block_lt_of_cell? _ _ c0
  have hv : (if CS S M el bt ev rm then 8 * (el + 2 * S) + 4 * el else 0) = 8 * (el + 2 * S) + 4 * el := if_pos hc
  go_enter Try.func36, Try.ntmps36
  go_wp2_with fail
  go_region_held3 (fun w' => w'.cell? ⟨b, 0, none⟩ = some (.int .i64 S) ∧ w'.cell? ⟨b, 1, none⟩ = some (.int .i64 M) ∧ w'.cell? ⟨b, 2, none⟩ = some (.int .i64 el) ∧ w'.cell? ⟨b, 3, none⟩ = some (.int .i64 bt) ∧ w'.cell? ⟨b, 4, none⟩ = some (.int .i64 ev) ∧ w'.cell? ⟨b, 5, none⟩ = some (.int .i64 rm))
    (first | go_keep) ((go_at_call 19; refine (bset S M el bt ev rm _).mono ?_; rintro e w1 ⟨he, hb1⟩; rw [hv] at he; subst he; have d0 := Below.at hb1 c0 hbs; have d1 := Below.at hb1 c1 hbs; have d2 := Below.at hb1 c2 hbs; have d3 := Below.at hb1 c3 hbs; have d4 := Below.at hb1 c4 hbs; have d5 := Below.at hb1 c5 hbs))
  go_wp2_with fail
  go_ret
  refine ⟨ret_int ?_, ((Below.refl _ _).drew).trans hb1⟩
  simp only [Act.put, Array.getD_eq_getD_getElem?, IntKind.wrap_i64]
  omega

theorem osrv (b : Nat) (S M el bt ev rm : Int) (w : World) (c0 : w.cell? ⟨b, 0, none⟩ = some (.int .i64 S)) (c1 : w.cell? ⟨b, 1, none⟩ = some (.int .i64 M)) (c2 : w.cell? ⟨b, 2, none⟩ = some (.int .i64 el)) (c3 : w.cell? ⟨b, 3, none⟩ = some (.int .i64 bt)) (c4 : w.cell? ⟨b, 4, none⟩ = some (.int .i64 ev)) (c5 : w.cell? ⟨b, 5, none⟩ = some (.int .i64 rm)) :
    Calls Try.prog 32 #[.agg #[.int .i64 S, .int .i64 M, .int .i64 el, .int .i64 bt, .int .i64 ev, .int .i64 rm], .func (.func 36) #[] #[.pointer (some ⟨b, 0, none⟩)]] w fun e w' => e = .returned (.int .i64 (if CS S M el bt ev rm then (8 * (el + 2 * S) + 4 * el) + 2 * S + 8 else 0)) ∧ Below w.heap.size w w' := by
  have hbs : b < w.heap.size := World.block_lt_of_cell? _ _ c0
  by_cases hc : CS S M el bt ev rm
  · have d0 : decide (CS S M el bt ev rm) = true := decide_eq_true hc
    have HC := Lib.hid hc
    go_enter Try.func32, Try.ntmps32
    go_wp2_with fail
    refine (csound S M el bt ev rm _).mono ?_
    rintro e w1 ⟨rfl, hb1⟩
    have hb1' := ((Below.refl w.heap.size w).alloc (Nat.le_refl _) _).trans (hb1.mono (by simp))
    have HB := Lib.hid hb1'
    clear hb1 hb1'
    go_wp2_with fail
    refine (ksrv b S M el bt ev rm _ HC.out (Below.at HB.out c0 hbs) (Below.at HB.out c1 hbs) (Below.at HB.out c2 hbs) (Below.at HB.out c3 hbs) (Below.at HB.out c4 hbs) (Below.at HB.out c5 hbs)).mono ?_
    rintro e w2 ⟨rfl, hb2⟩
    go_wp2_with fail
    go_ret
    exact ⟨rfl, HB.out.trans (hb2.mono HB.out.size)⟩
  · have d0 : decide (CS S M el bt ev rm) = false := decide_eq_false hc
    go_enter Try.func32, Try.ntmps32
    go_wp2_with fail
    refine (csound S M el bt ev rm _).mono ?_
    rintro e w1 ⟨rfl, hb1⟩
    go_wp2_with fail
    go_ret
    exact ⟨rfl, ((Below.refl _ _).alloc (Nat.le_refl _) _).trans (hb1.mono (by simp))⟩

theorem bsrv (S M el bt ev rm : Int) (w : World) :
    Calls Try.prog 21 #[.agg #[.int .i64 S, .int .i64 M, .int .i64 el, .int .i64 bt, .int .i64 ev, .int .i64 rm]] w fun e w' => e = .returned (.int .i64 (if CS S M el bt ev rm then (8 * (el + 2 * S) + 4 * el) + 2 * S + 8 else 0)) ∧ Below w.heap.size w w' := by
  have hmf : ∀ (fn : Fn) (first cap : Array Value) (w : World), (Instr.makeFunc fn first cap).run Try.prog w = .ok (.func fn first cap) w := fun _ _ _ _ => rfl
  generalize hT : (if CS S M el bt ev rm then (8 * (el + 2 * S) + 4 * el) + 2 * S + 8 else 0) = t
  go_enter Try.func21, Try.ntmps21
  go_wp2_with fail
  refine (osrv w.heap.size S M el bt ev rm _ (by go_cell) (by go_cell) (by go_cell) (by go_cell) (by go_cell) (by go_cell)).mono ?_
  rintro e w1 ⟨he, hb1⟩
  rw [hT] at he
  subst he
  clear hT
  go_wp2_with fail
  go_ret
  exact ⟨rfl, ((Below.refl _ _).alloc (Nat.le_refl _) _).trans (hb1.mono (by simp))⟩

theorem kdrn (b : Nat) (S M el bt ev rm : Int) (w : World) (hc : CS S M el bt ev rm) (c0 : w.cell? ⟨b, 0, none⟩ = some (.int .i64 S)) (c1 : w.cell? ⟨b, 1, none⟩ = some (.int .i64 M)) (c2 : w.cell? ⟨b, 2, none⟩ = some (.int .i64 el)) (c3 : w.cell? ⟨b, 3, none⟩ = some (.int .i64 bt)) (c4 : w.cell? ⟨b, 4, none⟩ = some (.int .i64 ev)) (c5 : w.cell? ⟨b, 5, none⟩ = some (.int .i64 rm)) :
    Calls Try.prog 37 #[] w fun e w' => e = .returned (.int .i64 ((24 : Int))) ∧ Below w.heap.size w w' := by
  have hb := cs_small hc
  obtain ⟨⟨hS1, hS7⟩, hE2, hE64⟩ := hb
  have hbs : b < w.heap.size := World.block_lt_of_cell? _ _ c0
  go_enter Try.func37, Try.ntmps37
  go_wp2_with fail
  go_ret
  exact ⟨rfl, Below.refl _ _⟩

theorem odrn (b : Nat) (S M el bt ev rm : Int) (w : World) (c0 : w.cell? ⟨b, 0, none⟩ = some (.int .i64 S)) (c1 : w.cell? ⟨b, 1, none⟩ = some (.int .i64 M)) (c2 : w.cell? ⟨b, 2, none⟩ = some (.int .i64 el)) (c3 : w.cell? ⟨b, 3, none⟩ = some (.int .i64 bt)) (c4 : w.cell? ⟨b, 4, none⟩ = some (.int .i64 ev)) (c5 : w.cell? ⟨b, 5, none⟩ = some (.int .i64 rm)) :
    Calls Try.prog 32 #[.agg #[.int .i64 S, .int .i64 M, .int .i64 el, .int .i64 bt, .int .i64 ev, .int .i64 rm], .func (.func 37) #[] #[]] w fun e w' => e = .returned (.int .i64 (if CS S M el bt ev rm then (24 : Int) else 0)) ∧ Below w.heap.size w w' := by
  have hbs : b < w.heap.size := World.block_lt_of_cell? _ _ c0
  by_cases hc : CS S M el bt ev rm
  · have d0 : decide (CS S M el bt ev rm) = true := decide_eq_true hc
    have HC := Lib.hid hc
    go_enter Try.func32, Try.ntmps32
    go_wp2_with fail
    refine (csound S M el bt ev rm _).mono ?_
    rintro e w1 ⟨rfl, hb1⟩
    have hb1' := ((Below.refl w.heap.size w).alloc (Nat.le_refl _) _).trans (hb1.mono (by simp))
    have HB := Lib.hid hb1'
    clear hb1 hb1'
    go_wp2_with fail
    refine (kdrn b S M el bt ev rm _ HC.out (Below.at HB.out c0 hbs) (Below.at HB.out c1 hbs) (Below.at HB.out c2 hbs) (Below.at HB.out c3 hbs) (Below.at HB.out c4 hbs) (Below.at HB.out c5 hbs)).mono ?_
    rintro e w2 ⟨rfl, hb2⟩
    go_wp2_with fail
    go_ret
    exact ⟨rfl, HB.out.trans (hb2.mono HB.out.size)⟩
  · have d0 : decide (CS S M el bt ev rm) = false := decide_eq_false hc
    go_enter Try.func32, Try.ntmps32
    go_wp2_with fail
    refine (csound S M el bt ev rm _).mono ?_
    rintro e w1 ⟨rfl, hb1⟩
    go_wp2_with fail
    go_ret
    exact ⟨rfl, ((Below.refl _ _).alloc (Nat.le_refl _) _).trans (hb1.mono (by simp))⟩

theorem bdrn (S M el bt ev rm : Int) (w : World) :
    Calls Try.prog 23 #[.agg #[.int .i64 S, .int .i64 M, .int .i64 el, .int .i64 bt, .int .i64 ev, .int .i64 rm]] w fun e w' => e = .returned (.int .i64 (if CS S M el bt ev rm then (24 : Int) else 0)) ∧ Below w.heap.size w w' := by
  have hmf : ∀ (fn : Fn) (first cap : Array Value) (w : World), (Instr.makeFunc fn first cap).run Try.prog w = .ok (.func fn first cap) w := fun _ _ _ _ => rfl
  generalize hT : (if CS S M el bt ev rm then (24 : Int) else 0) = t
  go_enter Try.func23, Try.ntmps23
  go_wp2_with fail
  refine (odrn w.heap.size S M el bt ev rm _ (by go_cell) (by go_cell) (by go_cell) (by go_cell) (by go_cell) (by go_cell)).mono ?_
  rintro e w1 ⟨he, hb1⟩
  rw [hT] at he
  subst he
  clear hT
  go_wp2_with fail
  go_ret
  exact ⟨rfl, ((Below.refl _ _).alloc (Nat.le_refl _) _).trans (hb1.mono (by simp))⟩
end Go.Proofs.Ytcccgcemgikkfaa
