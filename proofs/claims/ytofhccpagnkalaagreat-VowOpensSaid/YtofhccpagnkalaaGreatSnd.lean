/- Rows of ints; which members are sound; both ways; no conditions but the ranges. -/
import Derived.Test.YtofhccpagnkalaaGreatRx
import Derived.Test.YtofhccpagnkalaaGreatFb
import Derived.Test.YtofhccpagnkalaaGreatRt
namespace Go.Proofs.YtofhccpagnkalaaGreat
open Go.RowKit Go.Maps Go.Proofs.Own

theorem Tryz.infoInt : (Tryz.prog.info? 3).map (fun i => (i.zero, i.size, i.bytes)) = some (some (.int .i64 0), 1, 8) := by kernel_rfl
theorem Tryz.i64s : IntSlice Tryz.prog 38 3 .i64 8 := ⟨Tryz.underlying38, Tryz.infoInt⟩

structure Ints (w : World) (v : Value) (l : List Int) : Prop where
  shape : ∃ a c, v = .slice a l.length c ∧ l.length ≤ c
  rd : Reads w .i64 v l
  small : l.length ≤ 2097152
theorem Ints.kept {w w' : World} {v : Value} {l : List Int} {S : Nat → Prop} (h : Ints w v l) (hk : Kept w w' S) (hs : ∀ b, v.ownBlock = some b → ¬ S b) : Ints w' v l := ⟨h.shape, h.rd.kept hk hs, h.small⟩
theorem Ints.below {w w' : World} {v : Value} {l : List Int} (h : Ints w v l) (hb : Below w.heap.size w w') : Ints w' v l := ⟨h.shape, h.rd.below hb, h.small⟩
theorem Ints.alloc {w : World} {v : Value} {l : List Int} (h : Ints w v l) (o : Obj) : Ints (w.alloc o) v l := ⟨h.shape, h.rd.alloc o, h.small⟩
theorem Ints.nil (w : World) : Ints w (.slice none 0 0) [] := ⟨⟨none, 0, rfl, Nat.le_refl _⟩, Reads.nil _ _ _ _, Nat.zero_le _⟩
theorem Ints.of_owns {w : World} {base : Nat} {e : TypeId} {v : Value} {l : List Int} (h : Owns w base e .i64 v l) (hs : l.length ≤ 2097152) : Ints w v l := by
  refine ⟨?_, h.reads, hs⟩
  rcases h.2 with ⟨rfl, h0⟩ | ⟨g, cap, cur, rfl, _, _, hle, _⟩
  · exact ⟨none, 0, by rw [h0], by omega⟩
  · exact ⟨_, _, rfl, hle⟩
theorem Ints.st (v : Value) (l : List Int) : Stable fun w => Ints w v l := ⟨fun hs hb => hs.below hb⟩
theorem Ints.cells {w : World} {a : Option Addr} {n c : Nat} {l : List Int} (h : Ints w (.slice a n c) l) : n = l.length ∧ n ≤ c ∧ ∀ j (hj : j < l.length), ∃ b o, a = some ⟨b, o, none⟩ ∧ w.cell? ⟨b, o + j, none⟩ = some (.int .i64 l[j]) := by
  obtain ⟨a', c', h1, h2⟩ := h.shape
  cases h1
  refine ⟨rfl, h2, fun j hj => ?_⟩
  obtain ⟨a', c', h1, hc⟩ := h.rd
  cases h1
  exact hc j hj

/-- The member before. -/
def prevM (ms : List Int) (j : Nat) : Int := if j = 0 then -1 else ms.getD (j - 1) 0
/-- The member at j may be there. -/
def okAt (ms : List Int) (j : Nat) : Prop := prevM ms j < ms.getD j 0 ∧ ms.getD j 0 < 7
instance (ms : List Int) (j : Nat) : Decidable (okAt ms j) := inferInstanceAs (Decidable (_ ∧ _))
/-- They may be there. -/
def msOk (ms : List Int) : Prop := 1 ≤ ms.length ∧ ms.length ≤ 7 ∧ ∀ j, j < ms.length → okAt ms j
instance (ms : List Int) : Decidable (msOk ms) := inferInstanceAs (Decidable (_ ∧ _ ∧ _))
def msOkB (ms : List Int) : Bool := decide (msOk ms)
theorem prevM_succ (ms : List Int) (k : Nat) : prevM ms (k + 1) = ms.getD k 0 := by simp [prevM]
theorem ok_nonneg {ms : List Int} {k : Nat} (h : ∀ j, j < k → okAt ms j) : ∀ j, j < k → 0 ≤ ms.getD j 0
  | 0, hj => by have := (h 0 hj).1; simp only [prevM, if_true] at this; omega
  | j + 1, hj => by have := ok_nonneg h j (by omega); have := (h (j + 1) hj).1; rw [prevM_succ] at this; omega
theorem getDi {l : List Int} {j : Nat} (h : j < l.length) : l.getD j 0 = l[j] := by simp [List.getD_eq_getElem?_getD, h]

set_option maxHeartbeats 1000000 in
theorem rising_any (v : Value) (ms : List Int) (w : World) (h : Ints w v ms) :
    Calls Tryz.prog 123 #[v] w fun e w' => e = .returned (.bool (msOkB ms)) ∧ w = w' := by
  obtain ⟨a, c, rfl, hle⟩ := h.shape
  have HC := Lib.hid h.cells.2.2
  have hlb : (ms.length : Int) ≤ 2097152 := by have := h.small; omega
  by_cases h0 : ms.length = 0
  · have HV : Hid (msOkB ms = false) := Lib.hid (decide_eq_false fun h => by have := h.1; omega)
    rw [HV.out]
    rw [h0] at *
    clear h hle HC
    go_enter Tryz.func123, Tryz.ntmps123
    go_wp2_with fail
    go_step3
    go_wp2_with fail
    go_step3
    go_wp2_with fail
    go_loop [4, 6, 17, 3] (fun l n i o => i = .int .i64 0 ∧ o = .bool false ∧ l = .int .i64 (-1)) (fun _ _ _ _ => 0)
    case atStart => exact ⟨rfl, rfl, rfl⟩
    case round =>
      obtain ⟨rfl, rfl, rfl⟩ := hrel
      go_wp2_with fail
      go_ret
      exact ⟨rfl, rfl⟩
  · by_cases h7 : 7 < ms.length
    · have HV : Hid (msOkB ms = false) := Lib.hid (decide_eq_false fun h => by have := h.2.1; omega)
      rw [HV.out]
      have l1 : (7 : Int) < (ms.length : Int) := by omega
      have l0 : (0 : Int) < (ms.length : Int) := by omega
      obtain ⟨x, b, o, rfl, hcell⟩ : ∃ (x : Int) (b o : Nat), a = some ⟨b, o, none⟩ ∧ w.cell? ⟨b, o, none⟩ = some (.int .i64 x) := by
        obtain ⟨b, o, e, hc⟩ := HC.out 0 (by omega)
        exact ⟨_, b, o, e, hc⟩
      have hd7 : decide ((ms.length : Int) ≤ 7) = false := decide_eq_false (by omega)
      clear h hle h0 h7
      go_enter Tryz.func123, Tryz.ntmps123
      go_wp2_with fail
      go_step3
      go_wp2_with fail
      go_step3
      go_wp2_with fail
      go_loop [4, 6, 17, 3] (fun l n i o => i = .int .i64 0 ∧ o = .bool false ∧ l = .int .i64 (-1)) (fun _ _ _ _ => 0)
      case atStart => exact ⟨rfl, rfl, rfl⟩
      case round =>
        obtain ⟨rfl, rfl, rfl⟩ := hrel
        go_wp2_with fail
        try rw [Exit.noGoto_ret]
        go_ret
        exact ⟨rfl, rfl⟩
    · have l1 : (ms.length : Int) ≤ 7 := by omega
      have l0 : (0 : Int) < (ms.length : Int) := by omega
      have H0 : Hid (1 ≤ ms.length ∧ ms.length ≤ 7) := Lib.hid ⟨by omega, by omega⟩
      clear h hle h0 h7
      go_enter Tryz.func123, Tryz.ntmps123
      go_wp2_with fail
      go_step3
      go_wp2_with fail
      go_step3
      go_wp2_with fail
      go_loop [4, 6, 17, 3] (fun l n i o => ∃ k : Nat, k ≤ ms.length ∧ i = .int .i64 k ∧ o = .bool true ∧ l = .int .i64 (prevM ms k) ∧ ∀ j, j < k → okAt ms j) (fun _ _ i _ => ms.length - (intOf i).toNat)
      case atStart => exact ⟨0, Nat.zero_le _, rfl, rfl, rfl, fun j h => absurd h (Nat.not_lt_zero j)⟩
      case round =>
        obtain ⟨k, hk, rfl, rfl, rfl, hall⟩ := hrel
        have HALL := Lib.hid hall
        clear hall
        by_cases hlt : k < ms.length
        · obtain ⟨b, o, rfl, hcell⟩ := HC.out k hlt
          have hki : (k : Int) < (ms.length : Int) := by omega
          have hx := getDi hlt
          have HX := Lib.hid hx
          have HP : Hid (prevM ms (k + 1) = ms[k]) := Lib.hid (by rw [prevM_succ, hx])
          by_cases hok : okAt ms k
          · have HO := Lib.hid hok
            have h1 := hok.1
            have h2 := hok.2
            rw [hx] at h1 h2
            clear hok hx
            generalize ms[k] = x at hcell h1 h2 HX HP
            generalize prevM ms k = p at h1
            go_wp2_with fail
            go_round
            case rel => exact ⟨k + 1, by omega, by go_num, rfl, by rw [HP.out], fun j hj => by
              by_cases e : j = k
              · rw [e]; exact HO.out
              · exact HALL.out j (by omega)⟩
            case measure => simp [intOf]; omega
          · have HV : Hid (msOkB ms = false) := Lib.hid (decide_eq_false fun h => hok (h.2.2 k hlt))
            have hno : ¬ prevM ms k < ms[k] ∨ (prevM ms k < ms[k] ∧ ¬ ms[k] < 7) := by
              unfold okAt at hok; rw [hx] at hok; omega
            clear hok hx
            generalize ms[k] = x at hcell hno HX HP
            generalize prevM ms k = p at hno
            rcases hno with h1 | ⟨h1, h2⟩
            all_goals
              go_wp2_with fail
              try rw [Exit.noGoto_ret]
              go_ret
              exact ⟨by rw [HV.out]; rfl, rfl⟩
        · obtain rfl : k = ms.length := by omega
          have HV : Hid (msOkB ms = true) := Lib.hid (decide_eq_true ⟨H0.out.1, H0.out.2, HALL.out⟩)
          go_wp2_with fail
          try rw [Exit.noGoto_ret]
          go_ret
          exact ⟨by rw [HV.out]; rfl, rfl⟩

set_option maxHeartbeats 2000000 in
set_option maxRecDepth 20000 in
theorem members_any (v : Value) (ms : List Int) (w : World) (h : Ints w v ms) :
    Calls Tryz.prog 126 #[v] w fun e w' => e = .returned (.bool (msOkB ms)) ∧ Below w.heap.size w w' := by
  obtain ⟨a, c, rfl, hle⟩ := h.shape
  have HC := Lib.hid h.cells.2.2
  have hlb : (ms.length : Int) ≤ 2097152 := by have := h.small; omega
  by_cases h0 : ms.length < 1
  · have HV : Hid (msOkB ms = false) := Lib.hid (decide_eq_false fun h => by have := h.1; omega)
    rw [HV.out]
    have l0 : (ms.length : Int) < 1 := by omega
    clear h hle HC h0
    go_enter Tryz.func126, Tryz.ntmps126
    go_wp2_with fail
    go_ret
    exact ⟨rfl, Below.refl _ _⟩
  · by_cases h7 : 7 < ms.length
    · have HV : Hid (msOkB ms = false) := Lib.hid (decide_eq_false fun h => by have := h.2.1; omega)
      rw [HV.out]
      have l0 : ¬ (ms.length : Int) < 1 := by omega
      have l1 : (7 : Int) < (ms.length : Int) := by omega
      clear h hle HC h0 h7
      go_enter Tryz.func126, Tryz.ntmps126
      go_wp2_with fail
      go_ret
      exact ⟨rfl, Below.refl _ _⟩
    · have l0 : ¬ (ms.length : Int) < 1 := by omega
      have l1 : (ms.length : Int) ≤ 7 := by omega
      have H0 : Hid (1 ≤ ms.length ∧ ms.length ≤ 7) := Lib.hid ⟨by omega, by omega⟩
      clear h hle h0 h7
      go_enter Tryz.func126, Tryz.ntmps126
      go_wp2_with fail
      go_loopw [3] (fun i wr => ∃ k : Nat, k ≤ ms.length ∧ i = .int .i64 k ∧ (∀ j, j < k → okAt ms j) ∧ Below w.heap.size w wr) (fun i _ => ms.length - (intOf i).toNat)
      case atStart => exact ⟨0, Nat.zero_le _, rfl, fun j h => absurd h (Nat.not_lt_zero j), Below.refl _ _⟩
      case round =>
        obtain ⟨k, hk, rfl, hall, hbl⟩ := hrel
        have HALL := Lib.hid hall
        have HB := Lib.hid hbl
        have hsz := hbl.size
        clear hall hbl
        by_cases hlt : k < ms.length
        · obtain ⟨b, o, rfl, hcell⟩ := HC.out k hlt
          have hb := World.block_lt_of_cell? _ _ hcell
          have hcw := Below.at HB.out hcell hb
          have hki : (k : Int) < (ms.length : Int) := by omega
          have hk0 : (0 : Int) ≤ (k : Int) := by omega
          have hx := getDi hlt
          have hnn := ok_nonneg HALL.out
          by_cases hok : okAt ms k
          · have HO := Lib.hid hok
            have h1 := hok.1
            have h2 := hok.2
            rw [hx] at h1 h2
            have HREL : Hid (∀ j, j < k + 1 → okAt ms j) := Lib.hid fun j hj => by
              by_cases e : j = k
              · rw [e]; exact HO.out
              · exact HALL.out j (by omega)
            by_cases hk00 : k = 0
            · subst hk00
              have h1 : 0 ≤ ms[0] := by simp only [prevM, if_true] at h1; omega
              clear hok hx hnn
              have hcw : wr.cell? ⟨b, o, none⟩ = some (.int .i64 ms[0]) := hcw
              generalize ms[0] = x at hcw h1 h2
              have h6 : decide (6 < x) = false := decide_eq_false (by omega)
              have h7 : decide (x < 0) = false := decide_eq_false (by omega)
              clear h2 h1
              go_wp2_with fail
              go_quiet (fail)
              go_wp2_with fail
              go_roundw
              case rel => exact ⟨1, by omega, by first | rfl | go_num, HREL.out, HB.out.trans ((Below.drewN _ _).mono HB.out.size)⟩
              case measure => simp [intOf]; omega
            · have hp0 : 0 ≤ ms.getD (k - 1) 0 := hnn (k - 1) (by omega)
              have e1 : prevM ms k = ms.getD (k - 1) 0 := by simp [prevM, hk00]
              rw [e1, getDi (show k - 1 < ms.length by omega)] at h1
              rw [getDi (show k - 1 < ms.length by omega)] at hp0
              obtain ⟨b', o', eb, hcell2⟩ := HC.out (k - 1) (by omega)
              cases eb
              have hcw2 := Below.at HB.out hcell2 hb
              clear hok hx hnn e1 hcell hcell2
              generalize ms[k] = x at hcw h1 h2
              generalize ms[k - 1] = p at hcw2 h1 hp0
              have h6 : decide (6 < x) = false := decide_eq_false (by omega)
              have h7 : decide (x < 0) = false := decide_eq_false (by omega)
              have h8 : decide (x ≤ p) = false := decide_eq_false (by omega)
              have hkp : decide ((0 : Int) < (k : Int)) = true := decide_eq_true (by omega)
              have hkp2 : decide (0 < k) = true := decide_eq_true (by omega)
              have hkp3 : 0 < k := by omega
              have q1 : (k : Int) - 1 < (ms.length : Int) := by omega
              have q0 : (0 : Int) ≤ (k : Int) - 1 := by omega
              have q2 : ((k : Int) - 1).toNat = k - 1 := by omega
              have q3 : IntKind.i64.wrap ((k : Int) - 1) = (k : Int) - 1 := by simp only [IntKind.wrap_i64]; omega
              clear h2 hp0 h1
              go_wp2_with fail
              go_quiet (fail)
              clear q1 q0 q2 q3
              go_wp2_with fail
              go_roundw
              case rel => exact ⟨k + 1, by omega, by go_num, HREL.out, HB.out.trans ((Below.drewN _ _).mono HB.out.size)⟩
              case measure => simp [intOf]; omega
          · have HV : Hid (msOkB ms = false) := Lib.hid (decide_eq_false fun h => hok (h.2.2 k hlt))
            unfold okAt at hok
            rw [hx] at hok
            by_cases x0 : ms[k] < 0
            · have h7 : decide (ms[k] < 0) = true := decide_eq_true x0
              clear hok hx hnn x0
              generalize ms[k] = x at hcw h7
              go_wp2_with fail
              go_quiet (fail)
              go_wp2_with fail
              go_ret
              exact ⟨by rw [HV.out]; rfl, HB.out.trans ((Below.drewN _ _).mono HB.out.size)⟩
            · have h7 : decide (ms[k] < 0) = false := decide_eq_false x0
              by_cases x6 : 6 < ms[k]
              · have h6 : decide (6 < ms[k]) = true := decide_eq_true x6
                clear hok hx hnn x0 x6
                generalize ms[k] = x at hcw h7 h6
                go_wp2_with fail
                go_quiet (fail)
                go_wp2_with fail
                go_ret
                exact ⟨by rw [HV.out]; rfl, HB.out.trans ((Below.drewN _ _).mono HB.out.size)⟩
              · have hk00 : k ≠ 0 := by
                  intro e
                  subst e
                  simp only [prevM, if_true] at hok
                  omega
                have e1 : prevM ms k = ms.getD (k - 1) 0 := by simp [prevM, hk00]
                rw [e1, getDi (show k - 1 < ms.length by omega)] at hok
                obtain ⟨b', o', eb, hcell2⟩ := HC.out (k - 1) (by omega)
                cases eb
                have hcw2 := Below.at HB.out hcell2 hb
                have h6 : decide (6 < ms[k]) = false := decide_eq_false x6
                have h8 : decide (ms[k] ≤ ms[k - 1]) = true := decide_eq_true (by omega)
                have hkp : decide ((0 : Int) < (k : Int)) = true := decide_eq_true (by omega)
                have hkp2 : decide (0 < k) = true := decide_eq_true (by omega)
                have hkp3 : 0 < k := by omega
                have q1 : (k : Int) - 1 < (ms.length : Int) := by omega
                have q0 : (0 : Int) ≤ (k : Int) - 1 := by omega
                have q2 : ((k : Int) - 1).toNat = k - 1 := by omega
                have q3 : IntKind.i64.wrap ((k : Int) - 1) = (k : Int) - 1 := by simp only [IntKind.wrap_i64]; omega
                clear hok hx hnn x0 x6 e1 hcell hcell2
                generalize ms[k] = x at hcw h7 h6 h8
                generalize ms[k - 1] = p at hcw2 h8
                go_wp2_with fail
                go_quiet (fail)
                clear q1 q0 q2 q3
                go_wp2_with fail
                go_ret
                exact ⟨by rw [HV.out]; rfl, HB.out.trans ((Below.drewN _ _).mono HB.out.size)⟩
        · obtain rfl : k = ms.length := by omega
          have HV : Hid (msOkB ms = true) := Lib.hid (decide_eq_true ⟨H0.out.1, H0.out.2, HALL.out⟩)
          go_wp2_with fail
          go_ret
          exact ⟨by rw [HV.out]; rfl, HB.out⟩

end Go.Proofs.YtofhccpagnkalaaGreat
