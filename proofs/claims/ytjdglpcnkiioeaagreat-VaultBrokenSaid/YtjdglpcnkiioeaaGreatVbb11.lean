/- Several texts in one: Rt, Snd, Snp, Get, Read, Pread. What each proves stands ahead of it; together they serve vbroken_law_holds. No conditions but those stated. -/
import Derived.Test.YtjdglpcnkiioeaaGreatVbb6
import Derived.Test.YtjdglpcnkiioeaaGreatVbb2
import Derived.Test.YtjdglpcnkiioeaaGreatVbb7
namespace Go.Proofs.YtjdglpcnkiioeaaGreat
open Go.RowKit Go.Maps Go.Proofs.Own

theorem frP_lt {k : Nat} {l : List Nat} (hk : k < 256) (hn : l.length < 16777216) (h : ∀ c ∈ l, c < 256) : ∀ c ∈ frP k l, c < 256 := sealP_lt (headed_lt hk hn h)
end Go.Proofs.YtjdglpcnkiioeaaGreat
namespace Go.Proofs.YtjdglpcnkiioeaaGreat
open Go.Lib (hid)
open Go.RowKit Go.Maps Go.Proofs.Own

theorem Tryz.infoInt : (Tryz.prog.info? 3).map (fun i => (i.zero, i.size, i.bytes)) = some (some (.int .i64 0), 1, 8) := by kernel_rfl
theorem Tryz.i64s : IntSlice Tryz.prog 73 3 .i64 8 := ⟨Tryz.underlying73, Tryz.infoInt⟩

structure Ints (w : World) (v : Value) (l : List Int) : Prop where
  shape : ∃ a c, v = .slice a l.length c /\ l.length <= c
  rd : Reads w .i64 v l
  small : l.length <= 2097152
theorem Ints.kept {w w' : World} {v : Value} {l : List Int} {S : Nat -> Prop} (h : Ints w v l) (hk : Kept w w' S) (hs : ∀ b, v.ownBlock = some b -> ¬ S b) : Ints w' v l := ⟨h.shape, h.rd.kept hk hs, h.small⟩
theorem Ints.below {w w' : World} {v : Value} {l : List Int} (h : Ints w v l) (hb : Below w.heap.size w w') : Ints w' v l := ⟨h.shape, h.rd.below hb, h.small⟩
theorem Ints.alloc {w : World} {v : Value} {l : List Int} (h : Ints w v l) (o : Obj) : Ints (w.alloc o) v l := ⟨h.shape, h.rd.alloc o, h.small⟩
theorem Ints.nil (w : World) : Ints w (.slice none 0 0) [] := ⟨⟨none, 0, rfl, Nat.le_refl _⟩, Reads.nil _ _ _ _, Nat.zero_le _⟩
theorem Ints.of_owns {w : World} {base : Nat} {e : TypeId} {v : Value} {l : List Int} (h : Owns w base e .i64 v l) (hs : l.length <= 2097152) : Ints w v l := by
  refine ⟨?_, h.reads, hs⟩
  rcases h.2 with ⟨rfl, h0⟩ | ⟨g, cap, cur, rfl, _, _, hle, _⟩
  . exact ⟨none, 0, by rw [h0], by omega⟩
  . exact ⟨_, _, rfl, hle⟩
theorem Ints.cells {w : World} {a : Option Addr} {n c : Nat} {l : List Int} (h : Ints w (.slice a n c) l) : n = l.length /\ n <= c /\ ∀ j (hj : j < l.length), ∃ b o, a = some ⟨b, o, none⟩ /\ w.cell? ⟨b, o + j, none⟩ = some (.int .i64 l[j]) := by
  obtain ⟨a', c', h1, h2⟩ := h.shape
  cases h1
  refine ⟨rfl, h2, fun j hj => ?_⟩
  obtain ⟨a', c', h1, hc⟩ := h.rd
  cases h1
  exact hc j hj

def prevM (ms : List Int) (j : Nat) : Int := if j = 0 then -1 else ms.getD (j - 1) 0
def okAt (ms : List Int) (j : Nat) : Prop := prevM ms j < ms.getD j 0 /\ ms.getD j 0 < 7
instance (ms : List Int) (j : Nat) : Decidable (okAt ms j) := inferInstanceAs (Decidable (_ /\ _))
def msOk (ms : List Int) : Prop := 1 <= ms.length /\ ms.length <= 7 /\ ∀ j, j < ms.length -> okAt ms j
instance (ms : List Int) : Decidable (msOk ms) := inferInstanceAs (Decidable (_ /\ _ /\ _))
def msOkB (ms : List Int) : Bool := decide (msOk ms)
theorem prevM_succ (ms : List Int) (k : Nat) : prevM ms (k + 1) = ms.getD k 0 := by simp [prevM]
theorem ok_nonneg {ms : List Int} {k : Nat} (h : ∀ j, j < k -> okAt ms j) : ∀ j, j < k -> 0 <= ms.getD j 0
  | 0, hj => by have := (h 0 hj).1; simp only [prevM, if_true] at this; omega
  | j + 1, hj => by have := ok_nonneg h j (by omega); have := (h (j + 1) hj).1; rw [prevM_succ] at this; omega
theorem getDi {l : List Int} {j : Nat} (h : j < l.length) : l.getD j 0 = l[j] := by simp [List.getD_eq_getElem?_getD, h]

set_option maxHeartbeats 1000000 in
theorem rising_any (v : Value) (ms : List Int) (w : World) (h : Ints w v ms) :
    Calls Tryz.prog 233 #[v] w fun e w' => e = .returned (.bool (msOkB ms)) /\ w = w' := by
  obtain ⟨a, c, rfl, hle⟩ := h.shape
  have HC := hid h.cells.2.2
  have hlb : (ms.length : Int) <= 2097152 := by have := h.small; omega
  by_cases h0 : ms.length = 0
  . have HV : Hid (msOkB ms = false) := hid (decide_eq_false fun h => by have := h.1; omega)
    rw [HV.out]
    rw [h0] at *
    clear h hle HC
    go_enter Tryz.func233, Tryz.ntmps233
    go_wp2_with fail
    go_step3
    go_wp2_with fail
    go_step3
    go_wp2_with fail
    go_loop [4, 6, 17, 3] (fun l n i o => i = .int .i64 0 /\ o = .bool false /\ l = .int .i64 (-1)) (fun _ _ _ _ => 0)
    case atStart => exact ⟨rfl, rfl, rfl⟩
    case round =>
      obtain ⟨rfl, rfl, rfl⟩ := hrel
      go_wp2_with fail
      go_ret
      exact ⟨rfl, rfl⟩
  . by_cases h7 : 7 < ms.length
    . have HV : Hid (msOkB ms = false) := hid (decide_eq_false fun h => by have := h.2.1; omega)
      rw [HV.out]
      have l1 : (7 : Int) < (ms.length : Int) := by omega
      have l0 : (0 : Int) < (ms.length : Int) := by omega
      obtain ⟨x, b, o, rfl, hcell⟩ : ∃ (x : Int) (b o : Nat), a = some ⟨b, o, none⟩ /\ w.cell? ⟨b, o, none⟩ = some (.int .i64 x) := by
        obtain ⟨b, o, e, hc⟩ := HC.out 0 (by omega)
        exact ⟨_, b, o, e, hc⟩
      have hd7 : decide ((ms.length : Int) <= 7) = false := decide_eq_false (by omega)
      clear h hle h0 h7
      go_enter Tryz.func233, Tryz.ntmps233
      go_wp2_with fail
      go_step3
      go_wp2_with fail
      go_step3
      go_wp2_with fail
      go_loop [4, 6, 17, 3] (fun l n i o => i = .int .i64 0 /\ o = .bool false /\ l = .int .i64 (-1)) (fun _ _ _ _ => 0)
      case atStart => exact ⟨rfl, rfl, rfl⟩
      case round =>
        obtain ⟨rfl, rfl, rfl⟩ := hrel
        go_wp2_with fail
        try rw [Exit.noGoto_ret]
        go_ret
        exact ⟨rfl, rfl⟩
    . have l1 : (ms.length : Int) <= 7 := by omega
      have l0 : (0 : Int) < (ms.length : Int) := by omega
      have H0 : Hid (1 <= ms.length /\ ms.length <= 7) := hid ⟨by omega, by omega⟩
      clear h hle h0 h7
      go_enter Tryz.func233, Tryz.ntmps233
      go_wp2_with fail
      go_step3
      go_wp2_with fail
      go_step3
      go_wp2_with fail
      go_loop [4, 6, 17, 3] (fun l n i o => ∃ k : Nat, k <= ms.length /\ i = .int .i64 k /\ o = .bool true /\ l = .int .i64 (prevM ms k) /\ ∀ j, j < k -> okAt ms j) (fun _ _ i _ => ms.length - (intOf i).toNat)
      case atStart => exact ⟨0, Nat.zero_le _, rfl, rfl, rfl, fun j h => absurd h (Nat.not_lt_zero j)⟩
      case round =>
        obtain ⟨k, hk, rfl, rfl, rfl, hall⟩ := hrel
        have HALL := hid hall
        clear hall
        by_cases hlt : k < ms.length
        . obtain ⟨b, o, rfl, hcell⟩ := HC.out k hlt
          have hki : (k : Int) < (ms.length : Int) := by omega
          have hx := getDi hlt
          have HX := hid hx
          have HP : Hid (prevM ms (k + 1) = ms[k]) := hid (by rw [prevM_succ, hx])
          by_cases hok : okAt ms k
          . have HO := hid hok
            have h1 := hok.1
            have h2 := hok.2
            rw [hx] at h1 h2
            clear hok hx
            generalize ms[k] = x at hcell h1 h2 HX HP
            generalize prevM ms k = p at h1
            go_wp2_with fail
            go_round
            case rel => exact ⟨k + 1, by omega, by go_num, rfl, by rw [HP.out], fun j hj => by
              by_cases e : j = k
              . rw [e]; exact HO.out
              . exact HALL.out j (by omega)⟩
            case measure => simp [intOf]; omega
          . have HV : Hid (msOkB ms = false) := hid (decide_eq_false fun h => hok (h.2.2 k hlt))
            have hno : ¬ prevM ms k < ms[k] \/ (prevM ms k < ms[k] /\ ¬ ms[k] < 7) := by
              unfold okAt at hok; rw [hx] at hok; omega
            clear hok hx
            generalize ms[k] = x at hcell hno HX HP
            generalize prevM ms k = p at hno
            rcases hno with h1 | ⟨h1, h2⟩
            all_goals
              go_wp2_with fail
              try rw [Exit.noGoto_ret]
              go_ret
              exact ⟨by rw [HV.out]; rfl, rfl⟩
        . obtain rfl : k = ms.length := by omega
          have HV : Hid (msOkB ms = true) := hid (decide_eq_true ⟨H0.out.1, H0.out.2, HALL.out⟩)
          go_wp2_with fail
          try rw [Exit.noGoto_ret]
          go_ret
          exact ⟨by rw [HV.out]; rfl, rfl⟩


structure SnapS where
  i : Int
  t : Int
  ms : List Int
  d : List Nat
def SnapIs (w : World) (v : Value) (s : SnapS) : Prop := ∃ mv dv, v = .agg #[.int .u64 s.i, .int .u64 s.t, mv, dv] /\ Ints w mv s.ms /\ Bytes w dv s.d
theorem SnapIs.below {w w' : World} {v : Value} {s : SnapS} (h : SnapIs w v s) (hb : Below w.heap.size w w') : SnapIs w' v s := by
  obtain ⟨mv, dv, h1, h2, h3⟩ := h
  exact ⟨mv, dv, h1, h2.below hb, h3.below hb⟩
def SnapS.ok (s : SnapS) : Prop := 1 <= s.i /\ s.i < 576460752303423488 /\ 1 <= s.t /\ s.t <= 1152921504606846976 /\ msOk s.ms /\ s.d.length <= 32768
instance (s : SnapS) : Decidable s.ok := inferInstanceAs (Decidable (_ /\ _))
def SnapS.okB (s : SnapS) : Bool := decide s.ok

set_option maxHeartbeats 1000000 in
set_option maxRecDepth 20000 in
theorem sound_any (v : Value) (s : SnapS) (w : World) (h : SnapIs w v s) :
    Calls Tryz.prog 194 #[v] w fun e w' => e = .returned (.bool s.okB) /\ Below w.heap.size w w' := by
  obtain ⟨mv, dv, rfl, hm, hd⟩ := h
  obtain ⟨i, t, ms, d⟩ := s
  have HM := hid hm
  have hdl : (d.length : Int) <= 2097152 := by have : d.length <= 2097152 := hd.small; omega
  obtain ⟨a, c, rfl, _⟩ := hd.shape
  obtain ⟨am, cm, rfl, _⟩ := hm.shape
  have AL : Hid (∀ o : Obj, Ints (w.alloc o) (.slice am ms.length cm) ms) := hid fun o => HM.out.alloc o
  clear hm hd
  by_cases h1 : 1 <= i
  . by_cases h2 : i < 576460752303423488
    . by_cases h3 : 1 <= t
      . by_cases h4 : t <= 1152921504606846976
        . have HC := hid (show 1 <= i /\ i < 576460752303423488 /\ 1 <= t /\ t <= 1152921504606846976 from ⟨h1, h2, h3, h4⟩)
          by_cases hm : msOk ms
          . have hmb : msOkB ms = true := decide_eq_true hm
            have HMO := hid hm
            by_cases h5 : d.length <= 32768
            . have HV : Hid ((SnapS.mk i t ms d).okB = true) := hid (decide_eq_true ⟨h1, h2, h3, h4, hm, h5⟩)
              rw [HV.out]
              have h5i : (d.length : Int) <= 32768 := by omega
              have HMB := hid hmb
              clear hm h5 hmb
              go_enter Tryz.func194, Tryz.ntmps194
              go_wp2_with fail
              refine (rising_any _ ms _ (AL.out _)).mono ?_
              rintro e w1 ⟨rfl, rfl⟩
              rw [HMB.out]
              go_wp2_with fail
              go_ret
              exact ⟨rfl, (Below.refl _ _).alloc (Nat.le_refl _) _⟩
            . have HV : Hid ((SnapS.mk i t ms d).okB = false) := hid (decide_eq_false fun h => h5 h.2.2.2.2.2)
              rw [HV.out]
              have h5i : ¬ (d.length : Int) <= 32768 := by omega
              have H5B : Hid (decide ((d.length : Int) <= 32768) = false) := hid (decide_eq_false h5i)
              have HMB := hid hmb
              clear hm h5 hmb
              go_enter Tryz.func194, Tryz.ntmps194
              go_wp2_with fail
              refine (rising_any _ ms _ (AL.out _)).mono ?_
              rintro e w1 ⟨rfl, rfl⟩
              rw [HMB.out]
              go_wp2_with fail
              go_ret
              exact ⟨ret_bool H5B.out, (Below.refl _ _).alloc (Nat.le_refl _) _⟩
          . have hmb : msOkB ms = false := decide_eq_false hm
            have HV : Hid ((SnapS.mk i t ms d).okB = false) := hid (decide_eq_false fun h => hm h.2.2.2.2.1)
            rw [HV.out]
            have HMB := hid hmb
            clear hm hmb
            go_enter Tryz.func194, Tryz.ntmps194
            go_wp2_with fail
            refine (rising_any _ ms _ (AL.out _)).mono ?_
            rintro e w1 ⟨rfl, rfl⟩
            rw [HMB.out]
            go_wp2_with fail
            go_ret
            exact ⟨rfl, (Below.refl _ _).alloc (Nat.le_refl _) _⟩
        . have HV : Hid ((SnapS.mk i t ms d).okB = false) := hid (decide_eq_false fun h => h4 h.2.2.2.1)
          rw [HV.out]
          go_enter Tryz.func194, Tryz.ntmps194
          go_wp2_with fail
          go_ret
          exact ⟨rfl, (Below.refl _ _).alloc (Nat.le_refl _) _⟩
      . have HV : Hid ((SnapS.mk i t ms d).okB = false) := hid (decide_eq_false fun h => h3 h.2.2.1)
        rw [HV.out]
        go_enter Tryz.func194, Tryz.ntmps194
        go_wp2_with fail
        go_ret
        exact ⟨rfl, (Below.refl _ _).alloc (Nat.le_refl _) _⟩
    . have HV : Hid ((SnapS.mk i t ms d).okB = false) := hid (decide_eq_false fun h => h2 h.2.1)
      rw [HV.out]
      go_enter Tryz.func194, Tryz.ntmps194
      go_wp2_with fail
      go_ret
      exact ⟨rfl, (Below.refl _ _).alloc (Nat.le_refl _) _⟩
  . have HV : Hid ((SnapS.mk i t ms d).okB = false) := hid (decide_eq_false fun h => h1 h.1)
    rw [HV.out]
    go_enter Tryz.func194, Tryz.ntmps194
    go_wp2_with fail
    go_ret
    exact ⟨rfl, (Below.refl _ _).alloc (Nat.le_refl _) _⟩

end Go.Proofs.YtjdglpcnkiioeaaGreat
namespace Go.Proofs.YtjdglpcnkiioeaaGreat
open Go.RowKit Go.Maps Go.Proofs.Own
variable {rb : Nat}

def H59 : Nat := 576460752303423488
def H60 : Nat := 1152921504606846976
def memL (m : Nat) : Nat -> List Nat -> List Nat
  | 0, l => l
  | k + 1, l => numL m (memL m k l)
def memV (m : Nat) : Nat -> List Nat -> List Int
  | 0, _ => []
  | k + 1, l => memV m k l ++ [(numV m (memL m k l) : Int)]
def memB (m : Nat) : Nat -> List Nat -> Bool
  | 0, _ => false
  | k + 1, l => memB m k l || numB m (memL m k l)
theorem length_memV (m k : Nat) (l : List Nat) : (memV m k l).length = k := by
  induction k with
  | zero => rfl
  | succ k ih => simp [memV, ih]
def rest1 (l : List Nat) : List Nat := numL H59 l
def rest2 (l : List Nat) : List Nat := numL H60 (rest1 l)
def memN (l : List Nat) : Nat := numV 7 (rest2 l)
def rest3 (l : List Nat) : List Nat := numL 7 (rest2 l)
def rest4 (m : Nat) (l : List Nat) : List Nat := memL m (memN l) (rest3 l)
def getS (m : Nat) (l : List Nat) : SnapS := ⟨numV H59 l, numV H60 (rest1 l), memV m (memN l) (rest3 l), textV 32768 (rest4 m l)⟩
def getL (m : Nat) (l : List Nat) : List Nat := textL 32768 (rest4 m l)
def getB (m : Nat) (l : List Nat) : Bool := (((numB H59 l || numB H60 (rest1 l)) || numB 7 (rest2 l)) || memB m (memN l) (rest3 l)) || textB 32768 (rest4 m l)
theorem memN_le (l : List Nat) : memN l <= 7 := numV_le _ _
theorem numL_mem {m : Nat} {l : List Nat} : ∀ c ∈ numL m l, c ∈ l := by
  intro c hc
  unfold numL at hc
  split at hc
  . exact List.mem_of_mem_drop hc
  . cases hc
theorem textV_mem {m : Nat} {l : List Nat} : ∀ c ∈ textV m l, c ∈ l := by
  intro c hc
  unfold textV at hc
  split at hc
  . exact numL_mem c (List.mem_of_mem_take hc)
  . cases hc
theorem textV_len (m : Nat) (l : List Nat) : (textV m l).length <= m := by
  unfold textV
  split
  . rw [List.length_take]; have := numV_le m l; omega
  . exact Nat.zero_le _

structure SBlk (w : World) (b : Nat) (i t : Int) (mv dv : Value) : Prop where
  c0 : w.cell? ⟨b, 0, none⟩ = some (.int .u64 i)
  c1 : w.cell? ⟨b, 1, none⟩ = some (.int .u64 t)
  c2 : w.cell? ⟨b, 2, none⟩ = some mv
  c3 : w.cell? ⟨b, 3, none⟩ = some dv
  f0 : w.frozen? ⟨b, 0, none⟩ = false
  f1 : w.frozen? ⟨b, 1, none⟩ = false
  f2 : w.frozen? ⟨b, 2, none⟩ = false
  f3 : w.frozen? ⟨b, 3, none⟩ = false
theorem SBlk.lt {w : World} {b : Nat} {i t : Int} {mv dv : Value} (h : SBlk w b i t mv dv) : b < w.heap.size := World.block_lt_of_cell? _ _ h.c0
theorem SBlk.kept {w w' : World} {b : Nat} {i t : Int} {mv dv : Value} {S : Nat -> Prop} (h : SBlk w b i t mv dv) (hk : Kept w w' S) (hs : ¬ S b) : SBlk w' b i t mv dv :=
  ⟨hk.cell h.c0 hs, hk.cell h.c1 hs, hk.cell h.c2 hs, hk.cell h.c3 hs, (hk.frozen (a := ⟨b, 0, none⟩) h.lt hs).trans h.f0, (hk.frozen (a := ⟨b, 1, none⟩) h.lt hs).trans h.f1,
   (hk.frozen (a := ⟨b, 2, none⟩) h.lt hs).trans h.f2, (hk.frozen (a := ⟨b, 3, none⟩) h.lt hs).trans h.f3⟩
theorem SBlk.below {w w' : World} {b : Nat} {i t : Int} {mv dv : Value} (h : SBlk w b i t mv dv) (hb : Below w.heap.size w w') : SBlk w' b i t mv dv :=
  h.kept (Kept.of_below hb (S := fun _ => False) fun k h1 h2 => by omega) fun h => h
theorem SBlk.set0 {w : World} {b : Nat} {i t : Int} {mv dv : Value} (h : SBlk w b i t mv dv) (x : Int) : SBlk (w.setCell ⟨b, 0, none⟩ (.int .u64 x)) b x t mv dv := by
  refine ⟨World.cell?_setCell_same _ _ _ h.c0, ?_, ?_, ?_, by rw [World.frozen?_setCell]; exact h.f0, by rw [World.frozen?_setCell]; exact h.f1, by rw [World.frozen?_setCell]; exact h.f2, by rw [World.frozen?_setCell]; exact h.f3⟩
  . rw [World.cell?_setCell_other _ _ _ _ (by simp)]; exact h.c1
  . rw [World.cell?_setCell_other _ _ _ _ (by simp)]; exact h.c2
  . rw [World.cell?_setCell_other _ _ _ _ (by simp)]; exact h.c3
theorem SBlk.set1 {w : World} {b : Nat} {i t : Int} {mv dv : Value} (h : SBlk w b i t mv dv) (x : Int) : SBlk (w.setCell ⟨b, 1, none⟩ (.int .u64 x)) b i x mv dv := by
  refine ⟨?_, World.cell?_setCell_same _ _ _ h.c1, ?_, ?_, by rw [World.frozen?_setCell]; exact h.f0, by rw [World.frozen?_setCell]; exact h.f1, by rw [World.frozen?_setCell]; exact h.f2, by rw [World.frozen?_setCell]; exact h.f3⟩
  . rw [World.cell?_setCell_other _ _ _ _ (by simp)]; exact h.c0
  . rw [World.cell?_setCell_other _ _ _ _ (by simp)]; exact h.c2
  . rw [World.cell?_setCell_other _ _ _ _ (by simp)]; exact h.c3
theorem SBlk.set2 {w : World} {b : Nat} {i t : Int} {mv dv : Value} (h : SBlk w b i t mv dv) (x : Value) : SBlk (w.setCell ⟨b, 2, none⟩ x) b i t x dv := by
  refine ⟨?_, ?_, World.cell?_setCell_same _ _ _ h.c2, ?_, by rw [World.frozen?_setCell]; exact h.f0, by rw [World.frozen?_setCell]; exact h.f1, by rw [World.frozen?_setCell]; exact h.f2, by rw [World.frozen?_setCell]; exact h.f3⟩
  . rw [World.cell?_setCell_other _ _ _ _ (by simp)]; exact h.c0
  . rw [World.cell?_setCell_other _ _ _ _ (by simp)]; exact h.c1
  . rw [World.cell?_setCell_other _ _ _ _ (by simp)]; exact h.c3
theorem SBlk.set3 {w : World} {b : Nat} {i t : Int} {mv dv : Value} (h : SBlk w b i t mv dv) (x : Value) : SBlk (w.setCell ⟨b, 3, none⟩ x) b i t mv x := by
  refine ⟨?_, ?_, ?_, World.cell?_setCell_same _ _ _ h.c3, by rw [World.frozen?_setCell]; exact h.f0, by rw [World.frozen?_setCell]; exact h.f1, by rw [World.frozen?_setCell]; exact h.f2, by rw [World.frozen?_setCell]; exact h.f3⟩
  . rw [World.cell?_setCell_other _ _ _ _ (by simp)]; exact h.c0
  . rw [World.cell?_setCell_other _ _ _ _ (by simp)]; exact h.c1
  . rw [World.cell?_setCell_other _ _ _ _ (by simp)]; exact h.c2

structure MemI (w : World) (b rb : Nat) (m : Nat) (l : List Nat) (bad : Bool) (sb rs base : Nat) (i t : Int) (k : Nat) (mv : Value) (wr : World) : Prop where
  rd : RdrIs wr b rb (memL m k l) (bad || memB m k l)
  sn : SBlk wr sb i t mv (.slice none 0 0)
  rs : SBlk wr rs 0 0 (.slice none 0 0) (.slice none 0 0)
  own : Owns wr base 3 .i64 mv (memV m k l)
  kept : Kept w wr (fun k => k = b)
  le : base <= wr.heap.size

def NewRows (B : Nat) (v : Value) : Prop := ∃ i t mv dv, v = .agg #[i, t, mv, dv] /\ (∀ b, mv.ownBlock = some b -> B <= b) /\ (∀ b, dv.ownBlock = some b -> B <= b)


instance (l : List Nat) : Decidable (WholeOk l) := inferInstanceAs (Decidable (_ /\ _))
def readOk (m : Nat) (l : List Nat) : Prop := WholeOk l /\ l.getD 1 0 = 4 /\ endE (getL m (frBody l)) (getB m (frBody l)) = 0 /\ (getS m (frBody l)).ok
instance (m : Nat) (l : List Nat) : Decidable (readOk m l) := inferInstanceAs (Decidable (_ /\ _))
def zeroS : SnapS := ⟨0, 0, [], []⟩
def readS (m : Nat) (l : List Nat) : SnapS := if readOk m l then getS m (frBody l) else zeroS
def readB (m : Nat) (l : List Nat) : Bool := decide (readOk m l)
theorem zero_is (w : World) : SnapIs w (.agg #[.int .u64 0, .int .u64 0, .slice none 0 0, .slice none 0 0]) zeroS := ⟨_, _, rfl, Ints.nil w, Bytes.nil w⟩
def ReadNew (b : Bool) (s : SnapS) (w : World) : Ending -> World -> Prop := fun E w' => ∃ v, E = .returned (.tuple #[v, .bool b]) /\ SnapIs w' v s /\ Below w.heap.size w w' /\ NewRows w.heap.size v
def ReadPost (b : Bool) (s : SnapS) (w : World) : Ending -> World -> Prop := fun E w' => ∃ v, E = .returned (.tuple #[v, .bool b]) /\ SnapIs w' v s /\ Below w.heap.size w w'
theorem read_no {m : Nat} {l : List Nat} (h : ¬ readOk m l) : readB m l = false /\ readS m l = zeroS := ⟨decide_eq_false h, if_neg h⟩
theorem read_yes {m : Nat} {l : List Nat} (h : readOk m l) : readB m l = true /\ readS m l = getS m (frBody l) := ⟨decide_eq_true h, if_pos h⟩
theorem SBlk.new (w : World) : SBlk (w.alloc (.cells #[.int .u64 0, .int .u64 0, .slice none 0 0, .slice none 0 0] 75)) w.heap.size 0 0 (.slice none 0 0) (.slice none 0 0) :=
  ⟨by go_cell, by go_cell, by go_cell, by go_cell, by simp, by simp, by simp, by simp⟩
theorem SBlk.set4 {w : World} {b : Nat} {i t : Int} {mv dv : Value} (h : SBlk w b i t mv dv) (i' t' : Int) (mv' dv' : Value) :
    SBlk ((((w.setCell ⟨b, 0, none⟩ (.int .u64 i')).setCell ⟨b, 1, none⟩ (.int .u64 t')).setCell ⟨b, 2, none⟩ mv').setCell ⟨b, 3, none⟩ dv') b i' t' mv' dv' := (((h.set0 i').set1 t').set2 mv').set3 dv'
theorem Reads.setNe {w : World} {k : IntKind} {v : Value} {zs : List Int} (h : Reads w k v zs) {a : Addr} (y : Value) (hne : ∀ x, w.cell? a ≠ some (.int k x)) : Reads (w.setCell a y) k v zs := by
  obtain ⟨ad, c, rfl, hc⟩ := h
  refine ⟨ad, c, rfl, fun j hj => ?_⟩
  obtain ⟨b, o, e, h1⟩ := hc j hj
  refine ⟨b, o, e, ?_⟩
  rw [World.cell?_setCell_other _ _ _ _ (fun e => hne _ (by rw [e]; exact h1))]
  exact h1
theorem Reads.set4 {w : World} {b : Nat} {i t : Int} {mv dv : Value} (S : SBlk w b i t mv dv) {k : IntKind} {v : Value} {zs : List Int} (h : Reads w k v zs) (hk : k ≠ .u64) (hm : ∀ x, mv ≠ .int k x) (hd : ∀ x, dv ≠ .int k x) (i' t' : Int) (mv' dv' : Value) :
    Reads ((((w.setCell ⟨b, 0, none⟩ (.int .u64 i')).setCell ⟨b, 1, none⟩ (.int .u64 t')).setCell ⟨b, 2, none⟩ mv').setCell ⟨b, 3, none⟩ dv') k v zs := by
  have S1 := S.set0 i'
  have S2 := S1.set1 t'
  have S3 := S2.set2 mv'
  refine Reads.setNe (Reads.setNe (Reads.setNe (Reads.setNe h _ fun x e => ?_) _ fun x e => ?_) _ fun x e => ?_) _ fun x e => ?_
  . rw [S.c0] at e; cases e; exact hk rfl
  . rw [S1.c1] at e; cases e; exact hk rfl
  . rw [S2.c2] at e; exact hm x (Option.some.inj e)
  . rw [S3.c3] at e; exact hd x (Option.some.inj e)
theorem SnapIs.set4 {w : World} {b : Nat} {i t : Int} (S : SBlk w b i t (.slice none 0 0) (.slice none 0 0)) {v : Value} {s : SnapS} (h : SnapIs w v s) (i' t' : Int) (mv' dv' : Value) :
    SnapIs ((((w.setCell ⟨b, 0, none⟩ (.int .u64 i')).setCell ⟨b, 1, none⟩ (.int .u64 t')).setCell ⟨b, 2, none⟩ mv').setCell ⟨b, 3, none⟩ dv') v s := by
  obtain ⟨mv, dv, h1, h2, h3⟩ := h
  exact ⟨mv, dv, h1, ⟨h2.shape, Reads.set4 S h2.rd (by decide) nofun nofun i' t' mv' dv', h2.small⟩, ⟨h3.shape, Reads.set4 S h3.rd (by decide) nofun nofun i' t' mv' dv', h3.lt, h3.small⟩⟩
theorem Kept.set4 (w : World) (b : Nat) (i' t' : Int) (mv' dv' : Value) :
    Kept w ((((w.setCell ⟨b, 0, none⟩ (.int .u64 i')).setCell ⟨b, 1, none⟩ (.int .u64 t')).setCell ⟨b, 2, none⟩ mv').setCell ⟨b, 3, none⟩ dv') (fun k => k = b) :=
  (((Kept.setCell w ⟨b, 0, none⟩ _).trans (Kept.setCell _ ⟨b, 1, none⟩ _)).trans (Kept.setCell _ ⟨b, 2, none⟩ _)).trans (Kept.setCell _ ⟨b, 3, none⟩ _)

end Go.Proofs.YtjdglpcnkiioeaaGreat
namespace Go.Proofs.YtjdglpcnkiioeaaGreat
open Go.Lib (hid)
open Go.RowKit Go.Maps Go.Proofs.Own


set_option maxHeartbeats 4000000 in
set_option maxRecDepth 20000 in
theorem pread_no (v : Value) (l : List Nat) (w : World) (hB : Bytes w v l) (ht : ¬ WholeOk l) : Calls Tryz.prog 147 #[v] w (ReadPost (readB 7 l) (readS 7 l) w) := by
  have HB := hid hB
  have HV : Hid (readB 7 l = false /\ readS 7 l = zeroS) := hid (read_no fun h => ht h.1)
  have HT := hid ht
  obtain ⟨a, c, rfl, _⟩ := hB.shape
  clear hB ht
  go_enter Tryz.func147, Tryz.ntmps147
  go_wp2_with fail
  refine (whole_any _ l _ (HB.out.alloc _)).mono ?_
  rintro e w1 ⟨hb1, hno, hyes⟩
  have he := hno HT.out
  subst he
  have B1 : Hid (Below w.heap.size w w1) := hid (((Below.refl w.heap.size w).alloc (Nat.le_refl _) (.cells #[.int .u64 0, .int .u64 0, .slice none 0 0, .slice none 0 0] 75)).trans (hb1.mono (by simp)))
  have S1 : Hid (SBlk w1 w.heap.size 0 0 (.slice none 0 0) (.slice none 0 0)) := hid ((SBlk.new w).below hb1)
  obtain ⟨r0, r1, r2, r3, q0, q1, q2, q3⟩ := S1.out
  have L1 := S1.out.lt
  clear hb1 hno hyes
  go_wp2_with fail
  generalize hwF : World.setCell _ _ _ = wF
  have KF : Hid (Kept w1 wF (fun k => k = w.heap.size)) := hid (by subst hwF; exact Kept.set4 _ _ _ _ _ _)
  have HR : Hid (SBlk wF w.heap.size 0 0 (.slice none 0 0) (.slice none 0 0)) := hid (by subst hwF; exact S1.out.set4 _ _ _ _)
  clear hwF r0 r1 r2 r3 q0 q1 q2 q3
  obtain ⟨z0, z1, z2, z3, _, _, _, _⟩ := HR.out
  refine bodyPost_ret (v := .tuple #[.agg #[.int .u64 0, .int .u64 0, .slice none 0 0, .slice none 0 0], .bool false]) (by simp [results, Tryz.results147, go_sem, z0, z1, z2, z3]) rfl ?_
  rw [HV.out.1, HV.out.2]
  exact ⟨_, rfl, zero_is _, B1.out.trans ((KF.out.below (B := w.heap.size) B1.out.size (fun k hk => by omega)))⟩

set_option maxHeartbeats 4000000 in
set_option maxRecDepth 20000 in
theorem pread_kind (v : Value) (l : List Nat) (w : World) (hB : Bytes w v l) (ht : WholeOk l) (hk : l.getD 1 0 ≠ 4) : Calls Tryz.prog 147 #[v] w (ReadPost (readB 7 l) (readS 7 l) w) := by
  have HB := hid hB
  have HV : Hid (readB 7 l = false /\ readS 7 l = zeroS) := hid (read_no fun h => hk h.2.1)
  have HT := hid ht
  have hx : l.getD 1 0 < 256 := hB.getD_lt 1
  have hkb : (((l.getD 1 0 : Nat) : Int) != 4) = true := bne_iff_ne.2 (by omega)
  obtain ⟨a, c, rfl, _⟩ := hB.shape
  clear hB ht hk
  generalize hxx : l.getD 1 0 = x at hkb hx
  have HX := hid hxx
  clear hxx
  go_enter Tryz.func147, Tryz.ntmps147
  go_wp2_with fail
  refine (whole_any _ l _ (HB.out.alloc _)).mono ?_
  rintro e w1 ⟨hb1, hno, hyes⟩
  obtain ⟨v1, rfl, hB1⟩ := hyes HT.out
  rw [HX.out]
  clear hB1
  have B1 : Hid (Below w.heap.size w w1) := hid (((Below.refl w.heap.size w).alloc (Nat.le_refl _) (.cells #[.int .u64 0, .int .u64 0, .slice none 0 0, .slice none 0 0] 75)).trans (hb1.mono (by simp)))
  have S1 : Hid (SBlk w1 w.heap.size 0 0 (.slice none 0 0) (.slice none 0 0)) := hid ((SBlk.new w).below hb1)
  obtain ⟨r0, r1, r2, r3, q0, q1, q2, q3⟩ := S1.out
  have L1 := S1.out.lt
  clear hb1 hno hyes
  go_wp2_with fail
  generalize hwF : World.setCell _ _ _ = wF
  have KF : Hid (Kept w1 wF (fun k => k = w.heap.size)) := hid (by subst hwF; exact Kept.set4 _ _ _ _ _ _)
  have HR : Hid (SBlk wF w.heap.size 0 0 (.slice none 0 0) (.slice none 0 0)) := hid (by subst hwF; exact S1.out.set4 _ _ _ _)
  clear hwF r0 r1 r2 r3 q0 q1 q2 q3
  obtain ⟨z0, z1, z2, z3, _, _, _, _⟩ := HR.out
  refine bodyPost_ret (v := .tuple #[.agg #[.int .u64 0, .int .u64 0, .slice none 0 0, .slice none 0 0], .bool false]) (by simp [results, Tryz.results147, go_sem, z0, z1, z2, z3]) rfl ?_
  rw [HV.out.1, HV.out.2]
  exact ⟨_, rfl, zero_is _, B1.out.trans ((KF.out.below (B := w.heap.size) B1.out.size (fun k hk => by omega)))⟩

set_option maxHeartbeats 4000000 in
set_option maxRecDepth 20000 in
theorem pread_end (v : Value) (l : List Nat) (w : World) (hB : Bytes w v l) (ht : WholeOk l) (h4 : l.getD 1 0 = 4) (he : endE (getL 7 (frBody l)) (getB 7 (frBody l)) ≠ 0) : Calls Tryz.prog 147 #[v] w (ReadPost (readB 7 l) (readS 7 l) w) := by
  have HB := hid hB
  have HV : Hid (readB 7 l = false /\ readS 7 l = zeroS) := hid (read_no fun h => he h.2.2.1)
  obtain ⟨ee, hee⟩ : ∃ k, endE (getL 7 (frBody l)) (getB 7 (frBody l)) = k := ⟨_, rfl⟩
  have hk0 : ((ee : Int) != 0) = true := bne_iff_ne.2 (by omega)
  have HE := hid hee
  clear he hee
  have HT := hid ht
  have HF : Hid (l.getD 1 0 = 4) := hid h4
  have E59 : Hid ((576460752303423488 : Int).toNat = H59) := hid rfl
  have E60 : Hid ((1152921504606846976 : Int).toNat = H60) := hid rfl
  have E7 : Hid ((7 : Int).toNat = 7) := hid rfl
  obtain ⟨a, c, rfl, _⟩ := hB.shape
  clear hB ht h4
  go_enter Tryz.func147, Tryz.ntmps147
  go_wp2_with fail
  refine (whole_any _ l _ (HB.out.alloc _)).mono ?_
  rintro e w1 ⟨hb1, hno, hyes⟩
  obtain ⟨v1, rfl, hB1⟩ := hyes HT.out
  rw [HF.out]
  have HB1 := hid hB1
  have RB : ∃ rb : Nat, rb < w1.heap.size /\ (frBody l = [] \/ v1.ownBlock = some rb) := by
    by_cases h0 : frBody l = []
    . exact ⟨w.heap.size, ((SBlk.new w).below hb1).lt, .inl h0⟩
    . obtain ⟨b, e1, e2⟩ := HB1.out.lt_block h0
      exact ⟨b, e2, .inr e1⟩
  obtain ⟨rb, hrb, hown⟩ := RB
  have HO := hid hown
  clear hown
  obtain ⟨a1, c1, rfl, _⟩ := hB1.shape
  clear hB1
  have B1 : Hid (Below w.heap.size w w1) := hid (((Below.refl w.heap.size w).alloc (Nat.le_refl _) (.cells #[.int .u64 0, .int .u64 0, .slice none 0 0, .slice none 0 0] 75)).trans (hb1.mono (by simp)))
  have S1 : Hid (SBlk w1 w.heap.size 0 0 (.slice none 0 0) (.slice none 0 0)) := hid ((SBlk.new w).below hb1)
  obtain ⟨r0, r1, r2, r3, q0, q1, q2, q3⟩ := S1.out
  have L1 := S1.out.lt
  clear hb1 hno hyes
  go_wp2_with fail
  refine (qopen_any _ (frBody l) _ HB1.out HO.out (by omega)).mono ?_
  rintro e w2 ⟨rfl, h2, hb2⟩
  have R2 := hid h2
  have B2 := hid hb2
  have hs2 := hb2.size
  have L2 := h2.lt
  clear h2 hb2 r0 r1 r2 r3 q0 q1 q2 q3
  have S2 : Hid (SBlk w2 w.heap.size 0 0 (.slice none 0 0) (.slice none 0 0)) := hid (S1.out.below B2.out)
  generalize hbd : frBody l = bd at *
  go_wp2_with fail
  refine (qnum_any w1.heap.size 576460752303423488 bd false _ R2.out (by decide) (by decide)).mono ?_
  rintro e w3 ⟨rfl, h1, k1⟩
  rw [E59.out] at h1 ⊢
  have R3 : Hid (RdrIs w3 w1.heap.size rb (rest1 bd) (numB H59 bd)) := hid (by rw [Bool.false_or] at h1; exact h1)
  have K3 := hid k1
  have hs3 := k1.size
  clear h1 k1
  go_wp2_with fail
  refine (qnum_any w1.heap.size 1152921504606846976 (rest1 bd) _ _ R3.out (by decide) (by decide)).mono ?_
  rintro e w4 ⟨rfl, h1, k1⟩
  rw [E60.out] at h1 ⊢
  have R4 := hid h1
  have K4 := hid k1
  have hs4 := k1.size
  clear h1 k1
  have A4 : Hid (Kept w2 w4 (fun k => k = w1.heap.size)) := hid (K3.out.trans K4.out)
  go_wp2_with fail
  generalize hW : World.alloc w4 _ = w5
  have B5 : Hid (Below w4.heap.size w4 w5) := hid (by subst hW; exact (Below.refl _ _).alloc (Nat.le_refl _) _)
  have S5 : Hid (SBlk w5 w4.heap.size (numV H59 bd) (numV H60 (rest1 bd)) (.slice none 0 0) (.slice none 0 0)) := hid (by subst hW; exact ⟨by go_cell, by go_cell, by go_cell, by go_cell, by simp, by simp, by simp, by simp⟩)
  clear hW
  have R5 : Hid (RdrIs w5 w1.heap.size rb (rest2 bd) (numB H59 bd || numB H60 (rest1 bd))) := hid (R4.out.below B5.out)
  have T5 : Hid (SBlk w5 w.heap.size 0 0 (.slice none 0 0) (.slice none 0 0)) := hid (((S2.out.kept A4.out (by omega))).below B5.out)
  have A5 : Hid (Kept w2 w5 (fun k => k = w1.heap.size)) := hid (A4.out.trans (Kept.of_below B5.out (S := fun k => k = w1.heap.size) (fun k h1 h2 => by omega)))
  have hsb := S5.out.lt
  generalize hSB : w4.heap.size = sb at *
  have hsb2 : w2.heap.size <= sb := by omega
  refine (qnum_any w1.heap.size 7 (rest2 bd) _ _ R5.out (by decide) (by decide)).mono ?_
  rintro e w6 ⟨rfl, h1, k1⟩
  rw [E7.out] at h1 ⊢
  have hn7 : ((memN bd : Nat) : Int) <= 7 := by have := memN_le bd; omega
  have R6 : Hid (RdrIs w6 w1.heap.size rb (rest3 bd) ((numB H59 bd || numB H60 (rest1 bd)) || numB 7 (rest2 bd))) := hid h1
  have K6 := hid k1
  have hs6 := k1.size
  clear h1 k1
  rw [show numV 7 (rest2 bd) = memN bd from rfl]
  have S6 : Hid (SBlk w6 sb (numV H59 bd) (numV H60 (rest1 bd)) (.slice none 0 0) (.slice none 0 0)) := hid (S5.out.kept K6.out (by omega))
  have T6 : Hid (SBlk w6 w.heap.size 0 0 (.slice none 0 0) (.slice none 0 0)) := hid (T5.out.kept K6.out (by omega))
  have A6 : Hid (Kept w2 w6 (fun k => k = w1.heap.size)) := hid (A5.out.trans K6.out)
  generalize hX : ((numB H59 bd || numB H60 (rest1 bd)) || numB 7 (rest2 bd)) = bad3 at R6
  have HBX := hid hX
  clear hX
  go_wp2_with fail
  go_loopw [31] (fun x wr => ∃ (k : Nat) (mv : Value), k <= memN bd /\ x = .int .u64 k /\ MemI w2 w1.heap.size rb 7 (rest3 bd) bad3 sb w.heap.size (sb + 1) (numV H59 bd) (numV H60 (rest1 bd)) k mv wr) (fun x _ => memN bd - (intOf x).toNat)
  case atStart => exact ⟨0, _, Nat.zero_le _, rfl, by rw [memL, memB, Bool.or_false]; exact R6.out, S6.out, T6.out, Owns.nil _ _ _ _, A6.out, by omega⟩
  case round =>
    obtain ⟨k, mv, hk, rfl, hI⟩ := hrel
    have I := hid hI
    have hsz := hI.le
    clear hI
    by_cases hlt : k < memN bd
    . have hv6 : ((numV 7 (memL 7 k (rest3 bd)) : Nat) : Int) <= 7 := by have := numV_le 7 (memL 7 k (rest3 bd)); omega
      have hki : (k : Int) < (memN bd : Int) := by omega
      have HLN : Hid ((memV 7 k (rest3 bd)).length + [((numV 7 (memL 7 k (rest3 bd)) : Nat) : Int)].length <= 4294967296) := hid (by rw [length_memV]; simp only [List.length_cons, List.length_nil]; have := memN_le bd; omega)
      have hw6 : IntKind.i64.wrap ((numV 7 (memL 7 k (rest3 bd)) : Nat) : Int) = ((numV 7 (memL 7 k (rest3 bd)) : Nat) : Int) := by simp only [IntKind.wrap_i64]; omega
      go_wp2_with fail
      refine region_start [0, 1, 0, 4, 12, 28, 63, 127, 255] 24 (fun w' => w'.cell? ⟨sb, 2, none⟩ = some mv) (by kernel_rfl) ?_
      refine stage_heads [0, 1, 2] (by kernel_rfl) (L := #[true, true, true, false, false, false, false, false, false]) (by kernel_rfl) (f' := 6) rfl (fun _ _ _ _ h => h) (fun w o h => (Stable.cell _ _).alloc h o) (.inr I.out.sn.c2) ?_
      simp only [sF, sL]
      iterate 3 (first | (refine heads_load _ (by rfl) (fun w' hs => by have y0 := hs; go_simp; try with_reducible rfl) rfl ?_; simp only [Act.put, sA]) | (refine heads_pure _ (by rfl) (fun w' => by go_simp; try with_reducible rfl) ?_; simp only [Act.put, sA]))
      refine heads_nil ?_
      refine stage_op 3 (by kernel_rfl) (L := #[true, true, true, true, false, false, false, false, false]) (by kernel_rfl) ?_
      simp only [sL]
      go_wp2_with fail; refine (qnum_any w1.heap.size 7 _ _ _ (I.out.rd.below ((Below.refl _ _).drew)) (by decide) (by decide)).mono ?_; rintro e u3 ⟨rfl, h3, k3⟩; rw [E7.out] at h3 ⊢; have H3 := hid h3; have K3 : Hid (Kept wr u3 (fun k => k = w1.heap.size)) := hid ((Kept.drew wr (fun k => k = w1.heap.size)).trans k3); clear h3 k3; have S3 : Hid (SBlk u3 sb (numV H59 bd) (numV H60 (rest1 bd)) mv (.slice none 0 0)) := hid (I.out.sn.kept K3.out (by omega)); have S4 : Hid (SBlk u3 w.heap.size 0 0 (.slice none 0 0) (.slice none 0 0)) := hid (I.out.rs.kept K3.out (by omega)); have LE3 : Hid (sb + 1 <= u3.heap.size) := hid (Nat.le_trans I.out.le K3.out.size); have O3 : Hid (Owns u3 (sb + 1) 3 .i64 mv (memV 7 k (rest3 bd))) := hid (I.out.own.kept K3.out (fun g hg e => by have := (I.out.own.lt g hg).1; omega)); go_wp2_with fail
      refine step_post (fun _ => S3.out.c2) ?_
      refine stage_heads [4] (by kernel_rfl) (L := #[true, true, true, true, true, false, false, false, false]) (by kernel_rfl) (f' := 4) rfl (fun _ _ _ _ h => h) (fun w o h => (Stable.cell _ _).alloc h o) (.inr (by first | exact S3.out.c2 | exact cell_drew S3.out.c2)) ?_
      simp only [sF, sL]
      iterate 1 (first | (refine heads_load _ (by rfl) (fun w' hs => by have y0 := hs; go_simp; try with_reducible rfl) rfl ?_; simp only [Act.put, sA]) | (refine heads_pure _ (by rfl) (fun w' => by go_simp; try with_reducible rfl) ?_; simp only [Act.put, sA]))
      refine heads_nil ?_
      refine stage_op 5 (by kernel_rfl) (L := #[true, true, true, true, true, true, false, false, false]) (by kernel_rfl) ?_
      simp only [sL]
      go_wp2_with fail; generalize hu5 : World.alloc _ _ = u5; have B5 : Hid (Below u3.heap.size u3 u5) := hid (by subst hu5; first | exact (Below.refl _ _).alloc (Nat.le_refl _) _ | exact ((Below.refl _ _).drew).alloc (Nat.le_refl _) _ | exact (((Below.refl _ _).drew).drew).alloc (Nat.le_refl _) _); have ONE5 : Hid (Reads u5 .i64 (.slice (some ⟨u3.heap.size, 0, none⟩) 1 1) [((numV 7 (memL 7 k (rest3 bd)) : Nat) : Int)]) := hid (by subst hu5; first | exact Reads.one _ _ _ _); clear hu5
      refine step_post nofun ?_
      refine stage_op 6 (by kernel_rfl) (L := #[true, true, true, true, true, true, true, false, false]) (by kernel_rfl) ?_
      simp only [sL]
      refine wpList_append_ints Tryz.i64s _ _ rfl (sb + 1) mv (.slice (some ⟨u3.heap.size, 0, none⟩) 1 1) (memV 7 k (rest3 bd)) [((numV 7 (memL 7 k (rest3 bd)) : Nat) : Int)] rfl rfl (by first | exact O3.out.below B5.out | exact (O3.out.below B5.out).drew) (by first | exact ONE5.out | exact ONE5.out.drew) (by decide) HLN.out (by have := LE3.out; have := B5.out.size; first | omega | (simp only [World.size_drew]; omega)) rfl ?_; intro v6 u6 hown6 hgr6 hat6 hnil6 hbel6; obtain ⟨a6, c6, rfl⟩ := hown6.shape; have O6 : Hid (Owns u6 (sb + 1) 3 .i64 (.slice a6 ((memV 7 k (rest3 bd)).length + 1) c6) (memV 7 k (rest3 bd) ++ [((numV 7 (memL 7 k (rest3 bd)) : Nat) : Int)])) := hid (by have hh := hown6; rw [List.length_append] at hh; exact hh); have OL6 := O3.out.lt; have G6 : Hid (Kept u5 u6 (fun g => mv.ownBlock = some g)) := hid (by first | exact Kept.of_grown hgr6 | exact (Kept.drew u5 _).trans (Kept.of_grown hgr6)); have S6 : Hid (SBlk u6 sb (numV H59 bd) (numV H60 (rest1 bd)) mv (.slice none 0 0)) := hid ((S3.out.below B5.out).kept G6.out (fun e => by have := (OL6 _ e).1; omega)); have S7 : Hid (SBlk u6 w.heap.size 0 0 (.slice none 0 0) (.slice none 0 0)) := hid ((S4.out.below B5.out).kept G6.out (fun e => by have := (OL6 _ e).1; omega)); have R6 : Hid (RdrIs u6 w1.heap.size rb (numL 7 (memL 7 k (rest3 bd))) ((bad3 || memB 7 k (rest3 bd)) || numB 7 (memL 7 k (rest3 bd)))) := hid ((H3.out.below B5.out).kept G6.out (fun e => by have := (OL6 _ e).1; omega) (fun e => by have := (OL6 _ e).1; omega)); have K6 : Hid (Kept w2 u6 (fun k => k = w1.heap.size)) := hid (((I.out.kept.trans K3.out).trans (Kept.of_below B5.out (S := fun k => k = w1.heap.size) (fun k h1 h2 => by omega))).andThen G6.out (fun g hg e => by rcases e with e | e; exact e; have := (OL6 _ e).1; omega)); have Z6 : Hid (sb + 1 <= u6.heap.size) := hid (by have := LE3.out; have := B5.out.size; have := G6.out.size; omega); clear hown6 hgr6 hat6 hnil6 hbel6 OL6; go_wp2_with fail
      refine step_post nofun ?_
      refine stage_heads [7] (by kernel_rfl) (L := #[true, true, true, true, true, true, true, true, false]) (by kernel_rfl) (f' := 1) rfl (fun _ _ _ _ h => h) (fun w o h => (Stable.cell _ _).alloc h o) (.inl (by kernel_rfl)) ?_
      simp only [sF, sL]
      iterate 1 (refine heads_pure _ (by rfl) (fun w' => by go_simp; try with_reducible rfl) ?_; simp only [Act.put, sA])
      refine heads_nil ?_
      refine stage_op 8 (by kernel_rfl) (L := #[true, true, true, true, true, true, true, true, true]) (by kernel_rfl) ?_
      simp only [sL]
      obtain ⟨g1, g2, g3⟩ : u6.cell? ⟨sb, 2, none⟩ = some mv /\ u6.frozen? ⟨sb, 2, none⟩ = false /\ sb < u6.heap.size := ⟨S6.out.c2, S6.out.f2, S6.out.lt⟩; go_wp2_with fail; generalize hu8 : World.setCell _ _ _ = u8; have S8 : Hid (SBlk u8 sb (numV H59 bd) (numV H60 (rest1 bd)) (.slice a6 ((memV 7 k (rest3 bd)).length + 1) c6) (.slice none 0 0)) := hid (by subst hu8; exact S6.out.set2 _); have G8 : Hid (Kept u6 u8 (fun g => g = sb)) := hid (by subst hu8; exact Kept.setCell u6 ⟨sb, 2, none⟩ _); clear hu8 g1 g2 g3
      refine step_post nofun ?_
      refine stage_done (by kernel_rfl) ?_
      clear hw6
      go_wp2_with fail
      go_roundw
      case rel =>
        refine ⟨k + 1, _, by omega, by go_num, ?_, S8.out, S7.out.kept G8.out (by omega), O6.out.kept G8.out (fun g hg e => by have := (O6.out.lt g hg).1; omega), K6.out.stepNew G8.out (by omega), by have := Z6.out; have := G8.out.size; omega⟩
        have hr := R6.out.kept G8.out (by omega) (by omega)
        rw [Bool.or_assoc] at hr
        exact hr
      case measure => simp [intOf]; omega
    . obtain rfl : k = memN bd := by omega
      have RL : Hid (RdrIs wr w1.heap.size rb (rest4 7 bd) (bad3 || memB 7 (memN bd) (rest3 bd))) := hid I.out.rd
      go_wp2_with fail
      refine (qtext_any w1.heap.size 32768 _ _ _ RL.out (by decide)).mono ?_
      rintro e w7 ⟨rfl, h7, k7⟩
      have H7 := hid h7
      have K7 := hid k7
      have hs7 := k7.size
      clear h7 k7
      have S7 : Hid (SBlk w7 sb (numV H59 bd) (numV H60 (rest1 bd)) mv (.slice none 0 0)) := hid (I.out.sn.kept K7.out (by omega))
      have T7 : Hid (SBlk w7 w.heap.size 0 0 (.slice none 0 0) (.slice none 0 0)) := hid (I.out.rs.kept K7.out (by omega))
      have O7 : Hid (Owns w7 (sb + 1) 3 .i64 mv (memV 7 (memN bd) (rest3 bd))) := hid (I.out.own.kept K7.out (fun g hg e => by have := (I.out.own.lt g hg).1; omega))
      obtain ⟨am, cm, rfl⟩ := O7.out.shape
      have TS : Hid ((strN (textV 32768 (rest4 7 bd))).size <= 2097152) := hid (by rw [size_strN]; have := textV_len 32768 (rest4 7 bd); omega)
      have HTX : Hid (natsOf (strN (textV 32768 (rest4 7 bd))) = textV 32768 (rest4 7 bd)) := hid (natsOf_strN fun c hc => by obtain ⟨v, _, hB, _⟩ := RL.out.ex; exact hB.lt c (textV_mem c hc))
      have A7 : Hid (Kept w2 w7 (fun k => k = w1.heap.size)) := hid (I.out.kept.trans K7.out)
      go_wp2_with (refine wpList_to_bytes rfl 9 36 5 _ rfl Tryz.underlying9 Tryz.underlying36 Tryz.underlying5 _ rfl TS.out ?_; intro dv w8 hB8 hb8 hob8; have OB8 := hid hob8; clear hob8; obtain ⟨ad, cd, rfl, _⟩ := hB8.shape; have HB8 := hid hB8; have B8 := hid hb8; obtain ⟨g1, g2, g3⟩ : w8.cell? ⟨sb, 3, none⟩ = some (.slice none 0 0) /\ w8.frozen? ⟨sb, 3, none⟩ = false /\ sb < w8.heap.size := ⟨(S7.out.below B8.out).c3, (S7.out.below B8.out).f3, (S7.out.below B8.out).lt⟩; clear hB8 hb8)
      generalize hwF : World.setCell _ _ _ = w9
      have S9 : Hid (SBlk w9 sb (numV H59 bd) (numV H60 (rest1 bd)) (.slice am (memV 7 (memN bd) (rest3 bd)).length cm) (.slice ad (natsOf (strN (textV 32768 (rest4 7 bd)))).length cd)) := hid (by subst hwF; exact (S7.out.below B8.out).set3 _)
      have K9 : Hid (Kept w8 w9 (fun k => k = sb)) := hid (by subst hwF; exact Kept.setCell w8 ⟨sb, 3, none⟩ _)
      have T9 : Hid (SBlk w9 w.heap.size 0 0 (.slice none 0 0) (.slice none 0 0)) := hid ((T7.out.below B8.out).kept K9.out (by omega))
      have R9 : Hid (RdrIs w9 w1.heap.size rb (getL 7 bd) (getB 7 bd)) := hid (by
        have hh := (H7.out.below B8.out).kept K9.out (by omega) (by omega)
        rw [show getB 7 bd = ((bad3 || memB 7 (memN bd) (rest3 bd)) || textB 32768 (rest4 7 bd)) by rw [<- HBX.out]; rfl]
        exact hh)
      have HI9 : Hid (Ints w9 (.slice am (memV 7 (memN bd) (rest3 bd)).length cm) (getS 7 bd).ms) := hid (Ints.of_owns ((O7.out.below B8.out).kept K9.out (fun g hg e => by have := (O7.out.lt g hg).1; omega)) (by show (memV 7 (memN bd) (rest3 bd)).length <= 2097152; rw [length_memV]; have := memN_le bd; omega))
      have HD9 : Hid (Bytes w9 (.slice ad (natsOf (strN (textV 32768 (rest4 7 bd)))).length cd) (getS 7 bd).d) := hid (by
        have hh := HB8.out
        have ho := OB8.out
        rw [HTX.out] at hh ho ⊢
        exact hh.keptOr K9.out (.inr ho) (by omega))
      have SN9 : Hid (SnapIs w9 (.agg #[.int .u64 (numV H59 bd), .int .u64 (numV H60 (rest1 bd)), .slice am (memV 7 (memN bd) (rest3 bd)).length cm, .slice ad (natsOf (strN (textV 32768 (rest4 7 bd)))).length cd]) (getS 7 bd)) := hid ⟨_, _, rfl, HI9.out, HD9.out⟩
      have Q9 : Hid (Below w.heap.size w w9) := hid (B1.out.trans (((B2.out.mono B1.out.size).trans ((A7.out.below (B := w.heap.size) (by omega) (fun k hk => by omega)).trans (B8.out.mono (by omega)))).trans (K9.out.below (B := w.heap.size) (by have := B8.out.size; omega) (fun k hk => by omega))))
      clear hwF g1 g2 g3
      generalize (natsOf (strN (textV 32768 (rest4 7 bd)))).length = dl at *
      generalize (memV 7 (memN bd) (rest3 bd)).length = ml at *
      generalize hI3 : (numV H59 bd : Int) = I3 at *
      generalize hT3 : (numV H60 (rest1 bd) : Int) = T3 at *
      refine (qend_any w1.heap.size _ _ _ R9.out).mono ?_
      rintro e w9' ⟨rfl, rfl⟩
      rw [HE.out]
      obtain ⟨r0, r1, r2, r3, q0, q1, q2, q3⟩ := T9.out
      obtain ⟨y0, y1, y2, y3, _, _, _, _⟩ := S9.out
      have L9 := T9.out.lt
      go_wp2_with fail
      generalize hwF : World.setCell _ _ _ = wF
      have KF : Hid (Kept w9 wF (fun k => k = w.heap.size)) := hid (by subst hwF; exact Kept.set4 _ _ _ _ _ _)
      have HR : Hid (SBlk wF w.heap.size 0 0 (.slice none 0 0) (.slice none 0 0)) := hid (by subst hwF; exact T9.out.set4 _ _ _ _)
      clear hwF r0 r1 r2 r3 q0 q1 q2 q3
      obtain ⟨z0, z1, z2, z3, _, _, _, _⟩ := HR.out
      refine bodyPost_ret (v := .tuple #[.agg #[.int .u64 0, .int .u64 0, .slice none 0 0, .slice none 0 0], .bool false]) (by simp [results, Tryz.results147, go_sem, z0, z1, z2, z3]) rfl ?_
      rw [HV.out.1, HV.out.2]
      exact ⟨_, rfl, zero_is _, Q9.out.trans ((KF.out.below (B := w.heap.size) Q9.out.size (fun k hk => by omega)))⟩

set_option maxHeartbeats 4000000 in
set_option maxRecDepth 20000 in
theorem pread_bad (v : Value) (l : List Nat) (w : World) (hB : Bytes w v l) (ht : WholeOk l) (h4 : l.getD 1 0 = 4) (he : endE (getL 7 (frBody l)) (getB 7 (frBody l)) = 0) (hok : ¬ (getS 7 (frBody l)).ok) : Calls Tryz.prog 147 #[v] w (ReadPost (readB 7 l) (readS 7 l) w) := by
  have HB := hid hB
  have HV : Hid (readB 7 l = false /\ readS 7 l = zeroS) := hid (read_no fun h => hok h.2.2.2)
  have HE := hid he
  have HOK : Hid ((getS 7 (frBody l)).okB = false) := hid (decide_eq_false hok)
  clear he hok
  have HT := hid ht
  have HF : Hid (l.getD 1 0 = 4) := hid h4
  have E59 : Hid ((576460752303423488 : Int).toNat = H59) := hid rfl
  have E60 : Hid ((1152921504606846976 : Int).toNat = H60) := hid rfl
  have E7 : Hid ((7 : Int).toNat = 7) := hid rfl
  obtain ⟨a, c, rfl, _⟩ := hB.shape
  clear hB ht h4
  go_enter Tryz.func147, Tryz.ntmps147
  go_wp2_with fail
  refine (whole_any _ l _ (HB.out.alloc _)).mono ?_
  rintro e w1 ⟨hb1, hno, hyes⟩
  obtain ⟨v1, rfl, hB1⟩ := hyes HT.out
  rw [HF.out]
  have HB1 := hid hB1
  have RB : ∃ rb : Nat, rb < w1.heap.size /\ (frBody l = [] \/ v1.ownBlock = some rb) := by
    by_cases h0 : frBody l = []
    . exact ⟨w.heap.size, ((SBlk.new w).below hb1).lt, .inl h0⟩
    . obtain ⟨b, e1, e2⟩ := HB1.out.lt_block h0
      exact ⟨b, e2, .inr e1⟩
  obtain ⟨rb, hrb, hown⟩ := RB
  have HO := hid hown
  clear hown
  obtain ⟨a1, c1, rfl, _⟩ := hB1.shape
  clear hB1
  have B1 : Hid (Below w.heap.size w w1) := hid (((Below.refl w.heap.size w).alloc (Nat.le_refl _) (.cells #[.int .u64 0, .int .u64 0, .slice none 0 0, .slice none 0 0] 75)).trans (hb1.mono (by simp)))
  have S1 : Hid (SBlk w1 w.heap.size 0 0 (.slice none 0 0) (.slice none 0 0)) := hid ((SBlk.new w).below hb1)
  obtain ⟨r0, r1, r2, r3, q0, q1, q2, q3⟩ := S1.out
  have L1 := S1.out.lt
  clear hb1 hno hyes
  go_wp2_with fail
  refine (qopen_any _ (frBody l) _ HB1.out HO.out (by omega)).mono ?_
  rintro e w2 ⟨rfl, h2, hb2⟩
  have R2 := hid h2
  have B2 := hid hb2
  have hs2 := hb2.size
  have L2 := h2.lt
  clear h2 hb2 r0 r1 r2 r3 q0 q1 q2 q3
  have S2 : Hid (SBlk w2 w.heap.size 0 0 (.slice none 0 0) (.slice none 0 0)) := hid (S1.out.below B2.out)
  generalize hbd : frBody l = bd at *
  go_wp2_with fail
  refine (qnum_any w1.heap.size 576460752303423488 bd false _ R2.out (by decide) (by decide)).mono ?_
  rintro e w3 ⟨rfl, h1, k1⟩
  rw [E59.out] at h1 ⊢
  have R3 : Hid (RdrIs w3 w1.heap.size rb (rest1 bd) (numB H59 bd)) := hid (by rw [Bool.false_or] at h1; exact h1)
  have K3 := hid k1
  have hs3 := k1.size
  clear h1 k1
  go_wp2_with fail
  refine (qnum_any w1.heap.size 1152921504606846976 (rest1 bd) _ _ R3.out (by decide) (by decide)).mono ?_
  rintro e w4 ⟨rfl, h1, k1⟩
  rw [E60.out] at h1 ⊢
  have R4 := hid h1
  have K4 := hid k1
  have hs4 := k1.size
  clear h1 k1
  have A4 : Hid (Kept w2 w4 (fun k => k = w1.heap.size)) := hid (K3.out.trans K4.out)
  go_wp2_with fail
  generalize hW : World.alloc w4 _ = w5
  have B5 : Hid (Below w4.heap.size w4 w5) := hid (by subst hW; exact (Below.refl _ _).alloc (Nat.le_refl _) _)
  have S5 : Hid (SBlk w5 w4.heap.size (numV H59 bd) (numV H60 (rest1 bd)) (.slice none 0 0) (.slice none 0 0)) := hid (by subst hW; exact ⟨by go_cell, by go_cell, by go_cell, by go_cell, by simp, by simp, by simp, by simp⟩)
  clear hW
  have R5 : Hid (RdrIs w5 w1.heap.size rb (rest2 bd) (numB H59 bd || numB H60 (rest1 bd))) := hid (R4.out.below B5.out)
  have T5 : Hid (SBlk w5 w.heap.size 0 0 (.slice none 0 0) (.slice none 0 0)) := hid (((S2.out.kept A4.out (by omega))).below B5.out)
  have A5 : Hid (Kept w2 w5 (fun k => k = w1.heap.size)) := hid (A4.out.trans (Kept.of_below B5.out (S := fun k => k = w1.heap.size) (fun k h1 h2 => by omega)))
  have hsb := S5.out.lt
  generalize hSB : w4.heap.size = sb at *
  have hsb2 : w2.heap.size <= sb := by omega
  refine (qnum_any w1.heap.size 7 (rest2 bd) _ _ R5.out (by decide) (by decide)).mono ?_
  rintro e w6 ⟨rfl, h1, k1⟩
  rw [E7.out] at h1 ⊢
  have hn7 : ((memN bd : Nat) : Int) <= 7 := by have := memN_le bd; omega
  have R6 : Hid (RdrIs w6 w1.heap.size rb (rest3 bd) ((numB H59 bd || numB H60 (rest1 bd)) || numB 7 (rest2 bd))) := hid h1
  have K6 := hid k1
  have hs6 := k1.size
  clear h1 k1
  rw [show numV 7 (rest2 bd) = memN bd from rfl]
  have S6 : Hid (SBlk w6 sb (numV H59 bd) (numV H60 (rest1 bd)) (.slice none 0 0) (.slice none 0 0)) := hid (S5.out.kept K6.out (by omega))
  have T6 : Hid (SBlk w6 w.heap.size 0 0 (.slice none 0 0) (.slice none 0 0)) := hid (T5.out.kept K6.out (by omega))
  have A6 : Hid (Kept w2 w6 (fun k => k = w1.heap.size)) := hid (A5.out.trans K6.out)
  generalize hX : ((numB H59 bd || numB H60 (rest1 bd)) || numB 7 (rest2 bd)) = bad3 at R6
  have HBX := hid hX
  clear hX
  go_wp2_with fail
  go_loopw [31] (fun x wr => ∃ (k : Nat) (mv : Value), k <= memN bd /\ x = .int .u64 k /\ MemI w2 w1.heap.size rb 7 (rest3 bd) bad3 sb w.heap.size (sb + 1) (numV H59 bd) (numV H60 (rest1 bd)) k mv wr) (fun x _ => memN bd - (intOf x).toNat)
  case atStart => exact ⟨0, _, Nat.zero_le _, rfl, by rw [memL, memB, Bool.or_false]; exact R6.out, S6.out, T6.out, Owns.nil _ _ _ _, A6.out, by omega⟩
  case round =>
    obtain ⟨k, mv, hk, rfl, hI⟩ := hrel
    have I := hid hI
    have hsz := hI.le
    clear hI
    by_cases hlt : k < memN bd
    . have hv6 : ((numV 7 (memL 7 k (rest3 bd)) : Nat) : Int) <= 7 := by have := numV_le 7 (memL 7 k (rest3 bd)); omega
      have hki : (k : Int) < (memN bd : Int) := by omega
      have HLN : Hid ((memV 7 k (rest3 bd)).length + [((numV 7 (memL 7 k (rest3 bd)) : Nat) : Int)].length <= 4294967296) := hid (by rw [length_memV]; simp only [List.length_cons, List.length_nil]; have := memN_le bd; omega)
      have hw6 : IntKind.i64.wrap ((numV 7 (memL 7 k (rest3 bd)) : Nat) : Int) = ((numV 7 (memL 7 k (rest3 bd)) : Nat) : Int) := by simp only [IntKind.wrap_i64]; omega
      go_wp2_with fail
      refine region_start [0, 1, 0, 4, 12, 28, 63, 127, 255] 24 (fun w' => w'.cell? ⟨sb, 2, none⟩ = some mv) (by kernel_rfl) ?_
      refine stage_heads [0, 1, 2] (by kernel_rfl) (L := #[true, true, true, false, false, false, false, false, false]) (by kernel_rfl) (f' := 6) rfl (fun _ _ _ _ h => h) (fun w o h => (Stable.cell _ _).alloc h o) (.inr I.out.sn.c2) ?_
      simp only [sF, sL]
      iterate 3 (first | (refine heads_load _ (by rfl) (fun w' hs => by have y0 := hs; go_simp; try with_reducible rfl) rfl ?_; simp only [Act.put, sA]) | (refine heads_pure _ (by rfl) (fun w' => by go_simp; try with_reducible rfl) ?_; simp only [Act.put, sA]))
      refine heads_nil ?_
      refine stage_op 3 (by kernel_rfl) (L := #[true, true, true, true, false, false, false, false, false]) (by kernel_rfl) ?_
      simp only [sL]
      go_wp2_with fail; refine (qnum_any w1.heap.size 7 _ _ _ (I.out.rd.below ((Below.refl _ _).drew)) (by decide) (by decide)).mono ?_; rintro e u3 ⟨rfl, h3, k3⟩; rw [E7.out] at h3 ⊢; have H3 := hid h3; have K3 : Hid (Kept wr u3 (fun k => k = w1.heap.size)) := hid ((Kept.drew wr (fun k => k = w1.heap.size)).trans k3); clear h3 k3; have S3 : Hid (SBlk u3 sb (numV H59 bd) (numV H60 (rest1 bd)) mv (.slice none 0 0)) := hid (I.out.sn.kept K3.out (by omega)); have S4 : Hid (SBlk u3 w.heap.size 0 0 (.slice none 0 0) (.slice none 0 0)) := hid (I.out.rs.kept K3.out (by omega)); have LE3 : Hid (sb + 1 <= u3.heap.size) := hid (Nat.le_trans I.out.le K3.out.size); have O3 : Hid (Owns u3 (sb + 1) 3 .i64 mv (memV 7 k (rest3 bd))) := hid (I.out.own.kept K3.out (fun g hg e => by have := (I.out.own.lt g hg).1; omega)); go_wp2_with fail
      refine step_post (fun _ => S3.out.c2) ?_
      refine stage_heads [4] (by kernel_rfl) (L := #[true, true, true, true, true, false, false, false, false]) (by kernel_rfl) (f' := 4) rfl (fun _ _ _ _ h => h) (fun w o h => (Stable.cell _ _).alloc h o) (.inr (by first | exact S3.out.c2 | exact cell_drew S3.out.c2)) ?_
      simp only [sF, sL]
      iterate 1 (first | (refine heads_load _ (by rfl) (fun w' hs => by have y0 := hs; go_simp; try with_reducible rfl) rfl ?_; simp only [Act.put, sA]) | (refine heads_pure _ (by rfl) (fun w' => by go_simp; try with_reducible rfl) ?_; simp only [Act.put, sA]))
      refine heads_nil ?_
      refine stage_op 5 (by kernel_rfl) (L := #[true, true, true, true, true, true, false, false, false]) (by kernel_rfl) ?_
      simp only [sL]
      go_wp2_with fail; generalize hu5 : World.alloc _ _ = u5; have B5 : Hid (Below u3.heap.size u3 u5) := hid (by subst hu5; first | exact (Below.refl _ _).alloc (Nat.le_refl _) _ | exact ((Below.refl _ _).drew).alloc (Nat.le_refl _) _ | exact (((Below.refl _ _).drew).drew).alloc (Nat.le_refl _) _); have ONE5 : Hid (Reads u5 .i64 (.slice (some ⟨u3.heap.size, 0, none⟩) 1 1) [((numV 7 (memL 7 k (rest3 bd)) : Nat) : Int)]) := hid (by subst hu5; first | exact Reads.one _ _ _ _); clear hu5
      refine step_post nofun ?_
      refine stage_op 6 (by kernel_rfl) (L := #[true, true, true, true, true, true, true, false, false]) (by kernel_rfl) ?_
      simp only [sL]
      refine wpList_append_ints Tryz.i64s _ _ rfl (sb + 1) mv (.slice (some ⟨u3.heap.size, 0, none⟩) 1 1) (memV 7 k (rest3 bd)) [((numV 7 (memL 7 k (rest3 bd)) : Nat) : Int)] rfl rfl (by first | exact O3.out.below B5.out | exact (O3.out.below B5.out).drew) (by first | exact ONE5.out | exact ONE5.out.drew) (by decide) HLN.out (by have := LE3.out; have := B5.out.size; first | omega | (simp only [World.size_drew]; omega)) rfl ?_; intro v6 u6 hown6 hgr6 hat6 hnil6 hbel6; obtain ⟨a6, c6, rfl⟩ := hown6.shape; have O6 : Hid (Owns u6 (sb + 1) 3 .i64 (.slice a6 ((memV 7 k (rest3 bd)).length + 1) c6) (memV 7 k (rest3 bd) ++ [((numV 7 (memL 7 k (rest3 bd)) : Nat) : Int)])) := hid (by have hh := hown6; rw [List.length_append] at hh; exact hh); have OL6 := O3.out.lt; have G6 : Hid (Kept u5 u6 (fun g => mv.ownBlock = some g)) := hid (by first | exact Kept.of_grown hgr6 | exact (Kept.drew u5 _).trans (Kept.of_grown hgr6)); have S6 : Hid (SBlk u6 sb (numV H59 bd) (numV H60 (rest1 bd)) mv (.slice none 0 0)) := hid ((S3.out.below B5.out).kept G6.out (fun e => by have := (OL6 _ e).1; omega)); have S7 : Hid (SBlk u6 w.heap.size 0 0 (.slice none 0 0) (.slice none 0 0)) := hid ((S4.out.below B5.out).kept G6.out (fun e => by have := (OL6 _ e).1; omega)); have R6 : Hid (RdrIs u6 w1.heap.size rb (numL 7 (memL 7 k (rest3 bd))) ((bad3 || memB 7 k (rest3 bd)) || numB 7 (memL 7 k (rest3 bd)))) := hid ((H3.out.below B5.out).kept G6.out (fun e => by have := (OL6 _ e).1; omega) (fun e => by have := (OL6 _ e).1; omega)); have K6 : Hid (Kept w2 u6 (fun k => k = w1.heap.size)) := hid (((I.out.kept.trans K3.out).trans (Kept.of_below B5.out (S := fun k => k = w1.heap.size) (fun k h1 h2 => by omega))).andThen G6.out (fun g hg e => by rcases e with e | e; exact e; have := (OL6 _ e).1; omega)); have Z6 : Hid (sb + 1 <= u6.heap.size) := hid (by have := LE3.out; have := B5.out.size; have := G6.out.size; omega); clear hown6 hgr6 hat6 hnil6 hbel6 OL6; go_wp2_with fail
      refine step_post nofun ?_
      refine stage_heads [7] (by kernel_rfl) (L := #[true, true, true, true, true, true, true, true, false]) (by kernel_rfl) (f' := 1) rfl (fun _ _ _ _ h => h) (fun w o h => (Stable.cell _ _).alloc h o) (.inl (by kernel_rfl)) ?_
      simp only [sF, sL]
      iterate 1 (refine heads_pure _ (by rfl) (fun w' => by go_simp; try with_reducible rfl) ?_; simp only [Act.put, sA])
      refine heads_nil ?_
      refine stage_op 8 (by kernel_rfl) (L := #[true, true, true, true, true, true, true, true, true]) (by kernel_rfl) ?_
      simp only [sL]
      obtain ⟨g1, g2, g3⟩ : u6.cell? ⟨sb, 2, none⟩ = some mv /\ u6.frozen? ⟨sb, 2, none⟩ = false /\ sb < u6.heap.size := ⟨S6.out.c2, S6.out.f2, S6.out.lt⟩; go_wp2_with fail; generalize hu8 : World.setCell _ _ _ = u8; have S8 : Hid (SBlk u8 sb (numV H59 bd) (numV H60 (rest1 bd)) (.slice a6 ((memV 7 k (rest3 bd)).length + 1) c6) (.slice none 0 0)) := hid (by subst hu8; exact S6.out.set2 _); have G8 : Hid (Kept u6 u8 (fun g => g = sb)) := hid (by subst hu8; exact Kept.setCell u6 ⟨sb, 2, none⟩ _); clear hu8 g1 g2 g3
      refine step_post nofun ?_
      refine stage_done (by kernel_rfl) ?_
      clear hw6
      go_wp2_with fail
      go_roundw
      case rel =>
        refine ⟨k + 1, _, by omega, by go_num, ?_, S8.out, S7.out.kept G8.out (by omega), O6.out.kept G8.out (fun g hg e => by have := (O6.out.lt g hg).1; omega), K6.out.stepNew G8.out (by omega), by have := Z6.out; have := G8.out.size; omega⟩
        have hr := R6.out.kept G8.out (by omega) (by omega)
        rw [Bool.or_assoc] at hr
        exact hr
      case measure => simp [intOf]; omega
    . obtain rfl : k = memN bd := by omega
      have RL : Hid (RdrIs wr w1.heap.size rb (rest4 7 bd) (bad3 || memB 7 (memN bd) (rest3 bd))) := hid I.out.rd
      go_wp2_with fail
      refine (qtext_any w1.heap.size 32768 _ _ _ RL.out (by decide)).mono ?_
      rintro e w7 ⟨rfl, h7, k7⟩
      have H7 := hid h7
      have K7 := hid k7
      have hs7 := k7.size
      clear h7 k7
      have S7 : Hid (SBlk w7 sb (numV H59 bd) (numV H60 (rest1 bd)) mv (.slice none 0 0)) := hid (I.out.sn.kept K7.out (by omega))
      have T7 : Hid (SBlk w7 w.heap.size 0 0 (.slice none 0 0) (.slice none 0 0)) := hid (I.out.rs.kept K7.out (by omega))
      have O7 : Hid (Owns w7 (sb + 1) 3 .i64 mv (memV 7 (memN bd) (rest3 bd))) := hid (I.out.own.kept K7.out (fun g hg e => by have := (I.out.own.lt g hg).1; omega))
      obtain ⟨am, cm, rfl⟩ := O7.out.shape
      have TS : Hid ((strN (textV 32768 (rest4 7 bd))).size <= 2097152) := hid (by rw [size_strN]; have := textV_len 32768 (rest4 7 bd); omega)
      have HTX : Hid (natsOf (strN (textV 32768 (rest4 7 bd))) = textV 32768 (rest4 7 bd)) := hid (natsOf_strN fun c hc => by obtain ⟨v, _, hB, _⟩ := RL.out.ex; exact hB.lt c (textV_mem c hc))
      have A7 : Hid (Kept w2 w7 (fun k => k = w1.heap.size)) := hid (I.out.kept.trans K7.out)
      go_wp2_with (refine wpList_to_bytes rfl 9 36 5 _ rfl Tryz.underlying9 Tryz.underlying36 Tryz.underlying5 _ rfl TS.out ?_; intro dv w8 hB8 hb8 hob8; have OB8 := hid hob8; clear hob8; obtain ⟨ad, cd, rfl, _⟩ := hB8.shape; have HB8 := hid hB8; have B8 := hid hb8; obtain ⟨g1, g2, g3⟩ : w8.cell? ⟨sb, 3, none⟩ = some (.slice none 0 0) /\ w8.frozen? ⟨sb, 3, none⟩ = false /\ sb < w8.heap.size := ⟨(S7.out.below B8.out).c3, (S7.out.below B8.out).f3, (S7.out.below B8.out).lt⟩; clear hB8 hb8)
      generalize hwF : World.setCell _ _ _ = w9
      have S9 : Hid (SBlk w9 sb (numV H59 bd) (numV H60 (rest1 bd)) (.slice am (memV 7 (memN bd) (rest3 bd)).length cm) (.slice ad (natsOf (strN (textV 32768 (rest4 7 bd)))).length cd)) := hid (by subst hwF; exact (S7.out.below B8.out).set3 _)
      have K9 : Hid (Kept w8 w9 (fun k => k = sb)) := hid (by subst hwF; exact Kept.setCell w8 ⟨sb, 3, none⟩ _)
      have T9 : Hid (SBlk w9 w.heap.size 0 0 (.slice none 0 0) (.slice none 0 0)) := hid ((T7.out.below B8.out).kept K9.out (by omega))
      have R9 : Hid (RdrIs w9 w1.heap.size rb (getL 7 bd) (getB 7 bd)) := hid (by
        have hh := (H7.out.below B8.out).kept K9.out (by omega) (by omega)
        rw [show getB 7 bd = ((bad3 || memB 7 (memN bd) (rest3 bd)) || textB 32768 (rest4 7 bd)) by rw [<- HBX.out]; rfl]
        exact hh)
      have HI9 : Hid (Ints w9 (.slice am (memV 7 (memN bd) (rest3 bd)).length cm) (getS 7 bd).ms) := hid (Ints.of_owns ((O7.out.below B8.out).kept K9.out (fun g hg e => by have := (O7.out.lt g hg).1; omega)) (by show (memV 7 (memN bd) (rest3 bd)).length <= 2097152; rw [length_memV]; have := memN_le bd; omega))
      have HD9 : Hid (Bytes w9 (.slice ad (natsOf (strN (textV 32768 (rest4 7 bd)))).length cd) (getS 7 bd).d) := hid (by
        have hh := HB8.out
        have ho := OB8.out
        rw [HTX.out] at hh ho ⊢
        exact hh.keptOr K9.out (.inr ho) (by omega))
      have SN9 : Hid (SnapIs w9 (.agg #[.int .u64 (numV H59 bd), .int .u64 (numV H60 (rest1 bd)), .slice am (memV 7 (memN bd) (rest3 bd)).length cm, .slice ad (natsOf (strN (textV 32768 (rest4 7 bd)))).length cd]) (getS 7 bd)) := hid ⟨_, _, rfl, HI9.out, HD9.out⟩
      have Q9 : Hid (Below w.heap.size w w9) := hid (B1.out.trans (((B2.out.mono B1.out.size).trans ((A7.out.below (B := w.heap.size) (by omega) (fun k hk => by omega)).trans (B8.out.mono (by omega)))).trans (K9.out.below (B := w.heap.size) (by have := B8.out.size; omega) (fun k hk => by omega))))
      clear hwF g1 g2 g3
      generalize (natsOf (strN (textV 32768 (rest4 7 bd)))).length = dl at *
      generalize (memV 7 (memN bd) (rest3 bd)).length = ml at *
      generalize hI3 : (numV H59 bd : Int) = I3 at *
      generalize hT3 : (numV H60 (rest1 bd) : Int) = T3 at *
      refine (qend_any w1.heap.size _ _ _ R9.out).mono ?_
      rintro e w9' ⟨rfl, rfl⟩
      rw [HE.out]
      obtain ⟨r0, r1, r2, r3, q0, q1, q2, q3⟩ := T9.out
      obtain ⟨y0, y1, y2, y3, _, _, _, _⟩ := S9.out
      have L9 := T9.out.lt
      go_wp2_with fail
      refine (sound_any _ _ _ SN9.out).mono ?_
      rintro e wa ⟨rfl, hba⟩
      rw [HOK.out]
      have Ba := hid hba
      have Ta : Hid (SBlk wa w.heap.size 0 0 (.slice none 0 0) (.slice none 0 0)) := hid (T9.out.below Ba.out)
      have Sa : Hid (SBlk wa sb I3 T3 (.slice am ml cm) (.slice ad dl cd)) := hid (S9.out.below Ba.out)
      have Qa : Hid (Below w.heap.size w wa) := hid (Q9.out.trans (Ba.out.mono Q9.out.size))
      clear hba r0 r1 r2 r3 q0 q1 q2 q3 y0 y1 y2 y3
      obtain ⟨r0, r1, r2, r3, q0, q1, q2, q3⟩ := Ta.out
      obtain ⟨y0, y1, y2, y3, _, _, _, _⟩ := Sa.out
      have La := Ta.out.lt
      go_wp2_with fail
      generalize hwF : World.setCell _ _ _ = wF
      have KF : Hid (Kept wa wF (fun k => k = w.heap.size)) := hid (by subst hwF; exact Kept.set4 _ _ _ _ _ _)
      have HR : Hid (SBlk wF w.heap.size 0 0 (.slice none 0 0) (.slice none 0 0)) := hid (by subst hwF; exact Ta.out.set4 _ _ _ _)
      clear hwF r0 r1 r2 r3 q0 q1 q2 q3
      obtain ⟨z0, z1, z2, z3, _, _, _, _⟩ := HR.out
      refine bodyPost_ret (v := .tuple #[.agg #[.int .u64 0, .int .u64 0, .slice none 0 0, .slice none 0 0], .bool false]) (by simp [results, Tryz.results147, go_sem, z0, z1, z2, z3]) rfl ?_
      rw [HV.out.1, HV.out.2]
      exact ⟨_, rfl, zero_is _, Qa.out.trans ((KF.out.below (B := w.heap.size) Qa.out.size (fun k hk => by omega)))⟩

set_option maxHeartbeats 4000000 in
set_option maxRecDepth 20000 in
theorem pread_good (v : Value) (l : List Nat) (w : World) (hB : Bytes w v l) (ht : WholeOk l) (h4 : l.getD 1 0 = 4) (he : endE (getL 7 (frBody l)) (getB 7 (frBody l)) = 0) (hok : (getS 7 (frBody l)).ok) : Calls Tryz.prog 147 #[v] w (ReadNew (readB 7 l) (readS 7 l) w) := by
  have HB := hid hB
  have HV : Hid (readB 7 l = true /\ readS 7 l = getS 7 (frBody l)) := hid (read_yes ⟨ht, h4, he, hok⟩)
  have HE := hid he
  have HOK : Hid ((getS 7 (frBody l)).okB = true) := hid (decide_eq_true hok)
  clear he hok
  have HT := hid ht
  have HF : Hid (l.getD 1 0 = 4) := hid h4
  have E59 : Hid ((576460752303423488 : Int).toNat = H59) := hid rfl
  have E60 : Hid ((1152921504606846976 : Int).toNat = H60) := hid rfl
  have E7 : Hid ((7 : Int).toNat = 7) := hid rfl
  obtain ⟨a, c, rfl, _⟩ := hB.shape
  clear hB ht h4
  go_enter Tryz.func147, Tryz.ntmps147
  go_wp2_with fail
  refine (whole_any _ l _ (HB.out.alloc _)).mono ?_
  rintro e w1 ⟨hb1, hno, hyes⟩
  obtain ⟨v1, rfl, hB1⟩ := hyes HT.out
  rw [HF.out]
  have HB1 := hid hB1
  have RB : ∃ rb : Nat, rb < w1.heap.size /\ (frBody l = [] \/ v1.ownBlock = some rb) := by
    by_cases h0 : frBody l = []
    . exact ⟨w.heap.size, ((SBlk.new w).below hb1).lt, .inl h0⟩
    . obtain ⟨b, e1, e2⟩ := HB1.out.lt_block h0
      exact ⟨b, e2, .inr e1⟩
  obtain ⟨rb, hrb, hown⟩ := RB
  have HO := hid hown
  clear hown
  obtain ⟨a1, c1, rfl, _⟩ := hB1.shape
  clear hB1
  have B1 : Hid (Below w.heap.size w w1) := hid (((Below.refl w.heap.size w).alloc (Nat.le_refl _) (.cells #[.int .u64 0, .int .u64 0, .slice none 0 0, .slice none 0 0] 75)).trans (hb1.mono (by simp)))
  have S1 : Hid (SBlk w1 w.heap.size 0 0 (.slice none 0 0) (.slice none 0 0)) := hid ((SBlk.new w).below hb1)
  obtain ⟨r0, r1, r2, r3, q0, q1, q2, q3⟩ := S1.out
  have L1 := S1.out.lt
  clear hb1 hno hyes
  go_wp2_with fail
  refine (qopen_any _ (frBody l) _ HB1.out HO.out (by omega)).mono ?_
  rintro e w2 ⟨rfl, h2, hb2⟩
  have R2 := hid h2
  have B2 := hid hb2
  have hs2 := hb2.size
  have L2 := h2.lt
  clear h2 hb2 r0 r1 r2 r3 q0 q1 q2 q3
  have S2 : Hid (SBlk w2 w.heap.size 0 0 (.slice none 0 0) (.slice none 0 0)) := hid (S1.out.below B2.out)
  generalize hbd : frBody l = bd at *
  go_wp2_with fail
  refine (qnum_any w1.heap.size 576460752303423488 bd false _ R2.out (by decide) (by decide)).mono ?_
  rintro e w3 ⟨rfl, h1, k1⟩
  rw [E59.out] at h1 ⊢
  have R3 : Hid (RdrIs w3 w1.heap.size rb (rest1 bd) (numB H59 bd)) := hid (by rw [Bool.false_or] at h1; exact h1)
  have K3 := hid k1
  have hs3 := k1.size
  clear h1 k1
  go_wp2_with fail
  refine (qnum_any w1.heap.size 1152921504606846976 (rest1 bd) _ _ R3.out (by decide) (by decide)).mono ?_
  rintro e w4 ⟨rfl, h1, k1⟩
  rw [E60.out] at h1 ⊢
  have R4 := hid h1
  have K4 := hid k1
  have hs4 := k1.size
  clear h1 k1
  have A4 : Hid (Kept w2 w4 (fun k => k = w1.heap.size)) := hid (K3.out.trans K4.out)
  go_wp2_with fail
  generalize hW : World.alloc w4 _ = w5
  have B5 : Hid (Below w4.heap.size w4 w5) := hid (by subst hW; exact (Below.refl _ _).alloc (Nat.le_refl _) _)
  have S5 : Hid (SBlk w5 w4.heap.size (numV H59 bd) (numV H60 (rest1 bd)) (.slice none 0 0) (.slice none 0 0)) := hid (by subst hW; exact ⟨by go_cell, by go_cell, by go_cell, by go_cell, by simp, by simp, by simp, by simp⟩)
  clear hW
  have R5 : Hid (RdrIs w5 w1.heap.size rb (rest2 bd) (numB H59 bd || numB H60 (rest1 bd))) := hid (R4.out.below B5.out)
  have T5 : Hid (SBlk w5 w.heap.size 0 0 (.slice none 0 0) (.slice none 0 0)) := hid (((S2.out.kept A4.out (by omega))).below B5.out)
  have A5 : Hid (Kept w2 w5 (fun k => k = w1.heap.size)) := hid (A4.out.trans (Kept.of_below B5.out (S := fun k => k = w1.heap.size) (fun k h1 h2 => by omega)))
  have hsb := S5.out.lt
  generalize hSB : w4.heap.size = sb at *
  have hsb2 : w2.heap.size <= sb := by omega
  refine (qnum_any w1.heap.size 7 (rest2 bd) _ _ R5.out (by decide) (by decide)).mono ?_
  rintro e w6 ⟨rfl, h1, k1⟩
  rw [E7.out] at h1 ⊢
  have hn7 : ((memN bd : Nat) : Int) <= 7 := by have := memN_le bd; omega
  have R6 : Hid (RdrIs w6 w1.heap.size rb (rest3 bd) ((numB H59 bd || numB H60 (rest1 bd)) || numB 7 (rest2 bd))) := hid h1
  have K6 := hid k1
  have hs6 := k1.size
  clear h1 k1
  rw [show numV 7 (rest2 bd) = memN bd from rfl]
  have S6 : Hid (SBlk w6 sb (numV H59 bd) (numV H60 (rest1 bd)) (.slice none 0 0) (.slice none 0 0)) := hid (S5.out.kept K6.out (by omega))
  have T6 : Hid (SBlk w6 w.heap.size 0 0 (.slice none 0 0) (.slice none 0 0)) := hid (T5.out.kept K6.out (by omega))
  have A6 : Hid (Kept w2 w6 (fun k => k = w1.heap.size)) := hid (A5.out.trans K6.out)
  generalize hX : ((numB H59 bd || numB H60 (rest1 bd)) || numB 7 (rest2 bd)) = bad3 at R6
  have HBX := hid hX
  clear hX
  go_wp2_with fail
  go_loopw [31] (fun x wr => ∃ (k : Nat) (mv : Value), k <= memN bd /\ x = .int .u64 k /\ MemI w2 w1.heap.size rb 7 (rest3 bd) bad3 sb w.heap.size (sb + 1) (numV H59 bd) (numV H60 (rest1 bd)) k mv wr) (fun x _ => memN bd - (intOf x).toNat)
  case atStart => exact ⟨0, _, Nat.zero_le _, rfl, by rw [memL, memB, Bool.or_false]; exact R6.out, S6.out, T6.out, Owns.nil _ _ _ _, A6.out, by omega⟩
  case round =>
    obtain ⟨k, mv, hk, rfl, hI⟩ := hrel
    have I := hid hI
    have hsz := hI.le
    clear hI
    by_cases hlt : k < memN bd
    . have hv6 : ((numV 7 (memL 7 k (rest3 bd)) : Nat) : Int) <= 7 := by have := numV_le 7 (memL 7 k (rest3 bd)); omega
      have hki : (k : Int) < (memN bd : Int) := by omega
      have HLN : Hid ((memV 7 k (rest3 bd)).length + [((numV 7 (memL 7 k (rest3 bd)) : Nat) : Int)].length <= 4294967296) := hid (by rw [length_memV]; simp only [List.length_cons, List.length_nil]; have := memN_le bd; omega)
      have hw6 : IntKind.i64.wrap ((numV 7 (memL 7 k (rest3 bd)) : Nat) : Int) = ((numV 7 (memL 7 k (rest3 bd)) : Nat) : Int) := by simp only [IntKind.wrap_i64]; omega
      go_wp2_with fail
      refine region_start [0, 1, 0, 4, 12, 28, 63, 127, 255] 24 (fun w' => w'.cell? ⟨sb, 2, none⟩ = some mv) (by kernel_rfl) ?_
      refine stage_heads [0, 1, 2] (by kernel_rfl) (L := #[true, true, true, false, false, false, false, false, false]) (by kernel_rfl) (f' := 6) rfl (fun _ _ _ _ h => h) (fun w o h => (Stable.cell _ _).alloc h o) (.inr I.out.sn.c2) ?_
      simp only [sF, sL]
      iterate 3 (first | (refine heads_load _ (by rfl) (fun w' hs => by have y0 := hs; go_simp; try with_reducible rfl) rfl ?_; simp only [Act.put, sA]) | (refine heads_pure _ (by rfl) (fun w' => by go_simp; try with_reducible rfl) ?_; simp only [Act.put, sA]))
      refine heads_nil ?_
      refine stage_op 3 (by kernel_rfl) (L := #[true, true, true, true, false, false, false, false, false]) (by kernel_rfl) ?_
      simp only [sL]
      go_wp2_with fail; refine (qnum_any w1.heap.size 7 _ _ _ (I.out.rd.below ((Below.refl _ _).drew)) (by decide) (by decide)).mono ?_; rintro e u3 ⟨rfl, h3, k3⟩; rw [E7.out] at h3 ⊢; have H3 := hid h3; have K3 : Hid (Kept wr u3 (fun k => k = w1.heap.size)) := hid ((Kept.drew wr (fun k => k = w1.heap.size)).trans k3); clear h3 k3; have S3 : Hid (SBlk u3 sb (numV H59 bd) (numV H60 (rest1 bd)) mv (.slice none 0 0)) := hid (I.out.sn.kept K3.out (by omega)); have S4 : Hid (SBlk u3 w.heap.size 0 0 (.slice none 0 0) (.slice none 0 0)) := hid (I.out.rs.kept K3.out (by omega)); have LE3 : Hid (sb + 1 <= u3.heap.size) := hid (Nat.le_trans I.out.le K3.out.size); have O3 : Hid (Owns u3 (sb + 1) 3 .i64 mv (memV 7 k (rest3 bd))) := hid (I.out.own.kept K3.out (fun g hg e => by have := (I.out.own.lt g hg).1; omega)); go_wp2_with fail
      refine step_post (fun _ => S3.out.c2) ?_
      refine stage_heads [4] (by kernel_rfl) (L := #[true, true, true, true, true, false, false, false, false]) (by kernel_rfl) (f' := 4) rfl (fun _ _ _ _ h => h) (fun w o h => (Stable.cell _ _).alloc h o) (.inr (by first | exact S3.out.c2 | exact cell_drew S3.out.c2)) ?_
      simp only [sF, sL]
      iterate 1 (first | (refine heads_load _ (by rfl) (fun w' hs => by have y0 := hs; go_simp; try with_reducible rfl) rfl ?_; simp only [Act.put, sA]) | (refine heads_pure _ (by rfl) (fun w' => by go_simp; try with_reducible rfl) ?_; simp only [Act.put, sA]))
      refine heads_nil ?_
      refine stage_op 5 (by kernel_rfl) (L := #[true, true, true, true, true, true, false, false, false]) (by kernel_rfl) ?_
      simp only [sL]
      go_wp2_with fail; generalize hu5 : World.alloc _ _ = u5; have B5 : Hid (Below u3.heap.size u3 u5) := hid (by subst hu5; first | exact (Below.refl _ _).alloc (Nat.le_refl _) _ | exact ((Below.refl _ _).drew).alloc (Nat.le_refl _) _ | exact (((Below.refl _ _).drew).drew).alloc (Nat.le_refl _) _); have ONE5 : Hid (Reads u5 .i64 (.slice (some ⟨u3.heap.size, 0, none⟩) 1 1) [((numV 7 (memL 7 k (rest3 bd)) : Nat) : Int)]) := hid (by subst hu5; first | exact Reads.one _ _ _ _); clear hu5
      refine step_post nofun ?_
      refine stage_op 6 (by kernel_rfl) (L := #[true, true, true, true, true, true, true, false, false]) (by kernel_rfl) ?_
      simp only [sL]
      refine wpList_append_ints Tryz.i64s _ _ rfl (sb + 1) mv (.slice (some ⟨u3.heap.size, 0, none⟩) 1 1) (memV 7 k (rest3 bd)) [((numV 7 (memL 7 k (rest3 bd)) : Nat) : Int)] rfl rfl (by first | exact O3.out.below B5.out | exact (O3.out.below B5.out).drew) (by first | exact ONE5.out | exact ONE5.out.drew) (by decide) HLN.out (by have := LE3.out; have := B5.out.size; first | omega | (simp only [World.size_drew]; omega)) rfl ?_; intro v6 u6 hown6 hgr6 hat6 hnil6 hbel6; obtain ⟨a6, c6, rfl⟩ := hown6.shape; have O6 : Hid (Owns u6 (sb + 1) 3 .i64 (.slice a6 ((memV 7 k (rest3 bd)).length + 1) c6) (memV 7 k (rest3 bd) ++ [((numV 7 (memL 7 k (rest3 bd)) : Nat) : Int)])) := hid (by have hh := hown6; rw [List.length_append] at hh; exact hh); have OL6 := O3.out.lt; have G6 : Hid (Kept u5 u6 (fun g => mv.ownBlock = some g)) := hid (by first | exact Kept.of_grown hgr6 | exact (Kept.drew u5 _).trans (Kept.of_grown hgr6)); have S6 : Hid (SBlk u6 sb (numV H59 bd) (numV H60 (rest1 bd)) mv (.slice none 0 0)) := hid ((S3.out.below B5.out).kept G6.out (fun e => by have := (OL6 _ e).1; omega)); have S7 : Hid (SBlk u6 w.heap.size 0 0 (.slice none 0 0) (.slice none 0 0)) := hid ((S4.out.below B5.out).kept G6.out (fun e => by have := (OL6 _ e).1; omega)); have R6 : Hid (RdrIs u6 w1.heap.size rb (numL 7 (memL 7 k (rest3 bd))) ((bad3 || memB 7 k (rest3 bd)) || numB 7 (memL 7 k (rest3 bd)))) := hid ((H3.out.below B5.out).kept G6.out (fun e => by have := (OL6 _ e).1; omega) (fun e => by have := (OL6 _ e).1; omega)); have K6 : Hid (Kept w2 u6 (fun k => k = w1.heap.size)) := hid (((I.out.kept.trans K3.out).trans (Kept.of_below B5.out (S := fun k => k = w1.heap.size) (fun k h1 h2 => by omega))).andThen G6.out (fun g hg e => by rcases e with e | e; exact e; have := (OL6 _ e).1; omega)); have Z6 : Hid (sb + 1 <= u6.heap.size) := hid (by have := LE3.out; have := B5.out.size; have := G6.out.size; omega); clear hown6 hgr6 hat6 hnil6 hbel6 OL6; go_wp2_with fail
      refine step_post nofun ?_
      refine stage_heads [7] (by kernel_rfl) (L := #[true, true, true, true, true, true, true, true, false]) (by kernel_rfl) (f' := 1) rfl (fun _ _ _ _ h => h) (fun w o h => (Stable.cell _ _).alloc h o) (.inl (by kernel_rfl)) ?_
      simp only [sF, sL]
      iterate 1 (refine heads_pure _ (by rfl) (fun w' => by go_simp; try with_reducible rfl) ?_; simp only [Act.put, sA])
      refine heads_nil ?_
      refine stage_op 8 (by kernel_rfl) (L := #[true, true, true, true, true, true, true, true, true]) (by kernel_rfl) ?_
      simp only [sL]
      obtain ⟨g1, g2, g3⟩ : u6.cell? ⟨sb, 2, none⟩ = some mv /\ u6.frozen? ⟨sb, 2, none⟩ = false /\ sb < u6.heap.size := ⟨S6.out.c2, S6.out.f2, S6.out.lt⟩; go_wp2_with fail; generalize hu8 : World.setCell _ _ _ = u8; have S8 : Hid (SBlk u8 sb (numV H59 bd) (numV H60 (rest1 bd)) (.slice a6 ((memV 7 k (rest3 bd)).length + 1) c6) (.slice none 0 0)) := hid (by subst hu8; exact S6.out.set2 _); have G8 : Hid (Kept u6 u8 (fun g => g = sb)) := hid (by subst hu8; exact Kept.setCell u6 ⟨sb, 2, none⟩ _); clear hu8 g1 g2 g3
      refine step_post nofun ?_
      refine stage_done (by kernel_rfl) ?_
      clear hw6
      go_wp2_with fail
      go_roundw
      case rel =>
        refine ⟨k + 1, _, by omega, by go_num, ?_, S8.out, S7.out.kept G8.out (by omega), O6.out.kept G8.out (fun g hg e => by have := (O6.out.lt g hg).1; omega), K6.out.stepNew G8.out (by omega), by have := Z6.out; have := G8.out.size; omega⟩
        have hr := R6.out.kept G8.out (by omega) (by omega)
        rw [Bool.or_assoc] at hr
        exact hr
      case measure => simp [intOf]; omega
    . obtain rfl : k = memN bd := by omega
      have RL : Hid (RdrIs wr w1.heap.size rb (rest4 7 bd) (bad3 || memB 7 (memN bd) (rest3 bd))) := hid I.out.rd
      go_wp2_with fail
      refine (qtext_any w1.heap.size 32768 _ _ _ RL.out (by decide)).mono ?_
      rintro e w7 ⟨rfl, h7, k7⟩
      have H7 := hid h7
      have K7 := hid k7
      have hs7 := k7.size
      clear h7 k7
      have S7 : Hid (SBlk w7 sb (numV H59 bd) (numV H60 (rest1 bd)) mv (.slice none 0 0)) := hid (I.out.sn.kept K7.out (by omega))
      have T7 : Hid (SBlk w7 w.heap.size 0 0 (.slice none 0 0) (.slice none 0 0)) := hid (I.out.rs.kept K7.out (by omega))
      have O7 : Hid (Owns w7 (sb + 1) 3 .i64 mv (memV 7 (memN bd) (rest3 bd))) := hid (I.out.own.kept K7.out (fun g hg e => by have := (I.out.own.lt g hg).1; omega))
      obtain ⟨am, cm, rfl⟩ := O7.out.shape
      have TS : Hid ((strN (textV 32768 (rest4 7 bd))).size <= 2097152) := hid (by rw [size_strN]; have := textV_len 32768 (rest4 7 bd); omega)
      have HTX : Hid (natsOf (strN (textV 32768 (rest4 7 bd))) = textV 32768 (rest4 7 bd)) := hid (natsOf_strN fun c hc => by obtain ⟨v, _, hB, _⟩ := RL.out.ex; exact hB.lt c (textV_mem c hc))
      have A7 : Hid (Kept w2 w7 (fun k => k = w1.heap.size)) := hid (I.out.kept.trans K7.out)
      go_wp2_with (refine wpList_to_bytes rfl 9 36 5 _ rfl Tryz.underlying9 Tryz.underlying36 Tryz.underlying5 _ rfl TS.out ?_; intro dv w8 hB8 hb8 hob8; have OB8 := hid hob8; clear hob8; obtain ⟨ad, cd, rfl, _⟩ := hB8.shape; have HB8 := hid hB8; have B8 := hid hb8; obtain ⟨g1, g2, g3⟩ : w8.cell? ⟨sb, 3, none⟩ = some (.slice none 0 0) /\ w8.frozen? ⟨sb, 3, none⟩ = false /\ sb < w8.heap.size := ⟨(S7.out.below B8.out).c3, (S7.out.below B8.out).f3, (S7.out.below B8.out).lt⟩; clear hB8 hb8)
      generalize hwF : World.setCell _ _ _ = w9
      have S9 : Hid (SBlk w9 sb (numV H59 bd) (numV H60 (rest1 bd)) (.slice am (memV 7 (memN bd) (rest3 bd)).length cm) (.slice ad (natsOf (strN (textV 32768 (rest4 7 bd)))).length cd)) := hid (by subst hwF; exact (S7.out.below B8.out).set3 _)
      have K9 : Hid (Kept w8 w9 (fun k => k = sb)) := hid (by subst hwF; exact Kept.setCell w8 ⟨sb, 3, none⟩ _)
      have T9 : Hid (SBlk w9 w.heap.size 0 0 (.slice none 0 0) (.slice none 0 0)) := hid ((T7.out.below B8.out).kept K9.out (by omega))
      have R9 : Hid (RdrIs w9 w1.heap.size rb (getL 7 bd) (getB 7 bd)) := hid (by
        have hh := (H7.out.below B8.out).kept K9.out (by omega) (by omega)
        rw [show getB 7 bd = ((bad3 || memB 7 (memN bd) (rest3 bd)) || textB 32768 (rest4 7 bd)) by rw [<- HBX.out]; rfl]
        exact hh)
      have HI9 : Hid (Ints w9 (.slice am (memV 7 (memN bd) (rest3 bd)).length cm) (getS 7 bd).ms) := hid (Ints.of_owns ((O7.out.below B8.out).kept K9.out (fun g hg e => by have := (O7.out.lt g hg).1; omega)) (by show (memV 7 (memN bd) (rest3 bd)).length <= 2097152; rw [length_memV]; have := memN_le bd; omega))
      have HD9 : Hid (Bytes w9 (.slice ad (natsOf (strN (textV 32768 (rest4 7 bd)))).length cd) (getS 7 bd).d) := hid (by
        have hh := HB8.out
        have ho := OB8.out
        rw [HTX.out] at hh ho ⊢
        exact hh.keptOr K9.out (.inr ho) (by omega))
      have SN9 : Hid (SnapIs w9 (.agg #[.int .u64 (numV H59 bd), .int .u64 (numV H60 (rest1 bd)), .slice am (memV 7 (memN bd) (rest3 bd)).length cm, .slice ad (natsOf (strN (textV 32768 (rest4 7 bd)))).length cd]) (getS 7 bd)) := hid ⟨_, _, rfl, HI9.out, HD9.out⟩
      have Q9 : Hid (Below w.heap.size w w9) := hid (B1.out.trans (((B2.out.mono B1.out.size).trans ((A7.out.below (B := w.heap.size) (by omega) (fun k hk => by omega)).trans (B8.out.mono (by omega)))).trans (K9.out.below (B := w.heap.size) (by have := B8.out.size; omega) (fun k hk => by omega))))
      clear hwF g1 g2 g3
      generalize (natsOf (strN (textV 32768 (rest4 7 bd)))).length = dl at *
      generalize (memV 7 (memN bd) (rest3 bd)).length = ml at *
      generalize hI3 : (numV H59 bd : Int) = I3 at *
      generalize hT3 : (numV H60 (rest1 bd) : Int) = T3 at *
      refine (qend_any w1.heap.size _ _ _ R9.out).mono ?_
      rintro e w9' ⟨rfl, rfl⟩
      rw [HE.out]
      obtain ⟨r0, r1, r2, r3, q0, q1, q2, q3⟩ := T9.out
      obtain ⟨y0, y1, y2, y3, _, _, _, _⟩ := S9.out
      have L9 := T9.out.lt
      go_wp2_with fail
      refine (sound_any _ _ _ SN9.out).mono ?_
      rintro e wa ⟨rfl, hba⟩
      rw [HOK.out]
      have Ba := hid hba
      have Ta : Hid (SBlk wa w.heap.size 0 0 (.slice none 0 0) (.slice none 0 0)) := hid (T9.out.below Ba.out)
      have Sa : Hid (SBlk wa sb I3 T3 (.slice am ml cm) (.slice ad dl cd)) := hid (S9.out.below Ba.out)
      have Qa : Hid (Below w.heap.size w wa) := hid (Q9.out.trans (Ba.out.mono Q9.out.size))
      clear hba r0 r1 r2 r3 q0 q1 q2 q3 y0 y1 y2 y3
      obtain ⟨r0, r1, r2, r3, q0, q1, q2, q3⟩ := Ta.out
      obtain ⟨y0, y1, y2, y3, _, _, _, _⟩ := Sa.out
      have La := Ta.out.lt
      go_wp2_with fail
      generalize hwF : World.setCell _ _ _ = wF
      have KF : Hid (Kept wa wF (fun k => k = w.heap.size)) := hid (by subst hwF; exact Kept.set4 _ _ _ _ _ _)
      have HR : Hid (SBlk wF w.heap.size I3 T3 (.slice am ml cm) (.slice ad dl cd)) := hid (by subst hwF; exact Ta.out.set4 _ _ _ _)
      have HSN : Hid (SnapIs wF (.agg #[.int .u64 I3, .int .u64 T3, .slice am ml cm, .slice ad dl cd]) (getS 7 bd)) := hid (by subst hwF; exact SnapIs.set4 Ta.out (SN9.out.below Ba.out) _ _ _ _)
      clear hwF r0 r1 r2 r3 q0 q1 q2 q3 y0 y1 y2 y3
      obtain ⟨z0, z1, z2, z3, _, _, _, _⟩ := HR.out
      refine bodyPost_ret (v := .tuple #[.agg #[.int .u64 I3, .int .u64 T3, .slice am ml cm, .slice ad dl cd], .bool true]) (by simp [results, Tryz.results147, go_sem, z0, z1, z2, z3]) rfl ?_
      rw [HV.out.1, HV.out.2]
      exact ⟨_, rfl, HSN.out, Qa.out.trans ((KF.out.below (B := w.heap.size) Qa.out.size (fun k hk => by omega))), _, _, _, _, rfl, fun g hg => by have := (O7.out.lt g hg).1; omega, fun g hg => by have := OB8.out; rw [hg] at this; cases this; omega⟩

theorem pread_any (v : Value) (l : List Nat) (w : World) (hB : Bytes w v l) : Calls Tryz.prog 147 #[v] w (ReadPost (readB 7 l) (readS 7 l) w) := by
  by_cases ht : WholeOk l
  . by_cases hk : l.getD 1 0 = 4
    . by_cases he : endE (getL 7 (frBody l)) (getB 7 (frBody l)) = 0
      . by_cases hok : (getS 7 (frBody l)).ok
        . exact (pread_good v l w hB ht hk he hok).mono fun E w' ⟨v, h1, h2, h3, _⟩ => ⟨v, h1, h2, h3⟩
        . exact pread_bad v l w hB ht hk he hok
      . exact pread_end v l w hB ht hk he
    . exact pread_kind v l w hB ht hk
  . exact pread_no v l w hB ht
theorem pread_new (v : Value) (l : List Nat) (w : World) (hB : Bytes w v l) (h : readB 7 l = true) : Calls Tryz.prog 147 #[v] w (ReadNew (readB 7 l) (readS 7 l) w) := by
  obtain ⟨ht, hk, he, hok⟩ := of_decide_eq_true h
  exact pread_good v l w hB ht hk he hok
end Go.Proofs.YtjdglpcnkiioeaaGreat
