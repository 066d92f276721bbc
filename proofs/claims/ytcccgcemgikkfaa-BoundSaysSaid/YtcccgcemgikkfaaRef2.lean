/- Contracts of the reference's Did, Most and Hear; no conditions but the lengths. -/
import Derived.Test.YtcccgcemgikkfaaRef
namespace Go.Proofs.Ytcccgcemgikkfaa
open Go.RowKit Go.Maps Go.Proofs.Own

def ddStep (acc : List Int) (x : Int) : List Int := if acc.count x = 0 then acc ++ [x] else acc
def dd (l : List Int) : List Int := l.foldl ddStep []
theorem dd_snoc (l : List Int) (x : Int) : dd (l ++ [x]) = ddStep (dd l) x := by simp [dd]
theorem dd_take (l : List Int) (k : Nat) (h : k < l.length) : dd (l.take (k + 1)) = ddStep (dd (l.take k)) l[k] := by
  rw [List.take_succ_eq_append_getElem h, dd_snoc]
theorem length_ddStep (acc : List Int) (x : Int) : (ddStep acc x).length ≤ acc.length + 1 := by
  unfold ddStep; split <;> simp
theorem length_foldl_ddStep (l : List Int) : ∀ acc, (l.foldl ddStep acc).length ≤ acc.length + l.length := by
  induction l with
  | nil => intro acc; simp
  | cons x l ih => intro acc; have := ih (ddStep acc x); have := length_ddStep acc x; simp only [List.foldl_cons, List.length_cons]; omega
theorem length_dd (l : List Int) : (dd l).length ≤ l.length := by simpa [dd] using length_foldl_ddStep l []

theorem Try.info23 : (Try.prog.info? 23).map (fun i => (i.zero, i.size, i.bytes)) = some (some (.int .u64 0), 1, 8) := by kernel_rfl
theorem Try.u64s : IntSlice Try.prog 27 23 .u64 8 := ⟨Try.underlying27, Try.info23⟩

set_option maxHeartbeats 1000000 in
theorem rdid_any (num : Int) (sv : Value) (l : List Int) (w : World) (hr : Reads w .u64 sv l) (hl : l.length ≤ 1000000) :
    Calls Try.prog 28 #[.agg #[.int .i64 num, sv]] w fun e w' => ∃ v, e = .returned v ∧ Owns w' w.heap.size 23 .u64 v (dd l) ∧ Below w.heap.size w w' := by
  obtain ⟨a, c, rfl, hc⟩ := hr
  go_enter Try.func28, Try.ntmps28
  go_wp2
  go_loopw [3, 4] (fun d i wr => ∃ k : Nat, k ≤ l.length ∧ i = .int .i64 k ∧ Owns wr (w.heap.size + 1) 23 .u64 d (dd (l.take k)) ∧ Below (w.heap.size + 1) (w.alloc (.cells #[.int .i64 num, .slice a l.length c] 29)) wr) (fun _ i _ => l.length - (intOf i).toNat)
  case atStart => exact ⟨0, Nat.zero_le _, rfl, Owns.nil _ _ _ _, Below.refl _ _⟩
  case round =>
    obtain ⟨k, hk, rfl, hown, hbl⟩ := hrel
    have hsz := hbl.size
    simp only [World.size_alloc] at hsz
    have c0 : wr.cell? ⟨w.heap.size, 1, none⟩ = some (.slice a l.length c) := by rw [hbl.cell (by simp)]; simp
    obtain ⟨a', c', rfl⟩ := hown.shape
    have hdl : (dd (l.take k)).length ≤ k := Nat.le_trans (length_dd _) (List.length_take_le _ _)
    by_cases hlt : k < l.length
    · obtain ⟨b, o, rfl, hb⟩ := hc k hlt
      have hbl' := World.block_lt_of_cell? _ _ hb
      have c1 : wr.cell? ⟨b, o + k, none⟩ = some (.int .u64 l[k]) := Below.at hbl (cell_alloc hb _) (by simp at hbl' ⊢; omega)
      have HS := Lib.hid (dd_take l k hlt)
      have HO := Lib.hid hown
      have HB := Lib.hid hbl
      clear hown hbl
      by_cases he : (dd (l.take k)).count l[k] = 0
      · have hbe : (((dd (l.take k)).count l[k] : Int) == 0) = true := by simp [he]
        have HE := Lib.hid he
        clear he
        go_wp2_with fail
        refine (times_any _ _ _ _ _ HO.out.reads (by omega)).mono ?_
        rintro e w1 ⟨rfl, hb1⟩
        have hsz1 := hb1.size
        have c0' : w1.cell? ⟨w.heap.size, 1, none⟩ = some (.slice (some ⟨b, o, none⟩) l.length c) := Below.at hb1 c0 (by simp; omega)
        have c1' : w1.cell? ⟨b, o + k, none⟩ = some (.int .u64 l[k]) := Below.at hb1 c1 (by simp at hbl' ⊢; omega)
        go_wp2_with (at_builtin; refine wpList_append_ints Try.u64s _ _ rfl (w.heap.size + 1) _ _ _ _ rfl rfl ((HO.out.below hb1).alloc _) (Reads.one _ _ _ _) (by decide) (by simp; omega) (by simp; omega) rfl ?_; intro v' w2 hown2 hgr hat hnil hbel)
        go_roundw
        case rel =>
          refine ⟨k + 1, by omega, by go_num, by rw [HS.out, ddStep, if_pos HE.out]; exact hown2, ?_⟩
          exact (HB.out.trans (hb1.mono (by omega))).trans (((Below.refl _ _).alloc (by omega) _).trans hbel)
        case measure => simp [intOf]; omega
      · have hbe : (((dd (l.take k)).count l[k] : Int) == 0) = false := by simp [he]
        have HE := Lib.hid he
        clear he
        go_wp2_with fail
        refine (times_any _ _ _ _ _ HO.out.reads (by omega)).mono ?_
        rintro e w1 ⟨rfl, hb1⟩
        go_wp2
        go_roundw
        case rel => exact ⟨k + 1, by omega, by go_num, by rw [HS.out, ddStep, if_neg HE.out]; exact HO.out.below hb1, HB.out.trans (hb1.mono (by omega))⟩
        case measure => simp [intOf]; omega
    · go_wp2
      go_ret
      refine ⟨_, rfl, ?_, ((Below.refl _ _).alloc (Nat.le_refl _) _).trans (hbl.mono (by omega))⟩
      rw [List.take_of_length_le (by omega)] at hown
      simpa [List.take_of_length_le (show l.length ≤ k by omega)] using hown.lower fun b hb => by have := (hown.lt b hb).1; omega

theorem max_snoc (l : List Int) (f : Int → Nat) (x : Int) : ((l ++ [x]).map f).foldl max 0 = max ((l.map f).foldl max 0) (f x) := by simp
def most (l : List Int) : Nat := (l.map fun x => l.count x).foldl max 0
theorem foldl_max_le (l : List Nat) (b : Nat) (h : ∀ x ∈ l, x ≤ b) : ∀ a, a ≤ b → l.foldl max a ≤ b := by
  induction l with
  | nil => intro a ha; exact ha
  | cons x l ih => intro a ha; exact ih (fun y hy => h y (by simp [hy])) _ (by have := h x (by simp); omega)
def mostTo (l : List Int) (k : Nat) : Nat := ((l.take k).map fun x => l.count x).foldl max 0
theorem mostTo_succ (l : List Int) (k : Nat) (h : k < l.length) : mostTo l (k + 1) = max (mostTo l k) (l.count l[k]) := by
  unfold mostTo; rw [List.take_succ_eq_append_getElem h, max_snoc]
theorem mostTo_le (l : List Int) (k : Nat) : mostTo l k ≤ l.length := by
  refine foldl_max_le _ _ (fun y hy => ?_) 0 (Nat.zero_le _)
  obtain ⟨x, _, rfl⟩ := List.mem_map.1 hy
  exact List.count_le_length
theorem mostTo_all (l : List Int) : mostTo l l.length = most l := by simp [mostTo, most]

set_option maxHeartbeats 1000000 in
theorem rmost_any (num : Int) (sv : Value) (l : List Int) (w : World) (hr : Reads w .u64 sv l) (hl : l.length ≤ 1000000) :
    Calls Try.prog 27 #[.agg #[.int .i64 num, sv]] w fun e w' => e = .returned (.int .i64 (most l)) ∧ Below w.heap.size w w' := by
  have hr0 := Lib.hid hr
  obtain ⟨a, c, rfl, hc⟩ := hr
  go_enter Try.func27, Try.ntmps27
  go_wp2
  go_loopw [3, 4] (fun d i wr => ∃ k : Nat, k ≤ l.length ∧ i = .int .i64 k ∧ d = .int .i64 (mostTo l k) ∧ Below (w.heap.size + 1) (w.alloc (.cells #[.int .i64 num, .slice a l.length c] 29)) wr) (fun _ i _ => l.length - (intOf i).toNat)
  case atStart => exact ⟨0, Nat.zero_le _, rfl, rfl, Below.refl _ _⟩
  case round =>
    obtain ⟨k, hk, rfl, rfl, hbl⟩ := hrel
    have hsz := hbl.size
    simp only [World.size_alloc] at hsz
    have c0 : wr.cell? ⟨w.heap.size, 1, none⟩ = some (.slice a l.length c) := by rw [hbl.cell (by simp)]; simp
    have c2 : wr.cell? ⟨w.heap.size, 0, none⟩ = some (.int .i64 num) := by rw [hbl.cell (by simp)]; simp
    have hmk := mostTo_le l k
    by_cases hlt : k < l.length
    · obtain ⟨b, o, rfl, hb⟩ := hc k hlt
      have i0 : (0 : Int) ≤ (k : Int) := by omega
      have i1 : (k : Int) < (l.length : Int) := by omega
      have hbl' := World.block_lt_of_cell? _ _ hb
      have c1 : wr.cell? ⟨b, o + k, none⟩ = some (.int .u64 l[k]) := Below.at hbl (cell_alloc hb _) (by simp at hbl' ⊢; omega)
      have HS := Lib.hid (mostTo_succ l k hlt)
      have HB := Lib.hid hbl
      have hbw : Below w.heap.size w wr := ((Below.refl _ _).alloc (Nat.le_refl _) _).trans (hbl.mono (by omega))
      have HW := Lib.hid hbw
      clear hbl hbw
      have hcl : l.count l[k] ≤ l.length := List.count_le_length
      go_wp2
      go_region_held3 (fun w' => w'.cell? ⟨w.heap.size, 1, none⟩ = some (.slice (some ⟨b, o, none⟩) l.length c) ∧ w'.cell? ⟨w.heap.size, 0, none⟩ = some (.int .i64 num) ∧ w'.cell? ⟨b, o + k, none⟩ = some (.int .u64 l[k]))
        (first | go_keep) ((go_at_call 11; refine (times_any _ _ _ _ _ ((hr0.out.below HW.out).drew) (by omega)).mono ?_; rintro e w1 ⟨rfl, hb1⟩; have k0 := Below.at hb1 c0 (by simp; omega); have k1 := Below.at hb1 c1 (by simp at hbl' ⊢; omega); have k2 := Below.at hb1 c2 (by simp; omega)))
      have hsz1 := hb1.size
      simp only [World.size_drew] at hsz1
      have hb2 : Below (w.heap.size + 1) wr w1 := ((Below.refl _ _).drew).trans (hb1.mono (by simp; omega))
      have HB2 := Lib.hid hb2
      clear hb1 hb2
      by_cases hgt : mostTo l k < l.count l[k]
      · go_wp2
        go_roundw
        case rel => exact ⟨k + 1, by omega, by go_num, by rw [HS.out, Nat.max_eq_right (by omega)], HB.out.trans HB2.out⟩
        case measure => simp [intOf]; omega
      · go_wp2
        go_roundw
        case rel => exact ⟨k + 1, by omega, by go_num, by rw [HS.out, Nat.max_eq_left (by omega)], HB.out.trans HB2.out⟩
        case measure => simp [intOf]; omega
    · go_wp2
      go_ret
      obtain rfl : k = l.length := by omega
      exact ⟨ret_int (by rw [mostTo_all]), ((Below.refl _ _).alloc (Nat.le_refl _) _).trans (hbl.mono (by omega))⟩
end Go.Proofs.Ytcccgcemgikkfaa
