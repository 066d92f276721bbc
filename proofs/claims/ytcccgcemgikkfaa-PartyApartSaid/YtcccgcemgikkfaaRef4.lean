/- The reference's Hear and the program's Hear, each as one contract; no conditions but the lengths. -/
import Derived.Test.YtcccgcemgikkfaaRef3
import Derived.Test.YtcccgcemgikkfaaHear2
namespace Go.Proofs.Ytcccgcemgikkfaa
open Go.RowKit Go.Maps Go.Proofs.Own


set_option maxHeartbeats 1000000 in
theorem rhear_no (num id x1 x2 x3 x4 x5 x6 x7 x8 : Int) (sv : Value) (l : List Int) (w : World) (hr : Reads w .u64 sv l) (hno : x3 ≠ num ∨ id = 0) :
    Calls Try.prog 26 #[.agg #[.int .i64 num, sv], .agg #[.int .u64 id, .int .u64 x1, .int .i64 x2, .int .i64 x3, .int .i64 x4, .int .i64 x5, .int .i64 x6, .int .i64 x7, .int .i64 x8]] w
      fun e w' => e = .returned (.tuple #[.agg #[.int .i64 num, sv], .bool false, .int .i64 2]) ∧ Below w.heap.size w w' := by
  obtain ⟨a, c, rfl, hc⟩ := hr
  clear hc
  by_cases hne : x3 = num
  · subst hne
    have hid : id = 0 := by rcases hno with h | h; exact absurd rfl h; exact h
    subst hid
    have hnn : (x3 != x3) = false := by simp
    clear hno
    go_enter Try.func26, Try.ntmps26
    go_wp2
    refine bodyPost_ret (v := .tuple #[.agg #[.int .i64 x3, .slice a l.length c], .bool false, .int .i64 2]) ?_ rfl ⟨rfl, ?_⟩
    · simp [results, Try.results26, go_sem]
    · exact ((((Below.refl _ _).alloc (Nat.le_refl _) _).alloc (by simp) _).alloc (by simp; omega) _)
  · have hnn : (x3 != num) = true := by simp [hne]
    clear hno hne
    go_enter Try.func26, Try.ntmps26
    go_wp2
    refine bodyPost_ret (v := .tuple #[.agg #[.int .i64 num, .slice a l.length c], .bool false, .int .i64 2]) ?_ rfl ⟨rfl, ?_⟩
    · simp [results, Try.results26, go_sem]
    · exact ((((Below.refl _ _).alloc (Nat.le_refl _) _).alloc (by simp) _).alloc (by simp; omega) _)

/-- What has been heard behind a notice; whether it was the first time; the error's number. -/
def okB (num x3 id : Int) : Bool := decide (x3 = num) && !decide (id = 0)
def heard (num : Int) (l : List Int) (x3 id : Int) : List Int := if okB num x3 id then l ++ [id] else l
def fstB (num : Int) (l : List Int) (x3 id : Int) : Bool := okB num x3 id && decide (l.count id = 0)
def errI (num x3 id : Int) : Int := if okB num x3 id then 0 else 2
theorem okB_true {num x3 id : Int} (h : okB num x3 id = true) : x3 = num ∧ id ≠ 0 := by simpa [okB] using h
theorem okB_false {num x3 id : Int} (h : okB num x3 id = false) : x3 ≠ num ∨ id = 0 := by
  by_cases h1 : x3 = num
  · right; simpa [okB, h1] using h
  · exact .inl h1
theorem length_heard (num : Int) (l : List Int) (x3 id : Int) : (heard num l x3 id).length ≤ l.length + 1 := by unfold heard; split <;> simp

theorem count_bool (l : List Int) (id : Int) : ((((l.count id : Nat) : Int) == 0) : Bool) = decide (l.count id = 0) := by
  rw [Bool.eq_iff_iff]; simp

theorem rhear (num id x1 x2 x3 x4 x5 x6 x7 x8 : Int) (sv : Value) (l : List Int) (w : World) (hr : Reads w .u64 sv l) (hl : l.length ≤ 1000000) (hsv : ∀ g, sv.ownBlock = some g → g < w.heap.size) :
    Calls Try.prog 26 #[.agg #[.int .i64 num, sv], .agg #[.int .u64 id, .int .u64 x1, .int .i64 x2, .int .i64 x3, .int .i64 x4, .int .i64 x5, .int .i64 x6, .int .i64 x7, .int .i64 x8]] w
      fun e w' => ∃ v, e = .returned (.tuple #[.agg #[.int .i64 num, v], .bool (fstB num l x3 id), .int .i64 (errI num x3 id)]) ∧ Reads w' .u64 v (heard num l x3 id) ∧ (∀ g, v.ownBlock = some g → (sv.ownBlock = some g ∨ w.heap.size ≤ g) ∧ g < w'.heap.size) ∧ Below w.heap.size w w' := by
  cases h : okB num x3 id with
  | true =>
    obtain ⟨rfl, hne⟩ := okB_true h
    refine (rhear_yes x3 id x1 x2 x4 x5 x6 x7 x8 sv l w hr hl (by simp [hne])).mono ?_
    rintro e w' ⟨v, rfl, ho, hb⟩
    refine ⟨v, ?_, by simpa [heard, h] using ho.reads, fun g hg => ⟨.inr (ho.lt g hg).1, (ho.lt g hg).2⟩, hb⟩
    simp [fstB, errI, h, count_bool]
  | false =>
    refine (rhear_no num id x1 x2 x3 x4 x5 x6 x7 x8 sv l w hr (okB_false h)).mono ?_
    rintro e w' ⟨rfl, hb⟩
    exact ⟨sv, by simp [fstB, errI, h], by simpa [heard, h] using hr.below hb, fun g hg => ⟨.inl hg, Nat.lt_of_lt_of_le (hsv g hg) hb.size⟩, hb⟩

theorem phear (b : Nat) (F : Nat → Prop) (num : Int) (l : List Int) (id x1 x2 x3 x4 x5 x6 x7 x8 : Int) (w : World) (hp : PartyIs w b F num l) (hid : (Lit.int .u64 id).wf = true) (hl : l.length ≤ 100000) :
    Calls Try.prog 12 #[.pointer (some ⟨b, 0, none⟩), .agg #[.int .u64 id, .int .u64 x1, .int .i64 x2, .int .i64 x3, .int .i64 x4, .int .i64 x5, .int .i64 x6, .int .i64 x7, .int .i64 x8]] w
      fun e w' => e = .returned (.tuple #[.bool (fstB num l x3 id), .int .i64 (errI num x3 id)]) ∧ PartyIs w' b (fun k => F k ∨ w.heap.size ≤ k) num (heard num l x3 id) ∧ Kept w w' F := by
  cases h : okB num x3 id with
  | true =>
    obtain ⟨rfl, hne⟩ := okB_true h
    by_cases hc : l.count id = 0
    · refine (phear_first b F x3 l id x1 x2 x4 x5 x6 x7 x8 w hp hid (by simp [hne]) hl hc).mono ?_
      rintro e w' ⟨rfl, h1, h2⟩
      exact ⟨by simp [fstB, errI, h, hc], by simpa [heard, h] using h1, h2⟩
    · refine (phear_again b F x3 l id x1 x2 x4 x5 x6 x7 x8 w hp hid (by simp [hne]) hl hc).mono ?_
      rintro e w' ⟨rfl, h1, h2⟩
      exact ⟨by simp [fstB, errI, h, hc], by simpa [heard, h] using h1, h2⟩
  | false =>
    have fin : ∀ (e : Ending) (w' : World), (e = .returned (.tuple #[.bool false, .int .i64 2]) ∧ Below w.heap.size w w') → (e = .returned (.tuple #[.bool (fstB num l x3 id), .int .i64 (errI num x3 id)]) ∧ PartyIs w' b (fun k => F k ∨ w.heap.size ≤ k) num (heard num l x3 id) ∧ Kept w w' F) := by
      rintro e w' ⟨rfl, hb⟩
      refine ⟨by simp [fstB, errI, h], ?_, Kept.of_below hb fun k h1 h2 => by omega⟩
      obtain ⟨bm, n, D, v, q⟩ := hp.below hb
      rw [show heard num l x3 id = l by simp [heard, h]]
      exact ⟨bm, n, D, v, q.c0, q.c1, q.c2, q.f2, q.map, q.nl, q.look, q.row, q.wf, .inl q.fb, .inl q.fm, fun g hg => .inl (q.fv g hg), q.nb, q.nv⟩
    rcases okB_false h with h1 | rfl
    · exact (phear_party b F num l id x1 x2 x3 x4 x5 x6 x7 x8 w hp h1).mono fin
    · exact (phear_zero b F num l x1 x2 x3 x4 x5 x6 x7 x8 w hp).mono fin

theorem PartyIs.cap {w : World} {b : Nat} {F : Nat → Prop} {num : Int} {l : List Int} (h : PartyIs w b F num l) : PartyIs w b (fun k => F k ∧ k < w.heap.size) num l := by
  obtain ⟨bm, n, D, v, q⟩ := h
  exact ⟨bm, n, D, v, q.c0, q.c1, q.c2, q.f2, q.map, q.nl, q.look, q.row, q.wf, ⟨q.fb, World.block_lt_of_cell? _ _ q.c0⟩, ⟨q.fm, q.map.lt⟩, fun g hg => ⟨q.fv g hg, (q.row.lt g hg).2⟩, q.nb, q.nv⟩
end Go.Proofs.Ytcccgcemgikkfaa
