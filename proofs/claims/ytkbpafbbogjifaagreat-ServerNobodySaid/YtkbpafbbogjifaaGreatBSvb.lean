/- What Light tells of one call; no conditions. -/
import Derived.Test.YtkbpafbbogjifaaGreatBSva
namespace Go.Proofs.YtkbpafbbogjifaaGreat
open Go.RowKit Go.Maps Go.Proofs.Own

theorem ROk.below {w w' : World} {r : ROp} (h : ROk w r) {n0 : Nat} (hn : w.heap.size ≤ n0) (hb : Below n0 w w') (hs : w.heap.size ≤ w'.heap.size) : ROk w' r := let ⟨es, he, hl⟩ := h; ⟨es, he.below hn hb hs, hl⟩
theorem below_cell {n0 : Nat} {w w' : World} {a : Addr} {v : Value} (hb : Below n0 w w') (h : w.cell? a = some v) (ha : a.block < n0) : w'.cell? a = some v := by
  rw [World.cell?_of_block (w' := w') (w := w) (a := a) (hb.block a.block ha)]
  exact h
/-- Something is told, and memory grows. -/
def AnyB (w : World) (e : Ending) (w' : World) : Prop := ∃ b : Bool, e = .returned (.bool b) ∧ Below w.heap.size w w'
def msW (r : ROp) (w : World) : World := w.alloc (.cells #[.int .i64 r.mq, .int .i64 r.mf, .int .i64 r.mt, .int .u64 r.tm, .int .u64 r.ix, .int .u64 r.lt, .int .u64 r.cm, .int .u64 r.rd, .bool r.ok, .bool r.fo, .slice r.eva r.evn r.evc, .int .u64 r.si, .int .u64 r.st, .slice r.mva r.mvn r.mvc, .slice r.sva r.svn r.svc] 29)
set_option maxHeartbeats 1600000 in
set_option maxRecDepth 20000 in
theorem ml_any (r : ROp) (w : World) (h : ROk w r) : Calls Tryz.prog 20 #[.agg #[.int .i64 r.mq, .int .i64 r.mf, .int .i64 r.mt, .int .u64 r.tm, .int .u64 r.ix, .int .u64 r.lt, .int .u64 r.cm, .int .u64 r.rd, .bool r.ok, .bool r.fo, .slice r.eva r.evn r.evc, .int .u64 r.si, .int .u64 r.st, .slice r.mva r.mvn r.mvc, .slice r.sva r.svn r.svc]] w (AnyB w) := by
  obtain ⟨es, hes, hmx⟩ := h
  unfold maxLen at hmx
  obtain ⟨k, n, nw, id, fo2, mq, mf, mt, tm, ix, lt, cm, rd, ok, fo, eva, evn, evc, si, st, mva, mvn, mvc, sva, svn, svc, lva, lvn, lvc, dva, dvn, dvc, tva, tvn, tvc⟩ := r
  simp only at hes ⊢
  obtain ⟨_, _, hsh, _⟩ := hes.shape
  simp only [List.length_map, Value.slice.injEq] at hsh
  obtain ⟨q1, hn, q2⟩ := hsh
  clear q1 q2
  rw [← hn] at hmx
  have HN := Lib.hid hn
  have HE := Lib.hid hes
  clear hes hn
  obtain ⟨W1, hW1⟩ : ∃ W1 : World, W1 = w.alloc (.cells #[.int .i64 mq, .int .i64 mf, .int .i64 mt, .int .u64 tm, .int .u64 ix, .int .u64 lt, .int .u64 cm, .int .u64 rd, .bool ok, .bool fo, .slice eva evn evc, .int .u64 si, .int .u64 st, .slice mva mvn mvc, .slice sva svn svc] 29) := ⟨_, rfl⟩
  have S1 : W1.heap.size = w.heap.size + 1 := by subst hW1; simp
  have B1 : Hid (Below w.heap.size w W1) := Lib.hid (by subst hW1; exact (Below.refl _ _).alloc (Nat.le_refl _) _)
  have C10 : Hid (W1.cell? ⟨w.heap.size, 10, none⟩ = some (.slice eva evn evc)) := Lib.hid (by subst hW1; go_cell)
  have C13 : Hid (W1.cell? ⟨w.heap.size, 13, none⟩ = some (.slice mva mvn mvc)) := Lib.hid (by subst hW1; go_cell)
  have C14 : Hid (W1.cell? ⟨w.heap.size, 14, none⟩ = some (.slice sva svn svc)) := Lib.hid (by subst hW1; go_cell)
  have HW := Lib.hid hW1
  clear hW1
  go_enter Tryz.func20, Tryz.ntmps20
  go_wp2_with fail
  rw [← HW.out]
  go_loopw [8] (fun i wr => ∃ j : Nat, i = .int .i64 j ∧ j ≤ evn ∧ Below (w.heap.size + 1) W1 wr ∧ W1.heap.size ≤ wr.heap.size) (fun i _ => evn - (intOf i).toNat)
  case atStart => exact ⟨0, rfl, Nat.zero_le _, Below.refl _ _, Nat.le_refl _⟩
  case round =>
    obtain ⟨j, rfl, hj, hb, hs⟩ := hrel
    have BR := Lib.hid hb
    have SR := Lib.hid hs
    have c10 := below_cell hb C10.out (Nat.lt_succ_self _)
    have c13 := below_cell hb C13.out (Nat.lt_succ_self _)
    have c14 := below_cell hb C14.out (Nat.lt_succ_self _)
    have BB : Hid (Below w.heap.size w _) := Lib.hid (B1.out.trans (hb.mono (Nat.le_succ _)))
    clear hb hs
    by_cases hlt : j < evn
    · have hjl : j < (es.map enV).length := by
        rw [List.length_map]
        have := HN.out
        omega
      obtain ⟨b, o, rfl, hbl, hc⟩ := (HE.out.below (Nat.le_refl _) BB.out BB.out.size).at hjl
      obtain ⟨⟨et, ek, ea, en, ec⟩, he⟩ : ∃ e, e = es[j]'(by simpa using hjl) := ⟨_, rfl⟩
      rw [List.getElem_map, ← he] at hc
      have x0 := hc 0 _ rfl
      have x1 := hc 1 _ rfl
      have x2 := hc 2 _ rfl
      rw [Nat.add_zero] at x0
      simp only at x2
      clear he hc
      by_cases h5 : en ≤ 5000
      · have b1 : ¬ (5000 : Int) < (en : Int) := by omega
        go_wp2_with fail
        go_roundw
        case rel =>
          refine ⟨j + 1, by first | rfl | go_num, by omega, ?_, ?_⟩
          · exact BR.out.alloc (by rw [← S1]; exact SR.out) _
          · have := SR.out
            simp only [World.size_alloc]
            omega
        all_goals (show evn - ((j : Int) + 1).toNat < evn - ((j : Int)).toNat; omega)
      · have b1 : (5000 : Int) < (en : Int) := by omega
        go_wp2_with fail
        go_ret
        exact ⟨_, rfl, BB.out.alloc BB.out.size _⟩
    · obtain rfl : j = evn := by omega
      by_cases h1 : j ≤ 20
      · have b1 : (j : Int) ≤ 20 := by omega
        by_cases h2 : mvn ≤ 30
        · have b2 : (mvn : Int) ≤ 30 := by omega
          by_cases h3 : svn ≤ 33000
          · have b3 : (svn : Int) ≤ 33000 := by omega
            go_wp2_with fail
            go_ret
            exact ⟨_, rfl, BB.out⟩
          · have b3 : ¬ (svn : Int) ≤ 33000 := by omega
            go_wp2_with fail
            go_ret
            exact ⟨_, rfl, BB.out⟩
        · have b2 : ¬ (mvn : Int) ≤ 30 := by omega
          go_wp2_with fail
          go_ret
          exact ⟨_, rfl, BB.out⟩
      · have b1 : ¬ (j : Int) ≤ 20 := by omega
        go_wp2_with fail
        go_ret
        exact ⟨_, rfl, BB.out⟩
end Go.Proofs.YtkbpafbbogjifaaGreat
