/- The law of Read; no conditions. -/
import Derived.Test.YtofhccpagnkalaaLiv
import Derived.Test.YtofhccpagnkalaaRdEq
namespace Go.Proofs.Ytofhccpagnkalaa
open Go.RowKit Go.Maps Go.Proofs.Own

set_option maxHeartbeats 1000000 in
theorem reads_long (a : Option Addr) (n c : Nat) (w : World) (hn : 40000 < n) : Calls Try.prog 3 #[.slice a n c] w fun e w' => e = .returned (.bool true) ∧ Below w.heap.size w w' := by
  have hn' : (40000 : Int) < (n : Int) := by omega
  go_enter Try.func3, Try.ntmps3
  go_wp2_with fail
  refine (lives_any w).mono ?_
  rintro e w1 ⟨rfl, hb⟩
  have HB := Lib.hid hb
  clear hb
  go_wp2_with fail
  go_ret
  exact ⟨rfl, HB.out⟩

set_option maxHeartbeats 2000000 in
set_option maxRecDepth 20000 in
theorem reads_short (v : Value) (l : List Nat) (w : World) (hB : Bytes w v l) (hn : l.length ≤ 40000) : Calls Try.prog 3 #[v] w fun e w' => e = .returned (.bool true) ∧ Below w.heap.size w w' := by
  have HB := Lib.hid hB
  obtain ⟨a, c, rfl, _⟩ := hB.shape
  have hn' : ¬ (40000 : Int) < (l.length : Int) := by omega
  clear hB
  go_enter Try.func3, Try.ntmps3
  go_wp2_with fail
  refine (pread_any _ l w HB.out).mono ?_
  rintro e w1 ⟨v1, rfl, hs1, hb1⟩
  have S1 := Lib.hid hs1
  have B1 := Lib.hid hb1
  obtain ⟨mv1, dv1, rfl, hm1, hd1⟩ := hs1
  obtain ⟨am1, cm1, rfl, _⟩ := hm1.shape
  obtain ⟨ad1, cd1, rfl, _⟩ := hd1.shape
  clear hb1 hm1 hd1
  go_wp2_with fail
  have SG1 := SBlk.box w1 (readS 7 l).i (readS 7 l).t (.slice am1 (readS 7 l).ms.length cm1) (.slice ad1 (readS 7 l).d.length cd1)
  have hbg : Below w1.heap.size w1 (w1.alloc (.cells #[.int .u64 (readS 7 l).i, .int .u64 (readS 7 l).t, .slice am1 (readS 7 l).ms.length cm1, .slice ad1 (readS 7 l).d.length cd1] 27)) := (Below.refl _ _).alloc (Nat.le_refl _) _
  generalize World.alloc w1 _ = w2 at *
  have G2 := Lib.hid SG1
  have S2 := Lib.hid (S1.out.below hbg)
  have B2 : Hid (Below w.heap.size w w2) := Lib.hid (B1.out.trans (hbg.mono B1.out.size))
  have HB2 := Lib.hid (HB.out.below B2.out)
  clear SG1 hbg
  generalize w1.heap.size = p1 at *
  refine (rread_any _ l w2 HB2.out).mono ?_
  rintro e w3 ⟨v3, rfl, hs3, hb3⟩
  rw [readS67] at hs3
  rw [readB67]
  have S3 := Lib.hid hs3
  have G3 := Lib.hid (G2.out.below hb3)
  have T3 := Lib.hid (S2.out.below hb3)
  have B3 : Hid (Below w.heap.size w w3) := Lib.hid (B2.out.trans (hb3.mono B2.out.size))
  obtain ⟨mv3, dv3, rfl, hm3, hd3⟩ := hs3
  obtain ⟨am3, cm3, rfl, _⟩ := hm3.shape
  obtain ⟨ad3, cd3, rfl, _⟩ := hd3.shape
  clear hb3 hm3 hd3
  have HSM : Hid ((readS 7 l).sameB (readS 7 l) = true) := Lib.hid (decide_eq_true (SnapS.same_iff.2 rfl))
  generalize readS 7 l = s at *
  generalize readB 7 l = ok at *
  have SG4 := SBlk.box w3 s.i s.t (.slice am3 s.ms.length cm3) (.slice ad3 s.d.length cd3)
  have hbg4 : Below w3.heap.size w3 (w3.alloc (.cells #[.int .u64 s.i, .int .u64 s.t, .slice am3 s.ms.length cm3, .slice ad3 s.d.length cd3] 27)) := (Below.refl _ _).alloc (Nat.le_refl _) _
  have hok : (ok == ok) = true := by simp
  have k1 := G3.out.below hbg4
  obtain ⟨q0, q1, q2, q3, _, _, _, _⟩ := k1
  go_wp2_with fail
  have T4 := Lib.hid (T3.out.below hbg4)
  have S4 := Lib.hid (S3.out.below hbg4)
  have B4 : Hid (Below w.heap.size w (w3.alloc (.cells #[.int .u64 s.i, .int .u64 s.t, .slice am3 s.ms.length cm3, .slice ad3 s.d.length cd3] 27))) := Lib.hid (B3.out.trans (hbg4.mono B3.out.size))
  refine (rsame_any _ _ s s _ T4.out S4.out).mono ?_
  rintro e w5 ⟨rfl, hb5⟩
  have B5 : Hid (Below w.heap.size w w5) := Lib.hid (B4.out.trans (hb5.mono B4.out.size))
  clear hb5 q0 q1 q2 q3 SG4 hbg4
  rw [HSM.out]
  go_wp2_with fail
  refine (lives_any w5).mono ?_
  rintro e w6 ⟨rfl, hb6⟩
  have B6 : Hid (Below w.heap.size w w6) := Lib.hid (B5.out.trans (hb6.mono B5.out.size))
  clear hb6
  go_wp2_with fail
  go_ret
  exact ⟨rfl, B6.out⟩
end Go.Proofs.Ytofhccpagnkalaa
