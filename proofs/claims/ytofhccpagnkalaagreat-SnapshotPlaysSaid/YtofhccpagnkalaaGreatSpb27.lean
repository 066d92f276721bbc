/- Several texts in one: Rp, Rq, Rs, Fl, Sm, Voa, Sk, Sop, Sgt. What each proves stands ahead of it; together they serve splays_law_holds. No conditions but those stated. -/
import Derived.Test.YtofhccpagnkalaaGreatSpb25
import Derived.Test.YtofhccpagnkalaaGreatSpb26
import Derived.Test.YtofhccpagnkalaaGreatSpb10
import Derived.Test.YtofhccpagnkalaaGreatSpb7
import Derived.Test.YtofhccpagnkalaaGreatSpb24
import Derived.Test.YtofhccpagnkalaaGreatSpb23
import Derived.Test.YtofhccpagnkalaaGreatSpb19
import Derived.Test.YtofhccpagnkalaaGreatSpb15
import Derived.Test.YtofhccpagnkalaaGreatSpb18
import Derived.Test.YtofhccpagnkalaaGreatSpb17
/- The document's disk: Append; contracts; no conditions but the ranges. -/
namespace Go.Proofs.YtofhccpagnkalaaGreat
open Go.RowKit Go.Maps Go.Proofs.Own

theorem rwith_0 (a : Option Addr) (k c : Nat) (D : DiskS) (n : ByteArray) (bs : List Nat) (w : World) (hn : D.files.length = k) (hr : SRow w 3 (.slice a k c) (D.files.map rfV)) (hm : D.files.length ≤ 1000) : Calls Tryz.prog 40 #[.agg #[.int .i64 D.room, .slice a k c, .bool D.down, .int .i64 D.armed, .int .u64 D.steps], .agg #[.string n, .string (strN bs), .int .i64 0]] w (RNew { D with files := putFile ⟨n, bs, 0⟩ D.files } w) := by
  have h := rwith_n a k c D ⟨n, bs, 0⟩ w hn hr hm
  simpa only [Int.natCast_zero] using h
theorem stepE_eq (D : DiskS) : stepE D = if D.armed = 0 then 50 else 0 := rfl
set_option maxHeartbeats 3000000 in
set_option maxRecDepth 20000 in
theorem rappend_new (v : Value) (D : DiskS) (n : ByteArray) (bs : List Nat) (w : World) (h : RIs w v D) (hg : DGood D) (hn : n.size ≤ 9223372036854775807) (hbs : bs.length ≤ 2097152) : Calls Tryz.prog 11 #[v, .string n, .string (strN bs)] w (RPostN (appendD D n bs) v w) := by
  obtain ⟨a, c, rfl, hr⟩ := h
  obtain ⟨room, L, down, armed, steps⟩ := D
  have HG := Lib.hid hg
  simp only at hr ⊢
  have HR := Lib.hid hr
  obtain ⟨m, hlm⟩ : ∃ m, L.length = m := ⟨_, rfl⟩
  have HL := Lib.hid hlm
  rw [hlm] at HR ⊢
  have HM : Hid (L.length ≤ 1000) := Lib.hid (by have := hg.few; simp only at this; omega)
  have HA : Hid ((0 ≤ steps ∧ steps ≤ 1000000000) ∧ -1 ≤ armed ∧ armed ≤ 9223372036854775807) := Lib.hid ⟨⟨hg.wf.steps0, hg.wf.steps1⟩, hg.wf.armed0, hg.wf.armed1⟩
  have hm1000 : (m : Int) ≤ 1000 := by have := HM.out; omega
  clear hr hlm hg
  have HGE : Hid (∀ fl ∈ L, fl.all.length ≤ 1048576) := Lib.hid (fun fl hfl => by have h1 := HG.out.tot; simp only at h1; obtain ⟨i, hi⟩ := List.getElem?_of_mem hfl; have h2 := total_snoc hi; have h3 := total_take L (i + 1); omega)
  have BX := (RD.box w ⟨room, L, down, armed, steps⟩ (.slice a m c)).below ((Below.refl _ _).alloc (Nat.le_refl _) (.cells #[.int .i64 0, .slice none 0 0, .bool false, .int .i64 0, .int .u64 0] 29))
  have BZ := RD.zero (w.alloc (.cells #[.int .i64 room, .slice a m c, .bool down, .int .i64 armed, .int .u64 steps] 29))
  have hsz : (w.alloc (.cells #[.int .i64 room, .slice a m c, .bool down, .int .i64 armed, .int .u64 steps] 29)).heap.size = w.heap.size + 1 := by simp
  simp only at BX
  rw [hsz] at BZ
  have B1 : Hid (Below w.heap.size w ((w.alloc (.cells #[.int .i64 room, .slice a m c, .bool down, .int .i64 armed, .int .u64 steps] 29)).alloc (.cells #[.int .i64 0, .slice none 0 0, .bool false, .int .i64 0, .int .u64 0] 29))) := Lib.hid (((Below.refl _ _).alloc (Nat.le_refl _) _).alloc (by simp) _)
  clear hsz
  cases down
  · go_enter Tryz.func11, Tryz.ntmps11
    go_wp2_with fail
    generalize World.alloc (World.alloc w _) _ = w1 at *
    have X1 := Lib.hid BX
    have Z1 := Lib.hid BZ
    have LZ := BZ.lt
    clear BX BZ
    refine (rnamed_any n w1 hn).mono ?_
    rintro e w1' ⟨rfl, rfl⟩
    cases hnm : isName n
    · have hnp : ¬ (1 ≤ n.size ∧ n.size ≤ 16) := of_decide_eq_false hnm
      have HV : Hid (appendD ⟨room, L, false, armed, steps⟩ n bs = (⟨room, L, false, armed, steps⟩, 2)) := Lib.hid (by unfold appendD; rw [show appE ⟨room, L, false, armed, steps⟩ n bs = 2 by unfold appE; rw [if_neg (by simp), if_pos hnp], if_pos (by decide)])
      clear hnp hnm
      obtain ⟨r0, r1, r2, r3, r4, f0, f1, f2, f3, f4⟩ := X1.out
      obtain ⟨z0, z1, z2, z3, z4, g0, g1, g2, g3, g4⟩ := Z1.out
      have hlx := X1.out.lt
      have hlz := Z1.out.lt
      have RFF := Lib.hid (Z1.out.set ⟨room, [], false, armed, steps⟩ (.slice a m c))
      have BF := Lib.hid (B1.out.trans ((Kept.set5D w1 (w.heap.size + 1) ⟨room, [], false, armed, steps⟩ (.slice a m c)).below B1.out.size (fun k hk => by omega)))
      unfold set5D at RFF BF
      simp only at RFF BF
      go_wp2_with fail
      generalize (((((w1.setCell ⟨w.heap.size + 1, 0, none⟩ (.int .i64 room)).setCell ⟨w.heap.size + 1, 1, none⟩ (.slice a m c)).setCell ⟨w.heap.size + 1, 2, none⟩ (.bool false)).setCell ⟨w.heap.size + 1, 3, none⟩ (.int .i64 armed)).setCell ⟨w.heap.size + 1, 4, none⟩ (.int .u64 steps)) = wF at *
      obtain ⟨q0, q1, q2, q3, q4, _⟩ := RFF.out
      simp only at q0 q1 q2 q3 q4
      refine bodyPost_ret (v := .tuple #[.agg #[.int .i64 room, (.slice a m c), .bool false, .int .i64 armed, .int .u64 steps], .int .i64 2]) (by simp [results, Tryz.results11, go_sem, q0, q1, q2, q3, q4]) rfl ?_
      rw [HV.out]
      exact ⟨_, rfl, RIs.new (D := ⟨room, L, false, armed, steps⟩) HL.out (HR.out.below BF.out), BF.out, by first | exact fun g hg => .inl hg | (intro g hg; first | exact (F3.out g hg).imp id (fun h => by have := L3.out; omega) | (right; first | (have h5 := N6.out g hg; have h6 := L6.out; omega) | (have h5 := N5.out g hg; have h6 := L5.out; omega)))⟩
    · have hnp : ¬ ¬ (1 ≤ n.size ∧ n.size ≤ 16) := not_not_intro (of_decide_eq_true hnm)
      have HNP := Lib.hid hnp
      clear hnp hnm
      obtain ⟨r0, r1, r2, r3, r4, f0, f1, f2, f3, f4⟩ := X1.out
      obtain ⟨z0, z1, z2, z3, z4, g0, g1, g2, g3, g4⟩ := Z1.out
      have hlx := X1.out.lt
      have hlz := Z1.out.lt
      go_wp2_with fail
      clear r0 r1 r2 r3 r4 f0 f1 f2 f3 f4 z0 z1 z2 z3 z4 g0 g1 g2 g3 g4 hlx hlz
      refine (rfind_any _ ⟨room, L, false, armed, steps⟩ n w1 (RIs.new HL.out (HR.out.below B1.out)) HM.out).mono ?_
      rintro e w2 ⟨rfl, hb2⟩
      have X2 := Lib.hid (X1.out.below hb2)
      have Z2 := Lib.hid (Z1.out.below hb2)
      have B2 : Hid (Below w.heap.size w w2) := Lib.hid (B1.out.trans (hb2.mono B1.out.size))
      clear hb2
      have hbl : ((strN bs).size : Int) = (bs.length : Int) := by rw [size_strN]
      have hbs2 : (bs.length : Int) ≤ 2097152 := by omega
      have hss2 := size_strN bs
      cases hf : findFile n L with
      | none =>
        have hI : findI n L = -1 := findI_none.2 hf
        rw [hI]
        have HF := Lib.hid (show findFile n (⟨room, L, false, armed, steps⟩ : DiskS).files = none from hf)
        clear hI hf
        by_cases h128 : 128 ≤ m
        · have h128b : (128 : Int) ≤ (m : Int) := by omega
          have HV : Hid (appendD ⟨room, L, false, armed, steps⟩ n bs = (⟨room, L, false, armed, steps⟩, 30)) := Lib.hid (by unfold appendD; rw [show appE ⟨room, L, false, armed, steps⟩ n bs = 30 by unfold appE; rw [if_neg (by simp), if_neg HNP.out, if_pos (.inl ⟨HF.out, by have := HL.out; simp only; omega⟩)], if_pos (by decide)])
          obtain ⟨r0, r1, r2, r3, r4, f0, f1, f2, f3, f4⟩ := X2.out
          obtain ⟨z0, z1, z2, z3, z4, g0, g1, g2, g3, g4⟩ := Z2.out
          have hlx := X2.out.lt
          have hlz := Z2.out.lt
          have RFF := Lib.hid (Z2.out.set ⟨room, [], false, armed, steps⟩ (.slice a m c))
          have BF := Lib.hid (B2.out.trans ((Kept.set5D w2 (w.heap.size + 1) ⟨room, [], false, armed, steps⟩ (.slice a m c)).below B2.out.size (fun k hk => by omega)))
          unfold set5D at RFF BF
          simp only at RFF BF
          go_wp2_with fail
          generalize (((((w2.setCell ⟨w.heap.size + 1, 0, none⟩ (.int .i64 room)).setCell ⟨w.heap.size + 1, 1, none⟩ (.slice a m c)).setCell ⟨w.heap.size + 1, 2, none⟩ (.bool false)).setCell ⟨w.heap.size + 1, 3, none⟩ (.int .i64 armed)).setCell ⟨w.heap.size + 1, 4, none⟩ (.int .u64 steps)) = wF at *
          obtain ⟨q0, q1, q2, q3, q4, _⟩ := RFF.out
          simp only at q0 q1 q2 q3 q4
          refine bodyPost_ret (v := .tuple #[.agg #[.int .i64 room, (.slice a m c), .bool false, .int .i64 armed, .int .u64 steps], .int .i64 30]) (by simp [results, Tryz.results11, go_sem, q0, q1, q2, q3, q4]) rfl ?_
          rw [HV.out]
          exact ⟨_, rfl, RIs.new (D := ⟨room, L, false, armed, steps⟩) HL.out (HR.out.below BF.out), BF.out, by first | exact fun g hg => .inl hg | (intro g hg; first | exact (F3.out g hg).imp id (fun h => by have := L3.out; omega) | (right; first | (have h5 := N6.out g hg; have h6 := L6.out; omega) | (have h5 := N5.out g hg; have h6 := L5.out; omega)))⟩
        · have h128b : ¬ (128 : Int) ≤ (m : Int) := by omega
          obtain ⟨r0, r1, r2, r3, r4, f0, f1, f2, f3, f4⟩ := X2.out
          obtain ⟨z0, z1, z2, z3, z4, g0, g1, g2, g3, g4⟩ := Z2.out
          have hlx := X2.out.lt
          have hlz := Z2.out.lt
          go_wp2_with fail
          clear r0 r1 r2 r3 r4 f0 f1 f2 f3 f4 z0 z1 z2 z3 z4 g0 g1 g2 g3 g4 hlx hlz
          refine (rfree_any _ ⟨room, L, false, armed, steps⟩ w2 (RIs.new HL.out (HR.out.below B2.out)) HG.out).mono ?_
          rintro e w3 ⟨rfl, hb3⟩
          have X3 := Lib.hid (X2.out.below hb3)
          have Z3 := Lib.hid (Z2.out.below hb3)
          have B3 : Hid (Below w.heap.size w w3) := Lib.hid (B2.out.trans (hb3.mono B2.out.size))
          clear hb3
          obtain ⟨fr, hfr⟩ : ∃ fr, freeD ⟨room, L, false, armed, steps⟩ = fr := ⟨_, rfl⟩
          have HFR := Lib.hid hfr
          rw [hfr]
          clear hfr
          by_cases hfu : fr < (bs.length : Int)
          · have HV : Hid (appendD ⟨room, L, false, armed, steps⟩ n bs = (⟨room, L, false, armed, steps⟩, 30)) := Lib.hid (by unfold appendD; rw [show appE ⟨room, L, false, armed, steps⟩ n bs = 30 by unfold appE; rw [if_neg (by simp), if_neg HNP.out, if_pos (.inr (by rw [HFR.out]; exact hfu))], if_pos (by decide)])
            obtain ⟨r0, r1, r2, r3, r4, f0, f1, f2, f3, f4⟩ := X3.out
            obtain ⟨z0, z1, z2, z3, z4, g0, g1, g2, g3, g4⟩ := Z3.out
            have hlx := X3.out.lt
            have hlz := Z3.out.lt
            have RFF := Lib.hid (Z3.out.set ⟨room, [], false, armed, steps⟩ (.slice a m c))
            have BF := Lib.hid (B3.out.trans ((Kept.set5D w3 (w.heap.size + 1) ⟨room, [], false, armed, steps⟩ (.slice a m c)).below B3.out.size (fun k hk => by omega)))
            unfold set5D at RFF BF
            simp only at RFF BF
            go_wp2_with fail
            generalize (((((w3.setCell ⟨w.heap.size + 1, 0, none⟩ (.int .i64 room)).setCell ⟨w.heap.size + 1, 1, none⟩ (.slice a m c)).setCell ⟨w.heap.size + 1, 2, none⟩ (.bool false)).setCell ⟨w.heap.size + 1, 3, none⟩ (.int .i64 armed)).setCell ⟨w.heap.size + 1, 4, none⟩ (.int .u64 steps)) = wF at *
            obtain ⟨q0, q1, q2, q3, q4, _⟩ := RFF.out
            simp only at q0 q1 q2 q3 q4
            refine bodyPost_ret (v := .tuple #[.agg #[.int .i64 room, (.slice a m c), .bool false, .int .i64 armed, .int .u64 steps], .int .i64 30]) (by simp [results, Tryz.results11, go_sem, q0, q1, q2, q3, q4]) rfl ?_
            rw [HV.out]
            exact ⟨_, rfl, RIs.new (D := ⟨room, L, false, armed, steps⟩) HL.out (HR.out.below BF.out), BF.out, by first | exact fun g hg => .inl hg | (intro g hg; first | exact (F3.out g hg).imp id (fun h => by have := L3.out; omega) | (right; first | (have h5 := N6.out g hg; have h6 := L6.out; omega) | (have h5 := N5.out g hg; have h6 := L5.out; omega)))⟩
          · have HAE : Hid (appE ⟨room, L, false, armed, steps⟩ n bs = 0) := Lib.hid (by unfold appE; rw [if_neg (by simp), if_neg HNP.out, if_neg (fun h => h.elim (fun h => h128 (by have h1 := h.2; have h2 := HL.out; simp only at h1; omega)) (fun h => by rw [HFR.out] at h; omega))])
            have HAP : Hid (appD ⟨room, L, false, armed, steps⟩ n bs = ⟨room, (putFile ⟨n, bs, 0⟩ L), false, armed, steps⟩) := Lib.hid (by unfold appD; rw [getF_none HF.out]; rfl)
            obtain ⟨r0, r1, r2, r3, r4, f0, f1, f2, f3, f4⟩ := X3.out
            obtain ⟨z0, z1, z2, z3, z4, g0, g1, g2, g3, g4⟩ := Z3.out
            have hlx := X3.out.lt
            have hlz := Z3.out.lt
            have hcat : (⟨#[]⟩ : ByteArray) ++ strN bs = strN bs := strN_app [] bs
            have hcl : ((⟨#[]⟩ : ByteArray).size : Int) + ((strN bs).size : Int) ≤ 9223372036854775807 := by show (0 : Int) + _ ≤ _; rw [size_strN]; omega
            have AL : Below w3.heap.size w3 (w3.alloc (.cells #[.string n, .string (strN (bs)), .int .i64 0] 96)) := (Below.refl _ _).alloc (Nat.le_refl _) _
            have X4 := Lib.hid (X3.out.below AL)
            have Z4 := Lib.hid (Z3.out.below AL)
            have B4 := Lib.hid (B3.out.trans (AL.mono B3.out.size))
            clear AL
            go_wp2_with fail
            generalize World.alloc _ _ = w4 at *
            clear r0 r1 r2 r3 r4 f0 f1 f2 f3 f4 z0 z1 z2 z3 z4 g0 g1 g2 g3 g4 hlx hlz
            clear hcat hcl
            refine (rwith_0 _ m c ⟨room, L, false, armed, steps⟩ n bs w4 HL.out (HR.out.below B4.out) HM.out).mono ?_
            rintro e w5 ⟨a6, c6, rfl, hs6, hn6, hb6⟩
            simp only at hs6 hn6 ⊢
            have X5 := Lib.hid (X4.out.below hb6)
            have Z5 := Lib.hid (Z4.out.below hb6)
            have B5 : Hid (Below w.heap.size w w5) := Lib.hid (B4.out.trans (hb6.mono B4.out.size))
            have S6 := Lib.hid hs6
            have N6 := Lib.hid hn6
            have L6 : Hid (w.heap.size + 1 < w4.heap.size) := Lib.hid Z4.out.lt
            obtain ⟨m6, hm6⟩ : ∃ k, (putFile ⟨n, bs, 0⟩ L).length = k := ⟨_, rfl⟩
            have HM6 := Lib.hid hm6
            rw [hm6] at S6 N6 ⊢
            clear hs6 hn6 hb6 hm6
            go_wp2_with fail
            refine (rstep_any ⟨room, (putFile ⟨n, bs, 0⟩ L), false, armed, steps⟩ a6 m6 c6 w5 HA.out.1.1 HA.out.1.2 HA.out.2.1 HA.out.2.2).mono ?_
            rintro e w6 ⟨rfl, hb6⟩
            have X6 := Lib.hid (X5.out.below hb6)
            have Z6 := Lib.hid (Z5.out.below hb6)
            have B6 : Hid (Below w.heap.size w w6) := Lib.hid (B5.out.trans (hb6.mono B5.out.size))
            have S7 := Lib.hid (S6.out.below hb6)
            clear hb6
            obtain ⟨S, hS, hSf, hSr⟩ := stepD_eq ⟨room, (putFile ⟨n, bs, 0⟩ L), false, armed, steps⟩
            simp only at hSf hSr
            rw [hS]
            have HS := Lib.hid hS
            have HSF := Lib.hid hSf
            have HSR := Lib.hid hSr
            clear hS hSf hSr
            obtain ⟨Sroom, SL, Sdown, Sarmed, Ssteps⟩ := S
            simp only at HSF HSR ⊢
            obtain rfl : room = Sroom := HSR.out.symm
            by_cases h0 : armed = 0
            · have hd : decide (armed ≠ 0) = false := decide_eq_false (by simpa using h0)
              have HV : Hid (appendD ⟨room, L, false, armed, steps⟩ n bs = (⟨room, SL, Sdown, Sarmed, Ssteps⟩, 50)) := Lib.hid (by unfold appendD; rw [HAE.out, if_neg (by simp), HAP.out, HS.out, stepE_eq]; simp only; rw [if_pos h0])
              rw [hd]
              clear h0
              obtain ⟨r0, r1, r2, r3, r4, f0, f1, f2, f3, f4⟩ := X6.out
              obtain ⟨z0, z1, z2, z3, z4, g0, g1, g2, g3, g4⟩ := Z6.out
              have hlx := X6.out.lt
              have hlz := Z6.out.lt
              have X7 := Lib.hid (X6.out.set ⟨room, [], Sdown, Sarmed, Ssteps⟩ (.slice a6 m6 c6))
              have KS7 := Kept.set5D w6 w.heap.size ⟨room, [], Sdown, Sarmed, Ssteps⟩ (.slice a6 m6 c6)
              have Z7 := Lib.hid (Z6.out.kept KS7 (by omega))
              have B7 := Lib.hid (B6.out.trans (KS7.below B6.out.size (fun k hk => by omega)))
              unfold set5D at X7 Z7 B7
              simp only at X7 Z7 B7
              clear KS7
              have RFF := Lib.hid (Z7.out.set ⟨room, [], Sdown, Sarmed, Ssteps⟩ (.slice a6 m6 c6))
              have BF := Lib.hid (B7.out.trans ((Kept.set5D (((((w6.setCell ⟨w.heap.size, 0, none⟩ (.int .i64 room)).setCell ⟨w.heap.size, 1, none⟩ (.slice a6 m6 c6)).setCell ⟨w.heap.size, 2, none⟩ (.bool Sdown)).setCell ⟨w.heap.size, 3, none⟩ (.int .i64 Sarmed)).setCell ⟨w.heap.size, 4, none⟩ (.int .u64 Ssteps)) (w.heap.size + 1) ⟨room, [], Sdown, Sarmed, Ssteps⟩ (.slice a6 m6 c6)).below B7.out.size (fun k hk => by omega)))
              unfold set5D at RFF BF
              simp only at RFF BF
              go_wp2_with fail
              have S8F := SRow.off (S7.out.off (Kept.set5D w6 w.heap.size ⟨room, [], Sdown, Sarmed, Ssteps⟩ (.slice a6 m6 c6)) N6.out (fun k hk => by have := L6.out; omega)) (Kept.set5D (set5D w6 w.heap.size ⟨room, [], Sdown, Sarmed, Ssteps⟩ (.slice a6 m6 c6)) (w.heap.size + 1) ⟨room, [], Sdown, Sarmed, Ssteps⟩ (.slice a6 m6 c6)) N6.out (fun k hk => by have := L6.out; omega)
              unfold set5D at S8F
              simp only at S8F
              generalize ((((((((((w6.setCell ⟨w.heap.size, 0, none⟩ (.int .i64 room)).setCell ⟨w.heap.size, 1, none⟩ (.slice a6 m6 c6)).setCell ⟨w.heap.size, 2, none⟩ (.bool Sdown)).setCell ⟨w.heap.size, 3, none⟩ (.int .i64 Sarmed)).setCell ⟨w.heap.size, 4, none⟩ (.int .u64 Ssteps)).setCell ⟨w.heap.size + 1, 0, none⟩ (.int .i64 room)).setCell ⟨w.heap.size + 1, 1, none⟩ (.slice a6 m6 c6)).setCell ⟨w.heap.size + 1, 2, none⟩ (.bool Sdown)).setCell ⟨w.heap.size + 1, 3, none⟩ (.int .i64 Sarmed)).setCell ⟨w.heap.size + 1, 4, none⟩ (.int .u64 Ssteps)) = wF at *
              obtain ⟨q0, q1, q2, q3, q4, _⟩ := RFF.out
              simp only at q0 q1 q2 q3 q4
              refine bodyPost_ret (v := .tuple #[.agg #[.int .i64 room, (.slice a6 m6 c6), .bool Sdown, .int .i64 Sarmed, .int .u64 Ssteps], .int .i64 50]) (by simp [results, Tryz.results11, go_sem, q0, q1, q2, q3, q4]) rfl ?_
              rw [HV.out]
              exact ⟨_, rfl, RIs.new (D := ⟨room, SL, Sdown, Sarmed, Ssteps⟩) (by rw [show SL = (putFile ⟨n, bs, 0⟩ L) from HSF.out]; exact HM6.out) (by rw [show SL = (putFile ⟨n, bs, 0⟩ L) from HSF.out]; exact S8F), BF.out, by first | exact fun g hg => .inl hg | (intro g hg; first | exact (F3.out g hg).imp id (fun h => by have := L3.out; omega) | (right; first | (have h5 := N6.out g hg; have h6 := L6.out; omega) | (have h5 := N5.out g hg; have h6 := L5.out; omega)))⟩
            · have hd : decide (armed ≠ 0) = true := decide_eq_true h0
              have HV : Hid (appendD ⟨room, L, false, armed, steps⟩ n bs = (⟨room, SL, Sdown, Sarmed, Ssteps⟩, 0)) := Lib.hid (by unfold appendD; rw [HAE.out, if_neg (by simp), HAP.out, HS.out, stepE_eq]; simp only; rw [if_neg h0])
              rw [hd]
              clear h0
              obtain ⟨r0, r1, r2, r3, r4, f0, f1, f2, f3, f4⟩ := X6.out
              obtain ⟨z0, z1, z2, z3, z4, g0, g1, g2, g3, g4⟩ := Z6.out
              have hlx := X6.out.lt
              have hlz := Z6.out.lt
              have X7 := Lib.hid (X6.out.set ⟨room, [], Sdown, Sarmed, Ssteps⟩ (.slice a6 m6 c6))
              have KS7 := Kept.set5D w6 w.heap.size ⟨room, [], Sdown, Sarmed, Ssteps⟩ (.slice a6 m6 c6)
              have Z7 := Lib.hid (Z6.out.kept KS7 (by omega))
              have B7 := Lib.hid (B6.out.trans (KS7.below B6.out.size (fun k hk => by omega)))
              unfold set5D at X7 Z7 B7
              simp only at X7 Z7 B7
              clear KS7
              have RFF := Lib.hid (Z7.out.set ⟨room, [], Sdown, Sarmed, Ssteps⟩ (.slice a6 m6 c6))
              have BF := Lib.hid (B7.out.trans ((Kept.set5D (((((w6.setCell ⟨w.heap.size, 0, none⟩ (.int .i64 room)).setCell ⟨w.heap.size, 1, none⟩ (.slice a6 m6 c6)).setCell ⟨w.heap.size, 2, none⟩ (.bool Sdown)).setCell ⟨w.heap.size, 3, none⟩ (.int .i64 Sarmed)).setCell ⟨w.heap.size, 4, none⟩ (.int .u64 Ssteps)) (w.heap.size + 1) ⟨room, [], Sdown, Sarmed, Ssteps⟩ (.slice a6 m6 c6)).below B7.out.size (fun k hk => by omega)))
              unfold set5D at RFF BF
              simp only at RFF BF
              go_wp2_with fail
              have S8F := SRow.off (S7.out.off (Kept.set5D w6 w.heap.size ⟨room, [], Sdown, Sarmed, Ssteps⟩ (.slice a6 m6 c6)) N6.out (fun k hk => by have := L6.out; omega)) (Kept.set5D (set5D w6 w.heap.size ⟨room, [], Sdown, Sarmed, Ssteps⟩ (.slice a6 m6 c6)) (w.heap.size + 1) ⟨room, [], Sdown, Sarmed, Ssteps⟩ (.slice a6 m6 c6)) N6.out (fun k hk => by have := L6.out; omega)
              unfold set5D at S8F
              simp only at S8F
              generalize ((((((((((w6.setCell ⟨w.heap.size, 0, none⟩ (.int .i64 room)).setCell ⟨w.heap.size, 1, none⟩ (.slice a6 m6 c6)).setCell ⟨w.heap.size, 2, none⟩ (.bool Sdown)).setCell ⟨w.heap.size, 3, none⟩ (.int .i64 Sarmed)).setCell ⟨w.heap.size, 4, none⟩ (.int .u64 Ssteps)).setCell ⟨w.heap.size + 1, 0, none⟩ (.int .i64 room)).setCell ⟨w.heap.size + 1, 1, none⟩ (.slice a6 m6 c6)).setCell ⟨w.heap.size + 1, 2, none⟩ (.bool Sdown)).setCell ⟨w.heap.size + 1, 3, none⟩ (.int .i64 Sarmed)).setCell ⟨w.heap.size + 1, 4, none⟩ (.int .u64 Ssteps)) = wF at *
              obtain ⟨q0, q1, q2, q3, q4, _⟩ := RFF.out
              simp only at q0 q1 q2 q3 q4
              refine bodyPost_ret (v := .tuple #[.agg #[.int .i64 room, (.slice a6 m6 c6), .bool Sdown, .int .i64 Sarmed, .int .u64 Ssteps], .int .i64 0]) (by simp [results, Tryz.results11, go_sem, q0, q1, q2, q3, q4]) rfl ?_
              rw [HV.out]
              exact ⟨_, rfl, RIs.new (D := ⟨room, SL, Sdown, Sarmed, Ssteps⟩) (by rw [show SL = (putFile ⟨n, bs, 0⟩ L) from HSF.out]; exact HM6.out) (by rw [show SL = (putFile ⟨n, bs, 0⟩ L) from HSF.out]; exact S8F), BF.out, by first | exact fun g hg => .inl hg | (intro g hg; first | exact (F3.out g hg).imp id (fun h => by have := L3.out; omega) | (right; first | (have h5 := N6.out g hg; have h6 := L6.out; omega) | (have h5 := N5.out g hg; have h6 := L5.out; omega)))⟩
      | some fl =>
        obtain ⟨i, hI, hLi⟩ := findI_some hf
        rw [hI]
        have hi0 : ¬ (i : Int) < 0 := by omega
        have hi1 : (0 : Int) ≤ (i : Int) := by omega
        have HF := Lib.hid (show findFile n (⟨room, L, false, armed, steps⟩ : DiskS).files = some fl from hf)
        have hfl := HGE.out fl (List.mem_of_getElem? hLi)
        obtain ⟨b, o, rfl, hbl, k0, k1, k2⟩ := HR.out.file hLi
        have FC := Lib.hid (And.intro k0 (And.intro k1 k2))
        have FL := Lib.hid hbl
        have hbx1 : ¬ b = w.heap.size := by omega
        have hbx2 : ¬ w.heap.size = b := by omega
        have hss := size_strN fl.all
        have him : (i : Int) < (m : Int) := by have h1 := (List.getElem?_eq_some_iff.1 hLi).1; have h2 := HL.out; omega
        clear k0 k1 k2 hbl
        clear hf hI hLi
        obtain ⟨r0, r1, r2, r3, r4, f0, f1, f2, f3, f4⟩ := X2.out
        obtain ⟨z0, z1, z2, z3, z4, g0, g1, g2, g3, g4⟩ := Z2.out
        have hlx := X2.out.lt
        have hlz := Z2.out.lt
        go_wp2_with fail
        clear r0 r1 r2 r3 r4 f0 f1 f2 f3 f4 z0 z1 z2 z3 z4 g0 g1 g2 g3 g4 hlx hlz
        refine (rfree_any _ ⟨room, L, false, armed, steps⟩ w2 (RIs.new HL.out (HR.out.below B2.out)) HG.out).mono ?_
        rintro e w3 ⟨rfl, hb3⟩
        have X3 := Lib.hid (X2.out.below hb3)
        have Z3 := Lib.hid (Z2.out.below hb3)
        have B3 : Hid (Below w.heap.size w w3) := Lib.hid (B2.out.trans (hb3.mono B2.out.size))
        clear hb3
        obtain ⟨fr, hfr⟩ : ∃ fr, freeD ⟨room, L, false, armed, steps⟩ = fr := ⟨_, rfl⟩
        have HFR := Lib.hid hfr
        rw [hfr]
        clear hfr
        by_cases hfu : fr < (bs.length : Int)
        · have HV : Hid (appendD ⟨room, L, false, armed, steps⟩ n bs = (⟨room, L, false, armed, steps⟩, 30)) := Lib.hid (by unfold appendD; rw [show appE ⟨room, L, false, armed, steps⟩ n bs = 30 by unfold appE; rw [if_neg (by simp), if_neg HNP.out, if_pos (.inr (by rw [HFR.out]; exact hfu))], if_pos (by decide)])
          obtain ⟨r0, r1, r2, r3, r4, f0, f1, f2, f3, f4⟩ := X3.out
          obtain ⟨z0, z1, z2, z3, z4, g0, g1, g2, g3, g4⟩ := Z3.out
          have hlx := X3.out.lt
          have hlz := Z3.out.lt
          have RFF := Lib.hid (Z3.out.set ⟨room, [], false, armed, steps⟩ (.slice (some ⟨b, o, none⟩) m c))
          have BF := Lib.hid (B3.out.trans ((Kept.set5D w3 (w.heap.size + 1) ⟨room, [], false, armed, steps⟩ (.slice (some ⟨b, o, none⟩) m c)).below B3.out.size (fun k hk => by omega)))
          unfold set5D at RFF BF
          simp only at RFF BF
          go_wp2_with fail
          generalize (((((w3.setCell ⟨w.heap.size + 1, 0, none⟩ (.int .i64 room)).setCell ⟨w.heap.size + 1, 1, none⟩ (.slice (some ⟨b, o, none⟩) m c)).setCell ⟨w.heap.size + 1, 2, none⟩ (.bool false)).setCell ⟨w.heap.size + 1, 3, none⟩ (.int .i64 armed)).setCell ⟨w.heap.size + 1, 4, none⟩ (.int .u64 steps)) = wF at *
          obtain ⟨q0, q1, q2, q3, q4, _⟩ := RFF.out
          simp only at q0 q1 q2 q3 q4
          refine bodyPost_ret (v := .tuple #[.agg #[.int .i64 room, (.slice (some ⟨b, o, none⟩) m c), .bool false, .int .i64 armed, .int .u64 steps], .int .i64 30]) (by simp [results, Tryz.results11, go_sem, q0, q1, q2, q3, q4]) rfl ?_
          rw [HV.out]
          exact ⟨_, rfl, RIs.new (D := ⟨room, L, false, armed, steps⟩) HL.out (HR.out.below BF.out), BF.out, by first | exact fun g hg => .inl hg | (intro g hg; first | exact (F3.out g hg).imp id (fun h => by have := L3.out; omega) | (right; first | (have h5 := N6.out g hg; have h6 := L6.out; omega) | (have h5 := N5.out g hg; have h6 := L5.out; omega)))⟩
        · have HAE : Hid (appE ⟨room, L, false, armed, steps⟩ n bs = 0) := Lib.hid (by unfold appE; rw [if_neg (by simp), if_neg HNP.out, if_neg (fun h => h.elim (fun h => by rw [HF.out] at h; cases h.1) (fun h => by rw [HFR.out] at h; omega))])
          have HAP : Hid (appD ⟨room, L, false, armed, steps⟩ n bs = ⟨room, (putFile { fl with all := fl.all ++ bs } L), false, armed, steps⟩) := Lib.hid (by unfold appD; rw [getF_some HF.out])
          obtain ⟨r0, r1, r2, r3, r4, f0, f1, f2, f3, f4⟩ := X3.out
          obtain ⟨z0, z1, z2, z3, z4, g0, g1, g2, g3, g4⟩ := Z3.out
          have hlx := X3.out.lt
          have hlz := Z3.out.lt
          have y0 := Below.at B3.out FC.out.1 FL.out
          have y1 := Below.at B3.out FC.out.2.1 FL.out
          have y2 := Below.at B3.out FC.out.2.2 FL.out
          have hyl : b < w3.heap.size := Nat.lt_of_lt_of_le FL.out B3.out.size
          have hcat := strN_app fl.all bs
          have hcl : ((strN fl.all).size : Int) + ((strN bs).size : Int) ≤ 9223372036854775807 := by rw [size_strN, size_strN]; omega
          have AL : Below w3.heap.size w3 (w3.alloc (.cells #[.string fl.name, .string (strN (fl.all ++ bs)), .int .i64 (fl.kept : Nat)] 96)) := (Below.refl _ _).alloc (Nat.le_refl _) _
          have X4 := Lib.hid (X3.out.below AL)
          have Z4 := Lib.hid (Z3.out.below AL)
          have B4 := Lib.hid (B3.out.trans (AL.mono B3.out.size))
          clear AL
          go_wp2_with fail
          generalize World.alloc _ _ = w4 at *
          clear r0 r1 r2 r3 r4 f0 f1 f2 f3 f4 z0 z1 z2 z3 z4 g0 g1 g2 g3 g4 hlx hlz
          clear y0 y1 y2 hyl
          clear hcat hcl
          refine (rwith_n _ m c ⟨room, L, false, armed, steps⟩ { fl with all := fl.all ++ bs } w4 HL.out (HR.out.below B4.out) HM.out).mono ?_
          rintro e w5 ⟨a6, c6, rfl, hs6, hn6, hb6⟩
          simp only at hs6 hn6 ⊢
          have X5 := Lib.hid (X4.out.below hb6)
          have Z5 := Lib.hid (Z4.out.below hb6)
          have B5 : Hid (Below w.heap.size w w5) := Lib.hid (B4.out.trans (hb6.mono B4.out.size))
          have S6 := Lib.hid hs6
          have N6 := Lib.hid hn6
          have L6 : Hid (w.heap.size + 1 < w4.heap.size) := Lib.hid Z4.out.lt
          obtain ⟨m6, hm6⟩ : ∃ k, (putFile { fl with all := fl.all ++ bs } L).length = k := ⟨_, rfl⟩
          have HM6 := Lib.hid hm6
          rw [hm6] at S6 N6 ⊢
          clear hs6 hn6 hb6 hm6
          go_wp2_with fail
          refine (rstep_any ⟨room, (putFile { fl with all := fl.all ++ bs } L), false, armed, steps⟩ a6 m6 c6 w5 HA.out.1.1 HA.out.1.2 HA.out.2.1 HA.out.2.2).mono ?_
          rintro e w6 ⟨rfl, hb6⟩
          have X6 := Lib.hid (X5.out.below hb6)
          have Z6 := Lib.hid (Z5.out.below hb6)
          have B6 : Hid (Below w.heap.size w w6) := Lib.hid (B5.out.trans (hb6.mono B5.out.size))
          have S7 := Lib.hid (S6.out.below hb6)
          clear hb6
          obtain ⟨S, hS, hSf, hSr⟩ := stepD_eq ⟨room, (putFile { fl with all := fl.all ++ bs } L), false, armed, steps⟩
          simp only at hSf hSr
          rw [hS]
          have HS := Lib.hid hS
          have HSF := Lib.hid hSf
          have HSR := Lib.hid hSr
          clear hS hSf hSr
          obtain ⟨Sroom, SL, Sdown, Sarmed, Ssteps⟩ := S
          simp only at HSF HSR ⊢
          obtain rfl : room = Sroom := HSR.out.symm
          by_cases h0 : armed = 0
          · have hd : decide (armed ≠ 0) = false := decide_eq_false (by simpa using h0)
            have HV : Hid (appendD ⟨room, L, false, armed, steps⟩ n bs = (⟨room, SL, Sdown, Sarmed, Ssteps⟩, 50)) := Lib.hid (by unfold appendD; rw [HAE.out, if_neg (by simp), HAP.out, HS.out, stepE_eq]; simp only; rw [if_pos h0])
            rw [hd]
            clear h0
            obtain ⟨r0, r1, r2, r3, r4, f0, f1, f2, f3, f4⟩ := X6.out
            obtain ⟨z0, z1, z2, z3, z4, g0, g1, g2, g3, g4⟩ := Z6.out
            have hlx := X6.out.lt
            have hlz := Z6.out.lt
            have X7 := Lib.hid (X6.out.set ⟨room, [], Sdown, Sarmed, Ssteps⟩ (.slice a6 m6 c6))
            have KS7 := Kept.set5D w6 w.heap.size ⟨room, [], Sdown, Sarmed, Ssteps⟩ (.slice a6 m6 c6)
            have Z7 := Lib.hid (Z6.out.kept KS7 (by omega))
            have B7 := Lib.hid (B6.out.trans (KS7.below B6.out.size (fun k hk => by omega)))
            unfold set5D at X7 Z7 B7
            simp only at X7 Z7 B7
            clear KS7
            have RFF := Lib.hid (Z7.out.set ⟨room, [], Sdown, Sarmed, Ssteps⟩ (.slice a6 m6 c6))
            have BF := Lib.hid (B7.out.trans ((Kept.set5D (((((w6.setCell ⟨w.heap.size, 0, none⟩ (.int .i64 room)).setCell ⟨w.heap.size, 1, none⟩ (.slice a6 m6 c6)).setCell ⟨w.heap.size, 2, none⟩ (.bool Sdown)).setCell ⟨w.heap.size, 3, none⟩ (.int .i64 Sarmed)).setCell ⟨w.heap.size, 4, none⟩ (.int .u64 Ssteps)) (w.heap.size + 1) ⟨room, [], Sdown, Sarmed, Ssteps⟩ (.slice a6 m6 c6)).below B7.out.size (fun k hk => by omega)))
            unfold set5D at RFF BF
            simp only at RFF BF
            go_wp2_with fail
            have S8F := SRow.off (S7.out.off (Kept.set5D w6 w.heap.size ⟨room, [], Sdown, Sarmed, Ssteps⟩ (.slice a6 m6 c6)) N6.out (fun k hk => by have := L6.out; omega)) (Kept.set5D (set5D w6 w.heap.size ⟨room, [], Sdown, Sarmed, Ssteps⟩ (.slice a6 m6 c6)) (w.heap.size + 1) ⟨room, [], Sdown, Sarmed, Ssteps⟩ (.slice a6 m6 c6)) N6.out (fun k hk => by have := L6.out; omega)
            unfold set5D at S8F
            simp only at S8F
            generalize ((((((((((w6.setCell ⟨w.heap.size, 0, none⟩ (.int .i64 room)).setCell ⟨w.heap.size, 1, none⟩ (.slice a6 m6 c6)).setCell ⟨w.heap.size, 2, none⟩ (.bool Sdown)).setCell ⟨w.heap.size, 3, none⟩ (.int .i64 Sarmed)).setCell ⟨w.heap.size, 4, none⟩ (.int .u64 Ssteps)).setCell ⟨w.heap.size + 1, 0, none⟩ (.int .i64 room)).setCell ⟨w.heap.size + 1, 1, none⟩ (.slice a6 m6 c6)).setCell ⟨w.heap.size + 1, 2, none⟩ (.bool Sdown)).setCell ⟨w.heap.size + 1, 3, none⟩ (.int .i64 Sarmed)).setCell ⟨w.heap.size + 1, 4, none⟩ (.int .u64 Ssteps)) = wF at *
            obtain ⟨q0, q1, q2, q3, q4, _⟩ := RFF.out
            simp only at q0 q1 q2 q3 q4
            refine bodyPost_ret (v := .tuple #[.agg #[.int .i64 room, (.slice a6 m6 c6), .bool Sdown, .int .i64 Sarmed, .int .u64 Ssteps], .int .i64 50]) (by simp [results, Tryz.results11, go_sem, q0, q1, q2, q3, q4]) rfl ?_
            rw [HV.out]
            exact ⟨_, rfl, RIs.new (D := ⟨room, SL, Sdown, Sarmed, Ssteps⟩) (by rw [show SL = (putFile { fl with all := fl.all ++ bs } L) from HSF.out]; exact HM6.out) (by rw [show SL = (putFile { fl with all := fl.all ++ bs } L) from HSF.out]; exact S8F), BF.out, by first | exact fun g hg => .inl hg | (intro g hg; first | exact (F3.out g hg).imp id (fun h => by have := L3.out; omega) | (right; first | (have h5 := N6.out g hg; have h6 := L6.out; omega) | (have h5 := N5.out g hg; have h6 := L5.out; omega)))⟩
          · have hd : decide (armed ≠ 0) = true := decide_eq_true h0
            have HV : Hid (appendD ⟨room, L, false, armed, steps⟩ n bs = (⟨room, SL, Sdown, Sarmed, Ssteps⟩, 0)) := Lib.hid (by unfold appendD; rw [HAE.out, if_neg (by simp), HAP.out, HS.out, stepE_eq]; simp only; rw [if_neg h0])
            rw [hd]
            clear h0
            obtain ⟨r0, r1, r2, r3, r4, f0, f1, f2, f3, f4⟩ := X6.out
            obtain ⟨z0, z1, z2, z3, z4, g0, g1, g2, g3, g4⟩ := Z6.out
            have hlx := X6.out.lt
            have hlz := Z6.out.lt
            have X7 := Lib.hid (X6.out.set ⟨room, [], Sdown, Sarmed, Ssteps⟩ (.slice a6 m6 c6))
            have KS7 := Kept.set5D w6 w.heap.size ⟨room, [], Sdown, Sarmed, Ssteps⟩ (.slice a6 m6 c6)
            have Z7 := Lib.hid (Z6.out.kept KS7 (by omega))
            have B7 := Lib.hid (B6.out.trans (KS7.below B6.out.size (fun k hk => by omega)))
            unfold set5D at X7 Z7 B7
            simp only at X7 Z7 B7
            clear KS7
            have RFF := Lib.hid (Z7.out.set ⟨room, [], Sdown, Sarmed, Ssteps⟩ (.slice a6 m6 c6))
            have BF := Lib.hid (B7.out.trans ((Kept.set5D (((((w6.setCell ⟨w.heap.size, 0, none⟩ (.int .i64 room)).setCell ⟨w.heap.size, 1, none⟩ (.slice a6 m6 c6)).setCell ⟨w.heap.size, 2, none⟩ (.bool Sdown)).setCell ⟨w.heap.size, 3, none⟩ (.int .i64 Sarmed)).setCell ⟨w.heap.size, 4, none⟩ (.int .u64 Ssteps)) (w.heap.size + 1) ⟨room, [], Sdown, Sarmed, Ssteps⟩ (.slice a6 m6 c6)).below B7.out.size (fun k hk => by omega)))
            unfold set5D at RFF BF
            simp only at RFF BF
            go_wp2_with fail
            have S8F := SRow.off (S7.out.off (Kept.set5D w6 w.heap.size ⟨room, [], Sdown, Sarmed, Ssteps⟩ (.slice a6 m6 c6)) N6.out (fun k hk => by have := L6.out; omega)) (Kept.set5D (set5D w6 w.heap.size ⟨room, [], Sdown, Sarmed, Ssteps⟩ (.slice a6 m6 c6)) (w.heap.size + 1) ⟨room, [], Sdown, Sarmed, Ssteps⟩ (.slice a6 m6 c6)) N6.out (fun k hk => by have := L6.out; omega)
            unfold set5D at S8F
            simp only at S8F
            generalize ((((((((((w6.setCell ⟨w.heap.size, 0, none⟩ (.int .i64 room)).setCell ⟨w.heap.size, 1, none⟩ (.slice a6 m6 c6)).setCell ⟨w.heap.size, 2, none⟩ (.bool Sdown)).setCell ⟨w.heap.size, 3, none⟩ (.int .i64 Sarmed)).setCell ⟨w.heap.size, 4, none⟩ (.int .u64 Ssteps)).setCell ⟨w.heap.size + 1, 0, none⟩ (.int .i64 room)).setCell ⟨w.heap.size + 1, 1, none⟩ (.slice a6 m6 c6)).setCell ⟨w.heap.size + 1, 2, none⟩ (.bool Sdown)).setCell ⟨w.heap.size + 1, 3, none⟩ (.int .i64 Sarmed)).setCell ⟨w.heap.size + 1, 4, none⟩ (.int .u64 Ssteps)) = wF at *
            obtain ⟨q0, q1, q2, q3, q4, _⟩ := RFF.out
            simp only at q0 q1 q2 q3 q4
            refine bodyPost_ret (v := .tuple #[.agg #[.int .i64 room, (.slice a6 m6 c6), .bool Sdown, .int .i64 Sarmed, .int .u64 Ssteps], .int .i64 0]) (by simp [results, Tryz.results11, go_sem, q0, q1, q2, q3, q4]) rfl ?_
            rw [HV.out]
            exact ⟨_, rfl, RIs.new (D := ⟨room, SL, Sdown, Sarmed, Ssteps⟩) (by rw [show SL = (putFile { fl with all := fl.all ++ bs } L) from HSF.out]; exact HM6.out) (by rw [show SL = (putFile { fl with all := fl.all ++ bs } L) from HSF.out]; exact S8F), BF.out, by first | exact fun g hg => .inl hg | (intro g hg; first | exact (F3.out g hg).imp id (fun h => by have := L3.out; omega) | (right; first | (have h5 := N6.out g hg; have h6 := L6.out; omega) | (have h5 := N5.out g hg; have h6 := L5.out; omega)))⟩
  · have HV : Hid (appendD ⟨room, L, true, armed, steps⟩ n bs = (⟨room, L, true, armed, steps⟩, 50)) := Lib.hid (by unfold appendD; rw [show appE ⟨room, L, true, armed, steps⟩ n bs = 50 by unfold appE; rw [if_pos rfl], if_pos (by decide)])
    go_enter Tryz.func11, Tryz.ntmps11
    go_wp2_with fail
    clear BX BZ
    refine bodyPost_ret (v := .tuple #[.agg #[.int .i64 room, .slice a m c, .bool true, .int .i64 armed, .int .u64 steps], .int .i64 50]) (by simp [results, Tryz.results11, go_sem]) rfl ?_
    rw [HV.out]
    exact ⟨_, rfl, RIs.new (D := ⟨room, L, true, armed, steps⟩) HL.out (HR.out.below (((Below.refl _ _).alloc (Nat.le_refl _) _).alloc (by simp) _)), ((Below.refl _ _).alloc (Nat.le_refl _) _).alloc (by simp) _, by first | exact fun g hg => .inl hg | (intro g hg; first | exact (F3.out g hg).imp id (fun h => by have := L3.out; omega) | (right; first | (have h5 := N6.out g hg; have h6 := L6.out; omega) | (have h5 := N5.out g hg; have h6 := L5.out; omega)))⟩
end Go.Proofs.YtofhccpagnkalaaGreat

/- The document's gone; contracts; no conditions but the ranges. -/
namespace Go.Proofs.YtofhccpagnkalaaGreat
open Go.RowKit Go.Maps Go.Proofs.Own

/-- A file's row lies apart from a block whose first cells are no strings. -/
theorem SRow.far {w : World} {b N : Nat} {a : Option Addr} {n c : Nat} {L : List FileS} (h : SRow w 3 (.slice a n c) (L.map rfV)) (hb : ∀ k, k < N → ∃ x, w.cell? ⟨b, k, none⟩ = some x ∧ ∀ s, x ≠ .string s) {w' : World} (hk : ∀ g k, (g = b → N ≤ k) → w'.cell? ⟨g, k, none⟩ = w.cell? ⟨g, k, none⟩) (hsz : w.heap.size ≤ w'.heap.size) : SRow w' 3 (.slice a n c) (L.map rfV) := by
  obtain ⟨a', c', e, hl, hc⟩ := h
  cases e
  refine ⟨_, _, rfl, hl, fun j hj => ?_⟩
  obtain ⟨g, o, e, h0, h1⟩ := hc j hj
  refine ⟨g, o, e, Nat.lt_of_lt_of_le h0 hsz, fun i x hx => ?_⟩
  rw [hk g _ (fun hg => ?_)]
  · exact h1 i x hx
  · subst hg
    rw [List.length_map] at hj
    have e0 : (List.map rfV L)[j]'(by rw [List.length_map]; exact hj) = rfV L[j] := by rw [List.getElem_map]
    have hi3 : i < 3 := by rw [e0] at hx; have := (List.getElem?_eq_some_iff.1 hx).1; simpa [rfV] using this
    have s0 := h1 0 (.string L[j].name) (by rw [e0]; rfl)
    have s1 := h1 1 (.string (strN L[j].all)) (by rw [e0]; rfl)
    false_or_by_contra
    rename_i hlt
    have q0 : N ≤ o + j * 3 + 0 := by
      false_or_by_contra
      rename_i h
      obtain ⟨x, hx1, hx2⟩ := hb (o + j * 3 + 0) (by omega)
      rw [s0] at hx1
      exact hx2 _ (Option.some.inj hx1).symm
    omega
theorem RD.no {w : World} {b : Nat} {D : DiskS} {fv : Value} (k : RD w b D fv) (hfv : ∀ s, fv ≠ .string s) : ∀ i, i < 5 → ∃ x, w.cell? ⟨b, i, none⟩ = some x ∧ ∀ s, x ≠ .string s := by
  intro i hi
  match i, hi with
  | 0, _ => exact ⟨_, k.c0, fun s e => by cases e⟩
  | 1, _ => exact ⟨_, k.c1, hfv⟩
  | 2, _ => exact ⟨_, k.c2, fun s e => by cases e⟩
  | 3, _ => exact ⟨_, k.c3, fun s e => by cases e⟩
  | 4, _ => exact ⟨_, k.c4, fun s e => by cases e⟩
theorem set5D_far (w : World) (b : Nat) (D : DiskS) (fv : Value) (g k : Nat) (h : g = b → 5 ≤ k) : (set5D w b D fv).cell? ⟨g, k, none⟩ = w.cell? ⟨g, k, none⟩ := by
  unfold set5D
  have hne : ∀ i, i < 5 → (⟨b, i, none⟩ : Addr) ≠ ⟨g, k, none⟩ := by
    intro i hi e
    simp only [Addr.mk.injEq, and_true] at e
    have := h e.1.symm
    omega
  rw [World.cell?_setCell_other _ _ _ _ (hne 4 (by omega)), World.cell?_setCell_other _ _ _ _ (hne 3 (by omega)), World.cell?_setCell_other _ _ _ _ (hne 2 (by omega)), World.cell?_setCell_other _ _ _ _ (hne 1 (by omega)), World.cell?_setCell_other _ _ _ _ (hne 0 (by omega))]
theorem SRow.setD {w : World} {b : Nat} {D : DiskS} {fv : Value} {a : Option Addr} {n c : Nat} {L : List FileS} (h : SRow w 3 (.slice a n c) (L.map rfV)) (k : RD w b D fv) (hfv : ∀ s, fv ≠ .string s) (D' : DiskS) (fv' : Value) : SRow (set5D w b D' fv') 3 (.slice a n c) (L.map rfV) :=
  h.far (k.no hfv) (fun g i hg => set5D_far w b D' fv' g i hg) (Kept.set5D w b D' fv').size

set_option maxHeartbeats 4000000 in
set_option maxRecDepth 20000 in
theorem rgone_new (v : Value) (D : DiskS) (n : ByteArray) (w : World) (h : RIs w v D) (hg : DGood D) (hd : D.down = false) : Calls Tryz.prog 54 #[v, .string n] w (RPostN (vgoneD D n) v w) := by
  obtain ⟨a, c, rfl, hr⟩ := h
  obtain ⟨room, L, down, armed, steps⟩ := D
  have HG := Lib.hid hg
  simp only at hr hd ⊢
  subst hd
  have HR := Lib.hid hr
  obtain ⟨m, hlm⟩ : ∃ m, L.length = m := ⟨_, rfl⟩
  have HL := Lib.hid hlm
  rw [hlm] at HR ⊢
  have HM : Hid (L.length ≤ 1000) := Lib.hid (by have := hg.few; simp only at this; omega)
  have HA : Hid ((0 ≤ steps ∧ steps ≤ 1000000000) ∧ -1 ≤ armed ∧ armed ≤ 9223372036854775807) := Lib.hid ⟨⟨hg.wf.steps0, hg.wf.steps1⟩, hg.wf.armed0, hg.wf.armed1⟩
  have hm1000 : (m : Int) ≤ 1000 := by have := HM.out; omega
  clear hr hlm hg
  have BX := (RD.box w ⟨room, L, false, armed, steps⟩ (.slice a m c)).below ((Below.refl _ _).alloc (Nat.le_refl _) (.cells #[.int .i64 0, .slice none 0 0, .bool false, .int .i64 0, .int .u64 0] 29))
  have BZ := RD.zero (w.alloc (.cells #[.int .i64 room, .slice a m c, .bool false, .int .i64 armed, .int .u64 steps] 29))
  have hsz : (w.alloc (.cells #[.int .i64 room, .slice a m c, .bool false, .int .i64 armed, .int .u64 steps] 29)).heap.size = w.heap.size + 1 := by simp
  simp only at BX
  rw [hsz] at BZ
  have B1 : Hid (Below w.heap.size w ((w.alloc (.cells #[.int .i64 room, .slice a m c, .bool false, .int .i64 armed, .int .u64 steps] 29)).alloc (.cells #[.int .i64 0, .slice none 0 0, .bool false, .int .i64 0, .int .u64 0] 29))) := Lib.hid (((Below.refl _ _).alloc (Nat.le_refl _) _).alloc (by simp) _)
  clear hsz
  go_enter Tryz.func54, Tryz.ntmps54
  go_wp2_with fail
  generalize World.alloc (World.alloc w _) _ = w1 at *
  have X1 := Lib.hid BX
  have Z1 := Lib.hid BZ
  have LZ := BZ.lt
  clear BX BZ
  refine (rfind_any _ ⟨room, L, false, armed, steps⟩ n w1 (RIs.new HL.out (HR.out.below B1.out)) HM.out).mono ?_
  rintro e w2 ⟨rfl, hb2⟩
  have X2 := Lib.hid (X1.out.below hb2)
  have Z2 := Lib.hid (Z1.out.below hb2)
  have B2 : Hid (Below w.heap.size w w2) := Lib.hid (B1.out.trans (hb2.mono B1.out.size))
  clear hb2
  cases hf : findFile n L with
  | none =>
    have HV : Hid (vgoneD ⟨room, L, false, armed, steps⟩ n = (⟨room, L, false, armed, steps⟩, 0)) := Lib.hid (by unfold vgoneD removeD; simp only [hf]; rw [fileE_31 rfl hf]; rfl)
    have hI : findI n L = -1 := findI_none.2 hf
    rw [hI]
    clear hf hI
    obtain ⟨r0, r1, r2, r3, r4, f0, f1, f2, f3, f4⟩ := X2.out
    obtain ⟨z0, z1, z2, z3, z4, g0, g1, g2, g3, g4⟩ := Z2.out
    have hlx := X2.out.lt
    have hlz := Z2.out.lt
    have RFF := Lib.hid (Z2.out.set ⟨room, [], false, armed, steps⟩ (.slice a m c))
    have BF := Lib.hid (B2.out.trans ((Kept.set5D w2 (w.heap.size + 1) ⟨room, [], false, armed, steps⟩ (.slice a m c)).below B2.out.size (fun k hk => by omega)))
    unfold set5D at RFF BF
    simp only at RFF BF
    go_wp2_with fail
    generalize (((((w2.setCell ⟨w.heap.size + 1, 0, none⟩ (.int .i64 room)).setCell ⟨w.heap.size + 1, 1, none⟩ (.slice a m c)).setCell ⟨w.heap.size + 1, 2, none⟩ (.bool false)).setCell ⟨w.heap.size + 1, 3, none⟩ (.int .i64 armed)).setCell ⟨w.heap.size + 1, 4, none⟩ (.int .u64 steps)) = wF at *
    obtain ⟨q0, q1, q2, q3, q4, _⟩ := RFF.out
    simp only at q0 q1 q2 q3 q4
    refine bodyPost_ret (v := .tuple #[.agg #[.int .i64 room, (.slice a m c), .bool false, .int .i64 armed, .int .u64 steps], .int .i64 0]) (by simp [results, Tryz.results54, go_sem, q0, q1, q2, q3, q4]) rfl ?_
    rw [HV.out]
    exact ⟨_, rfl, RIs.new (D := ⟨room, L, false, armed, steps⟩) HL.out (HR.out.below BF.out), BF.out, by first | exact fun g hg => .inl hg | (intro g hg; first | exact (F3.out g hg).imp id (fun h => by have := L3.out; omega) | (right; first | (have h5 := N6.out g hg; have h6 := L6.out; omega) | (have h5 := N5.out g hg; have h6 := L5.out; omega)))⟩
  | some fl =>
    obtain ⟨i, hI, hLi⟩ := findI_some hf
    rw [hI]
    have hi0 : ¬ (i : Int) < 0 := by omega
    have HF := Lib.hid (show findFile n (⟨room, L, false, armed, steps⟩ : DiskS).files = some fl from hf)
    clear hf hI hLi
    obtain ⟨r0, r1, r2, r3, r4, f0, f1, f2, f3, f4⟩ := X2.out
    obtain ⟨z0, z1, z2, z3, z4, g0, g1, g2, g3, g4⟩ := Z2.out
    have hlx := X2.out.lt
    have hlz := Z2.out.lt
    go_wp2_with fail
    clear r0 r1 r2 r3 r4 f0 f1 f2 f3 f4 z0 z1 z2 z3 z4 g0 g1 g2 g3 g4 hlx hlz
    refine (rremove_new _ ⟨room, L, false, armed, steps⟩ n w2 (RIs.new HL.out (HR.out.below B2.out)) HG.out).mono ?_
    rintro e w3 ⟨v3, rfl, hr3, hb3, hf3⟩
    have X3 := Lib.hid (X2.out.below hb3)
    have Z3 := Lib.hid (Z2.out.below hb3)
    have B3 : Hid (Below w.heap.size w w3) := Lib.hid (B2.out.trans (hb3.mono B2.out.size))
    obtain ⟨a3, c3, rfl, hs3⟩ := hr3
    have S3 := Lib.hid hs3
    have F3 : Hid (∀ g, fsOwn (Value.agg #[.int .i64 (removeD ⟨room, L, false, armed, steps⟩ n).1.room, .slice a3 (removeD ⟨room, L, false, armed, steps⟩ n).1.files.length c3, .bool (removeD ⟨room, L, false, armed, steps⟩ n).1.down, .int .i64 (removeD ⟨room, L, false, armed, steps⟩ n).1.armed, .int .u64 (removeD ⟨room, L, false, armed, steps⟩ n).1.steps]) = some g → (Value.slice a m c).ownBlock = some g ∨ w2.heap.size ≤ g) := Lib.hid hf3
    have L3 : Hid (w.heap.size + 1 < w2.heap.size) := Lib.hid Z2.out.lt
    clear hb3 hs3 hf3
    have HV : Hid (vgoneD ⟨room, L, false, armed, steps⟩ n = removeD ⟨room, L, false, armed, steps⟩ n) := Lib.hid (by
      have h31 : (removeD ⟨room, L, false, armed, steps⟩ n).2 ≠ 31 := by
        unfold removeD
        rw [HF.out]
        simp only
        rw [if_neg (by simp)]
        split <;> simp
      unfold vgoneD
      rw [if_neg h31])
    obtain ⟨r, hr⟩ : ∃ r, removeD ⟨room, L, false, armed, steps⟩ n = r := ⟨_, rfl⟩
    have HRR := Lib.hid hr
    rw [hr] at S3 F3 ⊢
    obtain ⟨⟨Sroom, SL, Sdown, Sarmed, Ssteps⟩, er⟩ := r
    simp only at S3 F3 ⊢
    obtain ⟨m3, hm3⟩ : ∃ k, SL.length = k := ⟨_, rfl⟩
    have HM3 := Lib.hid hm3
    rw [hm3] at S3 F3 ⊢
    clear hr hm3
    obtain ⟨r0, r1, r2, r3, r4, f0, f1, f2, f3, f4⟩ := X3.out
    obtain ⟨z0, z1, z2, z3, z4, g0, g1, g2, g3, g4⟩ := Z3.out
    have hlx := X3.out.lt
    have hlz := Z3.out.lt
    have RFF := Lib.hid (Z3.out.set ⟨Sroom, [], Sdown, Sarmed, Ssteps⟩ (.slice a3 m3 c3))
    have BF := Lib.hid (B3.out.trans ((Kept.set5D w3 (w.heap.size + 1) ⟨Sroom, [], Sdown, Sarmed, Ssteps⟩ (.slice a3 m3 c3)).below B3.out.size (fun k hk => by omega)))
    unfold set5D at RFF BF
    simp only at RFF BF
    go_wp2_with fail
    have S3F := S3.out.setD Z3.out (fun s e => by cases e) ⟨Sroom, [], Sdown, Sarmed, Ssteps⟩ (.slice a3 m3 c3)
    unfold set5D at S3F
    simp only at S3F
    generalize (((((w3.setCell ⟨w.heap.size + 1, 0, none⟩ (.int .i64 Sroom)).setCell ⟨w.heap.size + 1, 1, none⟩ (.slice a3 m3 c3)).setCell ⟨w.heap.size + 1, 2, none⟩ (.bool Sdown)).setCell ⟨w.heap.size + 1, 3, none⟩ (.int .i64 Sarmed)).setCell ⟨w.heap.size + 1, 4, none⟩ (.int .u64 Ssteps)) = wF at *
    obtain ⟨q0, q1, q2, q3, q4, _⟩ := RFF.out
    simp only at q0 q1 q2 q3 q4
    refine bodyPost_ret (v := .tuple #[.agg #[.int .i64 Sroom, (.slice a3 m3 c3), .bool Sdown, .int .i64 Sarmed, .int .u64 Ssteps], .int .i64 (er : Nat)]) (by simp [results, Tryz.results54, go_sem, q0, q1, q2, q3, q4]) rfl ?_
    rw [HV.out, HRR.out]
    exact ⟨_, rfl, RIs.new (D := ⟨Sroom, SL, Sdown, Sarmed, Ssteps⟩) HM3.out (S3F), BF.out, by first | exact fun g hg => .inl hg | (intro g hg; first | exact (F3.out g hg).imp id (fun h => by have := L3.out; omega) | (right; first | (have h5 := N6.out g hg; have h6 := L6.out; omega) | (have h5 := N5.out g hg; have h6 := L5.out; omega)))⟩
end Go.Proofs.YtofhccpagnkalaaGreat

/- The document's Open of the vow, where the power stays; contracts; no conditions but the ranges. -/
namespace Go.Proofs.YtofhccpagnkalaaGreat
open Go.RowKit Go.Maps Go.Proofs.Own

theorem DGood.small {D : DiskS} (h : DGood D) : ∀ f ∈ D.files, f.all.length ≤ 1048576 := fun f hf => by
  have h1 := h.tot
  obtain ⟨i, hi⟩ := List.getElem?_of_mem hf
  have h2 := total_snoc hi
  have h3 := total_take D.files (i + 1)
  omega
theorem Byt8.remove {D : DiskS} (h : Byt8 D.files) (n : ByteArray) : Byt8 (removeD D n).1.files := by
  unfold removeD
  split
  · split
    · exact h
    · split
      · simp only [stepD_files]; exact h
      · exact fun f hf => h f (mem_del.1 hf).1
  · exact h
end Go.Proofs.YtofhccpagnkalaaGreat

/- The law's own list of a disk's files (curfewlaw23.Files); contract; no conditions but the ranges. -/
namespace Go.Proofs.YtofhccpagnkalaaGreat
open Go.RowKit Go.Maps Go.Proofs.Own

theorem fi_at {w : World} {B n c : Nat} {a : Option Addr} {P : List (FileS × Value × Value)} {L : List FileS} (hP : P.map (·.1) = L) (hr : SRow w 3 (.slice a n c) (P.map fiV)) (hk : ∀ p ∈ P, FiOk w B p)
    (hl : ∀ f ∈ L, ((∀ c ∈ f.all, c < 256) ∧ f.all.length ≤ 2097152) ∧ f.kept ≤ f.all.length) {j : Nat} {f : FileS} (hj : L[j]? = some f) :
    ∃ b o ka kc la lc, a = some ⟨b, o, none⟩ ∧ b < w.heap.size ∧ w.cell? ⟨b, o + j * 3, none⟩ = some (.string f.name) ∧ w.cell? ⟨b, o + j * 3 + 1, none⟩ = some (.slice ka f.kept kc) ∧ w.cell? ⟨b, o + j * 3 + 2, none⟩ = some (.slice la (f.all.length - f.kept) lc) ∧
      Bytes w (.slice ka f.kept kc) (f.all.take f.kept) ∧ Bytes w (.slice la (f.all.length - f.kept) lc) (f.all.drop f.kept) := by
  have hf := hl f (List.mem_of_getElem? hj)
  rw [← hP, List.getElem?_map] at hj
  obtain ⟨p, hp, rfl⟩ := Option.map_eq_some_iff.1 hj
  obtain ⟨hlt, he⟩ := List.getElem?_eq_some_iff.1 hp
  obtain ⟨b, o, h1, h2, h3⟩ := hr.at (j := j) (by rw [List.length_map]; exact hlt)
  rw [List.getElem_map, he] at h3
  have ho := hk p (List.mem_of_getElem? hp)
  have b1 := Bytes.of_owns ho.k (fun c hc => hf.1.1 c (List.mem_of_mem_take hc)) (by rw [List.length_take]; omega)
  have b2 := Bytes.of_owns ho.l (fun c hc => hf.1.1 c (List.mem_of_mem_drop hc)) (by rw [List.length_drop]; omega)
  obtain ⟨p1, p2, p3⟩ := p
  obtain ⟨ka, kc, e1, _⟩ := b1.shape
  obtain ⟨la, lc, e2, _⟩ := b2.shape
  rw [List.length_take, Nat.min_eq_left hf.2] at e1
  rw [List.length_drop] at e2
  simp only at e1 e2 b1 b2 h3 ⊢
  subst e1
  subst e2
  exact ⟨b, o, ka, kc, la, lc, h1, h2, by have := h3 0 _ rfl; rwa [Nat.add_zero] at this, h3 1 _ rfl, h3 2 _ rfl, b1, b2⟩

set_option maxHeartbeats 2000000 in
set_option maxRecDepth 20000 in
theorem lfiles_any (db mb tb : Nat) (D : DiskS) (w : World) (h : DiskIs w db mb tb D) (hw : DWf D) :
    Calls Tryz.prog 17 #[.pointer (some ⟨db, 0, none⟩)] w fun e w' => ∃ v, e = .returned v ∧ SRow w' 3 v (D.files.map rfV) ∧ Below w.heap.size w w' := by
  have H := Lib.hid h
  have HW := Lib.hid hw
  have HLL : Hid (∀ f ∈ D.files, ((∀ c ∈ f.all, c < 256) ∧ f.all.length ≤ 2097152) ∧ f.kept ≤ f.all.length) := Lib.hid fun f hf => ⟨h.byt f hf, (hw.each f hf).2⟩
  obtain ⟨m, hm⟩ : ∃ m, D.files.length = m := ⟨_, rfl⟩
  have HM := Lib.hid hm
  have many : m ≤ 1000 := by rw [← hm]; exact hw.many
  clear h hw hm
  go_enter Tryz.func17, Tryz.ntmps17
  go_wp2_with fail
  refine (dfiles_any db mb tb D _ H.out HW.out).mono ?_
  rintro e w1 ⟨v, rfl, P, hP, hr, hk, hb⟩
  have HP := Lib.hid hP
  have HR := Lib.hid hr
  have HK := Lib.hid hk
  have B1 := Lib.hid hb
  obtain ⟨a, c, rfl, _⟩ := hr.shape
  have hlen : (P.map fiV).length = m := by
    have := congrArg List.length hP
    rw [List.length_map] at this ⊢
    rw [this]; exact HM.out
  rw [hlen] at HR ⊢
  clear hP hr hk hb hlen
  go_wp2_with fail
  go_loopw [3, 9] (fun lv y wr => ∃ j : Nat, j ≤ m ∧ y = .int .i64 j ∧ OwnR wr w1.heap.size 96 3 lv ((D.files.take j).map rfV) ∧ Below w1.heap.size w1 wr) (fun _ y _ => m - (intOf y).toNat)
  case atStart => exact ⟨0, Nat.zero_le _, rfl, OwnR.nil _ _ _ _, Below.refl _ _⟩
  case round =>
    obtain ⟨j, hj, rfl, ho, hb⟩ := hrel
    obtain ⟨la, lc, rfl⟩ := ho.shape
    have hlen : ((D.files.take j).map rfV).length = j := by rw [List.length_map, List.length_take]; have := HM.out; omega
    have OW := Lib.hid ho
    have BR := Lib.hid hb
    rw [hlen] at OW ⊢
    clear ho hb
    by_cases hlt : j < m
    · obtain ⟨f, hf, _⟩ := getAt (l := D.files) (j := j) (by rw [HM.out]; exact hlt)
      obtain ⟨b, o, ka, kc, ra, rc, rfl, hbl, c0, c1, c2, hB1, hB2⟩ := fi_at HP.out (HR.out.below BR.out) (fun p hp => (HK.out p hp).below BR.out) HLL.out hf
      have HF := Lib.hid hf
      have HX : Hid (D.files.take (j + 1) = D.files.take j ++ [f]) := Lib.hid (by rw [List.take_add_one, hf]; rfl)
      have hcat : strN (f.all.take f.kept) ++ strN (f.all.drop f.kept) = strN f.all := by rw [strN_app, List.take_append_drop]
      have hs1 := hB1.small
      have hs2 := hB2.small
      have hcl : ((strN (f.all.take f.kept)).size : Int) + ((strN (f.all.drop f.kept)).size : Int) ≤ 9223372036854775807 := by rw [size_strN, size_strN]; omega
      generalize f.all.take f.kept = l1 at *
      generalize f.all.drop f.kept = l2 at *
      generalize f.all.length - f.kept = n2 at *
      have y1 := (hB1.alloc (.cells #[.string f.name, .slice ka f.kept kc, .slice ra n2 rc] 110)).str Tryz.underlying22 Tryz.underlying5 Tryz.underlying9
      have y2 := (hB2.alloc (.cells #[.string f.name, .slice ka f.kept kc, .slice ra n2 rc] 110)).str Tryz.underlying22 Tryz.underlying5 Tryz.underlying9
      have HOA : Hid (OwnR ((wr.alloc (.cells #[.string f.name, .slice ka f.kept kc, .slice ra n2 rc] 110)).alloc (.cells #[.string f.name, .string (strN f.all), .int .i64 f.kept] 96)) w1.heap.size 96 3 (.slice la j lc) ((D.files.take j).map rfV)) := Lib.hid ((OW.out.alloc _).alloc _)
      have hce := rfV_cells (wr.alloc (.cells #[.string f.name, .slice ka f.kept kc, .slice ra n2 rc] 110)) f
      rw [World.size_alloc] at hce
      have HCE := Lib.hid hce
      have hsz := BR.out.size
      have HBS : Hid (w1.heap.size ≤ ((wr.alloc (.cells #[.string f.name, .slice ka f.kept kc, .slice ra n2 rc] 110)).alloc (.cells #[.string f.name, .string (strN f.all), .int .i64 f.kept] 96)).heap.size) := Lib.hid (by simp only [World.size_alloc]; omega)
      have HLE : Hid (((D.files.take j).map rfV).length ≤ 4294967296) := Lib.hid (by omega)
      have j0 : (0 : Int) ≤ (j : Int) := by omega
      have j1 : (j : Int) < (m : Int) := by omega
      clear hf hB1 hB2 hs1 hs2 hlen hce
      go_wp2_with (at_builtin; refine wpList_append_row rfile3 _ _ rfl w1.heap.size _ _ _ _ rfl rfl HOA.out (rfV_len f) HCE.out (rfV_one f) HLE.out HBS.out rfl ?_; intro v2 w2 ho2 hg2 hat2 hb2; have O2 := Lib.hid ho2; have B2 := Lib.hid hb2; clear ho2 hg2 hat2 hb2)
      go_roundw
      case rel => exact ⟨j + 1, by omega, by first | rfl | go_num, by rw [HX.out, List.map_append]; exact O2.out, ((BR.out.alloc hsz _).alloc (by simp only [World.size_alloc]; omega) _).trans B2.out⟩
      case measure => simp [intOf]; omega
    · obtain rfl : j = m := by omega
      have j1 : ¬ (j : Int) < (j : Int) := by omega
      go_wp2_with fail
      go_ret
      have HO := SRow.of_own OW.out
      rw [List.take_of_length_le (by rw [HM.out]; exact Nat.le_refl _)] at HO
      exact ⟨.slice la j lc, rfl, HO, B1.out.trans (BR.out.mono B1.out.size)⟩
end Go.Proofs.YtofhccpagnkalaaGreat

/- The document's Same of two lists of files that are alike; contract; no conditions but the ranges. -/
namespace Go.Proofs.YtofhccpagnkalaaGreat
open Go.RowKit Go.Maps Go.Proofs.Own

set_option maxHeartbeats 2000000 in
set_option maxRecDepth 20000 in
theorem rsameL_any (v1 v2 : Value) (L : List FileS) (w : World) (h1 : SRow w 3 v1 (L.map rfV)) (h2 : SRow w 3 v2 (L.map rfV)) (hm : L.length ≤ 1000) :
    Calls Tryz.prog 16 #[v1, v2] w fun e w' => e = .returned (.bool true) ∧ Below w.heap.size w w' := by
  have H1 := Lib.hid h1
  have H2 := Lib.hid h2
  obtain ⟨a1, c1, rfl, _⟩ := h1.shape
  obtain ⟨a2, c2, rfl, _⟩ := h2.shape
  obtain ⟨m, hlm⟩ : ∃ m, L.length = m := ⟨_, rfl⟩
  have HL := Lib.hid hlm
  have hl2 : (L.map rfV).length = m := by rw [List.length_map]; exact hlm
  rw [hl2] at H1 H2 ⊢
  rw [hlm] at hm
  clear h1 h2 hlm hl2
  go_enter Tryz.func16, Tryz.ntmps16
  go_wp2_with fail
  go_loopw [5] (fun y wr => ∃ j : Nat, j ≤ m ∧ y = .int .i64 j ∧ Below w.heap.size w wr) (fun y _ => m - (intOf y).toNat)
  case atStart => exact ⟨0, Nat.zero_le _, rfl, Below.refl _ _⟩
  case round =>
    obtain ⟨j, hj, rfl, hb⟩ := hrel
    have BR := Lib.hid hb
    clear hb
    by_cases hlt : j < m
    · obtain ⟨f, hf, _⟩ := getAt (l := L) (j := j) (by rw [HL.out]; exact hlt)
      obtain ⟨b, o, rfl, hbl, c0, c1, c2⟩ := (H1.out.below BR.out).file hf
      obtain ⟨b', o', rfl, hbl', d0, d1, d2⟩ := (H2.out.below BR.out).file hf
      have e1 : (f.name.toList == f.name.toList) = true := by simp
      have e2 : ((strN f.all).toList == (strN f.all).toList) = true := by simp
      have j0 : (0 : Int) ≤ (j : Int) := by omega
      have j1 : (j : Int) < (m : Int) := by omega
      clear hf hbl hbl'
      go_wp2_with fail
      go_quiet (fail)
      go_wp2_with fail
      go_roundw
      case rel => exact ⟨j + 1, by omega, by first | rfl | go_num, below_drewN BR.out _⟩
      case measure => simp [intOf]; omega
    · obtain rfl : j = m := by omega
      have j1 : ¬ (j : Int) < (j : Int) := by omega
      go_wp2_with fail
      go_ret
      exact ⟨rfl, BR.out⟩
end Go.Proofs.YtofhccpagnkalaaGreat

/- Plain facts for the law VowOpens: what is appended to a calm disk; Open of the vow never fails on one. No conditions. -/
namespace Go.Proofs.YtofhccpagnkalaaGreat
open Go.RowKit Go.Maps Go.Proofs.Own

theorem Byt8.append {D : DiskS} (h : Byt8 D.files) (n : ByteArray) (b : List Nat) (hb : ∀ c ∈ b, c < 256) : Byt8 (appendD D n b).1.files := by
  unfold appendD
  split
  · exact h
  · rw [stepD_files]
    intro f hf
    rcases mem_put.1 hf with rfl | ⟨hf, _⟩
    · intro c hc
      rcases List.mem_append.1 hc with hc | hc
      · unfold getF at hc
        cases hg : findFile n D.files with
        | some g => rw [hg] at hc; exact h g (find_name hg).2 c hc
        | none => rw [hg] at hc; cases hc
      · exact hb c hc
    · exact h f hf
/-- Block b is the law's pair: the program's disk db, the document's disk D, its files' slice sl. -/
structure BO (w : World) (b db : Nat) (D : DiskS) (sl : Value) : Prop where
  c0 : w.cell? ⟨b, 0, none⟩ = some (.pointer (some ⟨db, 0, none⟩))
  c1 : ∃ p, w.cell? ⟨b, 1, none⟩ = some (.pointer p)
  c2 : w.cell? ⟨b, 2, none⟩ = some (.int .i64 D.room)
  c3 : w.cell? ⟨b, 3, none⟩ = some sl
  c4 : w.cell? ⟨b, 4, none⟩ = some (.bool D.down)
  c5 : w.cell? ⟨b, 5, none⟩ = some (.int .i64 D.armed)
  c6 : w.cell? ⟨b, 6, none⟩ = some (.int .u64 D.steps)
  f2 : w.frozen? ⟨b, 2, none⟩ = false
  f3 : w.frozen? ⟨b, 3, none⟩ = false
  f4 : w.frozen? ⟨b, 4, none⟩ = false
  f5 : w.frozen? ⟨b, 5, none⟩ = false
  f6 : w.frozen? ⟨b, 6, none⟩ = false
theorem BO.lt {w : World} {b db : Nat} {D : DiskS} {sl : Value} (h : BO w b db D sl) : b < w.heap.size := World.block_lt_of_cell? _ _ h.c0
theorem BO.kept {w w' : World} {b db : Nat} {D : DiskS} {sl : Value} {S : Nat → Prop} (h : BO w b db D sl) (hk : Kept w w' S) (hs : ¬ S b) : BO w' b db D sl :=
  have l := h.lt
  ⟨hk.cell h.c0 hs, h.c1.imp fun _ e => hk.cell e hs, hk.cell h.c2 hs, hk.cell h.c3 hs, hk.cell h.c4 hs, hk.cell h.c5 hs, hk.cell h.c6 hs, (hk.frozen (a := ⟨b, 2, none⟩) l hs).trans h.f2, (hk.frozen (a := ⟨b, 3, none⟩) l hs).trans h.f3, (hk.frozen (a := ⟨b, 4, none⟩) l hs).trans h.f4, (hk.frozen (a := ⟨b, 5, none⟩) l hs).trans h.f5, (hk.frozen (a := ⟨b, 6, none⟩) l hs).trans h.f6⟩
theorem BO.below {w w' : World} {b db : Nat} {D : DiskS} {sl : Value} (h : BO w b db D sl) (hb : Below w.heap.size w w') : BO w' b db D sl := h.kept (Kept.of_below hb (S := fun _ => False) fun k h1 h2 => by omega) (fun h => h)
theorem BO.box (w : World) (db : Nat) (D : DiskS) (sl : Value) : BO (w.alloc (.cells #[.pointer (some ⟨db, 0, none⟩), .pointer none, .int .i64 D.room, sl, .bool D.down, .int .i64 D.armed, .int .u64 D.steps, .int .u64 0, .int .i64 0] 54)) w.heap.size db D sl :=
  ⟨by go_cell, ⟨none, by go_cell⟩, by go_cell, by go_cell, by go_cell, by go_cell, by go_cell, by simp, by simp, by simp, by simp, by simp⟩
/-- The document's disk is stored into it. -/
def setBO (w : World) (b : Nat) (D : DiskS) (sl : Value) : World := ((((w.setCell ⟨b, 2, none⟩ (.int .i64 D.room)).setCell ⟨b, 3, none⟩ sl).setCell ⟨b, 4, none⟩ (.bool D.down)).setCell ⟨b, 5, none⟩ (.int .i64 D.armed)).setCell ⟨b, 6, none⟩ (.int .u64 D.steps)
theorem Kept.setBO (w : World) (b : Nat) (D : DiskS) (sl : Value) : Kept w (setBO w b D sl) (fun k => k = b) :=
  ((((Kept.setCell w ⟨b, 2, none⟩ _).trans (Kept.setCell _ ⟨b, 3, none⟩ _)).trans (Kept.setCell _ ⟨b, 4, none⟩ _)).trans (Kept.setCell _ ⟨b, 5, none⟩ _)).trans (Kept.setCell _ ⟨b, 6, none⟩ _)
theorem BO.set {w : World} {b db : Nat} {D : DiskS} {sl : Value} (h : BO w b db D sl) (E : DiskS) (sl' : Value) : BO (setBO w b E sl') b db E sl' := by
  obtain ⟨c0, ⟨p, c1⟩, c2, c3, c4, c5, c6, f2, f3, f4, f5, f6⟩ := h
  unfold setBO
  refine ⟨?_, ⟨p, ?_⟩, ?_, ?_, ?_, ?_, ?_, by simp [f2], by simp [f3], by simp [f4], by simp [f5], by simp [f6]⟩
  all_goals go_cell
theorem BO.no {w : World} {b db : Nat} {D : DiskS} {a : Option Addr} {n c : Nat} (h : BO w b db D (.slice a n c)) : ∀ k, k < 7 → ∃ x, w.cell? ⟨b, k, none⟩ = some x ∧ (∀ s, x ≠ .string s) ∧ ∀ y, x ≠ .int .u8 y := by
  intro k hk
  obtain ⟨p, c1⟩ := h.c1
  match k, hk with
  | 0, _ => exact ⟨_, h.c0, (fun s e => by cases e), (fun s e => by cases e)⟩
  | 1, _ => exact ⟨_, c1, (fun s e => by cases e), (fun s e => by cases e)⟩
  | 2, _ => exact ⟨_, h.c2, (fun s e => by cases e), (fun s e => by cases e)⟩
  | 3, _ => exact ⟨_, h.c3, (fun s e => by cases e), (fun s e => by cases e)⟩
  | 4, _ => exact ⟨_, h.c4, (fun s e => by cases e), (fun s e => by cases e)⟩
  | 5, _ => exact ⟨_, h.c5, (fun s e => by cases e), (fun s e => by cases e)⟩
  | 6, _ => exact ⟨_, h.c6, (fun s e => by cases e), (fun s e => by cases e)⟩
theorem setBO_far (w : World) (b : Nat) (D : DiskS) (sl : Value) (g i : Nat) (hg : g = b → 7 ≤ i) : (setBO w b D sl).cell? ⟨g, i, none⟩ = w.cell? ⟨g, i, none⟩ := by
  have hne : ∀ j, j < 7 → (⟨b, j, none⟩ : Addr) ≠ ⟨g, i, none⟩ := by
    intro j hj e
    simp only [Addr.mk.injEq, and_true] at e
    have := hg e.1.symm
    omega
  unfold setBO
  rw [World.cell?_setCell_other _ _ _ _ (hne 6 (by omega)), World.cell?_setCell_other _ _ _ _ (hne 5 (by omega)), World.cell?_setCell_other _ _ _ _ (hne 4 (by omega)), World.cell?_setCell_other _ _ _ _ (hne 3 (by omega)), World.cell?_setCell_other _ _ _ _ (hne 2 (by omega))]
theorem SRow.setPair {w : World} {b db : Nat} {E : DiskS} {a0 : Option Addr} {n0 c0 : Nat} {a : Option Addr} {n c : Nat} {L : List FileS} (h : SRow w 3 (.slice a n c) (L.map rfV)) (k : BO w b db E (.slice a0 n0 c0)) (D' : DiskS) (fv' : Value) : SRow (setBO w b D' fv') 3 (.slice a n c) (L.map rfV) :=
  h.far (fun i hi => let ⟨x, h1, h2, _⟩ := k.no i hi; ⟨x, h1, h2⟩) (fun g i hg => setBO_far w b D' fv' g i hg) (Kept.setBO w b D' fv').size
theorem DiskIs.setPair {w : World} {b db db' mb tb : Nat} {D E : DiskS} {a : Option Addr} {n c : Nat} (h : DiskIs w db mb tb D) (k : BO w b db' E (.slice a n c)) (hn : ¬ Own3 db mb tb b) (D' : DiskS) (fv' : Value) : DiskIs (setBO w b D' fv') db mb tb D := by
  have no : ∀ i, i < 7 → ∀ x, w.cell? ⟨b, i, none⟩ ≠ some (.int .u8 x) := fun i hi x e => by
    obtain ⟨y, h1, _, h2⟩ := k.no i hi
    rw [h1] at e
    exact h2 x (Option.some.inj e)
  unfold setBO
  refine ((((h.setOther _ hn (no 2 (by omega))).setOther _ hn (fun x => ?_)).setOther _ hn (fun x => ?_)).setOther _ hn (fun x => ?_)).setOther _ hn (fun x => ?_)
  · rw [World.cell?_setCell_other _ _ _ _ (by simp)]; exact no 3 (by omega) x
  · rw [World.cell?_setCell_other _ _ _ _ (by simp), World.cell?_setCell_other _ _ _ _ (by simp)]; exact no 4 (by omega) x
  · rw [World.cell?_setCell_other _ _ _ _ (by simp), World.cell?_setCell_other _ _ _ _ (by simp), World.cell?_setCell_other _ _ _ _ (by simp)]; exact no 5 (by omega) x
  · rw [World.cell?_setCell_other _ _ _ _ (by simp), World.cell?_setCell_other _ _ _ _ (by simp), World.cell?_setCell_other _ _ _ _ (by simp), World.cell?_setCell_other _ _ _ _ (by simp)]; exact no 6 (by omega) x
end Go.Proofs.YtofhccpagnkalaaGreat

/- What a snapshot's Save, a crash and Open leave of its file; plain. -/
namespace Go.Proofs.YtofhccpagnkalaaGreat
open Go.RowKit Go.Maps Go.Proofs.Own

theorem remove_ap {D : DiskS} {n m : ByteArray} (h : ¬ n = m) : findFile m (removeD D n).1.files = findFile m D.files := by
  unfold removeD
  split
  · split
    · rfl
    · split
      · simp only [stepD_files]
      · exact find_del_ne h _
  · rfl
theorem append_ap {D : DiskS} {n m : ByteArray} (h : ¬ n = m) (b : List Nat) : findFile m (appendD D n b).1.files = findFile m D.files := by
  unfold appendD
  split
  · rfl
  · rw [stepD_files]
    unfold appD
    exact find_put_ne (by simp only; rw [getF_name]; exact h) D.files
theorem sync_ap {D : DiskS} {n m : ByteArray} (h : ¬ n = m) : findFile m (syncD D n).1.files = findFile m D.files := by
  unfold syncD
  cases e : findFile n D.files with
  | none => rfl
  | some f =>
    simp only
    split
    · rfl
    · split
      · simp only [stepD_files]
      · refine find_put_ne ?_ D.files
        simp only
        rw [(find_name e).1]
        exact h
theorem wrTo_ap {D : DiskS} {n m : ByteArray} (h : ¬ n = m) (b : List Nat) : findFile m (wrTo D n b).1.files = findFile m D.files := by
  unfold wrTo
  split
  · exact append_ap h b
  · rw [sync_ap h, append_ap h]
theorem gone_none {D : DiskS} (hd : D.down = false) {n : ByteArray} (he : (vgoneD D n).2 = 0) : (vgoneD D n).1.down = false ∧ findFile n (vgoneD D n).1.files = none := by
  refine ⟨(fell_gone hd n).up he, ?_⟩
  cases e : findFile n D.files with
  | none =>
    have hr : (removeD D n).1 = D := by unfold removeD; rw [e]
    show findFile n (removeD D n).1.files = none
    rw [hr]
    exact e
  | some f =>
    by_cases ha : D.armed = 0
    · have hr : removeD D n = (stepD D, 50) := by
        unfold removeD
        rw [e]
        simp only
        rw [if_neg (by rw [hd]; decide), if_pos ha]
      unfold vgoneD at he
      rw [hr] at he
      simp at he
    · have hr : removeD D n = ({ stepD D with files := delFile n D.files }, 0) := by
        unfold removeD
        rw [e]
        simp only
        rw [if_neg (by rw [hd]; decide), if_neg ha]
      unfold vgoneD
      rw [hr]
      exact find_del_eq _ _
/-- Bytes written into a new file that then takes another one's place. -/
def intoD (D : DiskS) (m n : ByteArray) (b : List Nat) : DiskS × Nat :=
  if (vgoneD D m).2 ≠ 0 then vgoneD D m else if (wrTo (vgoneD D m).1 m b).2 ≠ 0 then wrTo (vgoneD D m).1 m b else moveD (wrTo (vgoneD D m).1 m b).1 m n
theorem into_law {D : DiskS} (hd : D.down = false) {m n : ByteArray} (hne : ¬ m = n) (hn : 1 ≤ n.size ∧ n.size ≤ 16) {b : List Nat} (hb : b ≠ []) :
    ((intoD D m n b).2 = 0 → findFile n (intoD D m n b).1.files = some ⟨n, b, b.length⟩) ∧ ((intoD D m n b).2 ≠ 0 → findFile n (intoD D m n b).1.files = findFile n D.files) := by
  have g1 : findFile n (vgoneD D m).1.files = findFile n D.files := remove_ap hne
  unfold intoD
  by_cases he : (vgoneD D m).2 = 0
  · rw [if_neg (not_not_intro he)]
    obtain ⟨h1, h2⟩ := gone_none hd he
    generalize vgoneD D m = r at *
    have hs := wr_short (n := m) h1 (l := []) (getF_none h2) b
    have g2 : findFile n (wrTo r.1 m b).1.files = findFile n D.files := (wrTo_ap hne b).trans g1
    by_cases he2 : (wrTo r.1 m b).2 = 0
    · rw [if_neg (not_not_intro he2)]
      obtain ⟨k1, k2⟩ := hs.ok he2
      generalize wrTo r.1 m b = q at *
      rw [List.nil_append] at k2
      have k3 := find_of_getF k2 hb
      unfold moveD
      rw [k3]
      simp only
      rw [if_neg (by rw [k1]; decide), if_neg (not_not_intro hn)]
      by_cases ha : q.1.armed = 0
      · rw [if_pos ha]
        exact ⟨fun h => by simp at h, fun _ => by simp only [stepD_files]; exact g2⟩
      · rw [if_neg ha]
        exact ⟨fun _ => find_put_eq ⟨n, b, b.length⟩ _, fun h => absurd rfl h⟩
    · rw [if_pos he2]
      exact ⟨fun h => absurd h he2, fun _ => g2⟩
  · rw [if_pos he]
    exact ⟨fun h => absurd h he, fun _ => g1⟩
theorem save4_into (D : DiskS) (b : List Nat) : save4 D b = intoD D nOther nSnap b := by
  show save4 D b = if (goneD D).2 ≠ 0 then goneD D else if (wrTo (goneD D).1 nOther b).2 ≠ 0 then wrTo (goneD D).1 nOther b else moveD (wrTo (goneD D).1 nOther b).1 nOther nSnap
  unfold save4 wrTo
  by_cases h1 : (goneD D).2 = 0
  · rw [if_neg (not_not_intro h1), if_neg (not_not_intro h1)]
    by_cases h2 : (appendD (goneD D).1 nOther b).2 = 0
    · simp only [h2, ne_eq, not_true_eq_false, if_false]
    · simp only [h2, ne_eq, not_false_eq_true, if_true]
  · rw [if_pos h1, if_pos h1]

/-- The disk's snapshot is s: the file is its bytes, all kept; or there is none. -/
def SFile (D : DiskS) (s : SnapS) : Prop := (s = zeroS ∧ findFile nSnap D.files = none) ∨ (s.ok ∧ findFile nSnap D.files = some ⟨nSnap, frP 4 (snapW s), (frP 4 (snapW s)).length⟩)
theorem SFile.find {D D' : DiskS} {s : SnapS} (h : SFile D s) (he : findFile nSnap D'.files = findFile nSnap D.files) : SFile D' s := by
  unfold SFile
  rw [he]
  exact h
theorem frP_ne (k : Nat) (l : List Nat) : frP k l ≠ [] := fun h => by have := length_frP k l; rw [h] at this; simp at this
theorem nSnap_ne : ¬ nOther = nSnap := by decide
theorem save_law {D : DiskS} (hd : D.down = false) {s : SnapS} (h : SFile D s) (x : SnapS) :
    SFile (saveD D s x).1 (if (saveD D s x).2 = 0 then x else s) ∧ ((saveD D s x).2 = 0 → s.i < x.i ∧ x.ok) := by
  unfold saveD
  by_cases hok : x.ok
  · rw [if_neg (not_not_intro hok)]
    by_cases hle : x.i ≤ s.i
    · rw [if_pos hle]
      exact ⟨by rw [if_neg (by simp)]; exact h, fun e => by simp at e⟩
    · rw [if_neg hle, save4_into]
      obtain ⟨h1, h2⟩ := into_law hd nSnap_ne (by decide) (frP_ne 4 (snapW x))
      refine ⟨?_, fun _ => ⟨by omega, hok⟩⟩
      by_cases he : (intoD D nOther nSnap (frP 4 (snapW x))).2 = 0
      · rw [if_pos he]; exact .inr ⟨hok, h1 he⟩
      · rw [if_neg he]; exact h.find (h2 he)
  · rw [if_pos hok]
    exact ⟨by rw [if_neg (by simp)]; exact h, fun e => by simp at e⟩
theorem SFile.crash {D : DiskS} {s : SnapS} (h : SFile D s) (hr : Rising D.files) (ts : List (Nat × Nat)) : SFile (crashD D ts) s := by
  obtain ⟨us, hu⟩ := find_crash nSnap D.files ts hr.apart
  have hu' : findFile nSnap (crashD D ts).files = (findFile nSnap D.files).bind fun f => (crash1 f us).head? := hu
  rcases h with ⟨h1, h2⟩ | ⟨h1, h2⟩
  · rw [h2] at hu'
    exact .inl ⟨h1, hu'⟩
  · rw [h2] at hu'
    refine .inr ⟨h1, hu'.trans ?_⟩
    simp only [Option.bind_some]
    unfold crash1
    rw [if_neg (Nat.lt_irrefl _), if_neg (frP_ne 4 (snapW s))]
    rfl
/-- The snapshot's Open: what it tells. -/
def sopenE (D : DiskS) : Nat := if (goneD D).2 ≠ 0 then (goneD D).2 else if findFile nSnap (goneD D).1.files = none then 0 else if readB 7 (getF (goneD D).1 nSnap).all = true then 0 else 20
def sopenS (D : DiskS) : SnapS := if findFile nSnap (goneD D).1.files = none then zeroS else readS 7 (getF (goneD D).1 nSnap).all
theorem sopen_law {D : DiskS} (hc : Calm D) {s : SnapS} (h : SFile D s) : sopenE D = 0 ∧ sopenS D = s ∧ Calm (goneD D).1 ∧ SFile (goneD D).1 s := by
  have hg : (goneD D).2 = 0 ∧ Calm (goneD D).1 := by
    show (vgoneD D nOther).2 = 0 ∧ Calm (vgoneD D nOther).1
    cases e : findFile nOther D.files with
    | none =>
      have h31 : fileE D nOther = 31 := by unfold fileE; rw [if_neg (by rw [hc.1]; decide), if_pos e]
      have hr : removeD D nOther = (D, 31) := by unfold removeD; rw [e]; simp only; rw [h31]
      unfold vgoneD
      rw [hr]
      exact ⟨rfl, hc⟩
    | some f =>
      have hr : removeD D nOther = ({ stepD D with files := delFile nOther D.files }, 0) := by
        unfold removeD
        rw [e]
        simp only
        rw [if_neg (by rw [hc.1]; decide), if_neg (by rw [hc.2]; decide)]
      unfold vgoneD
      rw [hr]
      exact ⟨rfl, hc.step _⟩
  have hf : SFile (goneD D).1 s := h.find (remove_ap nSnap_ne)
  refine ⟨?_, ?_, hg.2, hf⟩
  · unfold sopenE
    rw [if_neg (not_not_intro hg.1)]
    rcases hf with ⟨_, h2⟩ | ⟨h1, h2⟩
    · rw [if_pos h2]
    · rw [if_neg (by rw [h2]; simp), getF_some h2]
      simp only
      rw [(read_round 7 (by decide) (by decide) s h1).1, if_pos rfl]
  · unfold sopenS
    rcases hf with ⟨h1, h2⟩ | ⟨h1, h2⟩
    · rw [if_pos h2, h1]
    · rw [if_neg (by rw [h2]; simp), getF_some h2]
      exact (read_round 7 (by decide) (by decide) s h1).2
end Go.Proofs.YtofhccpagnkalaaGreat

/- The snapshot's Open, every way; no conditions but the ranges. -/
namespace Go.Proofs.YtofhccpagnkalaaGreat
open Go.RowKit Go.Maps Go.Proofs.Own

theorem gone_up {D : DiskS} (hg : (goneD D).2 = 0) : (goneD D).1.down = false := by
  cases hd : D.down with
  | false => exact (fell_gone hd nOther).up hg
  | true =>
    exfalso
    unfold goneD removeD at hg
    split at hg
    · rw [if_pos hd] at hg; simp at hg
    · simp only [fileE, if_pos hd] at hg; simp at hg

end Go.Proofs.YtofhccpagnkalaaGreat

/- The snapshot's Get, every way; contract; no conditions. -/
namespace Go.Proofs.YtofhccpagnkalaaGreat
open Go.RowKit Go.Maps Go.Proofs.Own

set_option maxHeartbeats 1600000 in
set_option maxRecDepth 20000 in
theorem sget_0 (sb db mb tb : Nat) (s : SnapS) (w : World) (h : StoreIs w sb db mb tb s) (hi : s.i = 0) :
    Calls Tryz.prog 14 #[.pointer (some ⟨sb, 0, none⟩)] w fun e w' => e = .returned (.tuple #[.agg #[.int .u64 0, .int .u64 0, .slice none 0 0, .slice none 0 0], .bool false]) ∧ Below w.heap.size w w' := by
  have H := Lib.hid h
  obtain ⟨mv, dv, h1, _, _, _⟩ := h
  rw [hi] at h1
  have HS := Lib.hid h1
  have hsl := h1.lt
  clear h1
  go_enter Tryz.func14, Tryz.ntmps14
  go_wp2_with fail
  have R1 : Hid (SBlk (w.alloc (.cells #[.int .u64 0, .int .u64 0, .slice none 0 0, .slice none 0 0] 40)) w.heap.size 0 0 (.slice none 0 0) (.slice none 0 0)) := Lib.hid (SBlk.new w)
  have B1 : Hid (Below w.heap.size w (w.alloc (.cells #[.int .u64 0, .int .u64 0, .slice none 0 0, .slice none 0 0] 40))) := Lib.hid ((Below.refl _ _).alloc (Nat.le_refl _) _)
  generalize World.alloc w _ = w1 at *
  refine (snone sb db mb tb s w1 (H.out.below B1.out)).mono ?_
  rintro e w1' ⟨rfl, rfl⟩
  obtain ⟨r0, r1, _, _, _, _, _, _, _⟩ := HS.out.kept (Kept.of_below B1.out (S := fun _ => False) fun k h1 h2 => by omega) (fun h => h)
  obtain ⟨q0, q1, q2, q3, g0, g1, g2, g3⟩ := R1.out
  have hl1 := R1.out.lt
  go_wp2_with fail
  generalize hwF : World.setCell _ _ _ = wF
  have RF : Hid (SBlk wF w.heap.size 0 0 (.slice none 0 0) (.slice none 0 0)) := Lib.hid (by subst hwF; exact R1.out.set4 0 0 _ _)
  have BF : Hid (Below w.heap.size w wF) := Lib.hid (by subst hwF; exact B1.out.trans ((Kept.set4 w1 w.heap.size 0 0 _ _).below B1.out.size (fun k hk => by omega)))
  clear hwF q0 q1 q2 q3 g0 g1 g2 g3 r0 r1
  obtain ⟨q0, q1, q2, q3, _, _, _, _⟩ := RF.out
  refine bodyPost_ret (v := .tuple #[.agg #[.int .u64 0, .int .u64 0, .slice none 0 0, .slice none 0 0], .bool false]) (by simp [results, Tryz.results14, go_sem, q0, q1, q2, q3]) rfl ?_
  exact ⟨rfl, BF.out⟩

/-- What stands behind an Open: no store, or one with the snapshot s. -/
def OptStore (w : World) (p : Option Addr) (db mb tb : Nat) (s : SnapS) : Prop := (p = none ∧ s = zeroS) ∨ ∃ sb, p = some ⟨sb, 0, none⟩ ∧ StoreIs w sb db mb tb s ∧ (s = zeroS ∨ 1 ≤ s.i)
theorem OptStore.below {w w' : World} {p : Option Addr} {db mb tb : Nat} {s : SnapS} (h : OptStore w p db mb tb s) (hb : Below w.heap.size w w') : OptStore w' p db mb tb s := by
  rcases h with h | ⟨sb, e, h, k⟩
  · exact .inl h
  · exact .inr ⟨sb, e, h.below hb, k⟩
/-- What Get tells. -/
def SGet (s : SnapS) (w : World) : Ending → World → Prop := fun e w' => ∃ i t mv dv, e = .returned (.tuple #[.agg #[.int .u64 i, .int .u64 t, mv, dv], .bool (decide (0 < s.i))]) ∧ SnapIs w' (.agg #[.int .u64 i, .int .u64 t, mv, dv]) s ∧ Below w.heap.size w w'
theorem sget_all (p : Option Addr) (db mb tb : Nat) (s : SnapS) (w : World) (h : OptStore w p db mb tb s) : Calls Tryz.prog 14 #[.pointer p] w (SGet s w) := by
  rcases h with ⟨rfl, rfl⟩ | ⟨sb, rfl, h, hk⟩
  · refine (nos_get none w (.inl rfl)).mono ?_
    rintro e w1 ⟨rfl, hb⟩
    exact ⟨_, _, _, _, rfl, zero_is _, hb⟩
  · rcases hk with rfl | hk
    · refine (sget_0 sb db mb tb zeroS w h rfl).mono ?_
      rintro e w1 ⟨rfl, hb⟩
      exact ⟨_, _, _, _, rfl, zero_is _, hb⟩
    · refine (sget_any sb db mb tb s w h (by omega)).mono ?_
      rintro e w1 ⟨v, rfl, ⟨mv, dv, rfl, h1, h2⟩, hb⟩
      obtain ⟨_, _, _, h3, h4, _⟩ := h
      rw [show true = decide (0 < s.i) from (decide_eq_true (by omega)).symm]
      refine ⟨_, _, _, _, rfl, ⟨mv, dv, rfl, Ints.of_owns h1 h3.small, Bytes.of_owns h2 h4.lt h4.small⟩, hb⟩
end Go.Proofs.YtofhccpagnkalaaGreat
