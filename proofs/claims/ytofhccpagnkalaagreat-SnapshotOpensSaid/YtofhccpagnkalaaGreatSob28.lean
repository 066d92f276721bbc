/- Several texts in one: Rp, Rq, Rs, Sk, Sop. What each proves stands ahead of it; together they serve sopens_law_holds. No conditions but those stated. -/
import Derived.Test.YtofhccpagnkalaaGreatSob27
import Derived.Test.YtofhccpagnkalaaGreatSob10
import Derived.Test.YtofhccpagnkalaaGreatSob7
import Derived.Test.YtofhccpagnkalaaGreatSob26
import Derived.Test.YtofhccpagnkalaaGreatSob20
import Derived.Test.YtofhccpagnkalaaGreatSob18
/- The document's disk: Append; contracts; no conditions but the ranges. -/
namespace Go.Proofs.YtofhccpagnkalaaGreat
open Go.RowKit Go.Maps Go.Proofs.Own

theorem rwith_0 (a : Option Addr) (k c : Nat) (D : DiskS) (n : ByteArray) (bs : List Nat) (w : World) (hn : D.files.length = k) (hr : SRow w 3 (.slice a k c) (D.files.map rfV)) (hm : D.files.length ≤ 1000) : Calls Tryz.prog 40 #[.agg #[.int .i64 D.room, .slice a k c, .bool D.down, .int .i64 D.armed, .int .u64 D.steps], .agg #[.string n, .string (strN bs), .int .i64 0]] w (RNew { D with files := putFile ⟨n, bs, 0⟩ D.files } w) := by
  have h := rwith_n a k c D ⟨n, bs, 0⟩ w hn hr hm
  simpa only [Int.natCast_zero] using h
theorem stepE_eq (D : DiskS) : stepE D = if D.armed = 0 then 50 else 0 := rfl
set_option maxHeartbeats 3000000 in
set_option maxRecDepth 20000 in
theorem rappend_new (v : Value) (D : DiskS) (n : ByteArray) (bs : List Nat) (w : World) (h : RIs w v D) (hg : DGood D) (hn : n.size ≤ 9223372036854775807) (hbs : bs.length ≤ 2097152) : Calls Tryz.prog 11 #[v, .string n, .string (strN bs)] w (RPostN (appendD D n bs) v w) := by
  obtain ⟨a, c, rfl, hr⟩ := h
  obtain ⟨room, L, down, armed, steps⟩ := D
  have HG := Lib.hid hg
  simp only at hr ⊢
  have HR := Lib.hid hr
  obtain ⟨m, hlm⟩ : ∃ m, L.length = m := ⟨_, rfl⟩
  have HL := Lib.hid hlm
  rw [hlm] at HR ⊢
  have HM : Hid (L.length ≤ 1000) := Lib.hid (by have := hg.few; simp only at this; omega)
  have HA : Hid ((0 ≤ steps ∧ steps ≤ 1000000000) ∧ -1 ≤ armed ∧ armed ≤ 9223372036854775807) := Lib.hid ⟨⟨hg.wf.steps0, hg.wf.steps1⟩, hg.wf.armed0, hg.wf.armed1⟩
  have hm1000 : (m : Int) ≤ 1000 := by have := HM.out; omega
  clear hr hlm hg
  have HGE : Hid (∀ fl ∈ L, fl.all.length ≤ 1048576) := Lib.hid (fun fl hfl => by have h1 := HG.out.tot; simp only at h1; obtain ⟨i, hi⟩ := List.getElem?_of_mem hfl; have h2 := total_snoc hi; have h3 := total_take L (i + 1); omega)
  have BX := (RD.box w ⟨room, L, down, armed, steps⟩ (.slice a m c)).below ((Below.refl _ _).alloc (Nat.le_refl _) (.cells #[.int .i64 0, .slice none 0 0, .bool false, .int .i64 0, .int .u64 0] 29))
  have BZ := RD.zero (w.alloc (.cells #[.int .i64 room, .slice a m c, .bool down, .int .i64 armed, .int .u64 steps] 29))
  have hsz : (w.alloc (.cells #[.int .i64 room, .slice a m c, .bool down, .int .i64 armed, .int .u64 steps] 29)).heap.size = w.heap.size + 1 := by simp
  simp only at BX
  rw [hsz] at BZ
  have B1 : Hid (Below w.heap.size w ((w.alloc (.cells #[.int .i64 room, .slice a m c, .bool down, .int .i64 armed, .int .u64 steps] 29)).alloc (.cells #[.int .i64 0, .slice none 0 0, .bool false, .int .i64 0, .int .u64 0] 29))) := Lib.hid (((Below.refl _ _).alloc (Nat.le_refl _) _).alloc (by simp) _)
  clear hsz
  cases down
  · go_enter Tryz.func11, Tryz.ntmps11
    go_wp2_with fail
    generalize World.alloc (World.alloc w _) _ = w1 at *
    have X1 := Lib.hid BX
    have Z1 := Lib.hid BZ
    have LZ := BZ.lt
    clear BX BZ
    refine (rnamed_any n w1 hn).mono ?_
    rintro e w1' ⟨rfl, rfl⟩
    cases hnm : isName n
    · have hnp : ¬ (1 ≤ n.size ∧ n.size ≤ 16) := of_decide_eq_false hnm
      have HV : Hid (appendD ⟨room, L, false, armed, steps⟩ n bs = (⟨room, L, false, armed, steps⟩, 2)) := Lib.hid (by unfold appendD; rw [show appE ⟨room, L, false, armed, steps⟩ n bs = 2 by unfold appE; rw [if_neg (by simp), if_pos hnp], if_pos (by decide)])
      clear hnp hnm
      obtain ⟨r0, r1, r2, r3, r4, f0, f1, f2, f3, f4⟩ := X1.out
      obtain ⟨z0, z1, z2, z3, z4, g0, g1, g2, g3, g4⟩ := Z1.out
      have hlx := X1.out.lt
      have hlz := Z1.out.lt
      have RFF := Lib.hid (Z1.out.set ⟨room, [], false, armed, steps⟩ (.slice a m c))
      have BF := Lib.hid (B1.out.trans ((Kept.set5D w1 (w.heap.size + 1) ⟨room, [], false, armed, steps⟩ (.slice a m c)).below B1.out.size (fun k hk => by omega)))
      unfold set5D at RFF BF
      simp only at RFF BF
      go_wp2_with fail
      generalize (((((w1.setCell ⟨w.heap.size + 1, 0, none⟩ (.int .i64 room)).setCell ⟨w.heap.size + 1, 1, none⟩ (.slice a m c)).setCell ⟨w.heap.size + 1, 2, none⟩ (.bool false)).setCell ⟨w.heap.size + 1, 3, none⟩ (.int .i64 armed)).setCell ⟨w.heap.size + 1, 4, none⟩ (.int .u64 steps)) = wF at *
      obtain ⟨q0, q1, q2, q3, q4, _⟩ := RFF.out
      simp only at q0 q1 q2 q3 q4
      refine bodyPost_ret (v := .tuple #[.agg #[.int .i64 room, (.slice a m c), .bool false, .int .i64 armed, .int .u64 steps], .int .i64 2]) (by simp [results, Tryz.results11, go_sem, q0, q1, q2, q3, q4]) rfl ?_
      rw [HV.out]
      exact ⟨_, rfl, RIs.new (D := ⟨room, L, false, armed, steps⟩) HL.out (HR.out.below BF.out), BF.out, by first | exact fun g hg => .inl hg | (intro g hg; first | exact (F3.out g hg).imp id (fun h => by have := L3.out; omega) | (right; first | (have h5 := N6.out g hg; have h6 := L6.out; omega) | (have h5 := N5.out g hg; have h6 := L5.out; omega)))⟩
    · have hnp : ¬ ¬ (1 ≤ n.size ∧ n.size ≤ 16) := not_not_intro (of_decide_eq_true hnm)
      have HNP := Lib.hid hnp
      clear hnp hnm
      obtain ⟨r0, r1, r2, r3, r4, f0, f1, f2, f3, f4⟩ := X1.out
      obtain ⟨z0, z1, z2, z3, z4, g0, g1, g2, g3, g4⟩ := Z1.out
      have hlx := X1.out.lt
      have hlz := Z1.out.lt
      go_wp2_with fail
      clear r0 r1 r2 r3 r4 f0 f1 f2 f3 f4 z0 z1 z2 z3 z4 g0 g1 g2 g3 g4 hlx hlz
      refine (rfind_any _ ⟨room, L, false, armed, steps⟩ n w1 (RIs.new HL.out (HR.out.below B1.out)) HM.out).mono ?_
      rintro e w2 ⟨rfl, hb2⟩
      have X2 := Lib.hid (X1.out.below hb2)
      have Z2 := Lib.hid (Z1.out.below hb2)
      have B2 : Hid (Below w.heap.size w w2) := Lib.hid (B1.out.trans (hb2.mono B1.out.size))
      clear hb2
      have hbl : ((strN bs).size : Int) = (bs.length : Int) := by rw [size_strN]
      have hbs2 : (bs.length : Int) ≤ 2097152 := by omega
      have hss2 := size_strN bs
      cases hf : findFile n L with
      | none =>
        have hI : findI n L = -1 := findI_none.2 hf
        rw [hI]
        have HF := Lib.hid (show findFile n (⟨room, L, false, armed, steps⟩ : DiskS).files = none from hf)
        clear hI hf
        by_cases h128 : 128 ≤ m
        · have h128b : (128 : Int) ≤ (m : Int) := by omega
          have HV : Hid (appendD ⟨room, L, false, armed, steps⟩ n bs = (⟨room, L, false, armed, steps⟩, 30)) := Lib.hid (by unfold appendD; rw [show appE ⟨room, L, false, armed, steps⟩ n bs = 30 by unfold appE; rw [if_neg (by simp), if_neg HNP.out, if_pos (.inl ⟨HF.out, by have := HL.out; simp only; omega⟩)], if_pos (by decide)])
          obtain ⟨r0, r1, r2, r3, r4, f0, f1, f2, f3, f4⟩ := X2.out
          obtain ⟨z0, z1, z2, z3, z4, g0, g1, g2, g3, g4⟩ := Z2.out
          have hlx := X2.out.lt
          have hlz := Z2.out.lt
          have RFF := Lib.hid (Z2.out.set ⟨room, [], false, armed, steps⟩ (.slice a m c))
          have BF := Lib.hid (B2.out.trans ((Kept.set5D w2 (w.heap.size + 1) ⟨room, [], false, armed, steps⟩ (.slice a m c)).below B2.out.size (fun k hk => by omega)))
          unfold set5D at RFF BF
          simp only at RFF BF
          go_wp2_with fail
          generalize (((((w2.setCell ⟨w.heap.size + 1, 0, none⟩ (.int .i64 room)).setCell ⟨w.heap.size + 1, 1, none⟩ (.slice a m c)).setCell ⟨w.heap.size + 1, 2, none⟩ (.bool false)).setCell ⟨w.heap.size + 1, 3, none⟩ (.int .i64 armed)).setCell ⟨w.heap.size + 1, 4, none⟩ (.int .u64 steps)) = wF at *
          obtain ⟨q0, q1, q2, q3, q4, _⟩ := RFF.out
          simp only at q0 q1 q2 q3 q4
          refine bodyPost_ret (v := .tuple #[.agg #[.int .i64 room, (.slice a m c), .bool false, .int .i64 armed, .int .u64 steps], .int .i64 30]) (by simp [results, Tryz.results11, go_sem, q0, q1, q2, q3, q4]) rfl ?_
          rw [HV.out]
          exact ⟨_, rfl, RIs.new (D := ⟨room, L, false, armed, steps⟩) HL.out (HR.out.below BF.out), BF.out, by first | exact fun g hg => .inl hg | (intro g hg; first | exact (F3.out g hg).imp id (fun h => by have := L3.out; omega) | (right; first | (have h5 := N6.out g hg; have h6 := L6.out; omega) | (have h5 := N5.out g hg; have h6 := L5.out; omega)))⟩
        · have h128b : ¬ (128 : Int) ≤ (m : Int) := by omega
          obtain ⟨r0, r1, r2, r3, r4, f0, f1, f2, f3, f4⟩ := X2.out
          obtain ⟨z0, z1, z2, z3, z4, g0, g1, g2, g3, g4⟩ := Z2.out
          have hlx := X2.out.lt
          have hlz := Z2.out.lt
          go_wp2_with fail
          clear r0 r1 r2 r3 r4 f0 f1 f2 f3 f4 z0 z1 z2 z3 z4 g0 g1 g2 g3 g4 hlx hlz
          refine (rfree_any _ ⟨room, L, false, armed, steps⟩ w2 (RIs.new HL.out (HR.out.below B2.out)) HG.out).mono ?_
          rintro e w3 ⟨rfl, hb3⟩
          have X3 := Lib.hid (X2.out.below hb3)
          have Z3 := Lib.hid (Z2.out.below hb3)
          have B3 : Hid (Below w.heap.size w w3) := Lib.hid (B2.out.trans (hb3.mono B2.out.size))
          clear hb3
          obtain ⟨fr, hfr⟩ : ∃ fr, freeD ⟨room, L, false, armed, steps⟩ = fr := ⟨_, rfl⟩
          have HFR := Lib.hid hfr
          rw [hfr]
          clear hfr
          by_cases hfu : fr < (bs.length : Int)
          · have HV : Hid (appendD ⟨room, L, false, armed, steps⟩ n bs = (⟨room, L, false, armed, steps⟩, 30)) := Lib.hid (by unfold appendD; rw [show appE ⟨room, L, false, armed, steps⟩ n bs = 30 by unfold appE; rw [if_neg (by simp), if_neg HNP.out, if_pos (.inr (by rw [HFR.out]; exact hfu))], if_pos (by decide)])
            obtain ⟨r0, r1, r2, r3, r4, f0, f1, f2, f3, f4⟩ := X3.out
            obtain ⟨z0, z1, z2, z3, z4, g0, g1, g2, g3, g4⟩ := Z3.out
            have hlx := X3.out.lt
            have hlz := Z3.out.lt
            have RFF := Lib.hid (Z3.out.set ⟨room, [], false, armed, steps⟩ (.slice a m c))
            have BF := Lib.hid (B3.out.trans ((Kept.set5D w3 (w.heap.size + 1) ⟨room, [], false, armed, steps⟩ (.slice a m c)).below B3.out.size (fun k hk => by omega)))
            unfold set5D at RFF BF
            simp only at RFF BF
            go_wp2_with fail
            generalize (((((w3.setCell ⟨w.heap.size + 1, 0, none⟩ (.int .i64 room)).setCell ⟨w.heap.size + 1, 1, none⟩ (.slice a m c)).setCell ⟨w.heap.size + 1, 2, none⟩ (.bool false)).setCell ⟨w.heap.size + 1, 3, none⟩ (.int .i64 armed)).setCell ⟨w.heap.size + 1, 4, none⟩ (.int .u64 steps)) = wF at *
            obtain ⟨q0, q1, q2, q3, q4, _⟩ := RFF.out
            simp only at q0 q1 q2 q3 q4
            refine bodyPost_ret (v := .tuple #[.agg #[.int .i64 room, (.slice a m c), .bool false, .int .i64 armed, .int .u64 steps], .int .i64 30]) (by simp [results, Tryz.results11, go_sem, q0, q1, q2, q3, q4]) rfl ?_
            rw [HV.out]
            exact ⟨_, rfl, RIs.new (D := ⟨room, L, false, armed, steps⟩) HL.out (HR.out.below BF.out), BF.out, by first | exact fun g hg => .inl hg | (intro g hg; first | exact (F3.out g hg).imp id (fun h => by have := L3.out; omega) | (right; first | (have h5 := N6.out g hg; have h6 := L6.out; omega) | (have h5 := N5.out g hg; have h6 := L5.out; omega)))⟩
          · have HAE : Hid (appE ⟨room, L, false, armed, steps⟩ n bs = 0) := Lib.hid (by unfold appE; rw [if_neg (by simp), if_neg HNP.out, if_neg (fun h => h.elim (fun h => h128 (by have h1 := h.2; have h2 := HL.out; simp only at h1; omega)) (fun h => by rw [HFR.out] at h; omega))])
            have HAP : Hid (appD ⟨room, L, false, armed, steps⟩ n bs = ⟨room, (putFile ⟨n, bs, 0⟩ L), false, armed, steps⟩) := Lib.hid (by unfold appD; rw [getF_none HF.out]; rfl)
            obtain ⟨r0, r1, r2, r3, r4, f0, f1, f2, f3, f4⟩ := X3.out
            obtain ⟨z0, z1, z2, z3, z4, g0, g1, g2, g3, g4⟩ := Z3.out
            have hlx := X3.out.lt
            have hlz := Z3.out.lt
            have hcat : (⟨#[]⟩ : ByteArray) ++ strN bs = strN bs := strN_app [] bs
            have hcl : ((⟨#[]⟩ : ByteArray).size : Int) + ((strN bs).size : Int) ≤ 9223372036854775807 := by show (0 : Int) + _ ≤ _; rw [size_strN]; omega
            have AL : Below w3.heap.size w3 (w3.alloc (.cells #[.string n, .string (strN (bs)), .int .i64 0] 96)) := (Below.refl _ _).alloc (Nat.le_refl _) _
            have X4 := Lib.hid (X3.out.below AL)
            have Z4 := Lib.hid (Z3.out.below AL)
            have B4 := Lib.hid (B3.out.trans (AL.mono B3.out.size))
            clear AL
            go_wp2_with fail
            generalize World.alloc _ _ = w4 at *
            clear r0 r1 r2 r3 r4 f0 f1 f2 f3 f4 z0 z1 z2 z3 z4 g0 g1 g2 g3 g4 hlx hlz
            clear hcat hcl
            refine (rwith_0 _ m c ⟨room, L, false, armed, steps⟩ n bs w4 HL.out (HR.out.below B4.out) HM.out).mono ?_
            rintro e w5 ⟨a6, c6, rfl, hs6, hn6, hb6⟩
            simp only at hs6 hn6 ⊢
            have X5 := Lib.hid (X4.out.below hb6)
            have Z5 := Lib.hid (Z4.out.below hb6)
            have B5 : Hid (Below w.heap.size w w5) := Lib.hid (B4.out.trans (hb6.mono B4.out.size))
            have S6 := Lib.hid hs6
            have N6 := Lib.hid hn6
            have L6 : Hid (w.heap.size + 1 < w4.heap.size) := Lib.hid Z4.out.lt
            obtain ⟨m6, hm6⟩ : ∃ k, (putFile ⟨n, bs, 0⟩ L).length = k := ⟨_, rfl⟩
            have HM6 := Lib.hid hm6
            rw [hm6] at S6 N6 ⊢
            clear hs6 hn6 hb6 hm6
            go_wp2_with fail
            refine (rstep_any ⟨room, (putFile ⟨n, bs, 0⟩ L), false, armed, steps⟩ a6 m6 c6 w5 HA.out.1.1 HA.out.1.2 HA.out.2.1 HA.out.2.2).mono ?_
            rintro e w6 ⟨rfl, hb6⟩
            have X6 := Lib.hid (X5.out.below hb6)
            have Z6 := Lib.hid (Z5.out.below hb6)
            have B6 : Hid (Below w.heap.size w w6) := Lib.hid (B5.out.trans (hb6.mono B5.out.size))
            have S7 := Lib.hid (S6.out.below hb6)
            clear hb6
            obtain ⟨S, hS, hSf, hSr⟩ := stepD_eq ⟨room, (putFile ⟨n, bs, 0⟩ L), false, armed, steps⟩
            simp only at hSf hSr
            rw [hS]
            have HS := Lib.hid hS
            have HSF := Lib.hid hSf
            have HSR := Lib.hid hSr
            clear hS hSf hSr
            obtain ⟨Sroom, SL, Sdown, Sarmed, Ssteps⟩ := S
            simp only at HSF HSR ⊢
            obtain rfl : room = Sroom := HSR.out.symm
            by_cases h0 : armed = 0
            · have hd : decide (armed ≠ 0) = false := decide_eq_false (by simpa using h0)
              have HV : Hid (appendD ⟨room, L, false, armed, steps⟩ n bs = (⟨room, SL, Sdown, Sarmed, Ssteps⟩, 50)) := Lib.hid (by unfold appendD; rw [HAE.out, if_neg (by simp), HAP.out, HS.out, stepE_eq]; simp only; rw [if_pos h0])
              rw [hd]
              clear h0
              obtain ⟨r0, r1, r2, r3, r4, f0, f1, f2, f3, f4⟩ := X6.out
              obtain ⟨z0, z1, z2, z3, z4, g0, g1, g2, g3, g4⟩ := Z6.out
              have hlx := X6.out.lt
              have hlz := Z6.out.lt
              have X7 := Lib.hid (X6.out.set ⟨room, [], Sdown, Sarmed, Ssteps⟩ (.slice a6 m6 c6))
              have KS7 := Kept.set5D w6 w.heap.size ⟨room, [], Sdown, Sarmed, Ssteps⟩ (.slice a6 m6 c6)
              have Z7 := Lib.hid (Z6.out.kept KS7 (by omega))
              have B7 := Lib.hid (B6.out.trans (KS7.below B6.out.size (fun k hk => by omega)))
              unfold set5D at X7 Z7 B7
              simp only at X7 Z7 B7
              clear KS7
              have RFF := Lib.hid (Z7.out.set ⟨room, [], Sdown, Sarmed, Ssteps⟩ (.slice a6 m6 c6))
              have BF := Lib.hid (B7.out.trans ((Kept.set5D (((((w6.setCell ⟨w.heap.size, 0, none⟩ (.int .i64 room)).setCell ⟨w.heap.size, 1, none⟩ (.slice a6 m6 c6)).setCell ⟨w.heap.size, 2, none⟩ (.bool Sdown)).setCell ⟨w.heap.size, 3, none⟩ (.int .i64 Sarmed)).setCell ⟨w.heap.size, 4, none⟩ (.int .u64 Ssteps)) (w.heap.size + 1) ⟨room, [], Sdown, Sarmed, Ssteps⟩ (.slice a6 m6 c6)).below B7.out.size (fun k hk => by omega)))
              unfold set5D at RFF BF
              simp only at RFF BF
              go_wp2_with fail
              have S8F := SRow.off (S7.out.off (Kept.set5D w6 w.heap.size ⟨room, [], Sdown, Sarmed, Ssteps⟩ (.slice a6 m6 c6)) N6.out (fun k hk => by have := L6.out; omega)) (Kept.set5D (set5D w6 w.heap.size ⟨room, [], Sdown, Sarmed, Ssteps⟩ (.slice a6 m6 c6)) (w.heap.size + 1) ⟨room, [], Sdown, Sarmed, Ssteps⟩ (.slice a6 m6 c6)) N6.out (fun k hk => by have := L6.out; omega)
              unfold set5D at S8F
              simp only at S8F
              generalize ((((((((((w6.setCell ⟨w.heap.size, 0, none⟩ (.int .i64 room)).setCell ⟨w.heap.size, 1, none⟩ (.slice a6 m6 c6)).setCell ⟨w.heap.size, 2, none⟩ (.bool Sdown)).setCell ⟨w.heap.size, 3, none⟩ (.int .i64 Sarmed)).setCell ⟨w.heap.size, 4, none⟩ (.int .u64 Ssteps)).setCell ⟨w.heap.size + 1, 0, none⟩ (.int .i64 room)).setCell ⟨w.heap.size + 1, 1, none⟩ (.slice a6 m6 c6)).setCell ⟨w.heap.size + 1, 2, none⟩ (.bool Sdown)).setCell ⟨w.heap.size + 1, 3, none⟩ (.int .i64 Sarmed)).setCell ⟨w.heap.size + 1, 4, none⟩ (.int .u64 Ssteps)) = wF at *
              obtain ⟨q0, q1, q2, q3, q4, _⟩ := RFF.out
              simp only at q0 q1 q2 q3 q4
              refine bodyPost_ret (v := .tuple #[.agg #[.int .i64 room, (.slice a6 m6 c6), .bool Sdown, .int .i64 Sarmed, .int .u64 Ssteps], .int .i64 50]) (by simp [results, Tryz.results11, go_sem, q0, q1, q2, q3, q4]) rfl ?_
              rw [HV.out]
              exact ⟨_, rfl, RIs.new (D := ⟨room, SL, Sdown, Sarmed, Ssteps⟩) (by rw [show SL = (putFile ⟨n, bs, 0⟩ L) from HSF.out]; exact HM6.out) (by rw [show SL = (putFile ⟨n, bs, 0⟩ L) from HSF.out]; exact S8F), BF.out, by first | exact fun g hg => .inl hg | (intro g hg; first | exact (F3.out g hg).imp id (fun h => by have := L3.out; omega) | (right; first | (have h5 := N6.out g hg; have h6 := L6.out; omega) | (have h5 := N5.out g hg; have h6 := L5.out; omega)))⟩
            · have hd : decide (armed ≠ 0) = true := decide_eq_true h0
              have HV : Hid (appendD ⟨room, L, false, armed, steps⟩ n bs = (⟨room, SL, Sdown, Sarmed, Ssteps⟩, 0)) := Lib.hid (by unfold appendD; rw [HAE.out, if_neg (by simp), HAP.out, HS.out, stepE_eq]; simp only; rw [if_neg h0])
              rw [hd]
              clear h0
              obtain ⟨r0, r1, r2, r3, r4, f0, f1, f2, f3, f4⟩ := X6.out
              obtain ⟨z0, z1, z2, z3, z4, g0, g1, g2, g3, g4⟩ := Z6.out
              have hlx := X6.out.lt
              have hlz := Z6.out.lt
              have X7 := Lib.hid (X6.out.set ⟨room, [], Sdown, Sarmed, Ssteps⟩ (.slice a6 m6 c6))
              have KS7 := Kept.set5D w6 w.heap.size ⟨room, [], Sdown, Sarmed, Ssteps⟩ (.slice a6 m6 c6)
              have Z7 := Lib.hid (Z6.out.kept KS7 (by omega))
              have B7 := Lib.hid (B6.out.trans (KS7.below B6.out.size (fun k hk => by omega)))
              unfold set5D at X7 Z7 B7
              simp only at X7 Z7 B7
              clear KS7
              have RFF := Lib.hid (Z7.out.set ⟨room, [], Sdown, Sarmed, Ssteps⟩ (.slice a6 m6 c6))
              have BF := Lib.hid (B7.out.trans ((Kept.set5D (((((w6.setCell ⟨w.heap.size, 0, none⟩ (.int .i64 room)).setCell ⟨w.heap.size, 1, none⟩ (.slice a6 m6 c6)).setCell ⟨w.heap.size, 2, none⟩ (.bool Sdown)).setCell ⟨w.heap.size, 3, none⟩ (.int .i64 Sarmed)).setCell ⟨w.heap.size, 4, none⟩ (.int .u64 Ssteps)) (w.heap.size + 1) ⟨room, [], Sdown, Sarmed, Ssteps⟩ (.slice a6 m6 c6)).below B7.out.size (fun k hk => by omega)))
              unfold set5D at RFF BF
              simp only at RFF BF
              go_wp2_with fail
              have S8F := SRow.off (S7.out.off (Kept.set5D w6 w.heap.size ⟨room, [], Sdown, Sarmed, Ssteps⟩ (.slice a6 m6 c6)) N6.out (fun k hk => by have := L6.out; omega)) (Kept.set5D (set5D w6 w.heap.size ⟨room, [], Sdown, Sarmed, Ssteps⟩ (.slice a6 m6 c6)) (w.heap.size + 1) ⟨room, [], Sdown, Sarmed, Ssteps⟩ (.slice a6 m6 c6)) N6.out (fun k hk => by have := L6.out; omega)
              unfold set5D at S8F
              simp only at S8F
              generalize ((((((((((w6.setCell ⟨w.heap.size, 0, none⟩ (.int .i64 room)).setCell ⟨w.heap.size, 1, none⟩ (.slice a6 m6 c6)).setCell ⟨w.heap.size, 2, none⟩ (.bool Sdown)).setCell ⟨w.heap.size, 3, none⟩ (.int .i64 Sarmed)).setCell ⟨w.heap.size, 4, none⟩ (.int .u64 Ssteps)).setCell ⟨w.heap.size + 1, 0, none⟩ (.int .i64 room)).setCell ⟨w.heap.size + 1, 1, none⟩ (.slice a6 m6 c6)).setCell ⟨w.heap.size + 1, 2, none⟩ (.bool Sdown)).setCell ⟨w.heap.size + 1, 3, none⟩ (.int .i64 Sarmed)).setCell ⟨w.heap.size + 1, 4, none⟩ (.int .u64 Ssteps)) = wF at *
              obtain ⟨q0, q1, q2, q3, q4, _⟩ := RFF.out
              simp only at q0 q1 q2 q3 q4
              refine bodyPost_ret (v := .tuple #[.agg #[.int .i64 room, (.slice a6 m6 c6), .bool Sdown, .int .i64 Sarmed, .int .u64 Ssteps], .int .i64 0]) (by simp [results, Tryz.results11, go_sem, q0, q1, q2, q3, q4]) rfl ?_
              rw [HV.out]
              exact ⟨_, rfl, RIs.new (D := ⟨room, SL, Sdown, Sarmed, Ssteps⟩) (by rw [show SL = (putFile ⟨n, bs, 0⟩ L) from HSF.out]; exact HM6.out) (by rw [show SL = (putFile ⟨n, bs, 0⟩ L) from HSF.out]; exact S8F), BF.out, by first | exact fun g hg => .inl hg | (intro g hg; first | exact (F3.out g hg).imp id (fun h => by have := L3.out; omega) | (right; first | (have h5 := N6.out g hg; have h6 := L6.out; omega) | (have h5 := N5.out g hg; have h6 := L5.out; omega)))⟩
      | some fl =>
        obtain ⟨i, hI, hLi⟩ := findI_some hf
        rw [hI]
        have hi0 : ¬ (i : Int) < 0 := by omega
        have hi1 : (0 : Int) ≤ (i : Int) := by omega
        have HF := Lib.hid (show findFile n (⟨room, L, false, armed, steps⟩ : DiskS).files = some fl from hf)
        have hfl := HGE.out fl (List.mem_of_getElem? hLi)
        obtain ⟨b, o, rfl, hbl, k0, k1, k2⟩ := HR.out.file hLi
        have FC := Lib.hid (And.intro k0 (And.intro k1 k2))
        have FL := Lib.hid hbl
        have hbx1 : ¬ b = w.heap.size := by omega
        have hbx2 : ¬ w.heap.size = b := by omega
        have hss := size_strN fl.all
        have him : (i : Int) < (m : Int) := by have h1 := (List.getElem?_eq_some_iff.1 hLi).1; have h2 := HL.out; omega
        clear k0 k1 k2 hbl
        clear hf hI hLi
        obtain ⟨r0, r1, r2, r3, r4, f0, f1, f2, f3, f4⟩ := X2.out
        obtain ⟨z0, z1, z2, z3, z4, g0, g1, g2, g3, g4⟩ := Z2.out
        have hlx := X2.out.lt
        have hlz := Z2.out.lt
        go_wp2_with fail
        clear r0 r1 r2 r3 r4 f0 f1 f2 f3 f4 z0 z1 z2 z3 z4 g0 g1 g2 g3 g4 hlx hlz
        refine (rfree_any _ ⟨room, L, false, armed, steps⟩ w2 (RIs.new HL.out (HR.out.below B2.out)) HG.out).mono ?_
        rintro e w3 ⟨rfl, hb3⟩
        have X3 := Lib.hid (X2.out.below hb3)
        have Z3 := Lib.hid (Z2.out.below hb3)
        have B3 : Hid (Below w.heap.size w w3) := Lib.hid (B2.out.trans (hb3.mono B2.out.size))
        clear hb3
        obtain ⟨fr, hfr⟩ : ∃ fr, freeD ⟨room, L, false, armed, steps⟩ = fr := ⟨_, rfl⟩
        have HFR := Lib.hid hfr
        rw [hfr]
        clear hfr
        by_cases hfu : fr < (bs.length : Int)
        · have HV : Hid (appendD ⟨room, L, false, armed, steps⟩ n bs = (⟨room, L, false, armed, steps⟩, 30)) := Lib.hid (by unfold appendD; rw [show appE ⟨room, L, false, armed, steps⟩ n bs = 30 by unfold appE; rw [if_neg (by simp), if_neg HNP.out, if_pos (.inr (by rw [HFR.out]; exact hfu))], if_pos (by decide)])
          obtain ⟨r0, r1, r2, r3, r4, f0, f1, f2, f3, f4⟩ := X3.out
          obtain ⟨z0, z1, z2, z3, z4, g0, g1, g2, g3, g4⟩ := Z3.out
          have hlx := X3.out.lt
          have hlz := Z3.out.lt
          have RFF := Lib.hid (Z3.out.set ⟨room, [], false, armed, steps⟩ (.slice (some ⟨b, o, none⟩) m c))
          have BF := Lib.hid (B3.out.trans ((Kept.set5D w3 (w.heap.size + 1) ⟨room, [], false, armed, steps⟩ (.slice (some ⟨b, o, none⟩) m c)).below B3.out.size (fun k hk => by omega)))
          unfold set5D at RFF BF
          simp only at RFF BF
          go_wp2_with fail
          generalize (((((w3.setCell ⟨w.heap.size + 1, 0, none⟩ (.int .i64 room)).setCell ⟨w.heap.size + 1, 1, none⟩ (.slice (some ⟨b, o, none⟩) m c)).setCell ⟨w.heap.size + 1, 2, none⟩ (.bool false)).setCell ⟨w.heap.size + 1, 3, none⟩ (.int .i64 armed)).setCell ⟨w.heap.size + 1, 4, none⟩ (.int .u64 steps)) = wF at *
          obtain ⟨q0, q1, q2, q3, q4, _⟩ := RFF.out
          simp only at q0 q1 q2 q3 q4
          refine bodyPost_ret (v := .tuple #[.agg #[.int .i64 room, (.slice (some ⟨b, o, none⟩) m c), .bool false, .int .i64 armed, .int .u64 steps], .int .i64 30]) (by simp [results, Tryz.results11, go_sem, q0, q1, q2, q3, q4]) rfl ?_
          rw [HV.out]
          exact ⟨_, rfl, RIs.new (D := ⟨room, L, false, armed, steps⟩) HL.out (HR.out.below BF.out), BF.out, by first | exact fun g hg => .inl hg | (intro g hg; first | exact (F3.out g hg).imp id (fun h => by have := L3.out; omega) | (right; first | (have h5 := N6.out g hg; have h6 := L6.out; omega) | (have h5 := N5.out g hg; have h6 := L5.out; omega)))⟩
        · have HAE : Hid (appE ⟨room, L, false, armed, steps⟩ n bs = 0) := Lib.hid (by unfold appE; rw [if_neg (by simp), if_neg HNP.out, if_neg (fun h => h.elim (fun h => by rw [HF.out] at h; cases h.1) (fun h => by rw [HFR.out] at h; omega))])
          have HAP : Hid (appD ⟨room, L, false, armed, steps⟩ n bs = ⟨room, (putFile { fl with all := fl.all ++ bs } L), false, armed, steps⟩) := Lib.hid (by unfold appD; rw [getF_some HF.out])
          obtain ⟨r0, r1, r2, r3, r4, f0, f1, f2, f3, f4⟩ := X3.out
          obtain ⟨z0, z1, z2, z3, z4, g0, g1, g2, g3, g4⟩ := Z3.out
          have hlx := X3.out.lt
          have hlz := Z3.out.lt
          have y0 := Below.at B3.out FC.out.1 FL.out
          have y1 := Below.at B3.out FC.out.2.1 FL.out
          have y2 := Below.at B3.out FC.out.2.2 FL.out
          have hyl : b < w3.heap.size := Nat.lt_of_lt_of_le FL.out B3.out.size
          have hcat := strN_app fl.all bs
          have hcl : ((strN fl.all).size : Int) + ((strN bs).size : Int) ≤ 9223372036854775807 := by rw [size_strN, size_strN]; omega
          have AL : Below w3.heap.size w3 (w3.alloc (.cells #[.string fl.name, .string (strN (fl.all ++ bs)), .int .i64 (fl.kept : Nat)] 96)) := (Below.refl _ _).alloc (Nat.le_refl _) _
          have X4 := Lib.hid (X3.out.below AL)
          have Z4 := Lib.hid (Z3.out.below AL)
          have B4 := Lib.hid (B3.out.trans (AL.mono B3.out.size))
          clear AL
          go_wp2_with fail
          generalize World.alloc _ _ = w4 at *
          clear r0 r1 r2 r3 r4 f0 f1 f2 f3 f4 z0 z1 z2 z3 z4 g0 g1 g2 g3 g4 hlx hlz
          clear y0 y1 y2 hyl
          clear hcat hcl
          refine (rwith_n _ m c ⟨room, L, false, armed, steps⟩ { fl with all := fl.all ++ bs } w4 HL.out (HR.out.below B4.out) HM.out).mono ?_
          rintro e w5 ⟨a6, c6, rfl, hs6, hn6, hb6⟩
          simp only at hs6 hn6 ⊢
          have X5 := Lib.hid (X4.out.below hb6)
          have Z5 := Lib.hid (Z4.out.below hb6)
          have B5 : Hid (Below w.heap.size w w5) := Lib.hid (B4.out.trans (hb6.mono B4.out.size))
          have S6 := Lib.hid hs6
          have N6 := Lib.hid hn6
          have L6 : Hid (w.heap.size + 1 < w4.heap.size) := Lib.hid Z4.out.lt
          obtain ⟨m6, hm6⟩ : ∃ k, (putFile { fl with all := fl.all ++ bs } L).length = k := ⟨_, rfl⟩
          have HM6 := Lib.hid hm6
          rw [hm6] at S6 N6 ⊢
          clear hs6 hn6 hb6 hm6
          go_wp2_with fail
          refine (rstep_any ⟨room, (putFile { fl with all := fl.all ++ bs } L), false, armed, steps⟩ a6 m6 c6 w5 HA.out.1.1 HA.out.1.2 HA.out.2.1 HA.out.2.2).mono ?_
          rintro e w6 ⟨rfl, hb6⟩
          have X6 := Lib.hid (X5.out.below hb6)
          have Z6 := Lib.hid (Z5.out.below hb6)
          have B6 : Hid (Below w.heap.size w w6) := Lib.hid (B5.out.trans (hb6.mono B5.out.size))
          have S7 := Lib.hid (S6.out.below hb6)
          clear hb6
          obtain ⟨S, hS, hSf, hSr⟩ := stepD_eq ⟨room, (putFile { fl with all := fl.all ++ bs } L), false, armed, steps⟩
          simp only at hSf hSr
          rw [hS]
          have HS := Lib.hid hS
          have HSF := Lib.hid hSf
          have HSR := Lib.hid hSr
          clear hS hSf hSr
          obtain ⟨Sroom, SL, Sdown, Sarmed, Ssteps⟩ := S
          simp only at HSF HSR ⊢
          obtain rfl : room = Sroom := HSR.out.symm
          by_cases h0 : armed = 0
          · have hd : decide (armed ≠ 0) = false := decide_eq_false (by simpa using h0)
            have HV : Hid (appendD ⟨room, L, false, armed, steps⟩ n bs = (⟨room, SL, Sdown, Sarmed, Ssteps⟩, 50)) := Lib.hid (by unfold appendD; rw [HAE.out, if_neg (by simp), HAP.out, HS.out, stepE_eq]; simp only; rw [if_pos h0])
            rw [hd]
            clear h0
            obtain ⟨r0, r1, r2, r3, r4, f0, f1, f2, f3, f4⟩ := X6.out
            obtain ⟨z0, z1, z2, z3, z4, g0, g1, g2, g3, g4⟩ := Z6.out
            have hlx := X6.out.lt
            have hlz := Z6.out.lt
            have X7 := Lib.hid (X6.out.set ⟨room, [], Sdown, Sarmed, Ssteps⟩ (.slice a6 m6 c6))
            have KS7 := Kept.set5D w6 w.heap.size ⟨room, [], Sdown, Sarmed, Ssteps⟩ (.slice a6 m6 c6)
            have Z7 := Lib.hid (Z6.out.kept KS7 (by omega))
            have B7 := Lib.hid (B6.out.trans (KS7.below B6.out.size (fun k hk => by omega)))
            unfold set5D at X7 Z7 B7
            simp only at X7 Z7 B7
            clear KS7
            have RFF := Lib.hid (Z7.out.set ⟨room, [], Sdown, Sarmed, Ssteps⟩ (.slice a6 m6 c6))
            have BF := Lib.hid (B7.out.trans ((Kept.set5D (((((w6.setCell ⟨w.heap.size, 0, none⟩ (.int .i64 room)).setCell ⟨w.heap.size, 1, none⟩ (.slice a6 m6 c6)).setCell ⟨w.heap.size, 2, none⟩ (.bool Sdown)).setCell ⟨w.heap.size, 3, none⟩ (.int .i64 Sarmed)).setCell ⟨w.heap.size, 4, none⟩ (.int .u64 Ssteps)) (w.heap.size + 1) ⟨room, [], Sdown, Sarmed, Ssteps⟩ (.slice a6 m6 c6)).below B7.out.size (fun k hk => by omega)))
            unfold set5D at RFF BF
            simp only at RFF BF
            go_wp2_with fail
            have S8F := SRow.off (S7.out.off (Kept.set5D w6 w.heap.size ⟨room, [], Sdown, Sarmed, Ssteps⟩ (.slice a6 m6 c6)) N6.out (fun k hk => by have := L6.out; omega)) (Kept.set5D (set5D w6 w.heap.size ⟨room, [], Sdown, Sarmed, Ssteps⟩ (.slice a6 m6 c6)) (w.heap.size + 1) ⟨room, [], Sdown, Sarmed, Ssteps⟩ (.slice a6 m6 c6)) N6.out (fun k hk => by have := L6.out; omega)
            unfold set5D at S8F
            simp only at S8F
            generalize ((((((((((w6.setCell ⟨w.heap.size, 0, none⟩ (.int .i64 room)).setCell ⟨w.heap.size, 1, none⟩ (.slice a6 m6 c6)).setCell ⟨w.heap.size, 2, none⟩ (.bool Sdown)).setCell ⟨w.heap.size, 3, none⟩ (.int .i64 Sarmed)).setCell ⟨w.heap.size, 4, none⟩ (.int .u64 Ssteps)).setCell ⟨w.heap.size + 1, 0, none⟩ (.int .i64 room)).setCell ⟨w.heap.size + 1, 1, none⟩ (.slice a6 m6 c6)).setCell ⟨w.heap.size + 1, 2, none⟩ (.bool Sdown)).setCell ⟨w.heap.size + 1, 3, none⟩ (.int .i64 Sarmed)).setCell ⟨w.heap.size + 1, 4, none⟩ (.int .u64 Ssteps)) = wF at *
            obtain ⟨q0, q1, q2, q3, q4, _⟩ := RFF.out
            simp only at q0 q1 q2 q3 q4
            refine bodyPost_ret (v := .tuple #[.agg #[.int .i64 room, (.slice a6 m6 c6), .bool Sdown, .int .i64 Sarmed, .int .u64 Ssteps], .int .i64 50]) (by simp [results, Tryz.results11, go_sem, q0, q1, q2, q3, q4]) rfl ?_
            rw [HV.out]
            exact ⟨_, rfl, RIs.new (D := ⟨room, SL, Sdown, Sarmed, Ssteps⟩) (by rw [show SL = (putFile { fl with all := fl.all ++ bs } L) from HSF.out]; exact HM6.out) (by rw [show SL = (putFile { fl with all := fl.all ++ bs } L) from HSF.out]; exact S8F), BF.out, by first | exact fun g hg => .inl hg | (intro g hg; first | exact (F3.out g hg).imp id (fun h => by have := L3.out; omega) | (right; first | (have h5 := N6.out g hg; have h6 := L6.out; omega) | (have h5 := N5.out g hg; have h6 := L5.out; omega)))⟩
          · have hd : decide (armed ≠ 0) = true := decide_eq_true h0
            have HV : Hid (appendD ⟨room, L, false, armed, steps⟩ n bs = (⟨room, SL, Sdown, Sarmed, Ssteps⟩, 0)) := Lib.hid (by unfold appendD; rw [HAE.out, if_neg (by simp), HAP.out, HS.out, stepE_eq]; simp only; rw [if_neg h0])
            rw [hd]
            clear h0
            obtain ⟨r0, r1, r2, r3, r4, f0, f1, f2, f3, f4⟩ := X6.out
            obtain ⟨z0, z1, z2, z3, z4, g0, g1, g2, g3, g4⟩ := Z6.out
            have hlx := X6.out.lt
            have hlz := Z6.out.lt
            have X7 := Lib.hid (X6.out.set ⟨room, [], Sdown, Sarmed, Ssteps⟩ (.slice a6 m6 c6))
            have KS7 := Kept.set5D w6 w.heap.size ⟨room, [], Sdown, Sarmed, Ssteps⟩ (.slice a6 m6 c6)
            have Z7 := Lib.hid (Z6.out.kept KS7 (by omega))
            have B7 := Lib.hid (B6.out.trans (KS7.below B6.out.size (fun k hk => by omega)))
            unfold set5D at X7 Z7 B7
            simp only at X7 Z7 B7
            clear KS7
            have RFF := Lib.hid (Z7.out.set ⟨room, [], Sdown, Sarmed, Ssteps⟩ (.slice a6 m6 c6))
            have BF := Lib.hid (B7.out.trans ((Kept.set5D (((((w6.setCell ⟨w.heap.size, 0, none⟩ (.int .i64 room)).setCell ⟨w.heap.size, 1, none⟩ (.slice a6 m6 c6)).setCell ⟨w.heap.size, 2, none⟩ (.bool Sdown)).setCell ⟨w.heap.size, 3, none⟩ (.int .i64 Sarmed)).setCell ⟨w.heap.size, 4, none⟩ (.int .u64 Ssteps)) (w.heap.size + 1) ⟨room, [], Sdown, Sarmed, Ssteps⟩ (.slice a6 m6 c6)).below B7.out.size (fun k hk => by omega)))
            unfold set5D at RFF BF
            simp only at RFF BF
            go_wp2_with fail
            have S8F := SRow.off (S7.out.off (Kept.set5D w6 w.heap.size ⟨room, [], Sdown, Sarmed, Ssteps⟩ (.slice a6 m6 c6)) N6.out (fun k hk => by have := L6.out; omega)) (Kept.set5D (set5D w6 w.heap.size ⟨room, [], Sdown, Sarmed, Ssteps⟩ (.slice a6 m6 c6)) (w.heap.size + 1) ⟨room, [], Sdown, Sarmed, Ssteps⟩ (.slice a6 m6 c6)) N6.out (fun k hk => by have := L6.out; omega)
            unfold set5D at S8F
            simp only at S8F
            generalize ((((((((((w6.setCell ⟨w.heap.size, 0, none⟩ (.int .i64 room)).setCell ⟨w.heap.size, 1, none⟩ (.slice a6 m6 c6)).setCell ⟨w.heap.size, 2, none⟩ (.bool Sdown)).setCell ⟨w.heap.size, 3, none⟩ (.int .i64 Sarmed)).setCell ⟨w.heap.size, 4, none⟩ (.int .u64 Ssteps)).setCell ⟨w.heap.size + 1, 0, none⟩ (.int .i64 room)).setCell ⟨w.heap.size + 1, 1, none⟩ (.slice a6 m6 c6)).setCell ⟨w.heap.size + 1, 2, none⟩ (.bool Sdown)).setCell ⟨w.heap.size + 1, 3, none⟩ (.int .i64 Sarmed)).setCell ⟨w.heap.size + 1, 4, none⟩ (.int .u64 Ssteps)) = wF at *
            obtain ⟨q0, q1, q2, q3, q4, _⟩ := RFF.out
            simp only at q0 q1 q2 q3 q4
            refine bodyPost_ret (v := .tuple #[.agg #[.int .i64 room, (.slice a6 m6 c6), .bool Sdown, .int .i64 Sarmed, .int .u64 Ssteps], .int .i64 0]) (by simp [results, Tryz.results11, go_sem, q0, q1, q2, q3, q4]) rfl ?_
            rw [HV.out]
            exact ⟨_, rfl, RIs.new (D := ⟨room, SL, Sdown, Sarmed, Ssteps⟩) (by rw [show SL = (putFile { fl with all := fl.all ++ bs } L) from HSF.out]; exact HM6.out) (by rw [show SL = (putFile { fl with all := fl.all ++ bs } L) from HSF.out]; exact S8F), BF.out, by first | exact fun g hg => .inl hg | (intro g hg; first | exact (F3.out g hg).imp id (fun h => by have := L3.out; omega) | (right; first | (have h5 := N6.out g hg; have h6 := L6.out; omega) | (have h5 := N5.out g hg; have h6 := L5.out; omega)))⟩
  · have HV : Hid (appendD ⟨room, L, true, armed, steps⟩ n bs = (⟨room, L, true, armed, steps⟩, 50)) := Lib.hid (by unfold appendD; rw [show appE ⟨room, L, true, armed, steps⟩ n bs = 50 by unfold appE; rw [if_pos rfl], if_pos (by decide)])
    go_enter Tryz.func11, Tryz.ntmps11
    go_wp2_with fail
    clear BX BZ
    refine bodyPost_ret (v := .tuple #[.agg #[.int .i64 room, .slice a m c, .bool true, .int .i64 armed, .int .u64 steps], .int .i64 50]) (by simp [results, Tryz.results11, go_sem]) rfl ?_
    rw [HV.out]
    exact ⟨_, rfl, RIs.new (D := ⟨room, L, true, armed, steps⟩) HL.out (HR.out.below (((Below.refl _ _).alloc (Nat.le_refl _) _).alloc (by simp) _)), ((Below.refl _ _).alloc (Nat.le_refl _) _).alloc (by simp) _, by first | exact fun g hg => .inl hg | (intro g hg; first | exact (F3.out g hg).imp id (fun h => by have := L3.out; omega) | (right; first | (have h5 := N6.out g hg; have h6 := L6.out; omega) | (have h5 := N5.out g hg; have h6 := L5.out; omega)))⟩
end Go.Proofs.YtofhccpagnkalaaGreat

/- The document's gone; contracts; no conditions but the ranges. -/
namespace Go.Proofs.YtofhccpagnkalaaGreat
open Go.RowKit Go.Maps Go.Proofs.Own

/-- A file's row lies apart from a block whose first cells are no strings. -/
theorem SRow.far {w : World} {b N : Nat} {a : Option Addr} {n c : Nat} {L : List FileS} (h : SRow w 3 (.slice a n c) (L.map rfV)) (hb : ∀ k, k < N → ∃ x, w.cell? ⟨b, k, none⟩ = some x ∧ ∀ s, x ≠ .string s) {w' : World} (hk : ∀ g k, (g = b → N ≤ k) → w'.cell? ⟨g, k, none⟩ = w.cell? ⟨g, k, none⟩) (hsz : w.heap.size ≤ w'.heap.size) : SRow w' 3 (.slice a n c) (L.map rfV) := by
  obtain ⟨a', c', e, hl, hc⟩ := h
  cases e
  refine ⟨_, _, rfl, hl, fun j hj => ?_⟩
  obtain ⟨g, o, e, h0, h1⟩ := hc j hj
  refine ⟨g, o, e, Nat.lt_of_lt_of_le h0 hsz, fun i x hx => ?_⟩
  rw [hk g _ (fun hg => ?_)]
  · exact h1 i x hx
  · subst hg
    rw [List.length_map] at hj
    have e0 : (List.map rfV L)[j]'(by rw [List.length_map]; exact hj) = rfV L[j] := by rw [List.getElem_map]
    have hi3 : i < 3 := by rw [e0] at hx; have := (List.getElem?_eq_some_iff.1 hx).1; simpa [rfV] using this
    have s0 := h1 0 (.string L[j].name) (by rw [e0]; rfl)
    have s1 := h1 1 (.string (strN L[j].all)) (by rw [e0]; rfl)
    false_or_by_contra
    rename_i hlt
    have q0 : N ≤ o + j * 3 + 0 := by
      false_or_by_contra
      rename_i h
      obtain ⟨x, hx1, hx2⟩ := hb (o + j * 3 + 0) (by omega)
      rw [s0] at hx1
      exact hx2 _ (Option.some.inj hx1).symm
    omega
theorem RD.no {w : World} {b : Nat} {D : DiskS} {fv : Value} (k : RD w b D fv) (hfv : ∀ s, fv ≠ .string s) : ∀ i, i < 5 → ∃ x, w.cell? ⟨b, i, none⟩ = some x ∧ ∀ s, x ≠ .string s := by
  intro i hi
  match i, hi with
  | 0, _ => exact ⟨_, k.c0, fun s e => by cases e⟩
  | 1, _ => exact ⟨_, k.c1, hfv⟩
  | 2, _ => exact ⟨_, k.c2, fun s e => by cases e⟩
  | 3, _ => exact ⟨_, k.c3, fun s e => by cases e⟩
  | 4, _ => exact ⟨_, k.c4, fun s e => by cases e⟩
theorem set5D_far (w : World) (b : Nat) (D : DiskS) (fv : Value) (g k : Nat) (h : g = b → 5 ≤ k) : (set5D w b D fv).cell? ⟨g, k, none⟩ = w.cell? ⟨g, k, none⟩ := by
  unfold set5D
  have hne : ∀ i, i < 5 → (⟨b, i, none⟩ : Addr) ≠ ⟨g, k, none⟩ := by
    intro i hi e
    simp only [Addr.mk.injEq, and_true] at e
    have := h e.1.symm
    omega
  rw [World.cell?_setCell_other _ _ _ _ (hne 4 (by omega)), World.cell?_setCell_other _ _ _ _ (hne 3 (by omega)), World.cell?_setCell_other _ _ _ _ (hne 2 (by omega)), World.cell?_setCell_other _ _ _ _ (hne 1 (by omega)), World.cell?_setCell_other _ _ _ _ (hne 0 (by omega))]
theorem SRow.setD {w : World} {b : Nat} {D : DiskS} {fv : Value} {a : Option Addr} {n c : Nat} {L : List FileS} (h : SRow w 3 (.slice a n c) (L.map rfV)) (k : RD w b D fv) (hfv : ∀ s, fv ≠ .string s) (D' : DiskS) (fv' : Value) : SRow (set5D w b D' fv') 3 (.slice a n c) (L.map rfV) :=
  h.far (k.no hfv) (fun g i hg => set5D_far w b D' fv' g i hg) (Kept.set5D w b D' fv').size

end Go.Proofs.YtofhccpagnkalaaGreat

/- The document's Open of the vow, where the power stays; contracts; no conditions but the ranges. -/
namespace Go.Proofs.YtofhccpagnkalaaGreat
open Go.RowKit Go.Maps Go.Proofs.Own

theorem DGood.small {D : DiskS} (h : DGood D) : ∀ f ∈ D.files, f.all.length ≤ 1048576 := fun f hf => by
  have h1 := h.tot
  obtain ⟨i, hi⟩ := List.getElem?_of_mem hf
  have h2 := total_snoc hi
  have h3 := total_take D.files (i + 1)
  omega
theorem Byt8.remove {D : DiskS} (h : Byt8 D.files) (n : ByteArray) : Byt8 (removeD D n).1.files := by
  unfold removeD
  split
  · split
    · exact h
    · split
      · simp only [stepD_files]; exact h
      · exact fun f hf => h f (mem_del.1 hf).1
  · exact h
end Go.Proofs.YtofhccpagnkalaaGreat

/- What a snapshot's Save, a crash and Open leave of its file; plain. -/
namespace Go.Proofs.YtofhccpagnkalaaGreat
open Go.RowKit Go.Maps Go.Proofs.Own

/-- The disk's snapshot is s: the file is its bytes, all kept; or there is none. -/
def SFile (D : DiskS) (s : SnapS) : Prop := (s = zeroS ∧ findFile nSnap D.files = none) ∨ (s.ok ∧ findFile nSnap D.files = some ⟨nSnap, frP 4 (snapW s), (frP 4 (snapW s)).length⟩)
theorem frP_ne (k : Nat) (l : List Nat) : frP k l ≠ [] := fun h => by have := length_frP k l; rw [h] at this; simp at this
theorem SFile.crash {D : DiskS} {s : SnapS} (h : SFile D s) (hr : Rising D.files) (ts : List (Nat × Nat)) : SFile (crashD D ts) s := by
  obtain ⟨us, hu⟩ := find_crash nSnap D.files ts hr.apart
  have hu' : findFile nSnap (crashD D ts).files = (findFile nSnap D.files).bind fun f => (crash1 f us).head? := hu
  rcases h with ⟨h1, h2⟩ | ⟨h1, h2⟩
  · rw [h2] at hu'
    exact .inl ⟨h1, hu'⟩
  · rw [h2] at hu'
    refine .inr ⟨h1, hu'.trans ?_⟩
    simp only [Option.bind_some]
    unfold crash1
    rw [if_neg (Nat.lt_irrefl _), if_neg (frP_ne 4 (snapW s))]
    rfl
/-- The snapshot's Open: what it tells. -/
def sopenE (D : DiskS) : Nat := if (goneD D).2 ≠ 0 then (goneD D).2 else if findFile nSnap (goneD D).1.files = none then 0 else if readB 7 (getF (goneD D).1 nSnap).all = true then 0 else 20
def sopenS (D : DiskS) : SnapS := if findFile nSnap (goneD D).1.files = none then zeroS else readS 7 (getF (goneD D).1 nSnap).all
end Go.Proofs.YtofhccpagnkalaaGreat

/- The snapshot's Open, every way; no conditions but the ranges. -/
namespace Go.Proofs.YtofhccpagnkalaaGreat
open Go.RowKit Go.Maps Go.Proofs.Own

def SOpenPost (db mb tb : Nat) (D : DiskS) (w : World) : Ending → World → Prop := fun e w' =>
  (sopenE D ≠ 0 → e = .returned (.tuple #[.pointer none, .int .i64 (sopenE D)])) ∧
  (sopenE D = 0 → ∃ sb, e = .returned (.tuple #[.pointer (some ⟨sb, 0, none⟩), .int .i64 0]) ∧ StoreIs w' sb db mb tb (sopenS D) ∧ w.heap.size ≤ sb) ∧
  DiskIs w' db mb tb (goneD D).1 ∧ Kept w w' (Own3 db mb tb)
theorem gone_up {D : DiskS} (hg : (goneD D).2 = 0) : (goneD D).1.down = false := by
  cases hd : D.down with
  | false => exact (fell_gone hd nOther).up hg
  | true =>
    exfalso
    unfold goneD removeD at hg
    split at hg
    · rw [if_pos hd] at hg; simp at hg
    · simp only [fileE, if_pos hd] at hg; simp at hg

set_option maxHeartbeats 1600000 in
set_option maxRecDepth 20000 in
theorem sopen_file (db mb tb : Nat) (D : DiskS) (f : FileS) (w : World) (hd : DiskIs w db mb tb D) (hw : DGood D) (hg : (goneD D).2 = 0) (hf : findFile nSnap (goneD D).1.files = some f) :
    Calls Tryz.prog 12 #[.pointer (some ⟨db, 0, none⟩)] w (SOpenPost db mb tb D w) := by
  have HD := Lib.hid hd
  have HW := Lib.hid hw
  have HG := Lib.hid hg
  have HF := Lib.hid hf
  have HUP := Lib.hid (gone_up hg)
  have H3 := Lib.hid hd.lt3
  have HE : Hid (sopenE D = if readB 7 f.all = true then 0 else 20) := Lib.hid (by unfold sopenE; rw [if_neg (not_not_intro hg), if_neg (by rw [hf]; simp), getF_some hf])
  have HSS : Hid (sopenS D = readS 7 f.all) := Lib.hid (by unfold sopenS; rw [if_neg (by rw [hf]; simp), getF_some hf])
  clear hd hw hg hf
  go_enter Tryz.func12, Tryz.ntmps12
  go_wp2_with fail
  generalize hw1 : World.alloc w _ = w1
  have B1 : Hid (Below w.heap.size w w1) := Lib.hid (by subst hw1; exact (Below.refl _ _).alloc (Nat.le_refl _) _)
  have S1 : Hid (SBlk5 w1 w.heap.size db 0 0 (.slice none 0 0) (.slice none 0 0)) := Lib.hid (by
    subst hw1
    exact ⟨by go_cell, by go_cell, by go_cell, by go_cell, by go_cell, by simp, by simp, by simp, by simp⟩)
  clear hw1
  have N1 : Hid (¬ Own3 db mb tb w.heap.size) := Lib.hid fun e => by have := H3.out _ e; omega
  refine (sgone_any w.heap.size db mb tb D w1 S1.out.c0 (HD.out.below B1.out) HW.out).mono ?_
  rintro e w2 ⟨rfl, hd2, hk2⟩
  have D2 := Lib.hid hd2
  have K2 : Hid (Kept w w2 (Own3 db mb tb)) := Lib.hid ((Kept.below3 B1.out).trans hk2)
  have S2 := Lib.hid (S1.out.kept hk2 N1.out)
  clear hd2 hk2
  rw [HG.out]
  generalize hDD : (goneD D).1 = D' at *
  have HDD := Lib.hid hDD
  clear hDD
  go_wp2_with fail
  refine (dread_ok db mb tb D' nSnap f w2 D2.out HUP.out (by decide) HF.out).mono ?_
  rintro e w3 ⟨v3, rfl, hB3, hb3⟩
  obtain ⟨a3, c3, rfl, _⟩ := hB3.shape
  have HB3 := Lib.hid hB3
  have D3 := Lib.hid (D2.out.below hb3)
  have K3 : Hid (Kept w w3 (Own3 db mb tb)) := Lib.hid (K2.out.trans (Kept.below3 hb3))
  have S3 : Hid (SBlk5 w3 w.heap.size db 0 0 (.slice none 0 0) (.slice none 0 0)) := Lib.hid (S2.out.kept (Kept.of_below hb3 (S := fun _ => False) fun k h1 h2 => by omega) fun h => h)
  clear hB3 hb3
  generalize hfl : f.all.length = n at HB3 ⊢
  cases hr : readB 7 f.all
  · have HR := Lib.hid hr
    have HV : Hid (sopenE D = 20) := Lib.hid (by rw [HE.out, hr]; rfl)
    clear hr
    go_wp2_with fail
    refine (pread_any _ f.all w3 HB3.out).mono ?_
    rintro e w4 ⟨v4, rfl, hs4, hb4⟩
    obtain ⟨mv, dv, rfl, hm4, hd4⟩ := hs4
    obtain ⟨am, cm, rfl, _⟩ := hm4.shape
    obtain ⟨ad, cd, rfl, _⟩ := hd4.shape
    rw [HR.out]
    have D4 := Lib.hid (D3.out.below hb4)
    have K4 : Hid (Kept w w4 (Own3 db mb tb)) := Lib.hid (K3.out.trans (Kept.below3 hb4))
    clear hm4 hd4 hb4
    go_wp2_with fail
    go_ret2
    unfold SOpenPost
    rw [HV.out, HDD.out]
    refine ⟨fun _ => rfl, fun h => absurd h (by decide), D4.out.below ((Below.refl _ _).alloc (Nat.le_refl _) _), K4.out.trans (Kept.below3 ((Below.refl _ _).alloc (Nat.le_refl _) _))⟩
  · have HR := Lib.hid hr
    have HV : Hid (sopenE D = 0) := Lib.hid (by rw [HE.out, hr]; rfl)
    clear hr
    go_wp2_with fail
    refine (pread_new _ f.all w3 HB3.out HR.out).mono ?_
    rintro e w4 ⟨v4, rfl, hs4, hb4, hn4⟩
    obtain ⟨mv, dv, rfl, hm4, hd4⟩ := hs4
    obtain ⟨_, _, _, _, he4, hn1, hn2⟩ := hn4
    simp only [Value.agg.injEq, Array.mk.injEq, List.cons.injEq, and_true] at he4
    obtain ⟨rfl, rfl, rfl, rfl⟩ := he4
    generalize hs : readS 7 f.all = s at *
    obtain ⟨am, cm, rfl, _⟩ := hm4.shape
    obtain ⟨ad, cd, rfl, _⟩ := hd4.shape
    rw [HR.out]
    have HM4 := Lib.hid hm4
    have HD4 := Lib.hid hd4
    have HN1 := Lib.hid hn1
    have HN2 := Lib.hid hn2
    have D4 := Lib.hid (D3.out.below hb4)
    have K4 : Hid (Kept w w4 (Own3 db mb tb)) := Lib.hid (K3.out.trans (Kept.below3 hb4))
    have S4 : Hid (SBlk5 w4 w.heap.size db 0 0 (.slice none 0 0) (.slice none 0 0)) := Lib.hid (S3.out.kept (Kept.of_below hb4 (S := fun _ => False) fun k h1 h2 => by omega) fun h => h)
    have L34 : w3.heap.size ≤ w4.heap.size := hb4.size
    have L3 := S3.out.lt
    have L4 := S4.out.lt
    clear hm4 hd4 hb4 hn1 hn2 hs
    obtain ⟨_, k1, k2, k3, k4, f1, f2, f3, f4⟩ := S4.out
    have SF := Lib.hid ((S4.out.set4 s.i s.t (.slice am s.ms.length cm) (.slice ad s.d.length cd)).kept (Kept.alloc _ (.cells #[.int .u64 s.i, .int .u64 s.t, .slice am s.ms.length cm, .slice ad s.d.length cd] 40) (fun _ => False)) (fun h => h))
    have KX : Kept w4 ((((((w4.setCell ⟨w.heap.size, 1, none⟩ (.int .u64 s.i)).setCell ⟨w.heap.size, 2, none⟩ (.int .u64 s.t)).setCell ⟨w.heap.size, 3, none⟩ (.slice am s.ms.length cm)).setCell ⟨w.heap.size, 4, none⟩ (.slice ad s.d.length cd)).alloc (.cells #[.int .u64 s.i, .int .u64 s.t, .slice am s.ms.length cm, .slice ad s.d.length cd] 40))) (fun k => k = w.heap.size) := (Kept.set5 w4 w.heap.size _ _ _ _).trans (Kept.alloc _ _ _)
    have DF := Lib.hid ((D4.out.set5 S4.out N1.out (fun _ h => by cases h) (fun _ h => by cases h) (.int .u64 s.i) (.int .u64 s.t) (.slice am s.ms.length cm) (.slice ad s.d.length cd)).below ((Below.refl _ _).alloc (Nat.le_refl _) (.cells #[.int .u64 s.i, .int .u64 s.t, .slice am s.ms.length cm, .slice ad s.d.length cd] 40)))
    have HMF := Lib.hid (HM4.out.kept KX fun g hg h => by have := HN1.out g hg; omega)
    have HBF := Lib.hid (HD4.out.kept KX fun g hg h => by have := HN2.out g hg; omega)
    have KF : Hid (Kept w ((((((w4.setCell ⟨w.heap.size, 1, none⟩ (.int .u64 s.i)).setCell ⟨w.heap.size, 2, none⟩ (.int .u64 s.t)).setCell ⟨w.heap.size, 3, none⟩ (.slice am s.ms.length cm)).setCell ⟨w.heap.size, 4, none⟩ (.slice ad s.d.length cd)).alloc (.cells #[.int .u64 s.i, .int .u64 s.t, .slice am s.ms.length cm, .slice ad s.d.length cd] 40))) (Own3 db mb tb)) := Lib.hid (K4.out.andThen KX fun k h1 h2 => h2.elim id fun e => by omega)
    have NR : Hid (∀ g, w3.heap.size ≤ g → ¬ Own3 db mb tb g ∧ g ≠ w.heap.size) := Lib.hid fun g hg => ⟨fun e => by have := D3.out.lt3 _ e; omega, by omega⟩
    clear KX
    go_wp2_with fail
    generalize World.alloc _ _ = wF at *
    clear k1 k2 k3 k4 f1 f2 f3 f4
    go_ret2
    unfold SOpenPost
    rw [HV.out, HDD.out, HSS.out]
    exact ⟨fun h => absurd rfl h, fun _ => ⟨_, rfl, ⟨_, _, SF.out, HMF.out, HBF.out, fun g hg => NR.out g (HN1.out g hg), fun g hg => NR.out g (HN2.out g hg), N1.out⟩, Nat.le_refl _⟩, DF.out, KF.out⟩
theorem sopen_any (db mb tb : Nat) (D : DiskS) (w : World) (hd : DiskIs w db mb tb D) (hw : DGood D) : Calls Tryz.prog 12 #[.pointer (some ⟨db, 0, none⟩)] w (SOpenPost db mb tb D w) := by
  by_cases hg : (goneD D).2 = 0
  · cases hf : findFile nSnap (goneD D).1.files with
    | none =>
      have he : fileE (goneD D).1 nSnap = 31 := by unfold fileE; rw [if_neg (by rw [gone_up hg]; decide), if_pos hf]
      have hE : sopenE D = 0 := by unfold sopenE; rw [if_neg (not_not_intro hg), if_pos hf]
      have hS : sopenS D = zeroS := by unfold sopenS; rw [if_pos hf]
      refine (sopen_new db mb tb D w hd hw hg he).mono ?_
      rintro e w' ⟨sb, rfl, h1, h2, h3, h4⟩
      exact ⟨fun h => absurd hE h, fun _ => ⟨sb, rfl, by rw [hS]; exact h2, h4⟩, h1, h3⟩
    | some f => exact sopen_file db mb tb D f w hd hw hg hf
  · have hE : sopenE D = (goneD D).2 := by unfold sopenE; rw [if_pos hg]
    refine (sopen_err db mb tb D w hd hw hg).mono ?_
    rintro e w' ⟨rfl, h1, h2⟩
    exact ⟨fun _ => by rw [hE], fun h => absurd (hE.symm.trans h) hg, h1, h2⟩
end Go.Proofs.YtofhccpagnkalaaGreat
