/- Several texts in one: Ro, Rp, Rq, Rl. What each proves stands ahead of it; together they serve vplays_law_holds. No conditions but those stated. -/
import Derived.Test.YtofhccpagnkalaaGreatVpb26
import Derived.Test.YtofhccpagnkalaaGreatVpb25
import Derived.Test.YtofhccpagnkalaaGreatVpb10
import Derived.Test.YtofhccpagnkalaaGreatVpb7
import Derived.Test.YtofhccpagnkalaaGreatVpb24
/- The document's disk: Move, Free; contracts; no conditions but the ranges. -/
namespace Go.Proofs.YtofhccpagnkalaaGreat
open Go.RowKit Go.Maps Go.Proofs.Own

set_option maxHeartbeats 4000000 in
set_option maxRecDepth 20000 in
theorem rmove_new (v : Value) (D : DiskS) (n to : ByteArray) (w : World) (h : RIs w v D) (hg : DGood D) (hto : to.size ≤ 9223372036854775807) : Calls Tryz.prog 133 #[v, .string n, .string to] w (RPostN (moveD D n to) v w) := by
  obtain ⟨a, c, rfl, hr⟩ := h
  obtain ⟨room, L, down, armed, steps⟩ := D
  have HG := Lib.hid hg
  simp only at hr ⊢
  have HR := Lib.hid hr
  obtain ⟨m, hlm⟩ : ∃ m, L.length = m := ⟨_, rfl⟩
  have HL := Lib.hid hlm
  rw [hlm] at HR ⊢
  have HM : Hid (L.length ≤ 1000) := Lib.hid (by have := hg.few; simp only at this; omega)
  have HA : Hid ((0 ≤ steps ∧ steps ≤ 1000000000) ∧ -1 ≤ armed ∧ armed ≤ 9223372036854775807) := Lib.hid ⟨⟨hg.wf.steps0, hg.wf.steps1⟩, hg.wf.armed0, hg.wf.armed1⟩
  have hm1000 : (m : Int) ≤ 1000 := by have := HM.out; omega
  clear hr hlm hg
  have BX := (RD.box w ⟨room, L, down, armed, steps⟩ (.slice a m c)).below ((Below.refl _ _).alloc (Nat.le_refl _) (.cells #[.int .i64 0, .slice none 0 0, .bool false, .int .i64 0, .int .u64 0] 29))
  have BZ := RD.zero (w.alloc (.cells #[.int .i64 room, .slice a m c, .bool down, .int .i64 armed, .int .u64 steps] 29))
  have hsz : (w.alloc (.cells #[.int .i64 room, .slice a m c, .bool down, .int .i64 armed, .int .u64 steps] 29)).heap.size = w.heap.size + 1 := by simp
  simp only at BX
  rw [hsz] at BZ
  have B1 : Hid (Below w.heap.size w ((w.alloc (.cells #[.int .i64 room, .slice a m c, .bool down, .int .i64 armed, .int .u64 steps] 29)).alloc (.cells #[.int .i64 0, .slice none 0 0, .bool false, .int .i64 0, .int .u64 0] 29))) := Lib.hid (((Below.refl _ _).alloc (Nat.le_refl _) _).alloc (by simp) _)
  clear hsz
  cases down
  · go_enter Tryz.func133, Tryz.ntmps133
    go_wp2_with fail
    generalize World.alloc (World.alloc w _) _ = w1 at *
    have X1 := Lib.hid BX
    have Z1 := Lib.hid BZ
    have LZ := BZ.lt
    clear BX BZ
    refine (rfind_any _ ⟨room, L, false, armed, steps⟩ n w1 (RIs.new HL.out (HR.out.below B1.out)) HM.out).mono ?_
    rintro e w2 ⟨rfl, hb2⟩
    have X2 := Lib.hid (X1.out.below hb2)
    have Z2 := Lib.hid (Z1.out.below hb2)
    have B2 : Hid (Below w.heap.size w w2) := Lib.hid (B1.out.trans (hb2.mono B1.out.size))
    clear hb2
    cases hf : findFile n L with
    | none =>
      have HV : Hid (moveD ⟨room, L, false, armed, steps⟩ n to = (⟨room, L, false, armed, steps⟩, 31)) := Lib.hid (by unfold moveD; simp only [hf]; rw [fileE_31 rfl hf])
      have hI : findI n L = -1 := findI_none.2 hf
      rw [hI]
      clear hf hI
      obtain ⟨r0, r1, r2, r3, r4, f0, f1, f2, f3, f4⟩ := X2.out
      obtain ⟨z0, z1, z2, z3, z4, g0, g1, g2, g3, g4⟩ := Z2.out
      have hlx := X2.out.lt
      have hlz := Z2.out.lt
      have RFF := Lib.hid (Z2.out.set ⟨room, [], false, armed, steps⟩ (.slice a m c))
      have BF := Lib.hid (B2.out.trans ((Kept.set5D w2 (w.heap.size + 1) ⟨room, [], false, armed, steps⟩ (.slice a m c)).below B2.out.size (fun k hk => by omega)))
      unfold set5D at RFF BF
      simp only at RFF BF
      go_wp2_with fail
      generalize (((((w2.setCell ⟨w.heap.size + 1, 0, none⟩ (.int .i64 room)).setCell ⟨w.heap.size + 1, 1, none⟩ (.slice a m c)).setCell ⟨w.heap.size + 1, 2, none⟩ (.bool false)).setCell ⟨w.heap.size + 1, 3, none⟩ (.int .i64 armed)).setCell ⟨w.heap.size + 1, 4, none⟩ (.int .u64 steps)) = wF at *
      obtain ⟨q0, q1, q2, q3, q4, _⟩ := RFF.out
      simp only at q0 q1 q2 q3 q4
      refine bodyPost_ret (v := .tuple #[.agg #[.int .i64 room, (.slice a m c), .bool false, .int .i64 armed, .int .u64 steps], .int .i64 31]) (by simp [results, Tryz.results133, go_sem, q0, q1, q2, q3, q4]) rfl ?_
      rw [HV.out]
      exact ⟨_, rfl, RIs.new (D := ⟨room, L, false, armed, steps⟩) HL.out (HR.out.below BF.out), BF.out, by first | exact fun g hg => .inl hg | (intro g hg; first | exact (F3.out g hg).imp id (fun h => by have := L3.out; omega) | (right; first | (have h5 := N6.out g hg; have h6 := L6.out; omega) | (have h5 := N5.out g hg; have h6 := L5.out; omega)))⟩
    | some fl =>
      obtain ⟨i, hI, hLi⟩ := findI_some hf
      rw [hI]
      have hi0 : ¬ (i : Int) < 0 := by omega
      have HF := Lib.hid hf
      obtain ⟨b, o, rfl, hbl, k0, k1, k2⟩ := HR.out.file hLi
      have FC := Lib.hid (And.intro k0 (And.intro k1 k2))
      have FL := Lib.hid hbl
      have hbx1 : ¬ b = w.heap.size := by omega
      have hbx2 : ¬ w.heap.size = b := by omega
      have hss := size_strN fl.all
      have him : (i : Int) < (m : Int) := by have h1 := (List.getElem?_eq_some_iff.1 hLi).1; have h2 := HL.out; omega
      clear k0 k1 k2 hbl
      clear hf hI hLi
      obtain ⟨r0, r1, r2, r3, r4, f0, f1, f2, f3, f4⟩ := X2.out
      obtain ⟨z0, z1, z2, z3, z4, g0, g1, g2, g3, g4⟩ := Z2.out
      have hlx := X2.out.lt
      have hlz := Z2.out.lt
      go_wp2_with fail
      refine (rnamed_any to w2 hto).mono ?_
      rintro e w2' ⟨rfl, rfl⟩
      cases hnm : isName to
      · have hnp : ¬ (1 ≤ to.size ∧ to.size ≤ 16) := of_decide_eq_false hnm
        have HV : Hid (moveD ⟨room, L, false, armed, steps⟩ n to = (⟨room, L, false, armed, steps⟩, 2)) := Lib.hid (by unfold moveD; simp only [HF.out]; rw [if_neg (by simp), if_pos hnp])
        clear hnp hnm
        have RFF := Lib.hid (Z2.out.set ⟨room, [], false, armed, steps⟩ (.slice (some ⟨b, o, none⟩) m c))
        have BF := Lib.hid (B2.out.trans ((Kept.set5D w2 (w.heap.size + 1) ⟨room, [], false, armed, steps⟩ (.slice (some ⟨b, o, none⟩) m c)).below B2.out.size (fun k hk => by omega)))
        unfold set5D at RFF BF
        simp only at RFF BF
        go_wp2_with fail
        generalize (((((w2.setCell ⟨w.heap.size + 1, 0, none⟩ (.int .i64 room)).setCell ⟨w.heap.size + 1, 1, none⟩ (.slice (some ⟨b, o, none⟩) m c)).setCell ⟨w.heap.size + 1, 2, none⟩ (.bool false)).setCell ⟨w.heap.size + 1, 3, none⟩ (.int .i64 armed)).setCell ⟨w.heap.size + 1, 4, none⟩ (.int .u64 steps)) = wF at *
        obtain ⟨q0, q1, q2, q3, q4, _⟩ := RFF.out
        simp only at q0 q1 q2 q3 q4
        refine bodyPost_ret (v := .tuple #[.agg #[.int .i64 room, (.slice (some ⟨b, o, none⟩) m c), .bool false, .int .i64 armed, .int .u64 steps], .int .i64 2]) (by simp [results, Tryz.results133, go_sem, q0, q1, q2, q3, q4]) rfl ?_
        rw [HV.out]
        exact ⟨_, rfl, RIs.new (D := ⟨room, L, false, armed, steps⟩) HL.out (HR.out.below BF.out), BF.out, by first | exact fun g hg => .inl hg | (intro g hg; first | exact (F3.out g hg).imp id (fun h => by have := L3.out; omega) | (right; first | (have h5 := N6.out g hg; have h6 := L6.out; omega) | (have h5 := N5.out g hg; have h6 := L5.out; omega)))⟩
      · have hnp : ¬ ¬ (1 ≤ to.size ∧ to.size ≤ 16) := not_not_intro (of_decide_eq_true hnm)
        have HNP := Lib.hid hnp
        clear hnp hnm
        go_wp2_with fail
        clear r0 r1 r2 r3 r4 f0 f1 f2 f3 f4 z0 z1 z2 z3 z4 g0 g1 g2 g3 g4 hlx hlz
        refine (rstep_any ⟨room, L, false, armed, steps⟩ (some ⟨b, o, none⟩) m c w2 HA.out.1.1 HA.out.1.2 HA.out.2.1 HA.out.2.2).mono ?_
        rintro e w3 ⟨rfl, hb3⟩
        have X3 := Lib.hid (X2.out.below hb3)
        have Z3 := Lib.hid (Z2.out.below hb3)
        have B3 : Hid (Below w.heap.size w w3) := Lib.hid (B2.out.trans (hb3.mono B2.out.size))
        clear hb3
        obtain ⟨S, hS, hSf, hSr⟩ := stepD_eq ⟨room, L, false, armed, steps⟩
        simp only at hSf hSr
        rw [hS]
        have HS := Lib.hid hS
        have HSF := Lib.hid hSf
        have HSR := Lib.hid hSr
        clear hS hSf hSr
        obtain ⟨Sroom, SL, Sdown, Sarmed, Ssteps⟩ := S
        simp only at HSF HSR ⊢
        obtain rfl : L = SL := HSF.out.symm
        obtain rfl : room = Sroom := HSR.out.symm
        by_cases h0 : armed = 0
        · have hd : decide (armed ≠ 0) = false := decide_eq_false (by simpa using h0)
          have HV : Hid (moveD ⟨room, L, false, armed, steps⟩ n to = (⟨room, L, Sdown, Sarmed, Ssteps⟩, 50)) := Lib.hid (by unfold moveD; simp only [HF.out]; rw [if_neg (by simp), if_neg HNP.out, if_pos h0, HS.out])
          rw [hd]
          clear h0
          obtain ⟨r0, r1, r2, r3, r4, f0, f1, f2, f3, f4⟩ := X3.out
          obtain ⟨z0, z1, z2, z3, z4, g0, g1, g2, g3, g4⟩ := Z3.out
          have hlx := X3.out.lt
          have hlz := Z3.out.lt
          have X4 := Lib.hid (X3.out.set ⟨room, [], Sdown, Sarmed, Ssteps⟩ (.slice (some ⟨b, o, none⟩) m c))
          have KS4 := Kept.set5D w3 w.heap.size ⟨room, [], Sdown, Sarmed, Ssteps⟩ (.slice (some ⟨b, o, none⟩) m c)
          have Z4 := Lib.hid (Z3.out.kept KS4 (by omega))
          have B4 := Lib.hid (B3.out.trans (KS4.below B3.out.size (fun k hk => by omega)))
          unfold set5D at X4 Z4 B4
          simp only at X4 Z4 B4
          clear KS4
          have RFF := Lib.hid (Z4.out.set ⟨room, [], Sdown, Sarmed, Ssteps⟩ (.slice (some ⟨b, o, none⟩) m c))
          have BF := Lib.hid (B4.out.trans ((Kept.set5D (((((w3.setCell ⟨w.heap.size, 0, none⟩ (.int .i64 room)).setCell ⟨w.heap.size, 1, none⟩ (.slice (some ⟨b, o, none⟩) m c)).setCell ⟨w.heap.size, 2, none⟩ (.bool Sdown)).setCell ⟨w.heap.size, 3, none⟩ (.int .i64 Sarmed)).setCell ⟨w.heap.size, 4, none⟩ (.int .u64 Ssteps)) (w.heap.size + 1) ⟨room, [], Sdown, Sarmed, Ssteps⟩ (.slice (some ⟨b, o, none⟩) m c)).below B4.out.size (fun k hk => by omega)))
          unfold set5D at RFF BF
          simp only at RFF BF
          go_wp2_with fail
          generalize ((((((((((w3.setCell ⟨w.heap.size, 0, none⟩ (.int .i64 room)).setCell ⟨w.heap.size, 1, none⟩ (.slice (some ⟨b, o, none⟩) m c)).setCell ⟨w.heap.size, 2, none⟩ (.bool Sdown)).setCell ⟨w.heap.size, 3, none⟩ (.int .i64 Sarmed)).setCell ⟨w.heap.size, 4, none⟩ (.int .u64 Ssteps)).setCell ⟨w.heap.size + 1, 0, none⟩ (.int .i64 room)).setCell ⟨w.heap.size + 1, 1, none⟩ (.slice (some ⟨b, o, none⟩) m c)).setCell ⟨w.heap.size + 1, 2, none⟩ (.bool Sdown)).setCell ⟨w.heap.size + 1, 3, none⟩ (.int .i64 Sarmed)).setCell ⟨w.heap.size + 1, 4, none⟩ (.int .u64 Ssteps)) = wF at *
          obtain ⟨q0, q1, q2, q3, q4, _⟩ := RFF.out
          simp only at q0 q1 q2 q3 q4
          refine bodyPost_ret (v := .tuple #[.agg #[.int .i64 room, (.slice (some ⟨b, o, none⟩) m c), .bool Sdown, .int .i64 Sarmed, .int .u64 Ssteps], .int .i64 50]) (by simp [results, Tryz.results133, go_sem, q0, q1, q2, q3, q4]) rfl ?_
          rw [HV.out]
          exact ⟨_, rfl, RIs.new (D := ⟨room, L, Sdown, Sarmed, Ssteps⟩) HL.out (HR.out.below BF.out), BF.out, by first | exact fun g hg => .inl hg | (intro g hg; first | exact (F3.out g hg).imp id (fun h => by have := L3.out; omega) | (right; first | (have h5 := N6.out g hg; have h6 := L6.out; omega) | (have h5 := N5.out g hg; have h6 := L5.out; omega)))⟩
        · have hd : decide (armed ≠ 0) = true := decide_eq_true h0
          have HV : Hid (moveD ⟨room, L, false, armed, steps⟩ n to = (⟨room, (putFile { fl with name := to } (delFile n L)), Sdown, Sarmed, Ssteps⟩, 0)) := Lib.hid (by unfold moveD; simp only [HF.out]; rw [if_neg (by simp), if_neg HNP.out, if_neg h0, HS.out])
          rw [hd]
          clear h0
          obtain ⟨r0, r1, r2, r3, r4, f0, f1, f2, f3, f4⟩ := X3.out
          obtain ⟨z0, z1, z2, z3, z4, g0, g1, g2, g3, g4⟩ := Z3.out
          have hlx := X3.out.lt
          have hlz := Z3.out.lt
          have y0 := Below.at B3.out FC.out.1 FL.out
          have y1 := Below.at B3.out FC.out.2.1 FL.out
          have y2 := Below.at B3.out FC.out.2.2 FL.out
          have hyl : b < w3.heap.size := Nat.lt_of_lt_of_le FL.out B3.out.size
          have X4 := Lib.hid (X3.out.set ⟨room, [], Sdown, Sarmed, Ssteps⟩ (.slice (some ⟨b, o, none⟩) m c))
          have KS4 := Kept.set5D w3 w.heap.size ⟨room, [], Sdown, Sarmed, Ssteps⟩ (.slice (some ⟨b, o, none⟩) m c)
          have Z4 := Lib.hid (Z3.out.kept KS4 (by omega))
          have B4 := Lib.hid (B3.out.trans (KS4.below B3.out.size (fun k hk => by omega)))
          unfold set5D at X4 Z4 B4
          simp only at X4 Z4 B4
          clear KS4
          go_wp2_with fail
          have QB := RF.box ((((((w3.setCell ⟨w.heap.size, 0, none⟩ (.int .i64 room)).setCell ⟨w.heap.size, 1, none⟩ (.slice (some ⟨b, o, none⟩) m c)).setCell ⟨w.heap.size, 2, none⟩ (.bool Sdown)).setCell ⟨w.heap.size, 3, none⟩ (.int .i64 Sarmed)).setCell ⟨w.heap.size, 4, none⟩ (.int .u64 Ssteps))) fl
          have hszq : ((((((w3.setCell ⟨w.heap.size, 0, none⟩ (.int .i64 room)).setCell ⟨w.heap.size, 1, none⟩ (.slice (some ⟨b, o, none⟩) m c)).setCell ⟨w.heap.size, 2, none⟩ (.bool Sdown)).setCell ⟨w.heap.size, 3, none⟩ (.int .i64 Sarmed)).setCell ⟨w.heap.size, 4, none⟩ (.int .u64 Ssteps))).heap.size = w3.heap.size := by simp [World.setCell]
          rw [hszq] at QB
          clear hszq
          have AL : Below ((((((w3.setCell ⟨w.heap.size, 0, none⟩ (.int .i64 room)).setCell ⟨w.heap.size, 1, none⟩ (.slice (some ⟨b, o, none⟩) m c)).setCell ⟨w.heap.size, 2, none⟩ (.bool Sdown)).setCell ⟨w.heap.size, 3, none⟩ (.int .i64 Sarmed)).setCell ⟨w.heap.size, 4, none⟩ (.int .u64 Ssteps))).heap.size ((((((w3.setCell ⟨w.heap.size, 0, none⟩ (.int .i64 room)).setCell ⟨w.heap.size, 1, none⟩ (.slice (some ⟨b, o, none⟩) m c)).setCell ⟨w.heap.size, 2, none⟩ (.bool Sdown)).setCell ⟨w.heap.size, 3, none⟩ (.int .i64 Sarmed)).setCell ⟨w.heap.size, 4, none⟩ (.int .u64 Ssteps))) (((((((w3.setCell ⟨w.heap.size, 0, none⟩ (.int .i64 room)).setCell ⟨w.heap.size, 1, none⟩ (.slice (some ⟨b, o, none⟩) m c)).setCell ⟨w.heap.size, 2, none⟩ (.bool Sdown)).setCell ⟨w.heap.size, 3, none⟩ (.int .i64 Sarmed)).setCell ⟨w.heap.size, 4, none⟩ (.int .u64 Ssteps))).alloc (.cells #[.string fl.name, .string (strN (fl.all)), .int .i64 (fl.kept : Nat)] 96)) := (Below.refl _ _).alloc (Nat.le_refl _) _
          have X5 := Lib.hid (X4.out.below AL)
          have Z5 := Lib.hid (Z4.out.below AL)
          have B5 := Lib.hid (B4.out.trans (AL.mono B4.out.size))
          clear AL
          generalize World.alloc _ _ = w5 at *
          have Q5 := Lib.hid QB
          clear QB
          have hbf0 : w.heap.size + 1 < w3.heap.size := Z3.out.lt
          generalize w3.heap.size = bf at *
          clear r0 r1 r2 r3 r4 f0 f1 f2 f3 f4 z0 z1 z2 z3 z4 g0 g1 g2 g3 g4 hlx hlz
          clear y0 y1 y2 hyl
          refine (rwithout_any _ ⟨room, L, Sdown, Sarmed, Ssteps⟩ n w5 (RIs.new HL.out (HR.out.below B5.out)) HM.out).mono ?_
          rintro e w6 ⟨a6, c6, rfl, hs6, hn6, hb6⟩
          simp only at hs6 hn6 ⊢
          have X6 := Lib.hid (X5.out.below hb6)
          have Z6 := Lib.hid (Z5.out.below hb6)
          have B6 : Hid (Below w.heap.size w w6) := Lib.hid (B5.out.trans (hb6.mono B5.out.size))
          have Q6 := Lib.hid (Q5.out.below hb6)
          have S6 := Lib.hid hs6
          have N6 := Lib.hid hn6
          have L6 : Hid (bf < w5.heap.size) := Lib.hid Q5.out.lt
          obtain ⟨m6, hm6⟩ : ∃ k, (delFile n L).length = k := ⟨_, rfl⟩
          have HM6 := Lib.hid hm6
          have HL6 : Hid ((delFile n L).length ≤ 1000) := Lib.hid (Nat.le_trans (length_del n L) HM.out)
          rw [hm6] at S6 N6 ⊢
          clear hs6 hn6 hb6 hm6
          obtain ⟨r0, r1, r2, r3, r4, f0, f1, f2, f3, f4⟩ := X6.out
          obtain ⟨z0, z1, z2, z3, z4, g0, g1, g2, g3, g4⟩ := Z6.out
          have hlx := X6.out.lt
          have hlz := Z6.out.lt
          obtain ⟨s0, s1, s2, t0, t1, t2⟩ := Q6.out
          have hlq := Q6.out.lt
          have KS6 := Kept.set5D w6 w.heap.size ⟨room, [], Sdown, Sarmed, Ssteps⟩ (.slice a6 m6 c6)
          have S7 := S6.out.off KS6 N6.out (fun k hk => by have := L6.out; omega)
          unfold set5D at S7
          simp only at S7
          clear KS6
          have X7 := Lib.hid (X6.out.set ⟨room, [], Sdown, Sarmed, Ssteps⟩ (.slice a6 m6 c6))
          have KS7 := Kept.set5D w6 w.heap.size ⟨room, [], Sdown, Sarmed, Ssteps⟩ (.slice a6 m6 c6)
          have Z7 := Lib.hid (Z6.out.kept KS7 (by omega))
          have B7 := Lib.hid (B6.out.trans (KS7.below B6.out.size (fun k hk => by omega)))
          unfold set5D at X7 Z7 B7
          simp only at X7 Z7 B7
          clear KS7
          have K8 := Kept.setCell ((((((w6.setCell ⟨w.heap.size, 0, none⟩ (.int .i64 room)).setCell ⟨w.heap.size, 1, none⟩ (.slice a6 m6 c6)).setCell ⟨w.heap.size, 2, none⟩ (.bool Sdown)).setCell ⟨w.heap.size, 3, none⟩ (.int .i64 Sarmed)).setCell ⟨w.heap.size, 4, none⟩ (.int .u64 Ssteps))) ⟨bf, 0, none⟩ (.string to)
          have X8 := Lib.hid (X7.out.kept K8 (by simp only; omega))
          have Z8 := Lib.hid (Z7.out.kept K8 (by simp only; omega))
          have B8 := Lib.hid (B7.out.trans (K8.below B7.out.size (fun k hk => by simp only at hk; omega)))
          have S8 := Lib.hid (S7.off K8 N6.out (fun k hk => by simp only at hk; have := L6.out; omega))
          clear K8 S7
          go_wp2_with fail
          generalize ((((((w6.setCell ⟨w.heap.size, 0, none⟩ (.int .i64 room)).setCell ⟨w.heap.size, 1, none⟩ (.slice a6 m6 c6)).setCell ⟨w.heap.size, 2, none⟩ (.bool Sdown)).setCell ⟨w.heap.size, 3, none⟩ (.int .i64 Sarmed)).setCell ⟨w.heap.size, 4, none⟩ (.int .u64 Ssteps))).setCell ⟨bf, 0, none⟩ (.string to) = w8 at *
          clear r0 r1 r2 r3 r4 f0 f1 f2 f3 f4 z0 z1 z2 z3 z4 g0 g1 g2 g3 g4 hlx hlz
          clear s0 s1 s2 t0 t1 t2 hlq
          refine (rwith_n _ m6 c6 ⟨room, delFile n L, Sdown, Sarmed, Ssteps⟩ { fl with name := to } w8 HM6.out S8.out HL6.out).mono ?_
          rintro e w9 ⟨a5, c5, rfl, hs5, hn5, hb5⟩
          simp only at hs5 hn5 ⊢
          have X9 := Lib.hid (X8.out.below hb5)
          have Z9 := Lib.hid (Z8.out.below hb5)
          have B9 : Hid (Below w.heap.size w w9) := Lib.hid (B8.out.trans (hb5.mono B8.out.size))
          have S5 := Lib.hid hs5
          have N5 := Lib.hid hn5
          have L5 : Hid (w.heap.size + 1 < w8.heap.size) := Lib.hid Z8.out.lt
          obtain ⟨m5, hm5⟩ : ∃ k, ((putFile { fl with name := to } (delFile n L))).length = k := ⟨_, rfl⟩
          have HM5 := Lib.hid hm5
          rw [hm5] at S5 N5 ⊢
          clear hs5 hn5 hb5 hm5
          obtain ⟨r0, r1, r2, r3, r4, f0, f1, f2, f3, f4⟩ := X9.out
          obtain ⟨z0, z1, z2, z3, z4, g0, g1, g2, g3, g4⟩ := Z9.out
          have hlx := X9.out.lt
          have hlz := Z9.out.lt
          have RFF := Lib.hid (Z9.out.set ⟨room, [], Sdown, Sarmed, Ssteps⟩ (.slice a5 m5 c5))
          have BF := Lib.hid (B9.out.trans ((Kept.set5D w9 (w.heap.size + 1) ⟨room, [], Sdown, Sarmed, Ssteps⟩ (.slice a5 m5 c5)).below B9.out.size (fun k hk => by omega)))
          unfold set5D at RFF BF
          simp only at RFF BF
          go_wp2_with fail
          have S5F := S5.out.off (Kept.set5D w9 (w.heap.size + 1) ⟨room, [], Sdown, Sarmed, Ssteps⟩ (.slice a5 m5 c5)) N5.out (fun k hk => by have := L5.out; omega)
          unfold set5D at S5F
          simp only at S5F
          generalize (((((w9.setCell ⟨w.heap.size + 1, 0, none⟩ (.int .i64 room)).setCell ⟨w.heap.size + 1, 1, none⟩ (.slice a5 m5 c5)).setCell ⟨w.heap.size + 1, 2, none⟩ (.bool Sdown)).setCell ⟨w.heap.size + 1, 3, none⟩ (.int .i64 Sarmed)).setCell ⟨w.heap.size + 1, 4, none⟩ (.int .u64 Ssteps)) = wF at *
          obtain ⟨q0, q1, q2, q3, q4, _⟩ := RFF.out
          simp only at q0 q1 q2 q3 q4
          refine bodyPost_ret (v := .tuple #[.agg #[.int .i64 room, (.slice a5 m5 c5), .bool Sdown, .int .i64 Sarmed, .int .u64 Ssteps], .int .i64 0]) (by simp [results, Tryz.results133, go_sem, q0, q1, q2, q3, q4]) rfl ?_
          rw [HV.out]
          exact ⟨_, rfl, RIs.new (D := ⟨room, (putFile { fl with name := to } (delFile n L)), Sdown, Sarmed, Ssteps⟩) HM5.out (S5F), BF.out, by first | exact fun g hg => .inl hg | (intro g hg; first | exact (F3.out g hg).imp id (fun h => by have := L3.out; omega) | (right; first | (have h5 := N6.out g hg; have h6 := L6.out; omega) | (have h5 := N5.out g hg; have h6 := L5.out; omega)))⟩
  · go_enter Tryz.func133, Tryz.ntmps133
    go_wp2_with fail
    generalize World.alloc (World.alloc w _) _ = w1 at *
    have X1 := Lib.hid BX
    have Z1 := Lib.hid BZ
    have LZ := BZ.lt
    clear BX BZ
    refine (rfind_any _ ⟨room, L, true, armed, steps⟩ n w1 (RIs.new HL.out (HR.out.below B1.out)) HM.out).mono ?_
    rintro e w2 ⟨rfl, hb2⟩
    have X2 := Lib.hid (X1.out.below hb2)
    have Z2 := Lib.hid (Z1.out.below hb2)
    have B2 : Hid (Below w.heap.size w w2) := Lib.hid (B1.out.trans (hb2.mono B1.out.size))
    clear hb2
    have HV := Lib.hid (moveD_down (D := ⟨room, L, true, armed, steps⟩) rfl n to)
    obtain ⟨r0, r1, r2, r3, r4, f0, f1, f2, f3, f4⟩ := X2.out
    obtain ⟨z0, z1, z2, z3, z4, g0, g1, g2, g3, g4⟩ := Z2.out
    have hlx := X2.out.lt
    have hlz := Z2.out.lt
    have RFF := Lib.hid (Z2.out.set ⟨room, [], true, armed, steps⟩ (.slice a m c))
    have BF := Lib.hid (B2.out.trans ((Kept.set5D w2 (w.heap.size + 1) ⟨room, [], true, armed, steps⟩ (.slice a m c)).below B2.out.size (fun k hk => by omega)))
    unfold set5D at RFF BF
    simp only at RFF BF
    go_wp2_with fail
    generalize (((((w2.setCell ⟨w.heap.size + 1, 0, none⟩ (.int .i64 room)).setCell ⟨w.heap.size + 1, 1, none⟩ (.slice a m c)).setCell ⟨w.heap.size + 1, 2, none⟩ (.bool true)).setCell ⟨w.heap.size + 1, 3, none⟩ (.int .i64 armed)).setCell ⟨w.heap.size + 1, 4, none⟩ (.int .u64 steps)) = wF at *
    obtain ⟨q0, q1, q2, q3, q4, _⟩ := RFF.out
    simp only at q0 q1 q2 q3 q4
    refine bodyPost_ret (v := .tuple #[.agg #[.int .i64 room, (.slice a m c), .bool true, .int .i64 armed, .int .u64 steps], .int .i64 50]) (by simp [results, Tryz.results133, go_sem, q0, q1, q2, q3, q4]) rfl ?_
    rw [HV.out]
    exact ⟨_, rfl, RIs.new (D := ⟨room, L, true, armed, steps⟩) HL.out (HR.out.below BF.out), BF.out, by first | exact fun g hg => .inl hg | (intro g hg; first | exact (F3.out g hg).imp id (fun h => by have := L3.out; omega) | (right; first | (have h5 := N6.out g hg; have h6 := L6.out; omega) | (have h5 := N5.out g hg; have h6 := L5.out; omega)))⟩
theorem total_take (L : List FileS) (j : Nat) : total (L.take j) ≤ total L := by
  have h := total_app (L.take j) (L.drop j)
  rw [List.take_append_drop] at h
  omega
theorem total_snoc {L : List FileS} {j : Nat} {f : FileS} (hf : L[j]? = some f) : total (L.take (j + 1)) = total (L.take j) + f.all.length := by
  rw [List.take_add_one, hf, total_app]
  simp [total]
set_option maxHeartbeats 4000000 in
set_option maxRecDepth 20000 in
theorem rfree_any (v : Value) (D : DiskS) (w : World) (h : RIs w v D) (hg : DGood D) : Calls Tryz.prog 38 #[v] w fun e w' => e = .returned (.int .i64 (freeD D)) ∧ Below w.heap.size w w' := by
  obtain ⟨a, c, rfl, hr⟩ := h
  obtain ⟨room, L, down, armed, steps⟩ := D
  simp only at hr ⊢
  have HR := Lib.hid hr
  have htot : total L ≤ 1048576 := hg.tot
  have hrm0 : 0 ≤ room := hg.wf.room0
  have hrm1 : room ≤ 1048576 := hg.wf.room1
  have hfew : L.length ≤ 128 := hg.few
  obtain ⟨m, hlm⟩ : ∃ m, L.length = m := ⟨_, rfl⟩
  have HL := Lib.hid hlm
  rw [hlm] at HR hfew ⊢
  clear hr hlm hg
  go_enter Tryz.func38, Tryz.ntmps38
  go_wp2_with fail
  have BX := RD.box w ⟨room, L, down, armed, steps⟩ (.slice a m c)
  simp only at BX
  have B1 : Hid (Below w.heap.size w (w.alloc (.cells #[.int .i64 room, .slice a m c, .bool down, .int .i64 armed, .int .u64 steps] 29))) := Lib.hid ((Below.refl _ _).alloc (Nat.le_refl _) _)
  generalize World.alloc w _ = w1 at *
  have BX1 := Lib.hid BX
  clear BX
  go_loopw [3, 4] (fun nv i wr => ∃ j : Nat, i = .int .i64 j ∧ j ≤ m ∧ nv = .int .i64 (room - (total (L.take j) : Nat)) ∧ wr = w1) (fun _ i _ => m - (intOf i).toNat)
  case atStart => exact ⟨0, rfl, by omega, by simp [total], rfl⟩
  case round =>
    obtain ⟨j, rfl, hj, rfl, rfl⟩ := hrel
    obtain ⟨r0, r1, r2, r3, r4, _⟩ := BX1.out
    have ht := total_take L j
    by_cases hlt : j < m
    · obtain ⟨f, hf, _⟩ := getAt (l := L) (j := j) (by rw [HL.out]; exact hlt)
      obtain ⟨b, o, rfl, hbl, c0, c1, c2⟩ := (HR.out.below B1.out).file hf
      have hsn := total_snoc hf
      have ht2 := total_take L (j + 1)
      have hss := size_strN f.all
      obtain ⟨T, hT⟩ : ∃ T, total (L.take j) = T := ⟨_, rfl⟩
      have HT := Lib.hid hT
      have HSN : Hid (total (L.take (j + 1)) = T + f.all.length) := Lib.hid (by rw [hsn, hT])
      have hb1 : (T : Int) + (f.all.length : Int) ≤ 1048576 := by omega
      rw [hT] at ht ⊢
      clear hf hsn ht2 hT
      go_wp2_with fail
      go_roundw
      case rel => exact ⟨j + 1, by first | rfl | go_num, by omega, by rw [HSN.out]; first | go_num | (congr 1; omega) | skip, by first | trivial | rfl⟩
      all_goals (show m - ((j : Int) + 1).toNat < m - ((j : Int)).toNat; omega)
    · obtain rfl : j = m := by omega
      have HTT : Hid (total (L.take j) = total L) := Lib.hid (by rw [List.take_of_length_le (by rw [HL.out]; exact Nat.le_refl _)])
      rw [HTT.out]
      rw [HTT.out] at ht
      by_cases hneg : room - (total L : Int) < 0
      · have HV : Hid (freeD ⟨room, L, down, armed, steps⟩ = 0) := Lib.hid (by unfold freeD; simp only; omega)
        go_wp2_with fail
        go_ret
        exact ⟨by rw [HV.out]; rfl, B1.out⟩
      · have HV : Hid (freeD ⟨room, L, down, armed, steps⟩ = room - (total L : Int)) := Lib.hid (by unfold freeD; simp only; omega)
        go_wp2_with fail
        go_ret
        exact ⟨by rw [HV.out]; rfl, B1.out⟩
end Go.Proofs.YtofhccpagnkalaaGreat

/- The document's disk: Append; contracts; no conditions but the ranges. -/
namespace Go.Proofs.YtofhccpagnkalaaGreat
open Go.RowKit Go.Maps Go.Proofs.Own

theorem rwith_0 (a : Option Addr) (k c : Nat) (D : DiskS) (n : ByteArray) (bs : List Nat) (w : World) (hn : D.files.length = k) (hr : SRow w 3 (.slice a k c) (D.files.map rfV)) (hm : D.files.length ≤ 1000) : Calls Tryz.prog 40 #[.agg #[.int .i64 D.room, .slice a k c, .bool D.down, .int .i64 D.armed, .int .u64 D.steps], .agg #[.string n, .string (strN bs), .int .i64 0]] w (RNew { D with files := putFile ⟨n, bs, 0⟩ D.files } w) := by
  have h := rwith_n a k c D ⟨n, bs, 0⟩ w hn hr hm
  simpa only [Int.natCast_zero] using h
theorem stepE_eq (D : DiskS) : stepE D = if D.armed = 0 then 50 else 0 := rfl
set_option maxHeartbeats 3000000 in
set_option maxRecDepth 20000 in
theorem rappend_new (v : Value) (D : DiskS) (n : ByteArray) (bs : List Nat) (w : World) (h : RIs w v D) (hg : DGood D) (hn : n.size ≤ 9223372036854775807) (hbs : bs.length ≤ 2097152) : Calls Tryz.prog 11 #[v, .string n, .string (strN bs)] w (RPostN (appendD D n bs) v w) := by
  obtain ⟨a, c, rfl, hr⟩ := h
  obtain ⟨room, L, down, armed, steps⟩ := D
  have HG := Lib.hid hg
  simp only at hr ⊢
  have HR := Lib.hid hr
  obtain ⟨m, hlm⟩ : ∃ m, L.length = m := ⟨_, rfl⟩
  have HL := Lib.hid hlm
  rw [hlm] at HR ⊢
  have HM : Hid (L.length ≤ 1000) := Lib.hid (by have := hg.few; simp only at this; omega)
  have HA : Hid ((0 ≤ steps ∧ steps ≤ 1000000000) ∧ -1 ≤ armed ∧ armed ≤ 9223372036854775807) := Lib.hid ⟨⟨hg.wf.steps0, hg.wf.steps1⟩, hg.wf.armed0, hg.wf.armed1⟩
  have hm1000 : (m : Int) ≤ 1000 := by have := HM.out; omega
  clear hr hlm hg
  have HGE : Hid (∀ fl ∈ L, fl.all.length ≤ 1048576) := Lib.hid (fun fl hfl => by have h1 := HG.out.tot; simp only at h1; obtain ⟨i, hi⟩ := List.getElem?_of_mem hfl; have h2 := total_snoc hi; have h3 := total_take L (i + 1); omega)
  have BX := (RD.box w ⟨room, L, down, armed, steps⟩ (.slice a m c)).below ((Below.refl _ _).alloc (Nat.le_refl _) (.cells #[.int .i64 0, .slice none 0 0, .bool false, .int .i64 0, .int .u64 0] 29))
  have BZ := RD.zero (w.alloc (.cells #[.int .i64 room, .slice a m c, .bool down, .int .i64 armed, .int .u64 steps] 29))
  have hsz : (w.alloc (.cells #[.int .i64 room, .slice a m c, .bool down, .int .i64 armed, .int .u64 steps] 29)).heap.size = w.heap.size + 1 := by simp
  simp only at BX
  rw [hsz] at BZ
  have B1 : Hid (Below w.heap.size w ((w.alloc (.cells #[.int .i64 room, .slice a m c, .bool down, .int .i64 armed, .int .u64 steps] 29)).alloc (.cells #[.int .i64 0, .slice none 0 0, .bool false, .int .i64 0, .int .u64 0] 29))) := Lib.hid (((Below.refl _ _).alloc (Nat.le_refl _) _).alloc (by simp) _)
  clear hsz
  cases down
  · go_enter Tryz.func11, Tryz.ntmps11
    go_wp2_with fail
    generalize World.alloc (World.alloc w _) _ = w1 at *
    have X1 := Lib.hid BX
    have Z1 := Lib.hid BZ
    have LZ := BZ.lt
    clear BX BZ
    refine (rnamed_any n w1 hn).mono ?_
    rintro e w1' ⟨rfl, rfl⟩
    cases hnm : isName n
    · have hnp : ¬ (1 ≤ n.size ∧ n.size ≤ 16) := of_decide_eq_false hnm
      have HV : Hid (appendD ⟨room, L, false, armed, steps⟩ n bs = (⟨room, L, false, armed, steps⟩, 2)) := Lib.hid (by unfold appendD; rw [show appE ⟨room, L, false, armed, steps⟩ n bs = 2 by unfold appE; rw [if_neg (by simp), if_pos hnp], if_pos (by decide)])
      clear hnp hnm
      obtain ⟨r0, r1, r2, r3, r4, f0, f1, f2, f3, f4⟩ := X1.out
      obtain ⟨z0, z1, z2, z3, z4, g0, g1, g2, g3, g4⟩ := Z1.out
      have hlx := X1.out.lt
      have hlz := Z1.out.lt
      have RFF := Lib.hid (Z1.out.set ⟨room, [], false, armed, steps⟩ (.slice a m c))
      have BF := Lib.hid (B1.out.trans ((Kept.set5D w1 (w.heap.size + 1) ⟨room, [], false, armed, steps⟩ (.slice a m c)).below B1.out.size (fun k hk => by omega)))
      unfold set5D at RFF BF
      simp only at RFF BF
      go_wp2_with fail
      generalize (((((w1.setCell ⟨w.heap.size + 1, 0, none⟩ (.int .i64 room)).setCell ⟨w.heap.size + 1, 1, none⟩ (.slice a m c)).setCell ⟨w.heap.size + 1, 2, none⟩ (.bool false)).setCell ⟨w.heap.size + 1, 3, none⟩ (.int .i64 armed)).setCell ⟨w.heap.size + 1, 4, none⟩ (.int .u64 steps)) = wF at *
      obtain ⟨q0, q1, q2, q3, q4, _⟩ := RFF.out
      simp only at q0 q1 q2 q3 q4
      refine bodyPost_ret (v := .tuple #[.agg #[.int .i64 room, (.slice a m c), .bool false, .int .i64 armed, .int .u64 steps], .int .i64 2]) (by simp [results, Tryz.results11, go_sem, q0, q1, q2, q3, q4]) rfl ?_
      rw [HV.out]
      exact ⟨_, rfl, RIs.new (D := ⟨room, L, false, armed, steps⟩) HL.out (HR.out.below BF.out), BF.out, by first | exact fun g hg => .inl hg | (intro g hg; first | exact (F3.out g hg).imp id (fun h => by have := L3.out; omega) | (right; first | (have h5 := N6.out g hg; have h6 := L6.out; omega) | (have h5 := N5.out g hg; have h6 := L5.out; omega)))⟩
    · have hnp : ¬ ¬ (1 ≤ n.size ∧ n.size ≤ 16) := not_not_intro (of_decide_eq_true hnm)
      have HNP := Lib.hid hnp
      clear hnp hnm
      obtain ⟨r0, r1, r2, r3, r4, f0, f1, f2, f3, f4⟩ := X1.out
      obtain ⟨z0, z1, z2, z3, z4, g0, g1, g2, g3, g4⟩ := Z1.out
      have hlx := X1.out.lt
      have hlz := Z1.out.lt
      go_wp2_with fail
      clear r0 r1 r2 r3 r4 f0 f1 f2 f3 f4 z0 z1 z2 z3 z4 g0 g1 g2 g3 g4 hlx hlz
      refine (rfind_any _ ⟨room, L, false, armed, steps⟩ n w1 (RIs.new HL.out (HR.out.below B1.out)) HM.out).mono ?_
      rintro e w2 ⟨rfl, hb2⟩
      have X2 := Lib.hid (X1.out.below hb2)
      have Z2 := Lib.hid (Z1.out.below hb2)
      have B2 : Hid (Below w.heap.size w w2) := Lib.hid (B1.out.trans (hb2.mono B1.out.size))
      clear hb2
      have hbl : ((strN bs).size : Int) = (bs.length : Int) := by rw [size_strN]
      have hbs2 : (bs.length : Int) ≤ 2097152 := by omega
      have hss2 := size_strN bs
      cases hf : findFile n L with
      | none =>
        have hI : findI n L = -1 := findI_none.2 hf
        rw [hI]
        have HF := Lib.hid (show findFile n (⟨room, L, false, armed, steps⟩ : DiskS).files = none from hf)
        clear hI hf
        by_cases h128 : 128 ≤ m
        · have h128b : (128 : Int) ≤ (m : Int) := by omega
          have HV : Hid (appendD ⟨room, L, false, armed, steps⟩ n bs = (⟨room, L, false, armed, steps⟩, 30)) := Lib.hid (by unfold appendD; rw [show appE ⟨room, L, false, armed, steps⟩ n bs = 30 by unfold appE; rw [if_neg (by simp), if_neg HNP.out, if_pos (.inl ⟨HF.out, by have := HL.out; simp only; omega⟩)], if_pos (by decide)])
          obtain ⟨r0, r1, r2, r3, r4, f0, f1, f2, f3, f4⟩ := X2.out
          obtain ⟨z0, z1, z2, z3, z4, g0, g1, g2, g3, g4⟩ := Z2.out
          have hlx := X2.out.lt
          have hlz := Z2.out.lt
          have RFF := Lib.hid (Z2.out.set ⟨room, [], false, armed, steps⟩ (.slice a m c))
          have BF := Lib.hid (B2.out.trans ((Kept.set5D w2 (w.heap.size + 1) ⟨room, [], false, armed, steps⟩ (.slice a m c)).below B2.out.size (fun k hk => by omega)))
          unfold set5D at RFF BF
          simp only at RFF BF
          go_wp2_with fail
          generalize (((((w2.setCell ⟨w.heap.size + 1, 0, none⟩ (.int .i64 room)).setCell ⟨w.heap.size + 1, 1, none⟩ (.slice a m c)).setCell ⟨w.heap.size + 1, 2, none⟩ (.bool false)).setCell ⟨w.heap.size + 1, 3, none⟩ (.int .i64 armed)).setCell ⟨w.heap.size + 1, 4, none⟩ (.int .u64 steps)) = wF at *
          obtain ⟨q0, q1, q2, q3, q4, _⟩ := RFF.out
          simp only at q0 q1 q2 q3 q4
          refine bodyPost_ret (v := .tuple #[.agg #[.int .i64 room, (.slice a m c), .bool false, .int .i64 armed, .int .u64 steps], .int .i64 30]) (by simp [results, Tryz.results11, go_sem, q0, q1, q2, q3, q4]) rfl ?_
          rw [HV.out]
          exact ⟨_, rfl, RIs.new (D := ⟨room, L, false, armed, steps⟩) HL.out (HR.out.below BF.out), BF.out, by first | exact fun g hg => .inl hg | (intro g hg; first | exact (F3.out g hg).imp id (fun h => by have := L3.out; omega) | (right; first | (have h5 := N6.out g hg; have h6 := L6.out; omega) | (have h5 := N5.out g hg; have h6 := L5.out; omega)))⟩
        · have h128b : ¬ (128 : Int) ≤ (m : Int) := by omega
          obtain ⟨r0, r1, r2, r3, r4, f0, f1, f2, f3, f4⟩ := X2.out
          obtain ⟨z0, z1, z2, z3, z4, g0, g1, g2, g3, g4⟩ := Z2.out
          have hlx := X2.out.lt
          have hlz := Z2.out.lt
          go_wp2_with fail
          clear r0 r1 r2 r3 r4 f0 f1 f2 f3 f4 z0 z1 z2 z3 z4 g0 g1 g2 g3 g4 hlx hlz
          refine (rfree_any _ ⟨room, L, false, armed, steps⟩ w2 (RIs.new HL.out (HR.out.below B2.out)) HG.out).mono ?_
          rintro e w3 ⟨rfl, hb3⟩
          have X3 := Lib.hid (X2.out.below hb3)
          have Z3 := Lib.hid (Z2.out.below hb3)
          have B3 : Hid (Below w.heap.size w w3) := Lib.hid (B2.out.trans (hb3.mono B2.out.size))
          clear hb3
          obtain ⟨fr, hfr⟩ : ∃ fr, freeD ⟨room, L, false, armed, steps⟩ = fr := ⟨_, rfl⟩
          have HFR := Lib.hid hfr
          rw [hfr]
          clear hfr
          by_cases hfu : fr < (bs.length : Int)
          · have HV : Hid (appendD ⟨room, L, false, armed, steps⟩ n bs = (⟨room, L, false, armed, steps⟩, 30)) := Lib.hid (by unfold appendD; rw [show appE ⟨room, L, false, armed, steps⟩ n bs = 30 by unfold appE; rw [if_neg (by simp), if_neg HNP.out, if_pos (.inr (by rw [HFR.out]; exact hfu))], if_pos (by decide)])
            obtain ⟨r0, r1, r2, r3, r4, f0, f1, f2, f3, f4⟩ := X3.out
            obtain ⟨z0, z1, z2, z3, z4, g0, g1, g2, g3, g4⟩ := Z3.out
            have hlx := X3.out.lt
            have hlz := Z3.out.lt
            have RFF := Lib.hid (Z3.out.set ⟨room, [], false, armed, steps⟩ (.slice a m c))
            have BF := Lib.hid (B3.out.trans ((Kept.set5D w3 (w.heap.size + 1) ⟨room, [], false, armed, steps⟩ (.slice a m c)).below B3.out.size (fun k hk => by omega)))
            unfold set5D at RFF BF
            simp only at RFF BF
            go_wp2_with fail
            generalize (((((w3.setCell ⟨w.heap.size + 1, 0, none⟩ (.int .i64 room)).setCell ⟨w.heap.size + 1, 1, none⟩ (.slice a m c)).setCell ⟨w.heap.size + 1, 2, none⟩ (.bool false)).setCell ⟨w.heap.size + 1, 3, none⟩ (.int .i64 armed)).setCell ⟨w.heap.size + 1, 4, none⟩ (.int .u64 steps)) = wF at *
            obtain ⟨q0, q1, q2, q3, q4, _⟩ := RFF.out
            simp only at q0 q1 q2 q3 q4
            refine bodyPost_ret (v := .tuple #[.agg #[.int .i64 room, (.slice a m c), .bool false, .int .i64 armed, .int .u64 steps], .int .i64 30]) (by simp [results, Tryz.results11, go_sem, q0, q1, q2, q3, q4]) rfl ?_
            rw [HV.out]
            exact ⟨_, rfl, RIs.new (D := ⟨room, L, false, armed, steps⟩) HL.out (HR.out.below BF.out), BF.out, by first | exact fun g hg => .inl hg | (intro g hg; first | exact (F3.out g hg).imp id (fun h => by have := L3.out; omega) | (right; first | (have h5 := N6.out g hg; have h6 := L6.out; omega) | (have h5 := N5.out g hg; have h6 := L5.out; omega)))⟩
          · have HAE : Hid (appE ⟨room, L, false, armed, steps⟩ n bs = 0) := Lib.hid (by unfold appE; rw [if_neg (by simp), if_neg HNP.out, if_neg (fun h => h.elim (fun h => h128 (by have h1 := h.2; have h2 := HL.out; simp only at h1; omega)) (fun h => by rw [HFR.out] at h; omega))])
            have HAP : Hid (appD ⟨room, L, false, armed, steps⟩ n bs = ⟨room, (putFile ⟨n, bs, 0⟩ L), false, armed, steps⟩) := Lib.hid (by unfold appD; rw [getF_none HF.out]; rfl)
            obtain ⟨r0, r1, r2, r3, r4, f0, f1, f2, f3, f4⟩ := X3.out
            obtain ⟨z0, z1, z2, z3, z4, g0, g1, g2, g3, g4⟩ := Z3.out
            have hlx := X3.out.lt
            have hlz := Z3.out.lt
            have hcat : (⟨#[]⟩ : ByteArray) ++ strN bs = strN bs := strN_app [] bs
            have hcl : ((⟨#[]⟩ : ByteArray).size : Int) + ((strN bs).size : Int) ≤ 9223372036854775807 := by show (0 : Int) + _ ≤ _; rw [size_strN]; omega
            have AL : Below w3.heap.size w3 (w3.alloc (.cells #[.string n, .string (strN (bs)), .int .i64 0] 96)) := (Below.refl _ _).alloc (Nat.le_refl _) _
            have X4 := Lib.hid (X3.out.below AL)
            have Z4 := Lib.hid (Z3.out.below AL)
            have B4 := Lib.hid (B3.out.trans (AL.mono B3.out.size))
            clear AL
            go_wp2_with fail
            generalize World.alloc _ _ = w4 at *
            clear r0 r1 r2 r3 r4 f0 f1 f2 f3 f4 z0 z1 z2 z3 z4 g0 g1 g2 g3 g4 hlx hlz
            clear hcat hcl
            refine (rwith_0 _ m c ⟨room, L, false, armed, steps⟩ n bs w4 HL.out (HR.out.below B4.out) HM.out).mono ?_
            rintro e w5 ⟨a6, c6, rfl, hs6, hn6, hb6⟩
            simp only at hs6 hn6 ⊢
            have X5 := Lib.hid (X4.out.below hb6)
            have Z5 := Lib.hid (Z4.out.below hb6)
            have B5 : Hid (Below w.heap.size w w5) := Lib.hid (B4.out.trans (hb6.mono B4.out.size))
            have S6 := Lib.hid hs6
            have N6 := Lib.hid hn6
            have L6 : Hid (w.heap.size + 1 < w4.heap.size) := Lib.hid Z4.out.lt
            obtain ⟨m6, hm6⟩ : ∃ k, (putFile ⟨n, bs, 0⟩ L).length = k := ⟨_, rfl⟩
            have HM6 := Lib.hid hm6
            rw [hm6] at S6 N6 ⊢
            clear hs6 hn6 hb6 hm6
            go_wp2_with fail
            refine (rstep_any ⟨room, (putFile ⟨n, bs, 0⟩ L), false, armed, steps⟩ a6 m6 c6 w5 HA.out.1.1 HA.out.1.2 HA.out.2.1 HA.out.2.2).mono ?_
            rintro e w6 ⟨rfl, hb6⟩
            have X6 := Lib.hid (X5.out.below hb6)
            have Z6 := Lib.hid (Z5.out.below hb6)
            have B6 : Hid (Below w.heap.size w w6) := Lib.hid (B5.out.trans (hb6.mono B5.out.size))
            have S7 := Lib.hid (S6.out.below hb6)
            clear hb6
            obtain ⟨S, hS, hSf, hSr⟩ := stepD_eq ⟨room, (putFile ⟨n, bs, 0⟩ L), false, armed, steps⟩
            simp only at hSf hSr
            rw [hS]
            have HS := Lib.hid hS
            have HSF := Lib.hid hSf
            have HSR := Lib.hid hSr
            clear hS hSf hSr
            obtain ⟨Sroom, SL, Sdown, Sarmed, Ssteps⟩ := S
            simp only at HSF HSR ⊢
            obtain rfl : room = Sroom := HSR.out.symm
            by_cases h0 : armed = 0
            · have hd : decide (armed ≠ 0) = false := decide_eq_false (by simpa using h0)
              have HV : Hid (appendD ⟨room, L, false, armed, steps⟩ n bs = (⟨room, SL, Sdown, Sarmed, Ssteps⟩, 50)) := Lib.hid (by unfold appendD; rw [HAE.out, if_neg (by simp), HAP.out, HS.out, stepE_eq]; simp only; rw [if_pos h0])
              rw [hd]
              clear h0
              obtain ⟨r0, r1, r2, r3, r4, f0, f1, f2, f3, f4⟩ := X6.out
              obtain ⟨z0, z1, z2, z3, z4, g0, g1, g2, g3, g4⟩ := Z6.out
              have hlx := X6.out.lt
              have hlz := Z6.out.lt
              have X7 := Lib.hid (X6.out.set ⟨room, [], Sdown, Sarmed, Ssteps⟩ (.slice a6 m6 c6))
              have KS7 := Kept.set5D w6 w.heap.size ⟨room, [], Sdown, Sarmed, Ssteps⟩ (.slice a6 m6 c6)
              have Z7 := Lib.hid (Z6.out.kept KS7 (by omega))
              have B7 := Lib.hid (B6.out.trans (KS7.below B6.out.size (fun k hk => by omega)))
              unfold set5D at X7 Z7 B7
              simp only at X7 Z7 B7
              clear KS7
              have RFF := Lib.hid (Z7.out.set ⟨room, [], Sdown, Sarmed, Ssteps⟩ (.slice a6 m6 c6))
              have BF := Lib.hid (B7.out.trans ((Kept.set5D (((((w6.setCell ⟨w.heap.size, 0, none⟩ (.int .i64 room)).setCell ⟨w.heap.size, 1, none⟩ (.slice a6 m6 c6)).setCell ⟨w.heap.size, 2, none⟩ (.bool Sdown)).setCell ⟨w.heap.size, 3, none⟩ (.int .i64 Sarmed)).setCell ⟨w.heap.size, 4, none⟩ (.int .u64 Ssteps)) (w.heap.size + 1) ⟨room, [], Sdown, Sarmed, Ssteps⟩ (.slice a6 m6 c6)).below B7.out.size (fun k hk => by omega)))
              unfold set5D at RFF BF
              simp only at RFF BF
              go_wp2_with fail
              have S8F := SRow.off (S7.out.off (Kept.set5D w6 w.heap.size ⟨room, [], Sdown, Sarmed, Ssteps⟩ (.slice a6 m6 c6)) N6.out (fun k hk => by have := L6.out; omega)) (Kept.set5D (set5D w6 w.heap.size ⟨room, [], Sdown, Sarmed, Ssteps⟩ (.slice a6 m6 c6)) (w.heap.size + 1) ⟨room, [], Sdown, Sarmed, Ssteps⟩ (.slice a6 m6 c6)) N6.out (fun k hk => by have := L6.out; omega)
              unfold set5D at S8F
              simp only at S8F
              generalize ((((((((((w6.setCell ⟨w.heap.size, 0, none⟩ (.int .i64 room)).setCell ⟨w.heap.size, 1, none⟩ (.slice a6 m6 c6)).setCell ⟨w.heap.size, 2, none⟩ (.bool Sdown)).setCell ⟨w.heap.size, 3, none⟩ (.int .i64 Sarmed)).setCell ⟨w.heap.size, 4, none⟩ (.int .u64 Ssteps)).setCell ⟨w.heap.size + 1, 0, none⟩ (.int .i64 room)).setCell ⟨w.heap.size + 1, 1, none⟩ (.slice a6 m6 c6)).setCell ⟨w.heap.size + 1, 2, none⟩ (.bool Sdown)).setCell ⟨w.heap.size + 1, 3, none⟩ (.int .i64 Sarmed)).setCell ⟨w.heap.size + 1, 4, none⟩ (.int .u64 Ssteps)) = wF at *
              obtain ⟨q0, q1, q2, q3, q4, _⟩ := RFF.out
              simp only at q0 q1 q2 q3 q4
              refine bodyPost_ret (v := .tuple #[.agg #[.int .i64 room, (.slice a6 m6 c6), .bool Sdown, .int .i64 Sarmed, .int .u64 Ssteps], .int .i64 50]) (by simp [results, Tryz.results11, go_sem, q0, q1, q2, q3, q4]) rfl ?_
              rw [HV.out]
              exact ⟨_, rfl, RIs.new (D := ⟨room, SL, Sdown, Sarmed, Ssteps⟩) (by rw [show SL = (putFile ⟨n, bs, 0⟩ L) from HSF.out]; exact HM6.out) (by rw [show SL = (putFile ⟨n, bs, 0⟩ L) from HSF.out]; exact S8F), BF.out, by first | exact fun g hg => .inl hg | (intro g hg; first | exact (F3.out g hg).imp id (fun h => by have := L3.out; omega) | (right; first | (have h5 := N6.out g hg; have h6 := L6.out; omega) | (have h5 := N5.out g hg; have h6 := L5.out; omega)))⟩
            · have hd : decide (armed ≠ 0) = true := decide_eq_true h0
              have HV : Hid (appendD ⟨room, L, false, armed, steps⟩ n bs = (⟨room, SL, Sdown, Sarmed, Ssteps⟩, 0)) := Lib.hid (by unfold appendD; rw [HAE.out, if_neg (by simp), HAP.out, HS.out, stepE_eq]; simp only; rw [if_neg h0])
              rw [hd]
              clear h0
              obtain ⟨r0, r1, r2, r3, r4, f0, f1, f2, f3, f4⟩ := X6.out
              obtain ⟨z0, z1, z2, z3, z4, g0, g1, g2, g3, g4⟩ := Z6.out
              have hlx := X6.out.lt
              have hlz := Z6.out.lt
              have X7 := Lib.hid (X6.out.set ⟨room, [], Sdown, Sarmed, Ssteps⟩ (.slice a6 m6 c6))
              have KS7 := Kept.set5D w6 w.heap.size ⟨room, [], Sdown, Sarmed, Ssteps⟩ (.slice a6 m6 c6)
              have Z7 := Lib.hid (Z6.out.kept KS7 (by omega))
              have B7 := Lib.hid (B6.out.trans (KS7.below B6.out.size (fun k hk => by omega)))
              unfold set5D at X7 Z7 B7
              simp only at X7 Z7 B7
              clear KS7
              have RFF := Lib.hid (Z7.out.set ⟨room, [], Sdown, Sarmed, Ssteps⟩ (.slice a6 m6 c6))
              have BF := Lib.hid (B7.out.trans ((Kept.set5D (((((w6.setCell ⟨w.heap.size, 0, none⟩ (.int .i64 room)).setCell ⟨w.heap.size, 1, none⟩ (.slice a6 m6 c6)).setCell ⟨w.heap.size, 2, none⟩ (.bool Sdown)).setCell ⟨w.heap.size, 3, none⟩ (.int .i64 Sarmed)).setCell ⟨w.heap.size, 4, none⟩ (.int .u64 Ssteps)) (w.heap.size + 1) ⟨room, [], Sdown, Sarmed, Ssteps⟩ (.slice a6 m6 c6)).below B7.out.size (fun k hk => by omega)))
              unfold set5D at RFF BF
              simp only at RFF BF
              go_wp2_with fail
              have S8F := SRow.off (S7.out.off (Kept.set5D w6 w.heap.size ⟨room, [], Sdown, Sarmed, Ssteps⟩ (.slice a6 m6 c6)) N6.out (fun k hk => by have := L6.out; omega)) (Kept.set5D (set5D w6 w.heap.size ⟨room, [], Sdown, Sarmed, Ssteps⟩ (.slice a6 m6 c6)) (w.heap.size + 1) ⟨room, [], Sdown, Sarmed, Ssteps⟩ (.slice a6 m6 c6)) N6.out (fun k hk => by have := L6.out; omega)
              unfold set5D at S8F
              simp only at S8F
              generalize ((((((((((w6.setCell ⟨w.heap.size, 0, none⟩ (.int .i64 room)).setCell ⟨w.heap.size, 1, none⟩ (.slice a6 m6 c6)).setCell ⟨w.heap.size, 2, none⟩ (.bool Sdown)).setCell ⟨w.heap.size, 3, none⟩ (.int .i64 Sarmed)).setCell ⟨w.heap.size, 4, none⟩ (.int .u64 Ssteps)).setCell ⟨w.heap.size + 1, 0, none⟩ (.int .i64 room)).setCell ⟨w.heap.size + 1, 1, none⟩ (.slice a6 m6 c6)).setCell ⟨w.heap.size + 1, 2, none⟩ (.bool Sdown)).setCell ⟨w.heap.size + 1, 3, none⟩ (.int .i64 Sarmed)).setCell ⟨w.heap.size + 1, 4, none⟩ (.int .u64 Ssteps)) = wF at *
              obtain ⟨q0, q1, q2, q3, q4, _⟩ := RFF.out
              simp only at q0 q1 q2 q3 q4
              refine bodyPost_ret (v := .tuple #[.agg #[.int .i64 room, (.slice a6 m6 c6), .bool Sdown, .int .i64 Sarmed, .int .u64 Ssteps], .int .i64 0]) (by simp [results, Tryz.results11, go_sem, q0, q1, q2, q3, q4]) rfl ?_
              rw [HV.out]
              exact ⟨_, rfl, RIs.new (D := ⟨room, SL, Sdown, Sarmed, Ssteps⟩) (by rw [show SL = (putFile ⟨n, bs, 0⟩ L) from HSF.out]; exact HM6.out) (by rw [show SL = (putFile ⟨n, bs, 0⟩ L) from HSF.out]; exact S8F), BF.out, by first | exact fun g hg => .inl hg | (intro g hg; first | exact (F3.out g hg).imp id (fun h => by have := L3.out; omega) | (right; first | (have h5 := N6.out g hg; have h6 := L6.out; omega) | (have h5 := N5.out g hg; have h6 := L5.out; omega)))⟩
      | some fl =>
        obtain ⟨i, hI, hLi⟩ := findI_some hf
        rw [hI]
        have hi0 : ¬ (i : Int) < 0 := by omega
        have hi1 : (0 : Int) ≤ (i : Int) := by omega
        have HF := Lib.hid (show findFile n (⟨room, L, false, armed, steps⟩ : DiskS).files = some fl from hf)
        have hfl := HGE.out fl (List.mem_of_getElem? hLi)
        obtain ⟨b, o, rfl, hbl, k0, k1, k2⟩ := HR.out.file hLi
        have FC := Lib.hid (And.intro k0 (And.intro k1 k2))
        have FL := Lib.hid hbl
        have hbx1 : ¬ b = w.heap.size := by omega
        have hbx2 : ¬ w.heap.size = b := by omega
        have hss := size_strN fl.all
        have him : (i : Int) < (m : Int) := by have h1 := (List.getElem?_eq_some_iff.1 hLi).1; have h2 := HL.out; omega
        clear k0 k1 k2 hbl
        clear hf hI hLi
        obtain ⟨r0, r1, r2, r3, r4, f0, f1, f2, f3, f4⟩ := X2.out
        obtain ⟨z0, z1, z2, z3, z4, g0, g1, g2, g3, g4⟩ := Z2.out
        have hlx := X2.out.lt
        have hlz := Z2.out.lt
        go_wp2_with fail
        clear r0 r1 r2 r3 r4 f0 f1 f2 f3 f4 z0 z1 z2 z3 z4 g0 g1 g2 g3 g4 hlx hlz
        refine (rfree_any _ ⟨room, L, false, armed, steps⟩ w2 (RIs.new HL.out (HR.out.below B2.out)) HG.out).mono ?_
        rintro e w3 ⟨rfl, hb3⟩
        have X3 := Lib.hid (X2.out.below hb3)
        have Z3 := Lib.hid (Z2.out.below hb3)
        have B3 : Hid (Below w.heap.size w w3) := Lib.hid (B2.out.trans (hb3.mono B2.out.size))
        clear hb3
        obtain ⟨fr, hfr⟩ : ∃ fr, freeD ⟨room, L, false, armed, steps⟩ = fr := ⟨_, rfl⟩
        have HFR := Lib.hid hfr
        rw [hfr]
        clear hfr
        by_cases hfu : fr < (bs.length : Int)
        · have HV : Hid (appendD ⟨room, L, false, armed, steps⟩ n bs = (⟨room, L, false, armed, steps⟩, 30)) := Lib.hid (by unfold appendD; rw [show appE ⟨room, L, false, armed, steps⟩ n bs = 30 by unfold appE; rw [if_neg (by simp), if_neg HNP.out, if_pos (.inr (by rw [HFR.out]; exact hfu))], if_pos (by decide)])
          obtain ⟨r0, r1, r2, r3, r4, f0, f1, f2, f3, f4⟩ := X3.out
          obtain ⟨z0, z1, z2, z3, z4, g0, g1, g2, g3, g4⟩ := Z3.out
          have hlx := X3.out.lt
          have hlz := Z3.out.lt
          have RFF := Lib.hid (Z3.out.set ⟨room, [], false, armed, steps⟩ (.slice (some ⟨b, o, none⟩) m c))
          have BF := Lib.hid (B3.out.trans ((Kept.set5D w3 (w.heap.size + 1) ⟨room, [], false, armed, steps⟩ (.slice (some ⟨b, o, none⟩) m c)).below B3.out.size (fun k hk => by omega)))
          unfold set5D at RFF BF
          simp only at RFF BF
          go_wp2_with fail
          generalize (((((w3.setCell ⟨w.heap.size + 1, 0, none⟩ (.int .i64 room)).setCell ⟨w.heap.size + 1, 1, none⟩ (.slice (some ⟨b, o, none⟩) m c)).setCell ⟨w.heap.size + 1, 2, none⟩ (.bool false)).setCell ⟨w.heap.size + 1, 3, none⟩ (.int .i64 armed)).setCell ⟨w.heap.size + 1, 4, none⟩ (.int .u64 steps)) = wF at *
          obtain ⟨q0, q1, q2, q3, q4, _⟩ := RFF.out
          simp only at q0 q1 q2 q3 q4
          refine bodyPost_ret (v := .tuple #[.agg #[.int .i64 room, (.slice (some ⟨b, o, none⟩) m c), .bool false, .int .i64 armed, .int .u64 steps], .int .i64 30]) (by simp [results, Tryz.results11, go_sem, q0, q1, q2, q3, q4]) rfl ?_
          rw [HV.out]
          exact ⟨_, rfl, RIs.new (D := ⟨room, L, false, armed, steps⟩) HL.out (HR.out.below BF.out), BF.out, by first | exact fun g hg => .inl hg | (intro g hg; first | exact (F3.out g hg).imp id (fun h => by have := L3.out; omega) | (right; first | (have h5 := N6.out g hg; have h6 := L6.out; omega) | (have h5 := N5.out g hg; have h6 := L5.out; omega)))⟩
        · have HAE : Hid (appE ⟨room, L, false, armed, steps⟩ n bs = 0) := Lib.hid (by unfold appE; rw [if_neg (by simp), if_neg HNP.out, if_neg (fun h => h.elim (fun h => by rw [HF.out] at h; cases h.1) (fun h => by rw [HFR.out] at h; omega))])
          have HAP : Hid (appD ⟨room, L, false, armed, steps⟩ n bs = ⟨room, (putFile { fl with all := fl.all ++ bs } L), false, armed, steps⟩) := Lib.hid (by unfold appD; rw [getF_some HF.out])
          obtain ⟨r0, r1, r2, r3, r4, f0, f1, f2, f3, f4⟩ := X3.out
          obtain ⟨z0, z1, z2, z3, z4, g0, g1, g2, g3, g4⟩ := Z3.out
          have hlx := X3.out.lt
          have hlz := Z3.out.lt
          have y0 := Below.at B3.out FC.out.1 FL.out
          have y1 := Below.at B3.out FC.out.2.1 FL.out
          have y2 := Below.at B3.out FC.out.2.2 FL.out
          have hyl : b < w3.heap.size := Nat.lt_of_lt_of_le FL.out B3.out.size
          have hcat := strN_app fl.all bs
          have hcl : ((strN fl.all).size : Int) + ((strN bs).size : Int) ≤ 9223372036854775807 := by rw [size_strN, size_strN]; omega
          have AL : Below w3.heap.size w3 (w3.alloc (.cells #[.string fl.name, .string (strN (fl.all ++ bs)), .int .i64 (fl.kept : Nat)] 96)) := (Below.refl _ _).alloc (Nat.le_refl _) _
          have X4 := Lib.hid (X3.out.below AL)
          have Z4 := Lib.hid (Z3.out.below AL)
          have B4 := Lib.hid (B3.out.trans (AL.mono B3.out.size))
          clear AL
          go_wp2_with fail
          generalize World.alloc _ _ = w4 at *
          clear r0 r1 r2 r3 r4 f0 f1 f2 f3 f4 z0 z1 z2 z3 z4 g0 g1 g2 g3 g4 hlx hlz
          clear y0 y1 y2 hyl
          clear hcat hcl
          refine (rwith_n _ m c ⟨room, L, false, armed, steps⟩ { fl with all := fl.all ++ bs } w4 HL.out (HR.out.below B4.out) HM.out).mono ?_
          rintro e w5 ⟨a6, c6, rfl, hs6, hn6, hb6⟩
          simp only at hs6 hn6 ⊢
          have X5 := Lib.hid (X4.out.below hb6)
          have Z5 := Lib.hid (Z4.out.below hb6)
          have B5 : Hid (Below w.heap.size w w5) := Lib.hid (B4.out.trans (hb6.mono B4.out.size))
          have S6 := Lib.hid hs6
          have N6 := Lib.hid hn6
          have L6 : Hid (w.heap.size + 1 < w4.heap.size) := Lib.hid Z4.out.lt
          obtain ⟨m6, hm6⟩ : ∃ k, (putFile { fl with all := fl.all ++ bs } L).length = k := ⟨_, rfl⟩
          have HM6 := Lib.hid hm6
          rw [hm6] at S6 N6 ⊢
          clear hs6 hn6 hb6 hm6
          go_wp2_with fail
          refine (rstep_any ⟨room, (putFile { fl with all := fl.all ++ bs } L), false, armed, steps⟩ a6 m6 c6 w5 HA.out.1.1 HA.out.1.2 HA.out.2.1 HA.out.2.2).mono ?_
          rintro e w6 ⟨rfl, hb6⟩
          have X6 := Lib.hid (X5.out.below hb6)
          have Z6 := Lib.hid (Z5.out.below hb6)
          have B6 : Hid (Below w.heap.size w w6) := Lib.hid (B5.out.trans (hb6.mono B5.out.size))
          have S7 := Lib.hid (S6.out.below hb6)
          clear hb6
          obtain ⟨S, hS, hSf, hSr⟩ := stepD_eq ⟨room, (putFile { fl with all := fl.all ++ bs } L), false, armed, steps⟩
          simp only at hSf hSr
          rw [hS]
          have HS := Lib.hid hS
          have HSF := Lib.hid hSf
          have HSR := Lib.hid hSr
          clear hS hSf hSr
          obtain ⟨Sroom, SL, Sdown, Sarmed, Ssteps⟩ := S
          simp only at HSF HSR ⊢
          obtain rfl : room = Sroom := HSR.out.symm
          by_cases h0 : armed = 0
          · have hd : decide (armed ≠ 0) = false := decide_eq_false (by simpa using h0)
            have HV : Hid (appendD ⟨room, L, false, armed, steps⟩ n bs = (⟨room, SL, Sdown, Sarmed, Ssteps⟩, 50)) := Lib.hid (by unfold appendD; rw [HAE.out, if_neg (by simp), HAP.out, HS.out, stepE_eq]; simp only; rw [if_pos h0])
            rw [hd]
            clear h0
            obtain ⟨r0, r1, r2, r3, r4, f0, f1, f2, f3, f4⟩ := X6.out
            obtain ⟨z0, z1, z2, z3, z4, g0, g1, g2, g3, g4⟩ := Z6.out
            have hlx := X6.out.lt
            have hlz := Z6.out.lt
            have X7 := Lib.hid (X6.out.set ⟨room, [], Sdown, Sarmed, Ssteps⟩ (.slice a6 m6 c6))
            have KS7 := Kept.set5D w6 w.heap.size ⟨room, [], Sdown, Sarmed, Ssteps⟩ (.slice a6 m6 c6)
            have Z7 := Lib.hid (Z6.out.kept KS7 (by omega))
            have B7 := Lib.hid (B6.out.trans (KS7.below B6.out.size (fun k hk => by omega)))
            unfold set5D at X7 Z7 B7
            simp only at X7 Z7 B7
            clear KS7
            have RFF := Lib.hid (Z7.out.set ⟨room, [], Sdown, Sarmed, Ssteps⟩ (.slice a6 m6 c6))
            have BF := Lib.hid (B7.out.trans ((Kept.set5D (((((w6.setCell ⟨w.heap.size, 0, none⟩ (.int .i64 room)).setCell ⟨w.heap.size, 1, none⟩ (.slice a6 m6 c6)).setCell ⟨w.heap.size, 2, none⟩ (.bool Sdown)).setCell ⟨w.heap.size, 3, none⟩ (.int .i64 Sarmed)).setCell ⟨w.heap.size, 4, none⟩ (.int .u64 Ssteps)) (w.heap.size + 1) ⟨room, [], Sdown, Sarmed, Ssteps⟩ (.slice a6 m6 c6)).below B7.out.size (fun k hk => by omega)))
            unfold set5D at RFF BF
            simp only at RFF BF
            go_wp2_with fail
            have S8F := SRow.off (S7.out.off (Kept.set5D w6 w.heap.size ⟨room, [], Sdown, Sarmed, Ssteps⟩ (.slice a6 m6 c6)) N6.out (fun k hk => by have := L6.out; omega)) (Kept.set5D (set5D w6 w.heap.size ⟨room, [], Sdown, Sarmed, Ssteps⟩ (.slice a6 m6 c6)) (w.heap.size + 1) ⟨room, [], Sdown, Sarmed, Ssteps⟩ (.slice a6 m6 c6)) N6.out (fun k hk => by have := L6.out; omega)
            unfold set5D at S8F
            simp only at S8F
            generalize ((((((((((w6.setCell ⟨w.heap.size, 0, none⟩ (.int .i64 room)).setCell ⟨w.heap.size, 1, none⟩ (.slice a6 m6 c6)).setCell ⟨w.heap.size, 2, none⟩ (.bool Sdown)).setCell ⟨w.heap.size, 3, none⟩ (.int .i64 Sarmed)).setCell ⟨w.heap.size, 4, none⟩ (.int .u64 Ssteps)).setCell ⟨w.heap.size + 1, 0, none⟩ (.int .i64 room)).setCell ⟨w.heap.size + 1, 1, none⟩ (.slice a6 m6 c6)).setCell ⟨w.heap.size + 1, 2, none⟩ (.bool Sdown)).setCell ⟨w.heap.size + 1, 3, none⟩ (.int .i64 Sarmed)).setCell ⟨w.heap.size + 1, 4, none⟩ (.int .u64 Ssteps)) = wF at *
            obtain ⟨q0, q1, q2, q3, q4, _⟩ := RFF.out
            simp only at q0 q1 q2 q3 q4
            refine bodyPost_ret (v := .tuple #[.agg #[.int .i64 room, (.slice a6 m6 c6), .bool Sdown, .int .i64 Sarmed, .int .u64 Ssteps], .int .i64 50]) (by simp [results, Tryz.results11, go_sem, q0, q1, q2, q3, q4]) rfl ?_
            rw [HV.out]
            exact ⟨_, rfl, RIs.new (D := ⟨room, SL, Sdown, Sarmed, Ssteps⟩) (by rw [show SL = (putFile { fl with all := fl.all ++ bs } L) from HSF.out]; exact HM6.out) (by rw [show SL = (putFile { fl with all := fl.all ++ bs } L) from HSF.out]; exact S8F), BF.out, by first | exact fun g hg => .inl hg | (intro g hg; first | exact (F3.out g hg).imp id (fun h => by have := L3.out; omega) | (right; first | (have h5 := N6.out g hg; have h6 := L6.out; omega) | (have h5 := N5.out g hg; have h6 := L5.out; omega)))⟩
          · have hd : decide (armed ≠ 0) = true := decide_eq_true h0
            have HV : Hid (appendD ⟨room, L, false, armed, steps⟩ n bs = (⟨room, SL, Sdown, Sarmed, Ssteps⟩, 0)) := Lib.hid (by unfold appendD; rw [HAE.out, if_neg (by simp), HAP.out, HS.out, stepE_eq]; simp only; rw [if_neg h0])
            rw [hd]
            clear h0
            obtain ⟨r0, r1, r2, r3, r4, f0, f1, f2, f3, f4⟩ := X6.out
            obtain ⟨z0, z1, z2, z3, z4, g0, g1, g2, g3, g4⟩ := Z6.out
            have hlx := X6.out.lt
            have hlz := Z6.out.lt
            have X7 := Lib.hid (X6.out.set ⟨room, [], Sdown, Sarmed, Ssteps⟩ (.slice a6 m6 c6))
            have KS7 := Kept.set5D w6 w.heap.size ⟨room, [], Sdown, Sarmed, Ssteps⟩ (.slice a6 m6 c6)
            have Z7 := Lib.hid (Z6.out.kept KS7 (by omega))
            have B7 := Lib.hid (B6.out.trans (KS7.below B6.out.size (fun k hk => by omega)))
            unfold set5D at X7 Z7 B7
            simp only at X7 Z7 B7
            clear KS7
            have RFF := Lib.hid (Z7.out.set ⟨room, [], Sdown, Sarmed, Ssteps⟩ (.slice a6 m6 c6))
            have BF := Lib.hid (B7.out.trans ((Kept.set5D (((((w6.setCell ⟨w.heap.size, 0, none⟩ (.int .i64 room)).setCell ⟨w.heap.size, 1, none⟩ (.slice a6 m6 c6)).setCell ⟨w.heap.size, 2, none⟩ (.bool Sdown)).setCell ⟨w.heap.size, 3, none⟩ (.int .i64 Sarmed)).setCell ⟨w.heap.size, 4, none⟩ (.int .u64 Ssteps)) (w.heap.size + 1) ⟨room, [], Sdown, Sarmed, Ssteps⟩ (.slice a6 m6 c6)).below B7.out.size (fun k hk => by omega)))
            unfold set5D at RFF BF
            simp only at RFF BF
            go_wp2_with fail
            have S8F := SRow.off (S7.out.off (Kept.set5D w6 w.heap.size ⟨room, [], Sdown, Sarmed, Ssteps⟩ (.slice a6 m6 c6)) N6.out (fun k hk => by have := L6.out; omega)) (Kept.set5D (set5D w6 w.heap.size ⟨room, [], Sdown, Sarmed, Ssteps⟩ (.slice a6 m6 c6)) (w.heap.size + 1) ⟨room, [], Sdown, Sarmed, Ssteps⟩ (.slice a6 m6 c6)) N6.out (fun k hk => by have := L6.out; omega)
            unfold set5D at S8F
            simp only at S8F
            generalize ((((((((((w6.setCell ⟨w.heap.size, 0, none⟩ (.int .i64 room)).setCell ⟨w.heap.size, 1, none⟩ (.slice a6 m6 c6)).setCell ⟨w.heap.size, 2, none⟩ (.bool Sdown)).setCell ⟨w.heap.size, 3, none⟩ (.int .i64 Sarmed)).setCell ⟨w.heap.size, 4, none⟩ (.int .u64 Ssteps)).setCell ⟨w.heap.size + 1, 0, none⟩ (.int .i64 room)).setCell ⟨w.heap.size + 1, 1, none⟩ (.slice a6 m6 c6)).setCell ⟨w.heap.size + 1, 2, none⟩ (.bool Sdown)).setCell ⟨w.heap.size + 1, 3, none⟩ (.int .i64 Sarmed)).setCell ⟨w.heap.size + 1, 4, none⟩ (.int .u64 Ssteps)) = wF at *
            obtain ⟨q0, q1, q2, q3, q4, _⟩ := RFF.out
            simp only at q0 q1 q2 q3 q4
            refine bodyPost_ret (v := .tuple #[.agg #[.int .i64 room, (.slice a6 m6 c6), .bool Sdown, .int .i64 Sarmed, .int .u64 Ssteps], .int .i64 0]) (by simp [results, Tryz.results11, go_sem, q0, q1, q2, q3, q4]) rfl ?_
            rw [HV.out]
            exact ⟨_, rfl, RIs.new (D := ⟨room, SL, Sdown, Sarmed, Ssteps⟩) (by rw [show SL = (putFile { fl with all := fl.all ++ bs } L) from HSF.out]; exact HM6.out) (by rw [show SL = (putFile { fl with all := fl.all ++ bs } L) from HSF.out]; exact S8F), BF.out, by first | exact fun g hg => .inl hg | (intro g hg; first | exact (F3.out g hg).imp id (fun h => by have := L3.out; omega) | (right; first | (have h5 := N6.out g hg; have h6 := L6.out; omega) | (have h5 := N5.out g hg; have h6 := L5.out; omega)))⟩
  · have HV : Hid (appendD ⟨room, L, true, armed, steps⟩ n bs = (⟨room, L, true, armed, steps⟩, 50)) := Lib.hid (by unfold appendD; rw [show appE ⟨room, L, true, armed, steps⟩ n bs = 50 by unfold appE; rw [if_pos rfl], if_pos (by decide)])
    go_enter Tryz.func11, Tryz.ntmps11
    go_wp2_with fail
    clear BX BZ
    refine bodyPost_ret (v := .tuple #[.agg #[.int .i64 room, .slice a m c, .bool true, .int .i64 armed, .int .u64 steps], .int .i64 50]) (by simp [results, Tryz.results11, go_sem]) rfl ?_
    rw [HV.out]
    exact ⟨_, rfl, RIs.new (D := ⟨room, L, true, armed, steps⟩) HL.out (HR.out.below (((Below.refl _ _).alloc (Nat.le_refl _) _).alloc (by simp) _)), ((Below.refl _ _).alloc (Nat.le_refl _) _).alloc (by simp) _, by first | exact fun g hg => .inl hg | (intro g hg; first | exact (F3.out g hg).imp id (fun h => by have := L3.out; omega) | (right; first | (have h5 := N6.out g hg; have h6 := L6.out; omega) | (have h5 := N5.out g hg; have h6 := L5.out; omega)))⟩
end Go.Proofs.YtofhccpagnkalaaGreat

/- The document's gone; contracts; no conditions but the ranges. -/
namespace Go.Proofs.YtofhccpagnkalaaGreat
open Go.RowKit Go.Maps Go.Proofs.Own

/-- A file's row lies apart from a block whose first cells are no strings. -/
theorem SRow.far {w : World} {b N : Nat} {a : Option Addr} {n c : Nat} {L : List FileS} (h : SRow w 3 (.slice a n c) (L.map rfV)) (hb : ∀ k, k < N → ∃ x, w.cell? ⟨b, k, none⟩ = some x ∧ ∀ s, x ≠ .string s) {w' : World} (hk : ∀ g k, (g = b → N ≤ k) → w'.cell? ⟨g, k, none⟩ = w.cell? ⟨g, k, none⟩) (hsz : w.heap.size ≤ w'.heap.size) : SRow w' 3 (.slice a n c) (L.map rfV) := by
  obtain ⟨a', c', e, hl, hc⟩ := h
  cases e
  refine ⟨_, _, rfl, hl, fun j hj => ?_⟩
  obtain ⟨g, o, e, h0, h1⟩ := hc j hj
  refine ⟨g, o, e, Nat.lt_of_lt_of_le h0 hsz, fun i x hx => ?_⟩
  rw [hk g _ (fun hg => ?_)]
  · exact h1 i x hx
  · subst hg
    rw [List.length_map] at hj
    have e0 : (List.map rfV L)[j]'(by rw [List.length_map]; exact hj) = rfV L[j] := by rw [List.getElem_map]
    have hi3 : i < 3 := by rw [e0] at hx; have := (List.getElem?_eq_some_iff.1 hx).1; simpa [rfV] using this
    have s0 := h1 0 (.string L[j].name) (by rw [e0]; rfl)
    have s1 := h1 1 (.string (strN L[j].all)) (by rw [e0]; rfl)
    false_or_by_contra
    rename_i hlt
    have q0 : N ≤ o + j * 3 + 0 := by
      false_or_by_contra
      rename_i h
      obtain ⟨x, hx1, hx2⟩ := hb (o + j * 3 + 0) (by omega)
      rw [s0] at hx1
      exact hx2 _ (Option.some.inj hx1).symm
    omega
theorem RD.no {w : World} {b : Nat} {D : DiskS} {fv : Value} (k : RD w b D fv) (hfv : ∀ s, fv ≠ .string s) : ∀ i, i < 5 → ∃ x, w.cell? ⟨b, i, none⟩ = some x ∧ ∀ s, x ≠ .string s := by
  intro i hi
  match i, hi with
  | 0, _ => exact ⟨_, k.c0, fun s e => by cases e⟩
  | 1, _ => exact ⟨_, k.c1, hfv⟩
  | 2, _ => exact ⟨_, k.c2, fun s e => by cases e⟩
  | 3, _ => exact ⟨_, k.c3, fun s e => by cases e⟩
  | 4, _ => exact ⟨_, k.c4, fun s e => by cases e⟩
theorem set5D_far (w : World) (b : Nat) (D : DiskS) (fv : Value) (g k : Nat) (h : g = b → 5 ≤ k) : (set5D w b D fv).cell? ⟨g, k, none⟩ = w.cell? ⟨g, k, none⟩ := by
  unfold set5D
  have hne : ∀ i, i < 5 → (⟨b, i, none⟩ : Addr) ≠ ⟨g, k, none⟩ := by
    intro i hi e
    simp only [Addr.mk.injEq, and_true] at e
    have := h e.1.symm
    omega
  rw [World.cell?_setCell_other _ _ _ _ (hne 4 (by omega)), World.cell?_setCell_other _ _ _ _ (hne 3 (by omega)), World.cell?_setCell_other _ _ _ _ (hne 2 (by omega)), World.cell?_setCell_other _ _ _ _ (hne 1 (by omega)), World.cell?_setCell_other _ _ _ _ (hne 0 (by omega))]
theorem SRow.setD {w : World} {b : Nat} {D : DiskS} {fv : Value} {a : Option Addr} {n c : Nat} {L : List FileS} (h : SRow w 3 (.slice a n c) (L.map rfV)) (k : RD w b D fv) (hfv : ∀ s, fv ≠ .string s) (D' : DiskS) (fv' : Value) : SRow (set5D w b D' fv') 3 (.slice a n c) (L.map rfV) :=
  h.far (k.no hfv) (fun g i hg => set5D_far w b D' fv' g i hg) (Kept.set5D w b D' fv').size

set_option maxHeartbeats 4000000 in
set_option maxRecDepth 20000 in
theorem rgone_new (v : Value) (D : DiskS) (n : ByteArray) (w : World) (h : RIs w v D) (hg : DGood D) (hd : D.down = false) : Calls Tryz.prog 54 #[v, .string n] w (RPostN (vgoneD D n) v w) := by
  obtain ⟨a, c, rfl, hr⟩ := h
  obtain ⟨room, L, down, armed, steps⟩ := D
  have HG := Lib.hid hg
  simp only at hr hd ⊢
  subst hd
  have HR := Lib.hid hr
  obtain ⟨m, hlm⟩ : ∃ m, L.length = m := ⟨_, rfl⟩
  have HL := Lib.hid hlm
  rw [hlm] at HR ⊢
  have HM : Hid (L.length ≤ 1000) := Lib.hid (by have := hg.few; simp only at this; omega)
  have HA : Hid ((0 ≤ steps ∧ steps ≤ 1000000000) ∧ -1 ≤ armed ∧ armed ≤ 9223372036854775807) := Lib.hid ⟨⟨hg.wf.steps0, hg.wf.steps1⟩, hg.wf.armed0, hg.wf.armed1⟩
  have hm1000 : (m : Int) ≤ 1000 := by have := HM.out; omega
  clear hr hlm hg
  have BX := (RD.box w ⟨room, L, false, armed, steps⟩ (.slice a m c)).below ((Below.refl _ _).alloc (Nat.le_refl _) (.cells #[.int .i64 0, .slice none 0 0, .bool false, .int .i64 0, .int .u64 0] 29))
  have BZ := RD.zero (w.alloc (.cells #[.int .i64 room, .slice a m c, .bool false, .int .i64 armed, .int .u64 steps] 29))
  have hsz : (w.alloc (.cells #[.int .i64 room, .slice a m c, .bool false, .int .i64 armed, .int .u64 steps] 29)).heap.size = w.heap.size + 1 := by simp
  simp only at BX
  rw [hsz] at BZ
  have B1 : Hid (Below w.heap.size w ((w.alloc (.cells #[.int .i64 room, .slice a m c, .bool false, .int .i64 armed, .int .u64 steps] 29)).alloc (.cells #[.int .i64 0, .slice none 0 0, .bool false, .int .i64 0, .int .u64 0] 29))) := Lib.hid (((Below.refl _ _).alloc (Nat.le_refl _) _).alloc (by simp) _)
  clear hsz
  go_enter Tryz.func54, Tryz.ntmps54
  go_wp2_with fail
  generalize World.alloc (World.alloc w _) _ = w1 at *
  have X1 := Lib.hid BX
  have Z1 := Lib.hid BZ
  have LZ := BZ.lt
  clear BX BZ
  refine (rfind_any _ ⟨room, L, false, armed, steps⟩ n w1 (RIs.new HL.out (HR.out.below B1.out)) HM.out).mono ?_
  rintro e w2 ⟨rfl, hb2⟩
  have X2 := Lib.hid (X1.out.below hb2)
  have Z2 := Lib.hid (Z1.out.below hb2)
  have B2 : Hid (Below w.heap.size w w2) := Lib.hid (B1.out.trans (hb2.mono B1.out.size))
  clear hb2
  cases hf : findFile n L with
  | none =>
    have HV : Hid (vgoneD ⟨room, L, false, armed, steps⟩ n = (⟨room, L, false, armed, steps⟩, 0)) := Lib.hid (by unfold vgoneD removeD; simp only [hf]; rw [fileE_31 rfl hf]; rfl)
    have hI : findI n L = -1 := findI_none.2 hf
    rw [hI]
    clear hf hI
    obtain ⟨r0, r1, r2, r3, r4, f0, f1, f2, f3, f4⟩ := X2.out
    obtain ⟨z0, z1, z2, z3, z4, g0, g1, g2, g3, g4⟩ := Z2.out
    have hlx := X2.out.lt
    have hlz := Z2.out.lt
    have RFF := Lib.hid (Z2.out.set ⟨room, [], false, armed, steps⟩ (.slice a m c))
    have BF := Lib.hid (B2.out.trans ((Kept.set5D w2 (w.heap.size + 1) ⟨room, [], false, armed, steps⟩ (.slice a m c)).below B2.out.size (fun k hk => by omega)))
    unfold set5D at RFF BF
    simp only at RFF BF
    go_wp2_with fail
    generalize (((((w2.setCell ⟨w.heap.size + 1, 0, none⟩ (.int .i64 room)).setCell ⟨w.heap.size + 1, 1, none⟩ (.slice a m c)).setCell ⟨w.heap.size + 1, 2, none⟩ (.bool false)).setCell ⟨w.heap.size + 1, 3, none⟩ (.int .i64 armed)).setCell ⟨w.heap.size + 1, 4, none⟩ (.int .u64 steps)) = wF at *
    obtain ⟨q0, q1, q2, q3, q4, _⟩ := RFF.out
    simp only at q0 q1 q2 q3 q4
    refine bodyPost_ret (v := .tuple #[.agg #[.int .i64 room, (.slice a m c), .bool false, .int .i64 armed, .int .u64 steps], .int .i64 0]) (by simp [results, Tryz.results54, go_sem, q0, q1, q2, q3, q4]) rfl ?_
    rw [HV.out]
    exact ⟨_, rfl, RIs.new (D := ⟨room, L, false, armed, steps⟩) HL.out (HR.out.below BF.out), BF.out, by first | exact fun g hg => .inl hg | (intro g hg; first | exact (F3.out g hg).imp id (fun h => by have := L3.out; omega) | (right; first | (have h5 := N6.out g hg; have h6 := L6.out; omega) | (have h5 := N5.out g hg; have h6 := L5.out; omega)))⟩
  | some fl =>
    obtain ⟨i, hI, hLi⟩ := findI_some hf
    rw [hI]
    have hi0 : ¬ (i : Int) < 0 := by omega
    have HF := Lib.hid (show findFile n (⟨room, L, false, armed, steps⟩ : DiskS).files = some fl from hf)
    clear hf hI hLi
    obtain ⟨r0, r1, r2, r3, r4, f0, f1, f2, f3, f4⟩ := X2.out
    obtain ⟨z0, z1, z2, z3, z4, g0, g1, g2, g3, g4⟩ := Z2.out
    have hlx := X2.out.lt
    have hlz := Z2.out.lt
    go_wp2_with fail
    clear r0 r1 r2 r3 r4 f0 f1 f2 f3 f4 z0 z1 z2 z3 z4 g0 g1 g2 g3 g4 hlx hlz
    refine (rremove_new _ ⟨room, L, false, armed, steps⟩ n w2 (RIs.new HL.out (HR.out.below B2.out)) HG.out).mono ?_
    rintro e w3 ⟨v3, rfl, hr3, hb3, hf3⟩
    have X3 := Lib.hid (X2.out.below hb3)
    have Z3 := Lib.hid (Z2.out.below hb3)
    have B3 : Hid (Below w.heap.size w w3) := Lib.hid (B2.out.trans (hb3.mono B2.out.size))
    obtain ⟨a3, c3, rfl, hs3⟩ := hr3
    have S3 := Lib.hid hs3
    have F3 : Hid (∀ g, fsOwn (Value.agg #[.int .i64 (removeD ⟨room, L, false, armed, steps⟩ n).1.room, .slice a3 (removeD ⟨room, L, false, armed, steps⟩ n).1.files.length c3, .bool (removeD ⟨room, L, false, armed, steps⟩ n).1.down, .int .i64 (removeD ⟨room, L, false, armed, steps⟩ n).1.armed, .int .u64 (removeD ⟨room, L, false, armed, steps⟩ n).1.steps]) = some g → (Value.slice a m c).ownBlock = some g ∨ w2.heap.size ≤ g) := Lib.hid hf3
    have L3 : Hid (w.heap.size + 1 < w2.heap.size) := Lib.hid Z2.out.lt
    clear hb3 hs3 hf3
    have HV : Hid (vgoneD ⟨room, L, false, armed, steps⟩ n = removeD ⟨room, L, false, armed, steps⟩ n) := Lib.hid (by
      have h31 : (removeD ⟨room, L, false, armed, steps⟩ n).2 ≠ 31 := by
        unfold removeD
        rw [HF.out]
        simp only
        rw [if_neg (by simp)]
        split <;> simp
      unfold vgoneD
      rw [if_neg h31])
    obtain ⟨r, hr⟩ : ∃ r, removeD ⟨room, L, false, armed, steps⟩ n = r := ⟨_, rfl⟩
    have HRR := Lib.hid hr
    rw [hr] at S3 F3 ⊢
    obtain ⟨⟨Sroom, SL, Sdown, Sarmed, Ssteps⟩, er⟩ := r
    simp only at S3 F3 ⊢
    obtain ⟨m3, hm3⟩ : ∃ k, SL.length = k := ⟨_, rfl⟩
    have HM3 := Lib.hid hm3
    rw [hm3] at S3 F3 ⊢
    clear hr hm3
    obtain ⟨r0, r1, r2, r3, r4, f0, f1, f2, f3, f4⟩ := X3.out
    obtain ⟨z0, z1, z2, z3, z4, g0, g1, g2, g3, g4⟩ := Z3.out
    have hlx := X3.out.lt
    have hlz := Z3.out.lt
    have RFF := Lib.hid (Z3.out.set ⟨Sroom, [], Sdown, Sarmed, Ssteps⟩ (.slice a3 m3 c3))
    have BF := Lib.hid (B3.out.trans ((Kept.set5D w3 (w.heap.size + 1) ⟨Sroom, [], Sdown, Sarmed, Ssteps⟩ (.slice a3 m3 c3)).below B3.out.size (fun k hk => by omega)))
    unfold set5D at RFF BF
    simp only at RFF BF
    go_wp2_with fail
    have S3F := S3.out.setD Z3.out (fun s e => by cases e) ⟨Sroom, [], Sdown, Sarmed, Ssteps⟩ (.slice a3 m3 c3)
    unfold set5D at S3F
    simp only at S3F
    generalize (((((w3.setCell ⟨w.heap.size + 1, 0, none⟩ (.int .i64 Sroom)).setCell ⟨w.heap.size + 1, 1, none⟩ (.slice a3 m3 c3)).setCell ⟨w.heap.size + 1, 2, none⟩ (.bool Sdown)).setCell ⟨w.heap.size + 1, 3, none⟩ (.int .i64 Sarmed)).setCell ⟨w.heap.size + 1, 4, none⟩ (.int .u64 Ssteps)) = wF at *
    obtain ⟨q0, q1, q2, q3, q4, _⟩ := RFF.out
    simp only at q0 q1 q2 q3 q4
    refine bodyPost_ret (v := .tuple #[.agg #[.int .i64 Sroom, (.slice a3 m3 c3), .bool Sdown, .int .i64 Sarmed, .int .u64 Ssteps], .int .i64 (er : Nat)]) (by simp [results, Tryz.results54, go_sem, q0, q1, q2, q3, q4]) rfl ?_
    rw [HV.out, HRR.out]
    exact ⟨_, rfl, RIs.new (D := ⟨Sroom, SL, Sdown, Sarmed, Ssteps⟩) HM3.out (S3F), BF.out, by first | exact fun g hg => .inl hg | (intro g hg; first | exact (F3.out g hg).imp id (fun h => by have := L3.out; omega) | (right; first | (have h5 := N6.out g hg; have h6 := L6.out; omega) | (have h5 := N5.out g hg; have h6 := L5.out; omega)))⟩
end Go.Proofs.YtofhccpagnkalaaGreat

/- The document's Last: the state that bytes have; no conditions but the ranges. -/
namespace Go.Proofs.YtofhccpagnkalaaGreat
open Go.RowKit Go.Maps Go.Proofs.Own

def LastPost (l : List Nat) (w : World) : Ending → World → Prop := fun e w' => e = .returned (.tuple #[.agg #[.int .u64 (lastR l).t, .int .i64 (lastR l).v], .int .i64 (lastR l).g]) ∧ Below w.heap.size w w'

set_option maxHeartbeats 4000000 in
set_option maxRecDepth 20000 in
theorem rlast_any (v : Value) (l : List Nat) (w : World) (hB : Bytes w v l) : Calls Tryz.prog 55 #[v] w (LastPost l w) := by
  have HB := Lib.hid hB
  have hlb : (l.length : Int) ≤ 2097152 := by have := hB.small; omega
  obtain ⟨a, c, rfl, _⟩ := hB.shape
  obtain ⟨n, hn⟩ : ∃ n, l.length = n := ⟨_, rfl⟩
  have HN := Lib.hid hn
  rw [hn] at HB hlb ⊢
  clear hB hn
  go_enter Tryz.func55, Tryz.ntmps55
  go_wp2_with fail
  have AA : Below w.heap.size w ((w.alloc (.cells #[.int .u64 0, .int .i64 0] 52)).alloc (.cells #[.int .u64 0, .int .i64 (-1)] 52)) := ((Below.refl _ _).alloc (Nat.le_refl _) _).alloc (by simp) _
  have SA0 : SC ((w.alloc (.cells #[.int .u64 0, .int .i64 0] 52)).alloc (.cells #[.int .u64 0, .int .i64 (-1)] 52)) w.heap.size 0 0 := ⟨by go_cell, by go_cell, by simp, by simp⟩
  have SA1 : SC ((w.alloc (.cells #[.int .u64 0, .int .i64 0] 52)).alloc (.cells #[.int .u64 0, .int .i64 (-1)] 52)) (w.heap.size + 1) 0 (-1) := ⟨by go_cell, by go_cell, by simp, by simp⟩
  generalize World.alloc (World.alloc w _) _ = w0 at *
  have B0 := Lib.hid AA
  have S0 := Lib.hid SA0
  have S1 := Lib.hid SA1
  clear AA SA0 SA1
  go_loopw [5] (fun i wr => ∃ (p k : Nat) (t v : Int), i = .int .i64 p ∧ p ≤ n ∧ n - p ≤ k ∧ lastR l = lastF k (l.drop p) ⟨t, v, p⟩ ∧ SC wr w.heap.size 0 0 ∧ SC wr (w.heap.size + 1) t v ∧ Below w.heap.size w wr) (fun i _ => n - (intOf i).toNat)
  case atStart => exact ⟨0, n, 0, -1, rfl, by omega, by omega, by unfold lastR; rw [HN.out]; rfl, S0.out, S1.out, B0.out⟩
  case round =>
    obtain ⟨p, k, t, v, rfl, hp, hk, hl, hs0, hs1, hb⟩ := hrel
    have HLR := Lib.hid hl
    have SR0 := Lib.hid hs0
    have SR1 := Lib.hid hs1
    have BR := Lib.hid hb
    have HK := Lib.hid hk
    clear hl hs0 hs1 hb hk S0 S1 B0
    by_cases hlt : p < n
    · obtain ⟨v2, hB2, hcut⟩ := (HB.out.below BR.out).cutl Tryz.u8s p (by rw [HN.out]; omega)
      obtain ⟨a2, c2, rfl, _⟩ := hB2.shape
      have HB2 := Lib.hid hB2
      generalize hm : l.drop p = m at *
      have HM := Lib.hid hm
      clear hB2 hm
      have hnm : ¬ m = [] := fun e => by have := congrArg List.length HM.out; rw [List.length_drop, HN.out, e] at this; simp at this; omega
      have HNM := Lib.hid hnm
      clear hnm
      go_wp2_with fail
      refine (rtake_any _ m wr HB2.out).mono ?_
      rintro e wt ⟨hbt, hno, hyes⟩
      have T := Lib.hid hbt
      clear hbt
      by_cases ht : takeE m = 0
      · obtain ⟨v', rfl, hB'⟩ := hyes ht
        have HT := Lib.hid ht
        obtain ⟨a4, c4, rfl, _⟩ := hB'.shape
        have HBB := Lib.hid hB'
        clear hno hyes hB' ht
        by_cases hk3 : m.getD 1 0 = 3
        · rw [hk3]
          have H3 := Lib.hid hk3
          clear hk3
          obtain ⟨rb, hrb, hown⟩ : ∃ rb : Nat, rb < wt.heap.size ∧ (frBody m = [] ∨ (Value.slice a4 (frBody m).length c4).ownBlock = some rb) := by
            by_cases h0 : frBody m = []
            · exact ⟨w.heap.size, (SR0.out.below T.out).lt, .inl h0⟩
            · obtain ⟨b, e1, e2⟩ := HBB.out.lt_block h0
              exact ⟨b, e2, .inr e1⟩
          have hwt1 : (wt.alloc (.cells #[.slice a4 (frBody m).length c4, .bool false] 158)).heap.size = wt.heap.size + 1 := by simp
          have RR1 : RdrIs (wt.alloc (.cells #[.slice a4 (frBody m).length c4, .bool false] 158)) wt.heap.size rb (frBody m) false := ⟨⟨_, by go_cell, HBB.out.alloc _, hown⟩, by omega, by go_cell, by simp, by simp⟩
          have A2 : Below wt.heap.size wt ((wt.alloc (.cells #[.slice a4 (frBody m).length c4, .bool false] 158)).alloc (.cells #[.int .u64 0, .int .i64 0] 52)) := ((Below.refl _ _).alloc (Nat.le_refl _) _).alloc (by simp) _
          have RR2 := RR1.below ((Below.refl _ _).alloc (Nat.le_refl _) (.cells #[.int .u64 0, .int .i64 0] 52))
          have SX2 : SC ((wt.alloc (.cells #[.slice a4 (frBody m).length c4, .bool false] 158)).alloc (.cells #[.int .u64 0, .int .i64 0] 52)) (wt.heap.size + 1) 0 0 := ⟨by go_cell, by go_cell, by simp, by simp⟩
          clear RR1 hwt1
          go_wp2_with fail
          have hw0 : w.heap.size + 1 < wt.heap.size := (SR1.out.below T.out).lt
          have NB := Lib.hid (And.intro hw0 hrb)
          generalize World.alloc (World.alloc wt _) _ = w2 at *
          have R2 := Lib.hid RR2
          have X2 := Lib.hid SX2
          have P2 := Lib.hid ((SR0.out.below T.out).below A2)
          have Q2 := Lib.hid ((SR1.out.below T.out).below A2)
          have B2 := Lib.hid ((BR.out.trans (T.out.mono BR.out.size)).trans (A2.mono (Nat.le_trans BR.out.size T.out.size)))
          generalize wt.heap.size = bt at *
          clear RR2 SX2 A2 hown
          refine (rnum_any bt 1152921504606846976 (frBody m) false w2 R2.out (by decide) (by decide)).mono ?_
          rintro e w3 ⟨rfl, hr3, hk3⟩
          rw [Bool.false_or] at hr3
          have R3 := Lib.hid hr3
          have X3 := Lib.hid (X2.out.kept hk3 (by omega))
          have P3 := Lib.hid (P2.out.kept hk3 (by omega))
          have Q3 := Lib.hid (Q2.out.kept hk3 (by omega))
          have B3 := Lib.hid (B2.out.trans (hk3.below B2.out.size (fun k hk => by omega)))
          obtain ⟨x0, x1, x2, x3⟩ := X3.out
          have hxl := X3.out.lt
          have htm : (numV (Int.toNat 1152921504606846976) (frBody m) : Int) ≤ 1152921504606846976 := by have := numV_le (Int.toNat 1152921504606846976) (frBody m); omega
          have HTV : Hid (vT m = numV (Int.toNat 1152921504606846976) (frBody m)) := Lib.hid rfl
          obtain ⟨tv, htv⟩ : ∃ tv, numV (Int.toNat 1152921504606846976) (frBody m) = tv := ⟨_, rfl⟩
          rw [htv] at htm HTV ⊢
          have K4 := Kept.setCell w3 ⟨bt + 1, 0, none⟩ (.int .u64 tv)
          have R4 := Lib.hid (R3.out.kept K4 (by simp only; omega) (by simp only; omega))
          have P4 := Lib.hid (P3.out.kept K4 (by simp only; omega))
          have Q4 := Lib.hid (Q3.out.kept K4 (by simp only; omega))
          have B4 := Lib.hid (B3.out.trans (K4.below B3.out.size (fun k hk => by simp only at hk; omega)))
          have X40 : (w3.setCell ⟨bt + 1, 0, none⟩ (.int .u64 tv)).cell? ⟨bt + 1, 0, none⟩ = some (.int .u64 tv) := World.cell?_setCell_same _ _ _ x0
          have X4 : Hid (SC (w3.setCell ⟨bt + 1, 0, none⟩ (.int .u64 tv)) (bt + 1) tv 0) := Lib.hid ⟨X40, by rw [World.cell?_setCell_other _ _ _ _ (by simp)]; exact x1, by rw [World.frozen?_setCell]; exact x2, by rw [World.frozen?_setCell]; exact x3⟩
          clear hr3 hk3 htv K4 X40
          go_wp2_with fail
          generalize World.setCell w3 _ _ = w4 at *
          clear x0 x1 x2 x3 hxl
          refine (rnum_any bt 7 _ _ w4 R4.out (by decide) (by decide)).mono ?_
          rintro e w5 ⟨rfl, hr5, hk5⟩
          have R5 := Lib.hid hr5
          have X5 := Lib.hid (X4.out.kept hk5 (by omega))
          have P5 := Lib.hid (P4.out.kept hk5 (by omega))
          have Q5 := Lib.hid (Q4.out.kept hk5 (by omega))
          have B5 := Lib.hid (B4.out.trans (hk5.below B4.out.size (fun k hk => by omega)))
          obtain ⟨x0, x1, x2, x3⟩ := X5.out
          have hxl := X5.out.lt
          have hvm : (numV (Int.toNat 7) (numL (Int.toNat 1152921504606846976) (frBody m)) : Int) ≤ 7 := by have := numV_le (Int.toNat 7) (numL (Int.toNat 1152921504606846976) (frBody m)); omega
          have HVV : Hid (vV m = numV (Int.toNat 7) (numL (Int.toNat 1152921504606846976) (frBody m))) := Lib.hid rfl
          obtain ⟨vv, hvv⟩ : ∃ vv, numV (Int.toNat 7) (numL (Int.toNat 1152921504606846976) (frBody m)) = vv := ⟨_, rfl⟩
          rw [hvv] at hvm HVV ⊢
          have K6 := Kept.setCell w5 ⟨bt + 1, 1, none⟩ (.int .i64 ((vv : Int) - 1))
          have R6 := Lib.hid (R5.out.kept K6 (by simp only; omega) (by simp only; omega))
          have P6 := Lib.hid (P5.out.kept K6 (by simp only; omega))
          have Q6 := Lib.hid (Q5.out.kept K6 (by simp only; omega))
          have B6 := Lib.hid (B5.out.trans (K6.below B5.out.size (fun k hk => by simp only at hk; omega)))
          have X61 : (w5.setCell ⟨bt + 1, 1, none⟩ (.int .i64 ((vv : Int) - 1))).cell? ⟨bt + 1, 1, none⟩ = some (.int .i64 ((vv : Int) - 1)) := World.cell?_setCell_same _ _ _ x1
          have X6 : Hid (SC (w5.setCell ⟨bt + 1, 1, none⟩ (.int .i64 ((vv : Int) - 1))) (bt + 1) tv ((vv : Int) - 1)) := Lib.hid ⟨by rw [World.cell?_setCell_other _ _ _ _ (by simp)]; exact x0, X61, by rw [World.frozen?_setCell]; exact x2, by rw [World.frozen?_setCell]; exact x3⟩
          clear hr5 hk5 hvv K6 X61
          go_wp2_with fail
          generalize World.setCell w5 _ _ = w6 at *
          clear x0 x1 x2 x3 hxl
          refine (rend_any bt _ _ w6 R6.out).mono ?_
          rintro e w7 ⟨rfl, rfl⟩
          have HEV : Hid (vE m = endE (numL (Int.toNat 7) (numL (Int.toNat 1152921504606846976) (frBody m))) (numB (Int.toNat 1152921504606846976) (frBody m) || numB (Int.toNat 7) (numL (Int.toNat 1152921504606846976) (frBody m)))) := Lib.hid rfl
          obtain ⟨ev, hev⟩ : ∃ ev, endE (numL (Int.toNat 7) (numL (Int.toNat 1152921504606846976) (frBody m))) (numB (Int.toNat 1152921504606846976) (frBody m) || numB (Int.toNat 7) (numL (Int.toNat 1152921504606846976) (frBody m))) = ev := ⟨_, rfl⟩
          rw [hev] at HEV ⊢
          clear hev
          by_cases he : ev = 0
          · subst he
            have HGO : Hid (vGo m) := Lib.hid ⟨HT.out, H3.out, HEV.out⟩
            obtain ⟨k', hk'⟩ : ∃ k', k = k' + 1 := ⟨k - 1, by have := HK.out; omega⟩
            have hfl := frNx_len HT.out
            have hbl : (frBody m).length = frN m := by
              have hs : sizeE m = 0 := by
                false_or_by_contra
                rename_i h2
                have := HT.out
                unfold takeE at this
                rw [if_pos h2] at this
                exact h2 this
              exact length_frBody hs
            have hml : m.length = n - p := by rw [← HM.out, List.length_drop, HN.out]
            have HNX : Hid (lastR l = lastF k' (l.drop (p + (frN m + 8))) ⟨vT m, (vV m : Int) - 1, p + (frN m + 8)⟩) := Lib.hid (by
              rw [HLR.out, hk', lastF_go HGO.out, hbl]
              have e1 : frNx m = l.drop (p + (frN m + 8)) := by unfold frNx; rw [← HM.out, List.drop_drop]
              rw [e1]
              simp only [Nat.add_assoc])
            obtain ⟨fn, hfn⟩ : ∃ fn, frN m = fn := ⟨_, rfl⟩
            have HFN : Hid (p + (fn + 8) ≤ n ∧ n - (p + (fn + 8)) ≤ k') := Lib.hid (by have := HK.out; omega)
            have hfb : (p : Int) + ((fn : Int) + 8) ≤ 2097152 := by have := HFN.out; omega
            rw [hfn] at HNX ⊢
            clear hfl hbl hml hfn
            obtain ⟨x0, x1, x2, x3⟩ := X6.out
            obtain ⟨s0, s1, s2, s3⟩ := Q6.out
            have hxl := X6.out.lt
            have hsl := Q6.out.lt
            have QN := Lib.hid (Q6.out.set tv ((vv : Int) - 1))
            have KN := Kept.set2 w6 (w.heap.size + 1) (.int .u64 tv) (.int .i64 ((vv : Int) - 1))
            have PN := Lib.hid (P6.out.kept KN (by omega))
            have BN := Lib.hid (B6.out.trans (KN.below B6.out.size (fun k hk => by omega)))
            clear KN
            rw [HTV.out, HVV.out] at HNX
            go_wp2_with fail
            generalize World.setCell _ _ _ = wN at *
            go_roundw
            case rel => exact ⟨p + (fn + 8), k', tv, (vv : Int) - 1, by first | rfl | go_num, HFN.out.1, HFN.out.2, HNX.out, PN.out, QN.out, BN.out⟩
            all_goals (simp only [intOf]; have := HFN.out; omega)
          · have hev0 : ((ev : Int) != 0) = true := bne_iff_ne.2 (by omega)
            have HEND : Hid (lastR l = ⟨t, v, p⟩) := Lib.hid (by rw [HLR.out]; exact lastF_no (fun h => he (by rw [← HEV.out]; exact h.2.2)) _ _)
            clear he
            obtain ⟨p0, p1, p2, p3⟩ := P6.out
            obtain ⟨s0, s1, s2, s3⟩ := Q6.out
            have hp0 := (P6.out).lt
            have hp1 := (Q6.out).lt
            have RFF := Lib.hid ((P6.out).set t v)
            have BF := Lib.hid ((B6.out).trans ((Kept.set2 w6 w.heap.size (.int .u64 t) (.int .i64 v)).below (B6.out).size (fun k hk => by omega)))
            go_wp2_with fail
            generalize (w6.setCell ⟨w.heap.size, 0, none⟩ (.int .u64 t)).setCell ⟨w.heap.size, 1, none⟩ (.int .i64 v) = wF at *
            obtain ⟨q0, q1, _, _⟩ := RFF.out
            refine bodyPost_ret (v := .tuple #[.agg #[.int .u64 t, .int .i64 v], .int .i64 p]) (by simp [results, Tryz.results55, go_sem, q0, q1]) rfl ?_
            unfold LastPost
            rw [HEND.out]
            exact ⟨rfl, BF.out⟩
        · have hkb : (((m.getD 1 0 : Nat) : Int) != 3) = true := bne_iff_ne.2 (by omega)
          have HEND : Hid (lastR l = ⟨t, v, p⟩) := Lib.hid (by rw [HLR.out]; exact lastF_no (fun h => hk3 h.2.1) _ _)
          clear hk3
          generalize m.getD 1 0 = kd at *
          obtain ⟨p0, p1, p2, p3⟩ := SR0.out.below T.out
          obtain ⟨s0, s1, s2, s3⟩ := SR1.out.below T.out
          have hp0 := (SR0.out.below T.out).lt
          have hp1 := (SR1.out.below T.out).lt
          have RFF := Lib.hid ((SR0.out.below T.out).set t v)
          have BF := Lib.hid ((BR.out.trans (T.out.mono BR.out.size)).trans ((Kept.set2 wt w.heap.size (.int .u64 t) (.int .i64 v)).below (BR.out.trans (T.out.mono BR.out.size)).size (fun k hk => by omega)))
          go_wp2_with fail
          generalize (wt.setCell ⟨w.heap.size, 0, none⟩ (.int .u64 t)).setCell ⟨w.heap.size, 1, none⟩ (.int .i64 v) = wF at *
          obtain ⟨q0, q1, _, _⟩ := RFF.out
          refine bodyPost_ret (v := .tuple #[.agg #[.int .u64 t, .int .i64 v], .int .i64 p]) (by simp [results, Tryz.results55, go_sem, q0, q1]) rfl ?_
          unfold LastPost
          rw [HEND.out]
          exact ⟨rfl, BF.out⟩
      · obtain rfl := hno ht
        have HEND : Hid (lastR l = ⟨t, v, p⟩) := Lib.hid (by rw [HLR.out]; exact lastF_no (fun h => ht h.1) _ _)
        obtain ⟨te, hte⟩ : ∃ te, takeE m = te := ⟨_, rfl⟩
        have hteb : ((te : Int) != 0) = true := bne_iff_ne.2 (by rw [hte] at ht; omega)
        rw [hte]
        clear hno hyes ht hte
        obtain ⟨p0, p1, p2, p3⟩ := SR0.out.below T.out
        obtain ⟨s0, s1, s2, s3⟩ := SR1.out.below T.out
        have hp0 := (SR0.out.below T.out).lt
        have hp1 := (SR1.out.below T.out).lt
        have RFF := Lib.hid ((SR0.out.below T.out).set t v)
        have BF := Lib.hid ((BR.out.trans (T.out.mono BR.out.size)).trans ((Kept.set2 wt w.heap.size (.int .u64 t) (.int .i64 v)).below (BR.out.trans (T.out.mono BR.out.size)).size (fun k hk => by omega)))
        go_wp2_with fail
        generalize (wt.setCell ⟨w.heap.size, 0, none⟩ (.int .u64 t)).setCell ⟨w.heap.size, 1, none⟩ (.int .i64 v) = wF at *
        obtain ⟨q0, q1, _, _⟩ := RFF.out
        refine bodyPost_ret (v := .tuple #[.agg #[.int .u64 t, .int .i64 v], .int .i64 p]) (by simp [results, Tryz.results55, go_sem, q0, q1]) rfl ?_
        unfold LastPost
        rw [HEND.out]
        exact ⟨rfl, BF.out⟩
    · obtain rfl : p = n := by omega
      have HEND : Hid (lastR l = ⟨t, v, p⟩) := Lib.hid (by rw [HLR.out, List.drop_of_length_le (by rw [HN.out]; exact Nat.le_refl _)]; exact lastF_no (fun h => by have := h.1; revert this; decide) _ _)
      obtain ⟨p0, p1, p2, p3⟩ := SR0.out
      obtain ⟨s0, s1, s2, s3⟩ := SR1.out
      have hp0 := (SR0.out).lt
      have hp1 := (SR1.out).lt
      have RFF := Lib.hid ((SR0.out).set t v)
      have BF := Lib.hid ((BR.out).trans ((Kept.set2 wr w.heap.size (.int .u64 t) (.int .i64 v)).below (BR.out).size (fun k hk => by omega)))
      go_wp2_with fail
      generalize (wr.setCell ⟨w.heap.size, 0, none⟩ (.int .u64 t)).setCell ⟨w.heap.size, 1, none⟩ (.int .i64 v) = wF at *
      obtain ⟨q0, q1, _, _⟩ := RFF.out
      refine bodyPost_ret (v := .tuple #[.agg #[.int .u64 t, .int .i64 v], .int .i64 p]) (by simp [results, Tryz.results55, go_sem, q0, q1]) rfl ?_
      unfold LastPost
      rw [HEND.out]
      exact ⟨rfl, BF.out⟩
end Go.Proofs.YtofhccpagnkalaaGreat
