/- Several texts in one: Rj, Rgn, Rw, Rk, Ro. What each proves stands ahead of it; together they serve splays_law_holds. No conditions but those stated. -/
import Derived.Test.YtofhccpagnkalaaGreatSpb25
import Derived.Test.YtofhccpagnkalaaGreatSpb23
/- The document's disk: Remove; contracts; no conditions but the ranges. -/
namespace Go.Proofs.YtofhccpagnkalaaGreat
open Go.RowKit Go.Maps Go.Proofs.Own

theorem RIs.new {w : World} {D : DiskS} {a : Option Addr} {n c : Nat} (hn : D.files.length = n) (h : SRow w 3 (.slice a n c) (D.files.map rfV)) : RIs w (.agg #[.int .i64 D.room, .slice a n c, .bool D.down, .int .i64 D.armed, .int .u64 D.steps]) D := by
  subst hn
  exact ⟨a, c, rfl, h⟩
theorem rwith_n (a : Option Addr) (n c : Nat) (D : DiskS) (f : FileS) (w : World) (hn : D.files.length = n) (hr : SRow w 3 (.slice a n c) (D.files.map rfV)) (hm : D.files.length ≤ 1000) : Calls Tryz.prog 40 #[.agg #[.int .i64 D.room, .slice a n c, .bool D.down, .int .i64 D.armed, .int .u64 D.steps], .agg #[.string f.name, .string (strN f.all), .int .i64 f.kept]] w (RNew { D with files := putFile f D.files } w) := by
  subst hn
  exact rwith_any a c D f w hr hm
theorem removeD_down {D : DiskS} (h : D.down = true) (n : ByteArray) : removeD D n = (D, 50) := by
  unfold removeD
  split
  · rw [if_pos h]
  · unfold fileE; rw [if_pos h]
theorem syncD_down {D : DiskS} (h : D.down = true) (n : ByteArray) : syncD D n = (D, 50) := by
  unfold syncD
  split
  · rw [if_pos h]
  · unfold fileE; rw [if_pos h]
theorem moveD_down {D : DiskS} (h : D.down = true) (n to : ByteArray) : moveD D n to = (D, 50) := by
  unfold moveD
  split
  · rw [if_pos h]
  · unfold fileE; rw [if_pos h]
theorem fileE_31 {D : DiskS} {n : ByteArray} (h : D.down = false) (hf : findFile n D.files = none) : fileE D n = 31 := by unfold fileE; rw [if_neg (by rw [h]; decide), if_pos hf]
theorem stepD_eq (D : DiskS) : ∃ S : DiskS, stepD D = S ∧ S.files = D.files ∧ S.room = D.room := ⟨_, rfl, stepD_files D, stepD_room D⟩
set_option maxHeartbeats 4000000 in
set_option maxRecDepth 20000 in
theorem rremove_new (v : Value) (D : DiskS) (n : ByteArray) (w : World) (h : RIs w v D) (hg : DGood D) : Calls Tryz.prog 44 #[v, .string n] w (RPostN (removeD D n) v w) := by
  obtain ⟨a, c, rfl, hr⟩ := h
  obtain ⟨room, L, down, armed, steps⟩ := D
  have HG := Lib.hid hg
  simp only at hr ⊢
  have HR := Lib.hid hr
  obtain ⟨m, hlm⟩ : ∃ m, L.length = m := ⟨_, rfl⟩
  have HL := Lib.hid hlm
  rw [hlm] at HR ⊢
  have HM : Hid (L.length ≤ 1000) := Lib.hid (by have := hg.few; simp only at this; omega)
  have HA : Hid ((0 ≤ steps ∧ steps ≤ 1000000000) ∧ -1 ≤ armed ∧ armed ≤ 9223372036854775807) := Lib.hid ⟨⟨hg.wf.steps0, hg.wf.steps1⟩, hg.wf.armed0, hg.wf.armed1⟩
  have hm1000 : (m : Int) ≤ 1000 := by have := HM.out; omega
  clear hr hlm hg
  have BX := (RD.box w ⟨room, L, down, armed, steps⟩ (.slice a m c)).below ((Below.refl _ _).alloc (Nat.le_refl _) (.cells #[.int .i64 0, .slice none 0 0, .bool false, .int .i64 0, .int .u64 0] 29))
  have BZ := RD.zero (w.alloc (.cells #[.int .i64 room, .slice a m c, .bool down, .int .i64 armed, .int .u64 steps] 29))
  have hsz : (w.alloc (.cells #[.int .i64 room, .slice a m c, .bool down, .int .i64 armed, .int .u64 steps] 29)).heap.size = w.heap.size + 1 := by simp
  simp only at BX
  rw [hsz] at BZ
  have B1 : Hid (Below w.heap.size w ((w.alloc (.cells #[.int .i64 room, .slice a m c, .bool down, .int .i64 armed, .int .u64 steps] 29)).alloc (.cells #[.int .i64 0, .slice none 0 0, .bool false, .int .i64 0, .int .u64 0] 29))) := Lib.hid (((Below.refl _ _).alloc (Nat.le_refl _) _).alloc (by simp) _)
  clear hsz
  cases down
  · go_enter Tryz.func44, Tryz.ntmps44
    go_wp2_with fail
    generalize World.alloc (World.alloc w _) _ = w1 at *
    have X1 := Lib.hid BX
    have Z1 := Lib.hid BZ
    have LZ := BZ.lt
    clear BX BZ
    refine (rfind_any _ ⟨room, L, false, armed, steps⟩ n w1 (RIs.new HL.out (HR.out.below B1.out)) HM.out).mono ?_
    rintro e w2 ⟨rfl, hb2⟩
    have X2 := Lib.hid (X1.out.below hb2)
    have Z2 := Lib.hid (Z1.out.below hb2)
    have B2 : Hid (Below w.heap.size w w2) := Lib.hid (B1.out.trans (hb2.mono B1.out.size))
    clear hb2
    cases hf : findFile n L with
    | none =>
      have HV : Hid (removeD ⟨room, L, false, armed, steps⟩ n = (⟨room, L, false, armed, steps⟩, 31)) := Lib.hid (by unfold removeD; simp only [hf]; rw [fileE_31 rfl hf])
      have hI : findI n L = -1 := findI_none.2 hf
      rw [hI]
      clear hf hI
      obtain ⟨r0, r1, r2, r3, r4, f0, f1, f2, f3, f4⟩ := X2.out
      obtain ⟨z0, z1, z2, z3, z4, g0, g1, g2, g3, g4⟩ := Z2.out
      have hlx := X2.out.lt
      have hlz := Z2.out.lt
      have RFF := Lib.hid (Z2.out.set ⟨room, [], false, armed, steps⟩ (.slice a m c))
      have BF := Lib.hid (B2.out.trans ((Kept.set5D w2 (w.heap.size + 1) ⟨room, [], false, armed, steps⟩ (.slice a m c)).below B2.out.size (fun k hk => by omega)))
      unfold set5D at RFF BF
      simp only at RFF BF
      go_wp2_with fail
      generalize (((((w2.setCell ⟨w.heap.size + 1, 0, none⟩ (.int .i64 room)).setCell ⟨w.heap.size + 1, 1, none⟩ (.slice a m c)).setCell ⟨w.heap.size + 1, 2, none⟩ (.bool false)).setCell ⟨w.heap.size + 1, 3, none⟩ (.int .i64 armed)).setCell ⟨w.heap.size + 1, 4, none⟩ (.int .u64 steps)) = wF at *
      obtain ⟨q0, q1, q2, q3, q4, _⟩ := RFF.out
      simp only at q0 q1 q2 q3 q4
      refine bodyPost_ret (v := .tuple #[.agg #[.int .i64 room, (.slice a m c), .bool false, .int .i64 armed, .int .u64 steps], .int .i64 31]) (by simp [results, Tryz.results44, go_sem, q0, q1, q2, q3, q4]) rfl ?_
      rw [HV.out]
      exact ⟨_, rfl, RIs.new (D := ⟨room, L, false, armed, steps⟩) HL.out (HR.out.below BF.out), BF.out, by first | exact fun g hg => .inl hg | (intro g hg; first | exact (F3.out g hg).imp id (fun h => by have := L3.out; omega) | (right; first | (have h5 := N6.out g hg; have h6 := L6.out; omega) | (have h5 := N5.out g hg; have h6 := L5.out; omega)))⟩
    | some fl =>
      obtain ⟨i, hI, hLi⟩ := findI_some hf
      rw [hI]
      have hi0 : ¬ (i : Int) < 0 := by omega
      have HF := Lib.hid hf
      clear hf hI hLi
      obtain ⟨r0, r1, r2, r3, r4, f0, f1, f2, f3, f4⟩ := X2.out
      obtain ⟨z0, z1, z2, z3, z4, g0, g1, g2, g3, g4⟩ := Z2.out
      have hlx := X2.out.lt
      have hlz := Z2.out.lt
      go_wp2_with fail
      clear r0 r1 r2 r3 r4 f0 f1 f2 f3 f4 z0 z1 z2 z3 z4 g0 g1 g2 g3 g4 hlx hlz
      refine (rstep_any ⟨room, L, false, armed, steps⟩ a m c w2 HA.out.1.1 HA.out.1.2 HA.out.2.1 HA.out.2.2).mono ?_
      rintro e w3 ⟨rfl, hb3⟩
      have X3 := Lib.hid (X2.out.below hb3)
      have Z3 := Lib.hid (Z2.out.below hb3)
      have B3 : Hid (Below w.heap.size w w3) := Lib.hid (B2.out.trans (hb3.mono B2.out.size))
      clear hb3
      obtain ⟨S, hS, hSf, hSr⟩ := stepD_eq ⟨room, L, false, armed, steps⟩
      simp only at hSf hSr
      rw [hS]
      have HS := Lib.hid hS
      have HSF := Lib.hid hSf
      have HSR := Lib.hid hSr
      clear hS hSf hSr
      obtain ⟨Sroom, SL, Sdown, Sarmed, Ssteps⟩ := S
      simp only at HSF HSR ⊢
      obtain rfl : L = SL := HSF.out.symm
      obtain rfl : room = Sroom := HSR.out.symm
      by_cases h0 : armed = 0
      · have hd : decide (armed ≠ 0) = false := decide_eq_false (by simpa using h0)
        have HV : Hid (removeD ⟨room, L, false, armed, steps⟩ n = (⟨room, L, Sdown, Sarmed, Ssteps⟩, 50)) := Lib.hid (by unfold removeD; simp only [HF.out]; rw [if_neg (by simp), if_pos h0, HS.out])
        rw [hd]
        clear h0
        obtain ⟨r0, r1, r2, r3, r4, f0, f1, f2, f3, f4⟩ := X3.out
        obtain ⟨z0, z1, z2, z3, z4, g0, g1, g2, g3, g4⟩ := Z3.out
        have hlx := X3.out.lt
        have hlz := Z3.out.lt
        have X4 := Lib.hid (X3.out.set ⟨room, [], Sdown, Sarmed, Ssteps⟩ (.slice a m c))
        have KS4 := Kept.set5D w3 w.heap.size ⟨room, [], Sdown, Sarmed, Ssteps⟩ (.slice a m c)
        have Z4 := Lib.hid (Z3.out.kept KS4 (by omega))
        have B4 := Lib.hid (B3.out.trans (KS4.below B3.out.size (fun k hk => by omega)))
        unfold set5D at X4 Z4 B4
        simp only at X4 Z4 B4
        clear KS4
        have RFF := Lib.hid (Z4.out.set ⟨room, [], Sdown, Sarmed, Ssteps⟩ (.slice a m c))
        have BF := Lib.hid (B4.out.trans ((Kept.set5D (((((w3.setCell ⟨w.heap.size, 0, none⟩ (.int .i64 room)).setCell ⟨w.heap.size, 1, none⟩ (.slice a m c)).setCell ⟨w.heap.size, 2, none⟩ (.bool Sdown)).setCell ⟨w.heap.size, 3, none⟩ (.int .i64 Sarmed)).setCell ⟨w.heap.size, 4, none⟩ (.int .u64 Ssteps)) (w.heap.size + 1) ⟨room, [], Sdown, Sarmed, Ssteps⟩ (.slice a m c)).below B4.out.size (fun k hk => by omega)))
        unfold set5D at RFF BF
        simp only at RFF BF
        go_wp2_with fail
        generalize ((((((((((w3.setCell ⟨w.heap.size, 0, none⟩ (.int .i64 room)).setCell ⟨w.heap.size, 1, none⟩ (.slice a m c)).setCell ⟨w.heap.size, 2, none⟩ (.bool Sdown)).setCell ⟨w.heap.size, 3, none⟩ (.int .i64 Sarmed)).setCell ⟨w.heap.size, 4, none⟩ (.int .u64 Ssteps)).setCell ⟨w.heap.size + 1, 0, none⟩ (.int .i64 room)).setCell ⟨w.heap.size + 1, 1, none⟩ (.slice a m c)).setCell ⟨w.heap.size + 1, 2, none⟩ (.bool Sdown)).setCell ⟨w.heap.size + 1, 3, none⟩ (.int .i64 Sarmed)).setCell ⟨w.heap.size + 1, 4, none⟩ (.int .u64 Ssteps)) = wF at *
        obtain ⟨q0, q1, q2, q3, q4, _⟩ := RFF.out
        simp only at q0 q1 q2 q3 q4
        refine bodyPost_ret (v := .tuple #[.agg #[.int .i64 room, (.slice a m c), .bool Sdown, .int .i64 Sarmed, .int .u64 Ssteps], .int .i64 50]) (by simp [results, Tryz.results44, go_sem, q0, q1, q2, q3, q4]) rfl ?_
        rw [HV.out]
        exact ⟨_, rfl, RIs.new (D := ⟨room, L, Sdown, Sarmed, Ssteps⟩) HL.out (HR.out.below BF.out), BF.out, by first | exact fun g hg => .inl hg | (intro g hg; first | exact (F3.out g hg).imp id (fun h => by have := L3.out; omega) | (right; first | (have h5 := N6.out g hg; have h6 := L6.out; omega) | (have h5 := N5.out g hg; have h6 := L5.out; omega)))⟩
      · have hd : decide (armed ≠ 0) = true := decide_eq_true h0
        have HV : Hid (removeD ⟨room, L, false, armed, steps⟩ n = (⟨room, delFile n L, Sdown, Sarmed, Ssteps⟩, 0)) := Lib.hid (by unfold removeD; simp only [HF.out]; rw [if_neg (by simp), if_neg h0, HS.out])
        rw [hd]
        clear h0
        obtain ⟨r0, r1, r2, r3, r4, f0, f1, f2, f3, f4⟩ := X3.out
        obtain ⟨z0, z1, z2, z3, z4, g0, g1, g2, g3, g4⟩ := Z3.out
        have hlx := X3.out.lt
        have hlz := Z3.out.lt
        have X4 := Lib.hid (X3.out.set ⟨room, [], Sdown, Sarmed, Ssteps⟩ (.slice a m c))
        have KS4 := Kept.set5D w3 w.heap.size ⟨room, [], Sdown, Sarmed, Ssteps⟩ (.slice a m c)
        have Z4 := Lib.hid (Z3.out.kept KS4 (by omega))
        have B4 := Lib.hid (B3.out.trans (KS4.below B3.out.size (fun k hk => by omega)))
        unfold set5D at X4 Z4 B4
        simp only at X4 Z4 B4
        clear KS4
        go_wp2_with fail
        generalize World.setCell _ _ _ = w4 at *
        clear r0 r1 r2 r3 r4 f0 f1 f2 f3 f4 z0 z1 z2 z3 z4 g0 g1 g2 g3 g4 hlx hlz
        refine (rwithout_any _ ⟨room, L, Sdown, Sarmed, Ssteps⟩ n w4 (RIs.new HL.out (HR.out.below B4.out)) HM.out).mono ?_
        rintro e w5 ⟨a5, c5, rfl, hs5, hn5, hb5⟩
        simp only at hs5 hn5 ⊢
        have X5 := Lib.hid (X4.out.below hb5)
        have Z5 := Lib.hid (Z4.out.below hb5)
        have B5 : Hid (Below w.heap.size w w5) := Lib.hid (B4.out.trans (hb5.mono B4.out.size))
        have S5 := Lib.hid hs5
        have N5 := Lib.hid hn5
        have L5 : Hid (w.heap.size + 1 < w4.heap.size) := Lib.hid Z4.out.lt
        obtain ⟨m5, hm5⟩ : ∃ k, (delFile n L).length = k := ⟨_, rfl⟩
        have HM5 := Lib.hid hm5
        rw [hm5] at S5 N5 ⊢
        clear hs5 hn5 hb5 hm5
        obtain ⟨r0, r1, r2, r3, r4, f0, f1, f2, f3, f4⟩ := X5.out
        obtain ⟨z0, z1, z2, z3, z4, g0, g1, g2, g3, g4⟩ := Z5.out
        have hlx := X5.out.lt
        have hlz := Z5.out.lt
        have RFF := Lib.hid (Z5.out.set ⟨room, [], Sdown, Sarmed, Ssteps⟩ (.slice a5 m5 c5))
        have BF := Lib.hid (B5.out.trans ((Kept.set5D w5 (w.heap.size + 1) ⟨room, [], Sdown, Sarmed, Ssteps⟩ (.slice a5 m5 c5)).below B5.out.size (fun k hk => by omega)))
        unfold set5D at RFF BF
        simp only at RFF BF
        go_wp2_with fail
        have S5F := S5.out.off (Kept.set5D w5 (w.heap.size + 1) ⟨room, [], Sdown, Sarmed, Ssteps⟩ (.slice a5 m5 c5)) N5.out (fun k hk => by have := L5.out; omega)
        unfold set5D at S5F
        simp only at S5F
        generalize (((((w5.setCell ⟨w.heap.size + 1, 0, none⟩ (.int .i64 room)).setCell ⟨w.heap.size + 1, 1, none⟩ (.slice a5 m5 c5)).setCell ⟨w.heap.size + 1, 2, none⟩ (.bool Sdown)).setCell ⟨w.heap.size + 1, 3, none⟩ (.int .i64 Sarmed)).setCell ⟨w.heap.size + 1, 4, none⟩ (.int .u64 Ssteps)) = wF at *
        obtain ⟨q0, q1, q2, q3, q4, _⟩ := RFF.out
        simp only at q0 q1 q2 q3 q4
        refine bodyPost_ret (v := .tuple #[.agg #[.int .i64 room, (.slice a5 m5 c5), .bool Sdown, .int .i64 Sarmed, .int .u64 Ssteps], .int .i64 0]) (by simp [results, Tryz.results44, go_sem, q0, q1, q2, q3, q4]) rfl ?_
        rw [HV.out]
        exact ⟨_, rfl, RIs.new (D := ⟨room, delFile n L, Sdown, Sarmed, Ssteps⟩) HM5.out (S5F), BF.out, by first | exact fun g hg => .inl hg | (intro g hg; first | exact (F3.out g hg).imp id (fun h => by have := L3.out; omega) | (right; first | (have h5 := N6.out g hg; have h6 := L6.out; omega) | (have h5 := N5.out g hg; have h6 := L5.out; omega)))⟩
  · have HV := Lib.hid (removeD_down (D := ⟨room, L, true, armed, steps⟩) rfl n)
    go_enter Tryz.func44, Tryz.ntmps44
    go_wp2_with fail
    clear BX BZ
    refine bodyPost_ret (v := .tuple #[.agg #[.int .i64 room, .slice a m c, .bool true, .int .i64 armed, .int .u64 steps], .int .i64 50]) (by simp [results, Tryz.results44, go_sem]) rfl ?_
    rw [HV.out]
    exact ⟨_, rfl, RIs.new (D := ⟨room, L, true, armed, steps⟩) HL.out (HR.out.below (((Below.refl _ _).alloc (Nat.le_refl _) _).alloc (by simp) _)), ((Below.refl _ _).alloc (Nat.le_refl _) _).alloc (by simp) _, by first | exact fun g hg => .inl hg | (intro g hg; first | exact (F3.out g hg).imp id (fun h => by have := L3.out; omega) | (right; first | (have h5 := N6.out g hg; have h6 := L6.out; omega) | (have h5 := N5.out g hg; have h6 := L5.out; omega)))⟩
end Go.Proofs.YtofhccpagnkalaaGreat

/- The document's Boot, Arm, Resize: the files' slice stays where it was; contracts; no conditions. -/
namespace Go.Proofs.YtofhccpagnkalaaGreat
open Go.RowKit Go.Maps Go.Proofs.Own

set_option maxHeartbeats 1000000 in
theorem rarm_new (v : Value) (D : DiskS) (n : Int) (w : World) (h : RIs w v D) : Calls Tryz.prog 63 #[v, .int .i64 n] w (RPostN (armD D n) v w) := by
  obtain ⟨a, c, rfl, hr⟩ := h
  obtain ⟨room, L, down, armed, steps⟩ := D
  simp only at hr ⊢
  have HR := Lib.hid hr
  clear hr
  unfold armD
  cases down
  · rw [if_neg (by simp)]
    by_cases hneg : n < 0
    · rw [if_pos hneg]
      go_enter Tryz.func63, Tryz.ntmps63
      go_wp2_with fail
      refine bodyPost_ret (v := .tuple #[.agg #[.int .i64 room, .slice a L.length c, .bool false, .int .i64 armed, .int .u64 steps], .int .i64 2]) (by simp [results, Tryz.results63, go_sem]) rfl ?_
      exact ⟨_, rfl, ⟨a, c, rfl, HR.out.below (((Below.refl _ _).alloc (Nat.le_refl _) _).alloc (by simp) _)⟩, ((Below.refl _ _).alloc (Nat.le_refl _) _).alloc (by simp) _, fun g hg => .inl hg⟩
    · rw [if_neg hneg]
      go_enter Tryz.func63, Tryz.ntmps63
      go_wp2_with fail
      refine bodyPost_ret (v := .tuple #[.agg #[.int .i64 room, .slice a L.length c, .bool false, .int .i64 n, .int .u64 steps], .int .i64 0]) (by simp [results, Tryz.results63, go_sem]) rfl ?_
      exact ⟨_, rfl, ⟨a, c, rfl, HR.out.below (((Below.refl _ _).alloc (Nat.le_refl _) _).alloc (by simp) _)⟩, ((Below.refl _ _).alloc (Nat.le_refl _) _).alloc (by simp) _, fun g hg => .inl hg⟩
  · rw [if_pos rfl]
    go_enter Tryz.func63, Tryz.ntmps63
    go_wp2_with fail
    refine bodyPost_ret (v := .tuple #[.agg #[.int .i64 room, .slice a L.length c, .bool true, .int .i64 armed, .int .u64 steps], .int .i64 50]) (by simp [results, Tryz.results63, go_sem]) rfl ?_
    exact ⟨_, rfl, ⟨a, c, rfl, HR.out.below (((Below.refl _ _).alloc (Nat.le_refl _) _).alloc (by simp) _)⟩, ((Below.refl _ _).alloc (Nat.le_refl _) _).alloc (by simp) _, fun g hg => .inl hg⟩
set_option maxHeartbeats 1000000 in
theorem rresize_new (v : Value) (D : DiskS) (n : Int) (w : World) (h : RIs w v D) : Calls Tryz.prog 65 #[v, .int .i64 n] w (RPostN (resizeD D n) v w) := by
  obtain ⟨a, c, rfl, hr⟩ := h
  obtain ⟨room, L, down, armed, steps⟩ := D
  simp only at hr ⊢
  have HR := Lib.hid hr
  clear hr
  unfold resizeD
  cases down
  · rw [if_neg (by simp)]
    by_cases hneg : n < 0
    · rw [if_pos (.inl hneg)]
      go_enter Tryz.func65, Tryz.ntmps65
      go_wp2_with fail
      refine bodyPost_ret (v := .tuple #[.agg #[.int .i64 room, .slice a L.length c, .bool false, .int .i64 armed, .int .u64 steps], .int .i64 2]) (by simp [results, Tryz.results65, go_sem]) rfl ?_
      exact ⟨_, rfl, ⟨a, c, rfl, HR.out.below (((Below.refl _ _).alloc (Nat.le_refl _) _).alloc (by simp) _)⟩, ((Below.refl _ _).alloc (Nat.le_refl _) _).alloc (by simp) _, fun g hg => .inl hg⟩
    · by_cases hbig : 1048576 < n
      · rw [if_pos (.inr hbig)]
        go_enter Tryz.func65, Tryz.ntmps65
        go_wp2_with fail
        refine bodyPost_ret (v := .tuple #[.agg #[.int .i64 room, .slice a L.length c, .bool false, .int .i64 armed, .int .u64 steps], .int .i64 2]) (by simp [results, Tryz.results65, go_sem]) rfl ?_
        exact ⟨_, rfl, ⟨a, c, rfl, HR.out.below (((Below.refl _ _).alloc (Nat.le_refl _) _).alloc (by simp) _)⟩, ((Below.refl _ _).alloc (Nat.le_refl _) _).alloc (by simp) _, fun g hg => .inl hg⟩
      · rw [if_neg (by omega)]
        go_enter Tryz.func65, Tryz.ntmps65
        go_wp2_with fail
        refine bodyPost_ret (v := .tuple #[.agg #[.int .i64 n, .slice a L.length c, .bool false, .int .i64 armed, .int .u64 steps], .int .i64 0]) (by simp [results, Tryz.results65, go_sem]) rfl ?_
        exact ⟨_, rfl, ⟨a, c, rfl, HR.out.below (((Below.refl _ _).alloc (Nat.le_refl _) _).alloc (by simp) _)⟩, ((Below.refl _ _).alloc (Nat.le_refl _) _).alloc (by simp) _, fun g hg => .inl hg⟩
  · rw [if_pos rfl]
    go_enter Tryz.func65, Tryz.ntmps65
    go_wp2_with fail
    refine bodyPost_ret (v := .tuple #[.agg #[.int .i64 room, .slice a L.length c, .bool true, .int .i64 armed, .int .u64 steps], .int .i64 50]) (by simp [results, Tryz.results65, go_sem]) rfl ?_
    exact ⟨_, rfl, ⟨a, c, rfl, HR.out.below (((Below.refl _ _).alloc (Nat.le_refl _) _).alloc (by simp) _)⟩, ((Below.refl _ _).alloc (Nat.le_refl _) _).alloc (by simp) _, fun g hg => .inl hg⟩
end Go.Proofs.YtofhccpagnkalaaGreat

/- The document's Crash; contract; no conditions but the ranges. -/
namespace Go.Proofs.YtofhccpagnkalaaGreat
open Go.RowKit Go.Maps Go.Proofs.Own

theorem crashL_step {L : List FileS} {ts : List (Nat × Nat)} {j u : Nat} {f : FileS} (hf : L[j]? = some f) (hu : crashT (L.take j) ts = ts.drop u) : crashL (L.take (j + 1)) ts = crashL (L.take j) ts ++ crash1 f (ts.drop u) ∧ crashT (L.take (j + 1)) ts = tears1 f (ts.drop u) := by
  rw [List.take_add_one, hf]
  show crashL (L.take j ++ [f]) ts = _ ∧ crashT (L.take j ++ [f]) ts = _
  rw [crashL_app, crashT_app, hu]
  refine ⟨?_, rfl⟩
  show _ ++ (crash1 f (ts.drop u) ++ []) = _
  rw [List.append_nil]
theorem drop_headD {ts : List (Nat × Nat)} {u : Nat} : (ts.drop u).headD (0, 0) = ts.getD u (0, 0) := by
  rw [List.headD_eq_head?_getD, List.head?_drop, List.getD_eq_getElem?_getD]
theorem drop_tail {α : Type} {ts : List α} {u : Nat} : (ts.drop u).tail = ts.drop (u + 1) := by rw [List.tail_drop]
theorem length_crash_take (L : List FileS) (ts : List (Nat × Nat)) (j : Nat) (h : L.length ≤ 1000) : (crashL (L.take j) ts).length ≤ 1000 := by
  have h1 := length_crashL (L.take j) ts
  have h2 := List.length_take_le' j L
  omega
/-- A disk in new memory. -/
def RFresh (D : DiskS) (w : World) : Ending → World → Prop := fun e w' => ∃ v, e = .returned v ∧ RIs w' v D ∧ Below w.heap.size w w' ∧ ∀ g, fsOwn v = some g → w.heap.size ≤ g ∧ g < w'.heap.size
/-- Block b is a tear. -/
structure TB (w : World) (b : Nat) (t : Nat × Nat) : Prop where
  c0 : w.cell? ⟨b, 0, none⟩ = some (.int .u16 (t.1 : Nat))
  c1 : w.cell? ⟨b, 1, none⟩ = some (.int .u32 (t.2 : Nat))
  f0 : w.frozen? ⟨b, 0, none⟩ = false
  f1 : w.frozen? ⟨b, 1, none⟩ = false
theorem TB.lt {w : World} {b : Nat} {t : Nat × Nat} (h : TB w b t) : b < w.heap.size := World.block_lt_of_cell? _ _ h.c0
theorem TB.below {w w' : World} {b : Nat} {t : Nat × Nat} (h : TB w b t) (hb : Below w.heap.size w w') : TB w' b t :=
  have hk := Kept.of_below hb (S := fun _ => False) fun k h1 h2 => by omega
  ⟨hk.cell h.c0 (fun h => h), hk.cell h.c1 (fun h => h), (hk.frozen (a := ⟨b, 0, none⟩) h.lt (fun h => h)).trans h.f0, (hk.frozen (a := ⟨b, 1, none⟩) h.lt (fun h => h)).trans h.f1⟩
theorem TB.box (w : World) (t : Nat × Nat) : TB (w.alloc (.cells #[.int .u16 (t.1 : Nat), .int .u32 (t.2 : Nat)] 175)) w.heap.size t := ⟨by go_cell, by go_cell, by simp, by simp⟩
theorem TB.set {w : World} {b : Nat} {t : Nat × Nat} (h : TB w b t) (t' : Nat × Nat) : TB ((w.setCell ⟨b, 0, none⟩ (.int .u16 (t'.1 : Nat))).setCell ⟨b, 1, none⟩ (.int .u32 (t'.2 : Nat))) b t' := by
  refine ⟨?_, ?_, ?_, ?_⟩
  · rw [World.cell?_setCell_other _ _ _ _ (by simp)]; exact World.cell?_setCell_same _ _ _ h.c0
  · exact World.cell?_setCell_same _ _ _ (by rw [World.cell?_setCell_other _ _ _ _ (by simp)]; exact h.c1)
  · rw [World.frozen?_setCell, World.frozen?_setCell]; exact h.f0
  · rw [World.frozen?_setCell, World.frozen?_setCell]; exact h.f1
theorem RF.set1 {w : World} {b : Nat} {f : FileS} (h : RF w b f) (l : List Nat) : RF (w.setCell ⟨b, 1, none⟩ (.string (strN l))) b { f with all := l } := by
  refine ⟨?_, World.cell?_setCell_same _ _ _ h.c1, ?_, ?_, ?_, ?_⟩
  · rw [World.cell?_setCell_other _ _ _ _ (by simp)]; exact h.c0
  · rw [World.cell?_setCell_other _ _ _ _ (by simp)]; exact h.c2
  · rw [World.frozen?_setCell]; exact h.f0
  · rw [World.frozen?_setCell]; exact h.f1
  · rw [World.frozen?_setCell]; exact h.f2
theorem RF.set2 {w : World} {b : Nat} {f : FileS} (h : RF w b f) (k : Nat) : RF (w.setCell ⟨b, 2, none⟩ (.int .i64 (k : Nat))) b { f with kept := k } := by
  refine ⟨?_, ?_, World.cell?_setCell_same _ _ _ h.c2, ?_, ?_, ?_⟩
  · rw [World.cell?_setCell_other _ _ _ _ (by simp)]; exact h.c0
  · rw [World.cell?_setCell_other _ _ _ _ (by simp)]; exact h.c1
  · rw [World.frozen?_setCell]; exact h.f0
  · rw [World.frozen?_setCell]; exact h.f1
  · rw [World.frozen?_setCell]; exact h.f2
/-- What holds ahead of the j-th file. -/
structure CrJ (w : World) (D : DiskS) (sl : Value) (ts : List (Nat × Nat)) (w1 : World) (j u : Nat) (lv : Value) (wr : World) : Prop where
  bx : RD wr w.heap.size D sl
  bz : RD wr (w.heap.size + 1) zeroD (.slice none 0 0)
  own : OwnR wr w1.heap.size 96 3 lv ((crashL (D.files.take j) ts).map rfV)
  tr : crashT (D.files.take j) ts = ts.drop u
  uj : u ≤ j
  be : Below w1.heap.size w1 wr

set_option maxHeartbeats 4000000 in
set_option maxRecDepth 20000 in
theorem rcrash_any (v tv : Value) (D : DiskS) (ts : List (Nat × Nat)) (w : World) (h : RIs w v D) (hg : DGood D) (hb : Byt8 D.files) (hT : TearsIs w tv ts) (htm : ts.length ≤ 1000) : Calls Tryz.prog 60 #[v, tv] w (RFresh (crashD D ts) w) := by
  obtain ⟨a, c, rfl, hr⟩ := h
  obtain ⟨room, L, down, armed, steps⟩ := D
  obtain ⟨ta, tc, rfl, _⟩ := hT.1.shape
  have HG := Lib.hid hg
  have HB8 := Lib.hid hb
  have HLF : Hid (∀ f ∈ L, (∀ x ∈ f.all, x < 256) ∧ f.all.length ≤ 1048576 ∧ f.kept ≤ f.all.length) := Lib.hid fun f hf => ⟨hb f hf, by
    have h1 := hg.tot
    simp only at h1
    obtain ⟨i, hi⟩ := List.getElem?_of_mem hf
    obtain ⟨A, B, rfl⟩ := List.append_of_mem hf
    rw [total_app] at h1
    simp only [total, List.map_cons, List.sum_cons] at h1
    omega, (hg.wf.each f hf).2⟩
  simp only at hr ⊢
  have HR := Lib.hid hr
  have HT0 := Lib.hid hT
  rw [List.length_map] at HT0 ⊢
  obtain ⟨m, hlm⟩ : ∃ m, L.length = m := ⟨_, rfl⟩
  have HL := Lib.hid hlm
  obtain ⟨tn, htn⟩ : ∃ m, ts.length = m := ⟨_, rfl⟩
  have HTN := Lib.hid htn
  rw [hlm] at HR ⊢
  rw [htn] at HT0 htm ⊢
  have HM : Hid (L.length ≤ 1000) := Lib.hid (by have := hg.few; simp only at this; omega)
  have hm1000 : (m : Int) ≤ 1000 := by have := HM.out; omega
  have htm2 : (tn : Int) ≤ 1000 := by omega
  clear hr hlm htn hg hb hT
  have BX : RD ((w.alloc (.cells #[.int .i64 room, .slice a m c, .bool true, .int .i64 (-1), .int .u64 steps] 29)).alloc (.cells #[.int .i64 0, .slice none 0 0, .bool false, .int .i64 0, .int .u64 0] 29)) w.heap.size ⟨room, L, true, -1, steps⟩ (.slice a m c) := (RD.box w ⟨room, L, true, -1, steps⟩ (.slice a m c)).below ((Below.refl _ _).alloc (Nat.le_refl _) _)
  have BZ := RD.zero (w.alloc (.cells #[.int .i64 room, .slice a m c, .bool true, .int .i64 (-1), .int .u64 steps] 29))
  have hsz : (w.alloc (.cells #[.int .i64 room, .slice a m c, .bool true, .int .i64 (-1), .int .u64 steps] 29)).heap.size = w.heap.size + 1 := by simp
  rw [hsz] at BZ
  have B1 : Below w.heap.size w ((w.alloc (.cells #[.int .i64 room, .slice a m c, .bool true, .int .i64 (-1), .int .u64 steps] 29)).alloc (.cells #[.int .i64 0, .slice none 0 0, .bool false, .int .i64 0, .int .u64 0] 29)) := ((Below.refl _ _).alloc (Nat.le_refl _) _).alloc (by simp) _
  have X1 := Lib.hid BX
  have Z1 := Lib.hid BZ
  have BB1 := Lib.hid B1
  clear BX BZ B1 hsz
  go_enter Tryz.func60, Tryz.ntmps60
  go_wp2_with fail
  generalize World.alloc (World.alloc w _) _ = w1 at *
  go_loopw [5, 6, 7] (fun lv uv iv wr => ∃ j u : Nat, iv = .int .i64 j ∧ uv = .int .i64 u ∧ j ≤ m ∧ CrJ w ⟨room, L, true, -1, steps⟩ (.slice a m c) ts w1 j u lv wr) (fun _ _ iv _ => m - (intOf iv).toNat)
  case atStart => exact ⟨0, 0, rfl, rfl, by omega, X1.out, Z1.out, OwnR.nil _ _ _ _, rfl, Nat.le_refl _, Below.refl _ _⟩
  case round =>
    obtain ⟨j, u, rfl, rfl, hj, hI⟩ := hrel
    have BW : Hid (Below w.heap.size w wr) := Lib.hid (BB1.out.trans (hI.be.mono BB1.out.size))
    obtain ⟨la, lc, rfl⟩ := hI.own.shape
    have hll := length_crash_take L ts j HM.out
    have OW := Lib.hid hI.own
    have HTR := Lib.hid hI.tr
    have HUJ := Lib.hid hI.uj
    have BR := Lib.hid hI.be
    have XR := Lib.hid hI.bx
    have ZR := Lib.hid hI.bz
    simp only [List.length_map] at OW ⊢
    obtain ⟨ln, hln⟩ : ∃ k, (crashL (L.take j) ts).length = k := ⟨_, rfl⟩
    have HLN := Lib.hid hln
    rw [hln] at OW hll ⊢
    clear hI hln
    have OWL : Hid (∀ g, (Value.slice la ln lc).ownBlock = some g → w1.heap.size ≤ g ∧ g < wr.heap.size) := Lib.hid (fun g hg => OW.out.lt g hg)
    have hlz := ZR.out.lt
    have hwr := BR.out.size
    have hlz1 : w.heap.size + 1 < w1.heap.size := Z1.out.lt
    by_cases hlt : j < m
    · obtain ⟨f, hf, hfm⟩ := getAt (l := L) (j := j) (by rw [HL.out]; exact hlt)
      obtain ⟨hf8, hfs, hfk⟩ := HLF.out f hfm
      obtain ⟨b, o, rfl, hbl, c0, c1, c2⟩ := (HR.out.below BW.out).file hf
      have HST := Lib.hid (crashL_step hf HTR.out)
      have huj : u ≤ j := HUJ.out
      have huk : (u : Int) ≤ 1000 := by omega
      have hss := size_strN f.all
      have hjm : (j : Int) < (m : Int) := by omega
      have HF8 := Lib.hid hf8
      clear hf hfm hf8
      obtain ⟨r0, r1, r2, r3, r4, _⟩ := XR.out
      have hlw := XR.out.lt
      have Q3a := RF.box wr f
      have AL3 : Below wr.heap.size wr (wr.alloc (.cells #[.string f.name, .string (strN f.all), .int .i64 f.kept] 96)) := (Below.refl _ _).alloc (Nat.le_refl _) _
      by_cases hlo : f.kept < f.all.length
      · have hkl : (f.kept : Int) < (f.all.length : Int) := by omega
        have HLO := Lib.hid hlo
        obtain ⟨t, htt⟩ : ∃ t, ts.getD u (0, 0) = t := ⟨_, rfl⟩
        have HTT := Lib.hid htt
        have HT12 : Hid (t.1 < 65536 ∧ t.2 < 4294967296) := Lib.hid (by
          rw [← htt, List.getD_eq_getElem?_getD]
          cases e : ts[u]? with
          | none => simp
          | some x => exact HT0.out.2 x (List.mem_of_getElem? e))
        obtain ⟨X, hXX⟩ : ∃ X, f.all.take f.kept ++ tornL (f.all.drop f.kept) t = X := ⟨_, rfl⟩
        have AL4 : Below (wr.alloc (.cells #[.string f.name, .string (strN f.all), .int .i64 f.kept] 96)).heap.size (wr.alloc (.cells #[.string f.name, .string (strN f.all), .int .i64 f.kept] 96)) ((wr.alloc (.cells #[.string f.name, .string (strN f.all), .int .i64 f.kept] 96)).alloc (.cells #[.int .u16 0, .int .u32 0] 175)) := (Below.refl _ _).alloc (Nat.le_refl _) _
        have T4a : TB ((wr.alloc (.cells #[.string f.name, .string (strN f.all), .int .i64 f.kept] 96)).alloc (.cells #[.int .u16 0, .int .u32 0] 175)) (wr.heap.size + 1) (0, 0) := by
          have h := TB.box (wr.alloc (.cells #[.string f.name, .string (strN f.all), .int .i64 f.kept] 96)) (0, 0)
          rw [World.size_alloc] at h
          exact h
        have Q4a := Q3a.below AL4
        have A24 : Below wr.heap.size wr ((wr.alloc (.cells #[.string f.name, .string (strN f.all), .int .i64 f.kept] 96)).alloc (.cells #[.int .u16 0, .int .u32 0] 175)) := AL3.trans (AL4.mono AL3.size)
        clear htt
        by_cases hut : u < tn
        · have hub : (u : Int) < (tn : Int) := by omega
          have hgt : ts[u]? = some t := by
            rw [← HTT.out, List.getD_eq_getElem?_getD, List.getElem?_eq_getElem (by rw [HTN.out]; exact hut)]
            rfl
          obtain ⟨tb, to, rfl, htl, tc0, tc1⟩ := (HT0.out.below BW.out).at hgt
          have AL5 : Below (wr.alloc (.cells #[.string f.name, .string (strN f.all), .int .i64 f.kept] 96)).heap.size (wr.alloc (.cells #[.string f.name, .string (strN f.all), .int .i64 f.kept] 96)) ((wr.alloc (.cells #[.string f.name, .string (strN f.all), .int .i64 f.kept] 96)).alloc (.cells #[.int .u16 (t.1 : Nat), .int .u32 (t.2 : Nat)] 175)) := (Below.refl _ _).alloc (Nat.le_refl _) _
          have A25 : Below wr.heap.size wr ((wr.alloc (.cells #[.string f.name, .string (strN f.all), .int .i64 f.kept] 96)).alloc (.cells #[.int .u16 (t.1 : Nat), .int .u32 (t.2 : Nat)] 175)) := AL3.trans (AL5.mono AL3.size)
          have d0 := Below.at A24 tc0 htl
          have d1 := Below.at A24 tc1 htl
          have T5a : TB ((wr.alloc (.cells #[.string f.name, .string (strN f.all), .int .i64 f.kept] 96)).alloc (.cells #[.int .u16 (t.1 : Nat), .int .u32 (t.2 : Nat)] 175)) (wr.heap.size + 1) t := by
            have h := TB.box (wr.alloc (.cells #[.string f.name, .string (strN f.all), .int .i64 f.kept] 96)) t
            rw [World.size_alloc] at h
            exact h
          clear hgt hut tc0 tc1
          have T5 := Lib.hid T5a
          have Q5 := Lib.hid (Q3a.below AL5)
          have XI := XR
          have ZI := ZR
          have OI := OW
          have BI := BR
          have X5 := Lib.hid (XI.out.below (A25))
          have Z5 := Lib.hid (ZI.out.below (A25))
          have O5 := Lib.hid (OI.out.below (A25))
          have B5 := Lib.hid (BI.out.trans ((A25).mono BI.out.size))
          have hlt5 := T5.out.lt
          clear AL5 A25 A24 AL3 AL4 Q3a Q4a T4a T5a XI ZI OI BI
          go_wp2_with fail
          clear d0 d1 hub htl
          generalize World.alloc (World.alloc wr _) _ = w5 at *
          have HXX := Lib.hid hXX
          have hex1 := strN_take f.all f.kept
          have hex2 := strN_drop f.all f.kept
          have hcat : strN (f.all.take f.kept) ++ strN (tornL (f.all.drop f.kept) t) = strN X := by rw [strN_app, hXX]
          have hXl : X.length ≤ 2097152 := by
            rw [← hXX, List.length_append, List.length_take]
            have := length_tornL (f.all.drop f.kept) t
            rw [List.length_drop] at this
            omega
          have hcl : ((strN (f.all.take f.kept)).size : Int) + ((strN (tornL (f.all.drop f.kept) t)).size : Int) ≤ 9223372036854775807 := by
            rw [size_strN, size_strN, List.length_take]
            have := length_tornL (f.all.drop f.kept) t
            rw [List.length_drop] at this
            omega
          have HXL := Lib.hid hXl
          have hclN : ¬ 9223372036854775807 < (strN (f.all.take f.kept)).size + (strN (tornL (f.all.drop f.kept) t)).size := by omega
          have HD8 : Hid (∀ x ∈ f.all.drop f.kept, x < 256) := Lib.hid (fun x hx => HF8.out x (List.mem_of_mem_drop hx))
          have HDL : Hid ((f.all.drop f.kept).length ≤ 2097152) := Lib.hid (by rw [List.length_drop]; omega)
          have hk0 : ¬ (f.kept : Int) < 0 := by omega
          have hk1 : (f.kept : Int) ≤ (f.all.length : Int) := by omega
          have hk2 : ¬ (f.all.length : Int) < (f.kept : Int) := by omega
          have hk3 : f.kept ≤ f.all.length := by omega
          clear hXX hXl
          refine region_start [0, 1, 0, 4, 15, 0, 32, 0, 128, 480, 0, 2016, 4095, 8191, 16383] 2048 (fun w' => RF w' wr.heap.size f ∧ TB w' (wr.heap.size + 1) t) (by kernel_rfl) ?_
          refine stage_heads [0, 1, 2, 3, 4, 5, 6, 7, 8, 9, 10] (by kernel_rfl) (L := #[true, true, true, true, true, true, true, true, true, true, true, false, false, false, false]) (by kernel_rfl) (f' := 4) rfl (fun _ _ _ _ h => h) (fun w o h => ⟨h.1.below ((Below.refl _ _).alloc (Nat.le_refl _) o), h.2.below ((Below.refl _ _).alloc (Nat.le_refl _) o)⟩) (.inr (by first | exact ⟨Q5.out, T5.out⟩ | exact ⟨Q5.out.below ((Below.refl _ _).drew), T5.out.below ((Below.refl _ _).drew)⟩)) ?_
          simp only [List.flatMap_cons, List.flatMap_nil, List.drop_succ_cons, List.drop_zero, List.take_succ_cons, List.take_zero, List.cons_append, List.nil_append, List.append_nil]
          iterate 11 (first | (refine heads_load _ (by rfl) (fun w' hs => by obtain ⟨⟨s0, s1, s2, _⟩, ⟨b0, b1, _⟩⟩ := hs; go_simp; try with_reducible rfl) rfl ?_; simp only [Act.put, List.setIfInBounds_toArray, List.set_cons_zero, List.set_cons_succ]) | (refine heads_pure _ (by rfl) (fun w' => by go_simp; try with_reducible rfl) ?_; simp only [Act.put, List.setIfInBounds_toArray, List.set_cons_zero, List.set_cons_succ]))
          refine heads_nil ?_
          refine stage_op 11 (by kernel_rfl) (L := #[true, true, true, true, true, true, true, true, true, true, true, true, false, false, false]) (by kernel_rfl) ?_
          simp only [List.drop_succ_cons, List.drop_zero, List.take_succ_cons, List.take_zero]
          go_wp2_with fail; refine (rtorn_any (f.all.drop f.kept) t _ HD8.out HDL.out HT12.out.1 HT12.out.2).mono ?_; rintro e w6 ⟨rfl, hb6⟩; have B56 : Hid (Below w5.heap.size w5 w6) := Lib.hid (by first | exact hb6 | exact ((Below.refl _ _).drew).trans hb6); clear hb6; have Q6 := Lib.hid (Q5.out.below B56.out); have T6 := Lib.hid (T5.out.below B56.out); go_wp2_with fail
          refine step_post (fun _ => ⟨Q6.out, T6.out⟩) ?_
          refine stage_heads [12, 13] (by kernel_rfl) (L := #[true, true, true, true, true, true, true, true, true, true, true, true, true, true, false]) (by kernel_rfl) (f' := 1) rfl (fun _ _ _ _ h => h) (fun w o h => ⟨h.1.below ((Below.refl _ _).alloc (Nat.le_refl _) o), h.2.below ((Below.refl _ _).alloc (Nat.le_refl _) o)⟩) (.inl (by kernel_rfl)) ?_
          simp only [List.flatMap_cons, List.flatMap_nil, List.drop_succ_cons, List.drop_zero, List.take_succ_cons, List.take_zero, List.cons_append, List.nil_append, List.append_nil]
          iterate 2 (refine heads_pure _ (by rfl) (fun w' => by go_simp; try with_reducible rfl) ?_; simp only [Act.put, List.setIfInBounds_toArray, List.set_cons_zero, List.set_cons_succ])
          refine heads_nil ?_
          refine stage_op 14 (by kernel_rfl) (L := #[true, true, true, true, true, true, true, true, true, true, true, true, true, true, true]) (by kernel_rfl) ?_
          simp only [List.drop_succ_cons, List.drop_zero, List.take_succ_cons, List.take_zero]
          obtain ⟨s0, s1, s2, q0, q1, q2⟩ := Q6.out; have hq := Q6.out.lt; go_wp2_with fail
          refine step_post nofun ?_
          refine stage_done (by kernel_rfl) ?_
          generalize hwz : World.setCell w6 _ _ = w7
          have Q7 : Hid (RF w7 wr.heap.size { f with all := X }) := Lib.hid (by subst hwz; exact Q6.out.set1 X)
          have K67 : Kept w6 w7 (fun k => k = wr.heap.size) := by subst hwz; exact Kept.setCell w6 ⟨wr.heap.size, 1, none⟩ _
          have X6 := Lib.hid (X5.out.below (B56.out))
          have Z6 := Lib.hid (Z5.out.below (B56.out))
          have O6 := Lib.hid (O5.out.below (B56.out))
          have B6 := Lib.hid (B5.out.trans ((B56.out).mono B5.out.size))
          have X7 := Lib.hid (X6.out.kept K67 (by omega))
          have Z7 := Lib.hid (Z6.out.kept K67 (by omega))
          have O7 := Lib.hid (O6.out.kept K67 (fun g hg h => by have := (OWL.out g hg).2; omega))
          have B7 := Lib.hid (B6.out.trans (K67.below B6.out.size (fun k hk => by omega)))
          clear hwz K67 hex1 hex2 hcat hcl hclN hk0 hk1 hk2 hk3
          obtain ⟨s0, s1, s2, q0, q1, q2⟩ := Q7.out
          simp only at s0 s1 s2
          have hq := Q7.out.lt
          have hsX := size_strN X
          have K78 : Kept w7 (w7.setCell ⟨wr.heap.size, 2, none⟩ (.int .i64 (X.length : Nat))) (fun k => k = wr.heap.size) := Kept.setCell w7 ⟨wr.heap.size, 2, none⟩ (.int .i64 (X.length : Nat))
          have X8 := Lib.hid (X7.out.kept K78 (by omega))
          have Z8 := Lib.hid (Z7.out.kept K78 (by omega))
          have O8 := Lib.hid (O7.out.kept K78 (fun g hg h => by have := (OWL.out g hg).2; omega))
          have B8 := Lib.hid (B7.out.trans (K78.below B7.out.size (fun k hk => by omega)))
          have HCR : Hid (crash1 f (ts.drop u) = if X = [] then [] else [⟨f.name, X, X.length⟩]) := Lib.hid (by unfold crash1; rw [if_pos HLO.out, drop_headD, HTT.out, HXX.out])
          have HTE : Hid (tears1 f (ts.drop u) = ts.drop (u + 1)) := Lib.hid (by unfold tears1; rw [if_pos HLO.out, drop_tail])
          clear K78
          by_cases hX0 : X = []
          · have hx0 : ¬ (0 : Int) < (X.length : Int) := by rw [hX0]; simp
            have HN1 : Hid (crashL (L.take (j + 1)) ts = crashL (L.take j) ts) := Lib.hid (by rw [HST.out.1, HCR.out, if_pos hX0, List.append_nil])
            clear hX0
            go_wp2_with fail
            generalize World.setCell w7 _ _ = w8 at *
            go_roundw
            case rel => exact ⟨j + 1, u + 1, by first | rfl | go_num, by first | rfl | go_num, by omega, X8.out, Z8.out, by simp only; rw [HN1.out]; exact O8.out, by simp only; rw [HST.out.2, HTE.out], by have := HUJ.out; omega, B8.out⟩
            all_goals (show m - ((j : Int) + 1).toNat < m - ((j : Int)).toNat; omega)
          · have hx0 : (0 : Int) < (X.length : Int) := by have := List.length_pos_iff.2 hX0; omega
            have HN1 : Hid (crashL (L.take (j + 1)) ts = crashL (L.take j) ts ++ [⟨f.name, X, X.length⟩]) := Lib.hid (by rw [HST.out.1, HCR.out, if_neg hX0])
            clear hX0
            have hw78 := B7.out.size
            have HOA : Hid (OwnR ((w7.setCell ⟨wr.heap.size, 2, none⟩ (.int .i64 (X.length : Nat))).alloc (.cells #[.string f.name, .string (strN X), .int .i64 (X.length : Nat)] 96)) w1.heap.size 96 3 (.slice la ln lc) ((crashL (L.take j) ts).map rfV)) := Lib.hid (O8.out.alloc _)
            have hce := rfV_cells (w7.setCell ⟨wr.heap.size, 2, none⟩ (.int .i64 (X.length : Nat))) (⟨f.name, X, X.length⟩ : FileS)
            rw [show (w7.setCell ⟨wr.heap.size, 2, none⟩ (.int .i64 (X.length : Nat))).heap.size = w7.heap.size by simp [World.setCell]] at hce
            have HCE := Lib.hid hce
            clear hce
            have HBS : Hid (w1.heap.size ≤ ((w7.setCell ⟨wr.heap.size, 2, none⟩ (.int .i64 (X.length : Nat))).alloc (.cells #[.string f.name, .string (strN X), .int .i64 (X.length : Nat)] 96)).heap.size) := Lib.hid (by simp; omega)
            have HLE : Hid (((crashL (L.take j) ts).map rfV).length ≤ 4294967296) := Lib.hid (by rw [List.length_map, HLN.out]; omega)
            have AL9 : Hid (Below (w7.setCell ⟨wr.heap.size, 2, none⟩ (.int .i64 (X.length : Nat))).heap.size (w7.setCell ⟨wr.heap.size, 2, none⟩ (.int .i64 (X.length : Nat))) ((w7.setCell ⟨wr.heap.size, 2, none⟩ (.int .i64 (X.length : Nat))).alloc (.cells #[.string f.name, .string (strN X), .int .i64 (X.length : Nat)] 96))) := Lib.hid ((Below.refl _ _).alloc (Nat.le_refl _) _)
            go_wp2_with (at_builtin; go_loud (refine wpList_append_row rfile3 _ _ rfl w1.heap.size _ _ _ _ rfl rfl HOA.out (rfV_len (⟨f.name, X, X.length⟩ : FileS)) HCE.out (rfV_one (⟨f.name, X, X.length⟩ : FileS)) HLE.out HBS.out rfl ?_); intro v9 w9 ho2 hg2 hat2 hb2; have O9 : Hid (OwnR w9 w1.heap.size 96 3 v9 ((crashL (L.take j) ts ++ [(⟨f.name, X, X.length⟩ : FileS)]).map rfV)) := Lib.hid (by rw [List.map_append]; exact ho2); have B99 := Lib.hid hb2; clear ho2 hg2 hat2 hb2)
            have K89 : Hid (Kept _ w9 (fun k => w1.heap.size ≤ k)) := Lib.hid ((Kept.alloc _ _ _).trans (Kept.of_below B99.out (fun k h1 h2 => h2)))
            have X9 := Lib.hid (X8.out.kept K89.out (by omega))
            have Z9 := Lib.hid (Z8.out.kept K89.out (by omega))
            have B9 := Lib.hid ((B8.out.trans (AL9.out.mono B8.out.size)).trans B99.out)
            go_roundw
            case rel => exact ⟨j + 1, u + 1, by first | rfl | go_num, by first | rfl | go_num, by omega, X9.out, Z9.out, by simp only; rw [HN1.out]; exact O9.out, by simp only; rw [HST.out.2, HTE.out], by have := HUJ.out; omega, B9.out⟩
            all_goals (show m - ((j : Int) + 1).toNat < m - ((j : Int)).toNat; omega)
        · have hub : ¬ (u : Int) < (tn : Int) := by omega
          have ht0 : t = (0, 0) := by
            rw [← HTT.out, List.getD_eq_getElem?_getD, List.getElem?_eq_none (by rw [HTN.out]; omega)]
            rfl
          have T5 := Lib.hid (show TB ((wr.alloc (.cells #[.string f.name, .string (strN f.all), .int .i64 f.kept] 96)).alloc (.cells #[.int .u16 0, .int .u32 0] 175)) (wr.heap.size + 1) t from by rw [ht0]; exact T4a)
          have Q5 := Lib.hid Q4a
          have XI := XR
          have ZI := ZR
          have OI := OW
          have BI := BR
          have X5 := Lib.hid (XI.out.below (A24))
          have Z5 := Lib.hid (ZI.out.below (A24))
          have O5 := Lib.hid (OI.out.below (A24))
          have B5 := Lib.hid (BI.out.trans ((A24).mono BI.out.size))
          have hlt5 := T5.out.lt
          clear A24 AL3 AL4 Q3a Q4a T4a XI ZI OI BI ht0
          go_wp2_with fail
          generalize World.alloc (World.alloc wr _) _ = w5 at *
          clear hub hut
          have HXX := Lib.hid hXX
          have hex1 := strN_take f.all f.kept
          have hex2 := strN_drop f.all f.kept
          have hcat : strN (f.all.take f.kept) ++ strN (tornL (f.all.drop f.kept) t) = strN X := by rw [strN_app, hXX]
          have hXl : X.length ≤ 2097152 := by
            rw [← hXX, List.length_append, List.length_take]
            have := length_tornL (f.all.drop f.kept) t
            rw [List.length_drop] at this
            omega
          have hcl : ((strN (f.all.take f.kept)).size : Int) + ((strN (tornL (f.all.drop f.kept) t)).size : Int) ≤ 9223372036854775807 := by
            rw [size_strN, size_strN, List.length_take]
            have := length_tornL (f.all.drop f.kept) t
            rw [List.length_drop] at this
            omega
          have HXL := Lib.hid hXl
          have hclN : ¬ 9223372036854775807 < (strN (f.all.take f.kept)).size + (strN (tornL (f.all.drop f.kept) t)).size := by omega
          have HD8 : Hid (∀ x ∈ f.all.drop f.kept, x < 256) := Lib.hid (fun x hx => HF8.out x (List.mem_of_mem_drop hx))
          have HDL : Hid ((f.all.drop f.kept).length ≤ 2097152) := Lib.hid (by rw [List.length_drop]; omega)
          have hk0 : ¬ (f.kept : Int) < 0 := by omega
          have hk1 : (f.kept : Int) ≤ (f.all.length : Int) := by omega
          have hk2 : ¬ (f.all.length : Int) < (f.kept : Int) := by omega
          have hk3 : f.kept ≤ f.all.length := by omega
          clear hXX hXl
          refine region_start [0, 1, 0, 4, 15, 0, 32, 0, 128, 480, 0, 2016, 4095, 8191, 16383] 2048 (fun w' => RF w' wr.heap.size f ∧ TB w' (wr.heap.size + 1) t) (by kernel_rfl) ?_
          refine stage_heads [0, 1, 2, 3, 4, 5, 6, 7, 8, 9, 10] (by kernel_rfl) (L := #[true, true, true, true, true, true, true, true, true, true, true, false, false, false, false]) (by kernel_rfl) (f' := 4) rfl (fun _ _ _ _ h => h) (fun w o h => ⟨h.1.below ((Below.refl _ _).alloc (Nat.le_refl _) o), h.2.below ((Below.refl _ _).alloc (Nat.le_refl _) o)⟩) (.inr (by first | exact ⟨Q5.out, T5.out⟩ | exact ⟨Q5.out.below ((Below.refl _ _).drew), T5.out.below ((Below.refl _ _).drew)⟩)) ?_
          simp only [List.flatMap_cons, List.flatMap_nil, List.drop_succ_cons, List.drop_zero, List.take_succ_cons, List.take_zero, List.cons_append, List.nil_append, List.append_nil]
          iterate 11 (first | (refine heads_load _ (by rfl) (fun w' hs => by obtain ⟨⟨s0, s1, s2, _⟩, ⟨b0, b1, _⟩⟩ := hs; go_simp; try with_reducible rfl) rfl ?_; simp only [Act.put, List.setIfInBounds_toArray, List.set_cons_zero, List.set_cons_succ]) | (refine heads_pure _ (by rfl) (fun w' => by go_simp; try with_reducible rfl) ?_; simp only [Act.put, List.setIfInBounds_toArray, List.set_cons_zero, List.set_cons_succ]))
          refine heads_nil ?_
          refine stage_op 11 (by kernel_rfl) (L := #[true, true, true, true, true, true, true, true, true, true, true, true, false, false, false]) (by kernel_rfl) ?_
          simp only [List.drop_succ_cons, List.drop_zero, List.take_succ_cons, List.take_zero]
          go_wp2_with fail; refine (rtorn_any (f.all.drop f.kept) t _ HD8.out HDL.out HT12.out.1 HT12.out.2).mono ?_; rintro e w6 ⟨rfl, hb6⟩; have B56 : Hid (Below w5.heap.size w5 w6) := Lib.hid (by first | exact hb6 | exact ((Below.refl _ _).drew).trans hb6); clear hb6; have Q6 := Lib.hid (Q5.out.below B56.out); have T6 := Lib.hid (T5.out.below B56.out); go_wp2_with fail
          refine step_post (fun _ => ⟨Q6.out, T6.out⟩) ?_
          refine stage_heads [12, 13] (by kernel_rfl) (L := #[true, true, true, true, true, true, true, true, true, true, true, true, true, true, false]) (by kernel_rfl) (f' := 1) rfl (fun _ _ _ _ h => h) (fun w o h => ⟨h.1.below ((Below.refl _ _).alloc (Nat.le_refl _) o), h.2.below ((Below.refl _ _).alloc (Nat.le_refl _) o)⟩) (.inl (by kernel_rfl)) ?_
          simp only [List.flatMap_cons, List.flatMap_nil, List.drop_succ_cons, List.drop_zero, List.take_succ_cons, List.take_zero, List.cons_append, List.nil_append, List.append_nil]
          iterate 2 (refine heads_pure _ (by rfl) (fun w' => by go_simp; try with_reducible rfl) ?_; simp only [Act.put, List.setIfInBounds_toArray, List.set_cons_zero, List.set_cons_succ])
          refine heads_nil ?_
          refine stage_op 14 (by kernel_rfl) (L := #[true, true, true, true, true, true, true, true, true, true, true, true, true, true, true]) (by kernel_rfl) ?_
          simp only [List.drop_succ_cons, List.drop_zero, List.take_succ_cons, List.take_zero]
          obtain ⟨s0, s1, s2, q0, q1, q2⟩ := Q6.out; have hq := Q6.out.lt; go_wp2_with fail
          refine step_post nofun ?_
          refine stage_done (by kernel_rfl) ?_
          generalize hwz : World.setCell w6 _ _ = w7
          have Q7 : Hid (RF w7 wr.heap.size { f with all := X }) := Lib.hid (by subst hwz; exact Q6.out.set1 X)
          have K67 : Kept w6 w7 (fun k => k = wr.heap.size) := by subst hwz; exact Kept.setCell w6 ⟨wr.heap.size, 1, none⟩ _
          have X6 := Lib.hid (X5.out.below (B56.out))
          have Z6 := Lib.hid (Z5.out.below (B56.out))
          have O6 := Lib.hid (O5.out.below (B56.out))
          have B6 := Lib.hid (B5.out.trans ((B56.out).mono B5.out.size))
          have X7 := Lib.hid (X6.out.kept K67 (by omega))
          have Z7 := Lib.hid (Z6.out.kept K67 (by omega))
          have O7 := Lib.hid (O6.out.kept K67 (fun g hg h => by have := (OWL.out g hg).2; omega))
          have B7 := Lib.hid (B6.out.trans (K67.below B6.out.size (fun k hk => by omega)))
          clear hwz K67 hex1 hex2 hcat hcl hclN hk0 hk1 hk2 hk3
          obtain ⟨s0, s1, s2, q0, q1, q2⟩ := Q7.out
          simp only at s0 s1 s2
          have hq := Q7.out.lt
          have hsX := size_strN X
          have K78 : Kept w7 (w7.setCell ⟨wr.heap.size, 2, none⟩ (.int .i64 (X.length : Nat))) (fun k => k = wr.heap.size) := Kept.setCell w7 ⟨wr.heap.size, 2, none⟩ (.int .i64 (X.length : Nat))
          have X8 := Lib.hid (X7.out.kept K78 (by omega))
          have Z8 := Lib.hid (Z7.out.kept K78 (by omega))
          have O8 := Lib.hid (O7.out.kept K78 (fun g hg h => by have := (OWL.out g hg).2; omega))
          have B8 := Lib.hid (B7.out.trans (K78.below B7.out.size (fun k hk => by omega)))
          have HCR : Hid (crash1 f (ts.drop u) = if X = [] then [] else [⟨f.name, X, X.length⟩]) := Lib.hid (by unfold crash1; rw [if_pos HLO.out, drop_headD, HTT.out, HXX.out])
          have HTE : Hid (tears1 f (ts.drop u) = ts.drop (u + 1)) := Lib.hid (by unfold tears1; rw [if_pos HLO.out, drop_tail])
          clear K78
          by_cases hX0 : X = []
          · have hx0 : ¬ (0 : Int) < (X.length : Int) := by rw [hX0]; simp
            have HN1 : Hid (crashL (L.take (j + 1)) ts = crashL (L.take j) ts) := Lib.hid (by rw [HST.out.1, HCR.out, if_pos hX0, List.append_nil])
            clear hX0
            go_wp2_with fail
            generalize World.setCell w7 _ _ = w8 at *
            go_roundw
            case rel => exact ⟨j + 1, u + 1, by first | rfl | go_num, by first | rfl | go_num, by omega, X8.out, Z8.out, by simp only; rw [HN1.out]; exact O8.out, by simp only; rw [HST.out.2, HTE.out], by have := HUJ.out; omega, B8.out⟩
            all_goals (show m - ((j : Int) + 1).toNat < m - ((j : Int)).toNat; omega)
          · have hx0 : (0 : Int) < (X.length : Int) := by have := List.length_pos_iff.2 hX0; omega
            have HN1 : Hid (crashL (L.take (j + 1)) ts = crashL (L.take j) ts ++ [⟨f.name, X, X.length⟩]) := Lib.hid (by rw [HST.out.1, HCR.out, if_neg hX0])
            clear hX0
            have hw78 := B7.out.size
            have HOA : Hid (OwnR ((w7.setCell ⟨wr.heap.size, 2, none⟩ (.int .i64 (X.length : Nat))).alloc (.cells #[.string f.name, .string (strN X), .int .i64 (X.length : Nat)] 96)) w1.heap.size 96 3 (.slice la ln lc) ((crashL (L.take j) ts).map rfV)) := Lib.hid (O8.out.alloc _)
            have hce := rfV_cells (w7.setCell ⟨wr.heap.size, 2, none⟩ (.int .i64 (X.length : Nat))) (⟨f.name, X, X.length⟩ : FileS)
            rw [show (w7.setCell ⟨wr.heap.size, 2, none⟩ (.int .i64 (X.length : Nat))).heap.size = w7.heap.size by simp [World.setCell]] at hce
            have HCE := Lib.hid hce
            clear hce
            have HBS : Hid (w1.heap.size ≤ ((w7.setCell ⟨wr.heap.size, 2, none⟩ (.int .i64 (X.length : Nat))).alloc (.cells #[.string f.name, .string (strN X), .int .i64 (X.length : Nat)] 96)).heap.size) := Lib.hid (by simp; omega)
            have HLE : Hid (((crashL (L.take j) ts).map rfV).length ≤ 4294967296) := Lib.hid (by rw [List.length_map, HLN.out]; omega)
            have AL9 : Hid (Below (w7.setCell ⟨wr.heap.size, 2, none⟩ (.int .i64 (X.length : Nat))).heap.size (w7.setCell ⟨wr.heap.size, 2, none⟩ (.int .i64 (X.length : Nat))) ((w7.setCell ⟨wr.heap.size, 2, none⟩ (.int .i64 (X.length : Nat))).alloc (.cells #[.string f.name, .string (strN X), .int .i64 (X.length : Nat)] 96))) := Lib.hid ((Below.refl _ _).alloc (Nat.le_refl _) _)
            go_wp2_with (at_builtin; go_loud (refine wpList_append_row rfile3 _ _ rfl w1.heap.size _ _ _ _ rfl rfl HOA.out (rfV_len (⟨f.name, X, X.length⟩ : FileS)) HCE.out (rfV_one (⟨f.name, X, X.length⟩ : FileS)) HLE.out HBS.out rfl ?_); intro v9 w9 ho2 hg2 hat2 hb2; have O9 : Hid (OwnR w9 w1.heap.size 96 3 v9 ((crashL (L.take j) ts ++ [(⟨f.name, X, X.length⟩ : FileS)]).map rfV)) := Lib.hid (by rw [List.map_append]; exact ho2); have B99 := Lib.hid hb2; clear ho2 hg2 hat2 hb2)
            have K89 : Hid (Kept _ w9 (fun k => w1.heap.size ≤ k)) := Lib.hid ((Kept.alloc _ _ _).trans (Kept.of_below B99.out (fun k h1 h2 => h2)))
            have X9 := Lib.hid (X8.out.kept K89.out (by omega))
            have Z9 := Lib.hid (Z8.out.kept K89.out (by omega))
            have B9 := Lib.hid ((B8.out.trans (AL9.out.mono B8.out.size)).trans B99.out)
            go_roundw
            case rel => exact ⟨j + 1, u + 1, by first | rfl | go_num, by first | rfl | go_num, by omega, X9.out, Z9.out, by simp only; rw [HN1.out]; exact O9.out, by simp only; rw [HST.out.2, HTE.out], by have := HUJ.out; omega, B9.out⟩
            all_goals (show m - ((j : Int) + 1).toNat < m - ((j : Int)).toNat; omega)
      · have hkl : ¬ (f.kept : Int) < (f.all.length : Int) := by omega
        have HLO := Lib.hid hlo
        have HCR : Hid (crash1 f (ts.drop u) = if f.all = [] then [] else [f]) := Lib.hid (by unfold crash1; rw [if_neg HLO.out])
        have HTE : Hid (tears1 f (ts.drop u) = ts.drop u) := Lib.hid (by unfold tears1; rw [if_neg HLO.out])
        have XI := XR
        have ZI := ZR
        have OI := OW
        have BI := BR
        have X8 := Lib.hid (XI.out.below (AL3))
        have Z8 := Lib.hid (ZI.out.below (AL3))
        have O8 := Lib.hid (OI.out.below (AL3))
        have B8 := Lib.hid (BI.out.trans ((AL3).mono BI.out.size))
        obtain ⟨s0, s1, s2, q0, q1, q2⟩ := Q3a
        clear AL3 XI ZI OI BI
        by_cases hX0 : f.all = []
        · have hx0 : ¬ (0 : Int) < (f.all.length : Int) := by rw [hX0]; simp
          have HN1 : Hid (crashL (L.take (j + 1)) ts = crashL (L.take j) ts) := Lib.hid (by rw [HST.out.1, HCR.out, if_pos hX0, List.append_nil])
          clear hX0
          go_wp2_with fail
          generalize World.alloc wr _ = w8 at *
          go_roundw
          case rel => exact ⟨j + 1, u, by first | rfl | go_num, by first | rfl | go_num, by omega, X8.out, Z8.out, by simp only; rw [HN1.out]; exact O8.out, by simp only; rw [HST.out.2, HTE.out], by have := HUJ.out; omega, B8.out⟩
          all_goals (show m - ((j : Int) + 1).toNat < m - ((j : Int)).toNat; omega)
        · have hx0 : (0 : Int) < (f.all.length : Int) := by have := List.length_pos_iff.2 hX0; omega
          have HN1 : Hid (crashL (L.take (j + 1)) ts = crashL (L.take j) ts ++ [f]) := Lib.hid (by rw [HST.out.1, HCR.out, if_neg hX0])
          clear hX0
          have HOA : Hid (OwnR ((wr.alloc (.cells #[.string f.name, .string (strN f.all), .int .i64 f.kept] 96)).alloc (.cells #[.string f.name, .string (strN f.all), .int .i64 f.kept] 96)) w1.heap.size 96 3 (.slice la ln lc) ((crashL (L.take j) ts).map rfV)) := Lib.hid (O8.out.alloc _)
          have hce := rfV_cells (wr.alloc (.cells #[.string f.name, .string (strN f.all), .int .i64 f.kept] 96)) f
          rw [show (wr.alloc (.cells #[.string f.name, .string (strN f.all), .int .i64 f.kept] 96)).heap.size = (wr.heap.size + 1) by simp] at hce
          have HCE := Lib.hid hce
          clear hce
          have HBS : Hid (w1.heap.size ≤ ((wr.alloc (.cells #[.string f.name, .string (strN f.all), .int .i64 f.kept] 96)).alloc (.cells #[.string f.name, .string (strN f.all), .int .i64 f.kept] 96)).heap.size) := Lib.hid (by simp; omega)
          have HLE : Hid (((crashL (L.take j) ts).map rfV).length ≤ 4294967296) := Lib.hid (by rw [List.length_map, HLN.out]; omega)
          have AL9 : Hid (Below (wr.alloc (.cells #[.string f.name, .string (strN f.all), .int .i64 f.kept] 96)).heap.size (wr.alloc (.cells #[.string f.name, .string (strN f.all), .int .i64 f.kept] 96)) ((wr.alloc (.cells #[.string f.name, .string (strN f.all), .int .i64 f.kept] 96)).alloc (.cells #[.string f.name, .string (strN f.all), .int .i64 f.kept] 96))) := Lib.hid ((Below.refl _ _).alloc (Nat.le_refl _) _)
          go_wp2_with (at_builtin; go_loud (refine wpList_append_row rfile3 _ _ rfl w1.heap.size _ _ _ _ rfl rfl HOA.out (rfV_len f) HCE.out (rfV_one f) HLE.out HBS.out rfl ?_); intro v9 w9 ho2 hg2 hat2 hb2; have O9 : Hid (OwnR w9 w1.heap.size 96 3 v9 ((crashL (L.take j) ts ++ [f]).map rfV)) := Lib.hid (by rw [List.map_append]; exact ho2); have B99 := Lib.hid hb2; clear ho2 hg2 hat2 hb2)
          have K89 : Hid (Kept _ w9 (fun k => w1.heap.size ≤ k)) := Lib.hid ((Kept.alloc _ _ _).trans (Kept.of_below B99.out (fun k h1 h2 => h2)))
          have X9 := Lib.hid (X8.out.kept K89.out (by omega))
          have Z9 := Lib.hid (Z8.out.kept K89.out (by omega))
          have B9 := Lib.hid ((B8.out.trans (AL9.out.mono B8.out.size)).trans B99.out)
          go_roundw
          case rel => exact ⟨j + 1, u, by first | rfl | go_num, by first | rfl | go_num, by omega, X9.out, Z9.out, by simp only; rw [HN1.out]; exact O9.out, by simp only; rw [HST.out.2, HTE.out], by have := HUJ.out; omega, B9.out⟩
          all_goals (show m - ((j : Int) + 1).toNat < m - ((j : Int)).toNat; omega)
    · obtain rfl : j = m := by omega
      have hjm : ¬ (j : Int) < (j : Int) := by omega
      have HEND : Hid (crashL (L.take j) ts = crashL L ts) := Lib.hid (by rw [List.take_of_length_le (by rw [HL.out]; exact Nat.le_refl _)])
      obtain ⟨r0, r1, r2, r3, r4, f0, f1, f2, f3, f4⟩ := XR.out
      obtain ⟨z0, z1, z2, z3, z4, g0, g1, g2, g3, g4⟩ := ZR.out
      have hlw := XR.out.lt
      have KA := Kept.setCell wr ⟨w.heap.size, 1, none⟩ (.slice la ln lc)
      have RFF := Lib.hid ((ZR.out.kept KA (by simp only; omega)).set ⟨room, L, true, -1, steps⟩ (.slice la ln lc))
      have KF := KA.andThen (Kept.set5D (wr.setCell ⟨w.heap.size, 1, none⟩ (.slice la ln lc)) (w.heap.size + 1) ⟨room, L, true, -1, steps⟩ (.slice la ln lc)) (U := fun k => w.heap.size ≤ k ∧ k < w1.heap.size) (fun k h1 h2 => by simp only at h2; omega)
      have OF := Lib.hid (OW.out.kept KF (fun g hg h => by have := (OWL.out g hg).1; omega))
      have BF := Lib.hid (BW.out.trans (KF.below BW.out.size (fun k h => h.1)))
      unfold set5D at RFF OF BF
      simp only at RFF OF BF
      clear KA KF
      go_wp2_with fail
      generalize World.setCell _ _ _ = wF at *
      clear r0 r1 r2 r3 r4 f0 f1 f2 f3 f4 z0 z1 z2 z3 z4 g0 g1 g2 g3 g4
      obtain ⟨q0, q1, q2, q3, q4, _⟩ := RFF.out
      simp only at q0 q1 q2 q3 q4
      have HLL : (crashL L ts).length = ln := by rw [← HEND.out]; exact HLN.out
      refine bodyPost_ret (v := .agg #[.int .i64 room, .slice la ln lc, .bool true, .int .i64 (-1), .int .u64 steps]) (by simp [results, Tryz.results60, go_sem, q0, q1, q2, q3, q4]) rfl ?_
      have HO := SRow.of_own OF.out
      rw [HEND.out] at HO
      exact ⟨_, rfl, RIs.new (D := crashD ⟨room, L, down, armed, steps⟩ ts) HLL HO, BF.out, fun g hg => ⟨by have := (OWL.out g hg).1; have := BB1.out.size; omega, (OF.out.lt g hg).2⟩⟩
end Go.Proofs.YtofhccpagnkalaaGreat

/- The document's disk: Sync; contracts; no conditions but the ranges. -/
namespace Go.Proofs.YtofhccpagnkalaaGreat
open Go.RowKit Go.Maps Go.Proofs.Own

set_option maxHeartbeats 4000000 in
set_option maxRecDepth 20000 in
theorem rsync_new (v : Value) (D : DiskS) (n : ByteArray) (w : World) (h : RIs w v D) (hg : DGood D) : Calls Tryz.prog 57 #[v, .string n] w (RPostN (syncD D n) v w) := by
  obtain ⟨a, c, rfl, hr⟩ := h
  obtain ⟨room, L, down, armed, steps⟩ := D
  have HG := Lib.hid hg
  simp only at hr ⊢
  have HR := Lib.hid hr
  obtain ⟨m, hlm⟩ : ∃ m, L.length = m := ⟨_, rfl⟩
  have HL := Lib.hid hlm
  rw [hlm] at HR ⊢
  have HM : Hid (L.length ≤ 1000) := Lib.hid (by have := hg.few; simp only at this; omega)
  have HA : Hid ((0 ≤ steps ∧ steps ≤ 1000000000) ∧ -1 ≤ armed ∧ armed ≤ 9223372036854775807) := Lib.hid ⟨⟨hg.wf.steps0, hg.wf.steps1⟩, hg.wf.armed0, hg.wf.armed1⟩
  have hm1000 : (m : Int) ≤ 1000 := by have := HM.out; omega
  clear hr hlm hg
  have BX := (RD.box w ⟨room, L, down, armed, steps⟩ (.slice a m c)).below ((Below.refl _ _).alloc (Nat.le_refl _) (.cells #[.int .i64 0, .slice none 0 0, .bool false, .int .i64 0, .int .u64 0] 29))
  have BZ := RD.zero (w.alloc (.cells #[.int .i64 room, .slice a m c, .bool down, .int .i64 armed, .int .u64 steps] 29))
  have hsz : (w.alloc (.cells #[.int .i64 room, .slice a m c, .bool down, .int .i64 armed, .int .u64 steps] 29)).heap.size = w.heap.size + 1 := by simp
  simp only at BX
  rw [hsz] at BZ
  have B1 : Hid (Below w.heap.size w ((w.alloc (.cells #[.int .i64 room, .slice a m c, .bool down, .int .i64 armed, .int .u64 steps] 29)).alloc (.cells #[.int .i64 0, .slice none 0 0, .bool false, .int .i64 0, .int .u64 0] 29))) := Lib.hid (((Below.refl _ _).alloc (Nat.le_refl _) _).alloc (by simp) _)
  clear hsz
  cases down
  · go_enter Tryz.func57, Tryz.ntmps57
    go_wp2_with fail
    generalize World.alloc (World.alloc w _) _ = w1 at *
    have X1 := Lib.hid BX
    have Z1 := Lib.hid BZ
    have LZ := BZ.lt
    clear BX BZ
    refine (rfind_any _ ⟨room, L, false, armed, steps⟩ n w1 (RIs.new HL.out (HR.out.below B1.out)) HM.out).mono ?_
    rintro e w2 ⟨rfl, hb2⟩
    have X2 := Lib.hid (X1.out.below hb2)
    have Z2 := Lib.hid (Z1.out.below hb2)
    have B2 : Hid (Below w.heap.size w w2) := Lib.hid (B1.out.trans (hb2.mono B1.out.size))
    clear hb2
    cases hf : findFile n L with
    | none =>
      have HV : Hid (syncD ⟨room, L, false, armed, steps⟩ n = (⟨room, L, false, armed, steps⟩, 31)) := Lib.hid (by unfold syncD; simp only [hf]; rw [fileE_31 rfl hf])
      have hI : findI n L = -1 := findI_none.2 hf
      rw [hI]
      clear hf hI
      obtain ⟨r0, r1, r2, r3, r4, f0, f1, f2, f3, f4⟩ := X2.out
      obtain ⟨z0, z1, z2, z3, z4, g0, g1, g2, g3, g4⟩ := Z2.out
      have hlx := X2.out.lt
      have hlz := Z2.out.lt
      have RFF := Lib.hid (Z2.out.set ⟨room, [], false, armed, steps⟩ (.slice a m c))
      have BF := Lib.hid (B2.out.trans ((Kept.set5D w2 (w.heap.size + 1) ⟨room, [], false, armed, steps⟩ (.slice a m c)).below B2.out.size (fun k hk => by omega)))
      unfold set5D at RFF BF
      simp only at RFF BF
      go_wp2_with fail
      generalize (((((w2.setCell ⟨w.heap.size + 1, 0, none⟩ (.int .i64 room)).setCell ⟨w.heap.size + 1, 1, none⟩ (.slice a m c)).setCell ⟨w.heap.size + 1, 2, none⟩ (.bool false)).setCell ⟨w.heap.size + 1, 3, none⟩ (.int .i64 armed)).setCell ⟨w.heap.size + 1, 4, none⟩ (.int .u64 steps)) = wF at *
      obtain ⟨q0, q1, q2, q3, q4, _⟩ := RFF.out
      simp only at q0 q1 q2 q3 q4
      refine bodyPost_ret (v := .tuple #[.agg #[.int .i64 room, (.slice a m c), .bool false, .int .i64 armed, .int .u64 steps], .int .i64 31]) (by simp [results, Tryz.results57, go_sem, q0, q1, q2, q3, q4]) rfl ?_
      rw [HV.out]
      exact ⟨_, rfl, RIs.new (D := ⟨room, L, false, armed, steps⟩) HL.out (HR.out.below BF.out), BF.out, by first | exact fun g hg => .inl hg | (intro g hg; first | exact (F3.out g hg).imp id (fun h => by have := L3.out; omega) | (right; first | (have h5 := N6.out g hg; have h6 := L6.out; omega) | (have h5 := N5.out g hg; have h6 := L5.out; omega)))⟩
    | some fl =>
      obtain ⟨i, hI, hLi⟩ := findI_some hf
      rw [hI]
      have hi0 : ¬ (i : Int) < 0 := by omega
      have HF := Lib.hid hf
      obtain ⟨b, o, rfl, hbl, k0, k1, k2⟩ := HR.out.file hLi
      have FC := Lib.hid (And.intro k0 (And.intro k1 k2))
      have FL := Lib.hid hbl
      have hbx1 : ¬ b = w.heap.size := by omega
      have hbx2 : ¬ w.heap.size = b := by omega
      have hss := size_strN fl.all
      have him : (i : Int) < (m : Int) := by have h1 := (List.getElem?_eq_some_iff.1 hLi).1; have h2 := HL.out; omega
      clear k0 k1 k2 hbl
      clear hf hI hLi
      obtain ⟨r0, r1, r2, r3, r4, f0, f1, f2, f3, f4⟩ := X2.out
      obtain ⟨z0, z1, z2, z3, z4, g0, g1, g2, g3, g4⟩ := Z2.out
      have hlx := X2.out.lt
      have hlz := Z2.out.lt
      go_wp2_with fail
      clear r0 r1 r2 r3 r4 f0 f1 f2 f3 f4 z0 z1 z2 z3 z4 g0 g1 g2 g3 g4 hlx hlz
      refine (rstep_any ⟨room, L, false, armed, steps⟩ (some ⟨b, o, none⟩) m c w2 HA.out.1.1 HA.out.1.2 HA.out.2.1 HA.out.2.2).mono ?_
      rintro e w3 ⟨rfl, hb3⟩
      have X3 := Lib.hid (X2.out.below hb3)
      have Z3 := Lib.hid (Z2.out.below hb3)
      have B3 : Hid (Below w.heap.size w w3) := Lib.hid (B2.out.trans (hb3.mono B2.out.size))
      clear hb3
      obtain ⟨S, hS, hSf, hSr⟩ := stepD_eq ⟨room, L, false, armed, steps⟩
      simp only at hSf hSr
      rw [hS]
      have HS := Lib.hid hS
      have HSF := Lib.hid hSf
      have HSR := Lib.hid hSr
      clear hS hSf hSr
      obtain ⟨Sroom, SL, Sdown, Sarmed, Ssteps⟩ := S
      simp only at HSF HSR ⊢
      obtain rfl : L = SL := HSF.out.symm
      obtain rfl : room = Sroom := HSR.out.symm
      by_cases h0 : armed = 0
      · have hd : decide (armed ≠ 0) = false := decide_eq_false (by simpa using h0)
        have HV : Hid (syncD ⟨room, L, false, armed, steps⟩ n = (⟨room, L, Sdown, Sarmed, Ssteps⟩, 50)) := Lib.hid (by unfold syncD; simp only [HF.out]; rw [if_neg (by simp), if_pos h0, HS.out])
        rw [hd]
        clear h0
        obtain ⟨r0, r1, r2, r3, r4, f0, f1, f2, f3, f4⟩ := X3.out
        obtain ⟨z0, z1, z2, z3, z4, g0, g1, g2, g3, g4⟩ := Z3.out
        have hlx := X3.out.lt
        have hlz := Z3.out.lt
        have X4 := Lib.hid (X3.out.set ⟨room, [], Sdown, Sarmed, Ssteps⟩ (.slice (some ⟨b, o, none⟩) m c))
        have KS4 := Kept.set5D w3 w.heap.size ⟨room, [], Sdown, Sarmed, Ssteps⟩ (.slice (some ⟨b, o, none⟩) m c)
        have Z4 := Lib.hid (Z3.out.kept KS4 (by omega))
        have B4 := Lib.hid (B3.out.trans (KS4.below B3.out.size (fun k hk => by omega)))
        unfold set5D at X4 Z4 B4
        simp only at X4 Z4 B4
        clear KS4
        have RFF := Lib.hid (Z4.out.set ⟨room, [], Sdown, Sarmed, Ssteps⟩ (.slice (some ⟨b, o, none⟩) m c))
        have BF := Lib.hid (B4.out.trans ((Kept.set5D (((((w3.setCell ⟨w.heap.size, 0, none⟩ (.int .i64 room)).setCell ⟨w.heap.size, 1, none⟩ (.slice (some ⟨b, o, none⟩) m c)).setCell ⟨w.heap.size, 2, none⟩ (.bool Sdown)).setCell ⟨w.heap.size, 3, none⟩ (.int .i64 Sarmed)).setCell ⟨w.heap.size, 4, none⟩ (.int .u64 Ssteps)) (w.heap.size + 1) ⟨room, [], Sdown, Sarmed, Ssteps⟩ (.slice (some ⟨b, o, none⟩) m c)).below B4.out.size (fun k hk => by omega)))
        unfold set5D at RFF BF
        simp only at RFF BF
        go_wp2_with fail
        generalize ((((((((((w3.setCell ⟨w.heap.size, 0, none⟩ (.int .i64 room)).setCell ⟨w.heap.size, 1, none⟩ (.slice (some ⟨b, o, none⟩) m c)).setCell ⟨w.heap.size, 2, none⟩ (.bool Sdown)).setCell ⟨w.heap.size, 3, none⟩ (.int .i64 Sarmed)).setCell ⟨w.heap.size, 4, none⟩ (.int .u64 Ssteps)).setCell ⟨w.heap.size + 1, 0, none⟩ (.int .i64 room)).setCell ⟨w.heap.size + 1, 1, none⟩ (.slice (some ⟨b, o, none⟩) m c)).setCell ⟨w.heap.size + 1, 2, none⟩ (.bool Sdown)).setCell ⟨w.heap.size + 1, 3, none⟩ (.int .i64 Sarmed)).setCell ⟨w.heap.size + 1, 4, none⟩ (.int .u64 Ssteps)) = wF at *
        obtain ⟨q0, q1, q2, q3, q4, _⟩ := RFF.out
        simp only at q0 q1 q2 q3 q4
        refine bodyPost_ret (v := .tuple #[.agg #[.int .i64 room, (.slice (some ⟨b, o, none⟩) m c), .bool Sdown, .int .i64 Sarmed, .int .u64 Ssteps], .int .i64 50]) (by simp [results, Tryz.results57, go_sem, q0, q1, q2, q3, q4]) rfl ?_
        rw [HV.out]
        exact ⟨_, rfl, RIs.new (D := ⟨room, L, Sdown, Sarmed, Ssteps⟩) HL.out (HR.out.below BF.out), BF.out, by first | exact fun g hg => .inl hg | (intro g hg; first | exact (F3.out g hg).imp id (fun h => by have := L3.out; omega) | (right; first | (have h5 := N6.out g hg; have h6 := L6.out; omega) | (have h5 := N5.out g hg; have h6 := L5.out; omega)))⟩
      · have hd : decide (armed ≠ 0) = true := decide_eq_true h0
        have HV : Hid (syncD ⟨room, L, false, armed, steps⟩ n = (⟨room, putFile { fl with kept := fl.all.length } L, Sdown, Sarmed, Ssteps⟩, 0)) := Lib.hid (by unfold syncD; simp only [HF.out]; rw [if_neg (by simp), if_neg h0, HS.out])
        rw [hd]
        clear h0
        obtain ⟨r0, r1, r2, r3, r4, f0, f1, f2, f3, f4⟩ := X3.out
        obtain ⟨z0, z1, z2, z3, z4, g0, g1, g2, g3, g4⟩ := Z3.out
        have hlx := X3.out.lt
        have hlz := Z3.out.lt
        have y0 := Below.at B3.out FC.out.1 FL.out
        have y1 := Below.at B3.out FC.out.2.1 FL.out
        have y2 := Below.at B3.out FC.out.2.2 FL.out
        have hyl : b < w3.heap.size := Nat.lt_of_lt_of_le FL.out B3.out.size
        have X4 := Lib.hid (X3.out.set ⟨room, [], Sdown, Sarmed, Ssteps⟩ (.slice (some ⟨b, o, none⟩) m c))
        have KS4 := Kept.set5D w3 w.heap.size ⟨room, [], Sdown, Sarmed, Ssteps⟩ (.slice (some ⟨b, o, none⟩) m c)
        have Z4 := Lib.hid (Z3.out.kept KS4 (by omega))
        have B4 := Lib.hid (B3.out.trans (KS4.below B3.out.size (fun k hk => by omega)))
        unfold set5D at X4 Z4 B4
        simp only at X4 Z4 B4
        clear KS4
        go_wp2_with fail
        have AL : Below ((((((w3.setCell ⟨w.heap.size, 0, none⟩ (.int .i64 room)).setCell ⟨w.heap.size, 1, none⟩ (.slice (some ⟨b, o, none⟩) m c)).setCell ⟨w.heap.size, 2, none⟩ (.bool Sdown)).setCell ⟨w.heap.size, 3, none⟩ (.int .i64 Sarmed)).setCell ⟨w.heap.size, 4, none⟩ (.int .u64 Ssteps))).heap.size ((((((w3.setCell ⟨w.heap.size, 0, none⟩ (.int .i64 room)).setCell ⟨w.heap.size, 1, none⟩ (.slice (some ⟨b, o, none⟩) m c)).setCell ⟨w.heap.size, 2, none⟩ (.bool Sdown)).setCell ⟨w.heap.size, 3, none⟩ (.int .i64 Sarmed)).setCell ⟨w.heap.size, 4, none⟩ (.int .u64 Ssteps))) (((((((w3.setCell ⟨w.heap.size, 0, none⟩ (.int .i64 room)).setCell ⟨w.heap.size, 1, none⟩ (.slice (some ⟨b, o, none⟩) m c)).setCell ⟨w.heap.size, 2, none⟩ (.bool Sdown)).setCell ⟨w.heap.size, 3, none⟩ (.int .i64 Sarmed)).setCell ⟨w.heap.size, 4, none⟩ (.int .u64 Ssteps))).alloc (.cells #[.string fl.name, .string (strN (fl.all)), .int .i64 (fl.all.length : Nat)] 96)) := (Below.refl _ _).alloc (Nat.le_refl _) _
        have X5 := Lib.hid (X4.out.below AL)
        have Z5 := Lib.hid (Z4.out.below AL)
        have B5 := Lib.hid (B4.out.trans (AL.mono B4.out.size))
        clear AL
        generalize World.alloc _ _ = w5 at *
        clear r0 r1 r2 r3 r4 f0 f1 f2 f3 f4 z0 z1 z2 z3 z4 g0 g1 g2 g3 g4 hlx hlz
        clear y0 y1 y2 hyl
        refine (rwith_n _ m c ⟨room, L, Sdown, Sarmed, Ssteps⟩ { fl with kept := fl.all.length } w5 HL.out (HR.out.below B5.out) HM.out).mono ?_
        rintro e w6 ⟨a5, c5, rfl, hs5, hn5, hb5⟩
        simp only at hs5 hn5 ⊢
        have X6 := Lib.hid (X5.out.below hb5)
        have Z6 := Lib.hid (Z5.out.below hb5)
        have B6 : Hid (Below w.heap.size w w6) := Lib.hid (B5.out.trans (hb5.mono B5.out.size))
        have S5 := Lib.hid hs5
        have N5 := Lib.hid hn5
        have L5 : Hid (w.heap.size + 1 < w5.heap.size) := Lib.hid Z5.out.lt
        obtain ⟨m5, hm5⟩ : ∃ k, (putFile { fl with kept := fl.all.length } L).length = k := ⟨_, rfl⟩
        have HM5 := Lib.hid hm5
        rw [hm5] at S5 N5 ⊢
        clear hs5 hn5 hb5 hm5
        obtain ⟨r0, r1, r2, r3, r4, f0, f1, f2, f3, f4⟩ := X6.out
        obtain ⟨z0, z1, z2, z3, z4, g0, g1, g2, g3, g4⟩ := Z6.out
        have hlx := X6.out.lt
        have hlz := Z6.out.lt
        have RFF := Lib.hid (Z6.out.set ⟨room, [], Sdown, Sarmed, Ssteps⟩ (.slice a5 m5 c5))
        have BF := Lib.hid (B6.out.trans ((Kept.set5D w6 (w.heap.size + 1) ⟨room, [], Sdown, Sarmed, Ssteps⟩ (.slice a5 m5 c5)).below B6.out.size (fun k hk => by omega)))
        unfold set5D at RFF BF
        simp only at RFF BF
        go_wp2_with fail
        have S5F := S5.out.off (Kept.set5D w6 (w.heap.size + 1) ⟨room, [], Sdown, Sarmed, Ssteps⟩ (.slice a5 m5 c5)) N5.out (fun k hk => by have := L5.out; omega)
        unfold set5D at S5F
        simp only at S5F
        generalize (((((w6.setCell ⟨w.heap.size + 1, 0, none⟩ (.int .i64 room)).setCell ⟨w.heap.size + 1, 1, none⟩ (.slice a5 m5 c5)).setCell ⟨w.heap.size + 1, 2, none⟩ (.bool Sdown)).setCell ⟨w.heap.size + 1, 3, none⟩ (.int .i64 Sarmed)).setCell ⟨w.heap.size + 1, 4, none⟩ (.int .u64 Ssteps)) = wF at *
        obtain ⟨q0, q1, q2, q3, q4, _⟩ := RFF.out
        simp only at q0 q1 q2 q3 q4
        refine bodyPost_ret (v := .tuple #[.agg #[.int .i64 room, (.slice a5 m5 c5), .bool Sdown, .int .i64 Sarmed, .int .u64 Ssteps], .int .i64 0]) (by simp [results, Tryz.results57, go_sem, q0, q1, q2, q3, q4]) rfl ?_
        rw [HV.out]
        exact ⟨_, rfl, RIs.new (D := ⟨room, putFile { fl with kept := fl.all.length } L, Sdown, Sarmed, Ssteps⟩) HM5.out (S5F), BF.out, by first | exact fun g hg => .inl hg | (intro g hg; first | exact (F3.out g hg).imp id (fun h => by have := L3.out; omega) | (right; first | (have h5 := N6.out g hg; have h6 := L6.out; omega) | (have h5 := N5.out g hg; have h6 := L5.out; omega)))⟩
  · go_enter Tryz.func57, Tryz.ntmps57
    go_wp2_with fail
    generalize World.alloc (World.alloc w _) _ = w1 at *
    have X1 := Lib.hid BX
    have Z1 := Lib.hid BZ
    have LZ := BZ.lt
    clear BX BZ
    refine (rfind_any _ ⟨room, L, true, armed, steps⟩ n w1 (RIs.new HL.out (HR.out.below B1.out)) HM.out).mono ?_
    rintro e w2 ⟨rfl, hb2⟩
    have X2 := Lib.hid (X1.out.below hb2)
    have Z2 := Lib.hid (Z1.out.below hb2)
    have B2 : Hid (Below w.heap.size w w2) := Lib.hid (B1.out.trans (hb2.mono B1.out.size))
    clear hb2
    have HV := Lib.hid (syncD_down (D := ⟨room, L, true, armed, steps⟩) rfl n)
    obtain ⟨r0, r1, r2, r3, r4, f0, f1, f2, f3, f4⟩ := X2.out
    obtain ⟨z0, z1, z2, z3, z4, g0, g1, g2, g3, g4⟩ := Z2.out
    have hlx := X2.out.lt
    have hlz := Z2.out.lt
    have RFF := Lib.hid (Z2.out.set ⟨room, [], true, armed, steps⟩ (.slice a m c))
    have BF := Lib.hid (B2.out.trans ((Kept.set5D w2 (w.heap.size + 1) ⟨room, [], true, armed, steps⟩ (.slice a m c)).below B2.out.size (fun k hk => by omega)))
    unfold set5D at RFF BF
    simp only at RFF BF
    go_wp2_with fail
    generalize (((((w2.setCell ⟨w.heap.size + 1, 0, none⟩ (.int .i64 room)).setCell ⟨w.heap.size + 1, 1, none⟩ (.slice a m c)).setCell ⟨w.heap.size + 1, 2, none⟩ (.bool true)).setCell ⟨w.heap.size + 1, 3, none⟩ (.int .i64 armed)).setCell ⟨w.heap.size + 1, 4, none⟩ (.int .u64 steps)) = wF at *
    obtain ⟨q0, q1, q2, q3, q4, _⟩ := RFF.out
    simp only at q0 q1 q2 q3 q4
    refine bodyPost_ret (v := .tuple #[.agg #[.int .i64 room, (.slice a m c), .bool true, .int .i64 armed, .int .u64 steps], .int .i64 50]) (by simp [results, Tryz.results57, go_sem, q0, q1, q2, q3, q4]) rfl ?_
    rw [HV.out]
    exact ⟨_, rfl, RIs.new (D := ⟨room, L, true, armed, steps⟩) HL.out (HR.out.below BF.out), BF.out, by first | exact fun g hg => .inl hg | (intro g hg; first | exact (F3.out g hg).imp id (fun h => by have := L3.out; omega) | (right; first | (have h5 := N6.out g hg; have h6 := L6.out; omega) | (have h5 := N5.out g hg; have h6 := L5.out; omega)))⟩
end Go.Proofs.YtofhccpagnkalaaGreat

/- The document's disk: Move, Free; contracts; no conditions but the ranges. -/
namespace Go.Proofs.YtofhccpagnkalaaGreat
open Go.RowKit Go.Maps Go.Proofs.Own

set_option maxHeartbeats 4000000 in
set_option maxRecDepth 20000 in
theorem rmove_new (v : Value) (D : DiskS) (n to : ByteArray) (w : World) (h : RIs w v D) (hg : DGood D) (hto : to.size ≤ 9223372036854775807) : Calls Tryz.prog 133 #[v, .string n, .string to] w (RPostN (moveD D n to) v w) := by
  obtain ⟨a, c, rfl, hr⟩ := h
  obtain ⟨room, L, down, armed, steps⟩ := D
  have HG := Lib.hid hg
  simp only at hr ⊢
  have HR := Lib.hid hr
  obtain ⟨m, hlm⟩ : ∃ m, L.length = m := ⟨_, rfl⟩
  have HL := Lib.hid hlm
  rw [hlm] at HR ⊢
  have HM : Hid (L.length ≤ 1000) := Lib.hid (by have := hg.few; simp only at this; omega)
  have HA : Hid ((0 ≤ steps ∧ steps ≤ 1000000000) ∧ -1 ≤ armed ∧ armed ≤ 9223372036854775807) := Lib.hid ⟨⟨hg.wf.steps0, hg.wf.steps1⟩, hg.wf.armed0, hg.wf.armed1⟩
  have hm1000 : (m : Int) ≤ 1000 := by have := HM.out; omega
  clear hr hlm hg
  have BX := (RD.box w ⟨room, L, down, armed, steps⟩ (.slice a m c)).below ((Below.refl _ _).alloc (Nat.le_refl _) (.cells #[.int .i64 0, .slice none 0 0, .bool false, .int .i64 0, .int .u64 0] 29))
  have BZ := RD.zero (w.alloc (.cells #[.int .i64 room, .slice a m c, .bool down, .int .i64 armed, .int .u64 steps] 29))
  have hsz : (w.alloc (.cells #[.int .i64 room, .slice a m c, .bool down, .int .i64 armed, .int .u64 steps] 29)).heap.size = w.heap.size + 1 := by simp
  simp only at BX
  rw [hsz] at BZ
  have B1 : Hid (Below w.heap.size w ((w.alloc (.cells #[.int .i64 room, .slice a m c, .bool down, .int .i64 armed, .int .u64 steps] 29)).alloc (.cells #[.int .i64 0, .slice none 0 0, .bool false, .int .i64 0, .int .u64 0] 29))) := Lib.hid (((Below.refl _ _).alloc (Nat.le_refl _) _).alloc (by simp) _)
  clear hsz
  cases down
  · go_enter Tryz.func133, Tryz.ntmps133
    go_wp2_with fail
    generalize World.alloc (World.alloc w _) _ = w1 at *
    have X1 := Lib.hid BX
    have Z1 := Lib.hid BZ
    have LZ := BZ.lt
    clear BX BZ
    refine (rfind_any _ ⟨room, L, false, armed, steps⟩ n w1 (RIs.new HL.out (HR.out.below B1.out)) HM.out).mono ?_
    rintro e w2 ⟨rfl, hb2⟩
    have X2 := Lib.hid (X1.out.below hb2)
    have Z2 := Lib.hid (Z1.out.below hb2)
    have B2 : Hid (Below w.heap.size w w2) := Lib.hid (B1.out.trans (hb2.mono B1.out.size))
    clear hb2
    cases hf : findFile n L with
    | none =>
      have HV : Hid (moveD ⟨room, L, false, armed, steps⟩ n to = (⟨room, L, false, armed, steps⟩, 31)) := Lib.hid (by unfold moveD; simp only [hf]; rw [fileE_31 rfl hf])
      have hI : findI n L = -1 := findI_none.2 hf
      rw [hI]
      clear hf hI
      obtain ⟨r0, r1, r2, r3, r4, f0, f1, f2, f3, f4⟩ := X2.out
      obtain ⟨z0, z1, z2, z3, z4, g0, g1, g2, g3, g4⟩ := Z2.out
      have hlx := X2.out.lt
      have hlz := Z2.out.lt
      have RFF := Lib.hid (Z2.out.set ⟨room, [], false, armed, steps⟩ (.slice a m c))
      have BF := Lib.hid (B2.out.trans ((Kept.set5D w2 (w.heap.size + 1) ⟨room, [], false, armed, steps⟩ (.slice a m c)).below B2.out.size (fun k hk => by omega)))
      unfold set5D at RFF BF
      simp only at RFF BF
      go_wp2_with fail
      generalize (((((w2.setCell ⟨w.heap.size + 1, 0, none⟩ (.int .i64 room)).setCell ⟨w.heap.size + 1, 1, none⟩ (.slice a m c)).setCell ⟨w.heap.size + 1, 2, none⟩ (.bool false)).setCell ⟨w.heap.size + 1, 3, none⟩ (.int .i64 armed)).setCell ⟨w.heap.size + 1, 4, none⟩ (.int .u64 steps)) = wF at *
      obtain ⟨q0, q1, q2, q3, q4, _⟩ := RFF.out
      simp only at q0 q1 q2 q3 q4
      refine bodyPost_ret (v := .tuple #[.agg #[.int .i64 room, (.slice a m c), .bool false, .int .i64 armed, .int .u64 steps], .int .i64 31]) (by simp [results, Tryz.results133, go_sem, q0, q1, q2, q3, q4]) rfl ?_
      rw [HV.out]
      exact ⟨_, rfl, RIs.new (D := ⟨room, L, false, armed, steps⟩) HL.out (HR.out.below BF.out), BF.out, by first | exact fun g hg => .inl hg | (intro g hg; first | exact (F3.out g hg).imp id (fun h => by have := L3.out; omega) | (right; first | (have h5 := N6.out g hg; have h6 := L6.out; omega) | (have h5 := N5.out g hg; have h6 := L5.out; omega)))⟩
    | some fl =>
      obtain ⟨i, hI, hLi⟩ := findI_some hf
      rw [hI]
      have hi0 : ¬ (i : Int) < 0 := by omega
      have HF := Lib.hid hf
      obtain ⟨b, o, rfl, hbl, k0, k1, k2⟩ := HR.out.file hLi
      have FC := Lib.hid (And.intro k0 (And.intro k1 k2))
      have FL := Lib.hid hbl
      have hbx1 : ¬ b = w.heap.size := by omega
      have hbx2 : ¬ w.heap.size = b := by omega
      have hss := size_strN fl.all
      have him : (i : Int) < (m : Int) := by have h1 := (List.getElem?_eq_some_iff.1 hLi).1; have h2 := HL.out; omega
      clear k0 k1 k2 hbl
      clear hf hI hLi
      obtain ⟨r0, r1, r2, r3, r4, f0, f1, f2, f3, f4⟩ := X2.out
      obtain ⟨z0, z1, z2, z3, z4, g0, g1, g2, g3, g4⟩ := Z2.out
      have hlx := X2.out.lt
      have hlz := Z2.out.lt
      go_wp2_with fail
      refine (rnamed_any to w2 hto).mono ?_
      rintro e w2' ⟨rfl, rfl⟩
      cases hnm : isName to
      · have hnp : ¬ (1 ≤ to.size ∧ to.size ≤ 16) := of_decide_eq_false hnm
        have HV : Hid (moveD ⟨room, L, false, armed, steps⟩ n to = (⟨room, L, false, armed, steps⟩, 2)) := Lib.hid (by unfold moveD; simp only [HF.out]; rw [if_neg (by simp), if_pos hnp])
        clear hnp hnm
        have RFF := Lib.hid (Z2.out.set ⟨room, [], false, armed, steps⟩ (.slice (some ⟨b, o, none⟩) m c))
        have BF := Lib.hid (B2.out.trans ((Kept.set5D w2 (w.heap.size + 1) ⟨room, [], false, armed, steps⟩ (.slice (some ⟨b, o, none⟩) m c)).below B2.out.size (fun k hk => by omega)))
        unfold set5D at RFF BF
        simp only at RFF BF
        go_wp2_with fail
        generalize (((((w2.setCell ⟨w.heap.size + 1, 0, none⟩ (.int .i64 room)).setCell ⟨w.heap.size + 1, 1, none⟩ (.slice (some ⟨b, o, none⟩) m c)).setCell ⟨w.heap.size + 1, 2, none⟩ (.bool false)).setCell ⟨w.heap.size + 1, 3, none⟩ (.int .i64 armed)).setCell ⟨w.heap.size + 1, 4, none⟩ (.int .u64 steps)) = wF at *
        obtain ⟨q0, q1, q2, q3, q4, _⟩ := RFF.out
        simp only at q0 q1 q2 q3 q4
        refine bodyPost_ret (v := .tuple #[.agg #[.int .i64 room, (.slice (some ⟨b, o, none⟩) m c), .bool false, .int .i64 armed, .int .u64 steps], .int .i64 2]) (by simp [results, Tryz.results133, go_sem, q0, q1, q2, q3, q4]) rfl ?_
        rw [HV.out]
        exact ⟨_, rfl, RIs.new (D := ⟨room, L, false, armed, steps⟩) HL.out (HR.out.below BF.out), BF.out, by first | exact fun g hg => .inl hg | (intro g hg; first | exact (F3.out g hg).imp id (fun h => by have := L3.out; omega) | (right; first | (have h5 := N6.out g hg; have h6 := L6.out; omega) | (have h5 := N5.out g hg; have h6 := L5.out; omega)))⟩
      · have hnp : ¬ ¬ (1 ≤ to.size ∧ to.size ≤ 16) := not_not_intro (of_decide_eq_true hnm)
        have HNP := Lib.hid hnp
        clear hnp hnm
        go_wp2_with fail
        clear r0 r1 r2 r3 r4 f0 f1 f2 f3 f4 z0 z1 z2 z3 z4 g0 g1 g2 g3 g4 hlx hlz
        refine (rstep_any ⟨room, L, false, armed, steps⟩ (some ⟨b, o, none⟩) m c w2 HA.out.1.1 HA.out.1.2 HA.out.2.1 HA.out.2.2).mono ?_
        rintro e w3 ⟨rfl, hb3⟩
        have X3 := Lib.hid (X2.out.below hb3)
        have Z3 := Lib.hid (Z2.out.below hb3)
        have B3 : Hid (Below w.heap.size w w3) := Lib.hid (B2.out.trans (hb3.mono B2.out.size))
        clear hb3
        obtain ⟨S, hS, hSf, hSr⟩ := stepD_eq ⟨room, L, false, armed, steps⟩
        simp only at hSf hSr
        rw [hS]
        have HS := Lib.hid hS
        have HSF := Lib.hid hSf
        have HSR := Lib.hid hSr
        clear hS hSf hSr
        obtain ⟨Sroom, SL, Sdown, Sarmed, Ssteps⟩ := S
        simp only at HSF HSR ⊢
        obtain rfl : L = SL := HSF.out.symm
        obtain rfl : room = Sroom := HSR.out.symm
        by_cases h0 : armed = 0
        · have hd : decide (armed ≠ 0) = false := decide_eq_false (by simpa using h0)
          have HV : Hid (moveD ⟨room, L, false, armed, steps⟩ n to = (⟨room, L, Sdown, Sarmed, Ssteps⟩, 50)) := Lib.hid (by unfold moveD; simp only [HF.out]; rw [if_neg (by simp), if_neg HNP.out, if_pos h0, HS.out])
          rw [hd]
          clear h0
          obtain ⟨r0, r1, r2, r3, r4, f0, f1, f2, f3, f4⟩ := X3.out
          obtain ⟨z0, z1, z2, z3, z4, g0, g1, g2, g3, g4⟩ := Z3.out
          have hlx := X3.out.lt
          have hlz := Z3.out.lt
          have X4 := Lib.hid (X3.out.set ⟨room, [], Sdown, Sarmed, Ssteps⟩ (.slice (some ⟨b, o, none⟩) m c))
          have KS4 := Kept.set5D w3 w.heap.size ⟨room, [], Sdown, Sarmed, Ssteps⟩ (.slice (some ⟨b, o, none⟩) m c)
          have Z4 := Lib.hid (Z3.out.kept KS4 (by omega))
          have B4 := Lib.hid (B3.out.trans (KS4.below B3.out.size (fun k hk => by omega)))
          unfold set5D at X4 Z4 B4
          simp only at X4 Z4 B4
          clear KS4
          have RFF := Lib.hid (Z4.out.set ⟨room, [], Sdown, Sarmed, Ssteps⟩ (.slice (some ⟨b, o, none⟩) m c))
          have BF := Lib.hid (B4.out.trans ((Kept.set5D (((((w3.setCell ⟨w.heap.size, 0, none⟩ (.int .i64 room)).setCell ⟨w.heap.size, 1, none⟩ (.slice (some ⟨b, o, none⟩) m c)).setCell ⟨w.heap.size, 2, none⟩ (.bool Sdown)).setCell ⟨w.heap.size, 3, none⟩ (.int .i64 Sarmed)).setCell ⟨w.heap.size, 4, none⟩ (.int .u64 Ssteps)) (w.heap.size + 1) ⟨room, [], Sdown, Sarmed, Ssteps⟩ (.slice (some ⟨b, o, none⟩) m c)).below B4.out.size (fun k hk => by omega)))
          unfold set5D at RFF BF
          simp only at RFF BF
          go_wp2_with fail
          generalize ((((((((((w3.setCell ⟨w.heap.size, 0, none⟩ (.int .i64 room)).setCell ⟨w.heap.size, 1, none⟩ (.slice (some ⟨b, o, none⟩) m c)).setCell ⟨w.heap.size, 2, none⟩ (.bool Sdown)).setCell ⟨w.heap.size, 3, none⟩ (.int .i64 Sarmed)).setCell ⟨w.heap.size, 4, none⟩ (.int .u64 Ssteps)).setCell ⟨w.heap.size + 1, 0, none⟩ (.int .i64 room)).setCell ⟨w.heap.size + 1, 1, none⟩ (.slice (some ⟨b, o, none⟩) m c)).setCell ⟨w.heap.size + 1, 2, none⟩ (.bool Sdown)).setCell ⟨w.heap.size + 1, 3, none⟩ (.int .i64 Sarmed)).setCell ⟨w.heap.size + 1, 4, none⟩ (.int .u64 Ssteps)) = wF at *
          obtain ⟨q0, q1, q2, q3, q4, _⟩ := RFF.out
          simp only at q0 q1 q2 q3 q4
          refine bodyPost_ret (v := .tuple #[.agg #[.int .i64 room, (.slice (some ⟨b, o, none⟩) m c), .bool Sdown, .int .i64 Sarmed, .int .u64 Ssteps], .int .i64 50]) (by simp [results, Tryz.results133, go_sem, q0, q1, q2, q3, q4]) rfl ?_
          rw [HV.out]
          exact ⟨_, rfl, RIs.new (D := ⟨room, L, Sdown, Sarmed, Ssteps⟩) HL.out (HR.out.below BF.out), BF.out, by first | exact fun g hg => .inl hg | (intro g hg; first | exact (F3.out g hg).imp id (fun h => by have := L3.out; omega) | (right; first | (have h5 := N6.out g hg; have h6 := L6.out; omega) | (have h5 := N5.out g hg; have h6 := L5.out; omega)))⟩
        · have hd : decide (armed ≠ 0) = true := decide_eq_true h0
          have HV : Hid (moveD ⟨room, L, false, armed, steps⟩ n to = (⟨room, (putFile { fl with name := to } (delFile n L)), Sdown, Sarmed, Ssteps⟩, 0)) := Lib.hid (by unfold moveD; simp only [HF.out]; rw [if_neg (by simp), if_neg HNP.out, if_neg h0, HS.out])
          rw [hd]
          clear h0
          obtain ⟨r0, r1, r2, r3, r4, f0, f1, f2, f3, f4⟩ := X3.out
          obtain ⟨z0, z1, z2, z3, z4, g0, g1, g2, g3, g4⟩ := Z3.out
          have hlx := X3.out.lt
          have hlz := Z3.out.lt
          have y0 := Below.at B3.out FC.out.1 FL.out
          have y1 := Below.at B3.out FC.out.2.1 FL.out
          have y2 := Below.at B3.out FC.out.2.2 FL.out
          have hyl : b < w3.heap.size := Nat.lt_of_lt_of_le FL.out B3.out.size
          have X4 := Lib.hid (X3.out.set ⟨room, [], Sdown, Sarmed, Ssteps⟩ (.slice (some ⟨b, o, none⟩) m c))
          have KS4 := Kept.set5D w3 w.heap.size ⟨room, [], Sdown, Sarmed, Ssteps⟩ (.slice (some ⟨b, o, none⟩) m c)
          have Z4 := Lib.hid (Z3.out.kept KS4 (by omega))
          have B4 := Lib.hid (B3.out.trans (KS4.below B3.out.size (fun k hk => by omega)))
          unfold set5D at X4 Z4 B4
          simp only at X4 Z4 B4
          clear KS4
          go_wp2_with fail
          have QB := RF.box ((((((w3.setCell ⟨w.heap.size, 0, none⟩ (.int .i64 room)).setCell ⟨w.heap.size, 1, none⟩ (.slice (some ⟨b, o, none⟩) m c)).setCell ⟨w.heap.size, 2, none⟩ (.bool Sdown)).setCell ⟨w.heap.size, 3, none⟩ (.int .i64 Sarmed)).setCell ⟨w.heap.size, 4, none⟩ (.int .u64 Ssteps))) fl
          have hszq : ((((((w3.setCell ⟨w.heap.size, 0, none⟩ (.int .i64 room)).setCell ⟨w.heap.size, 1, none⟩ (.slice (some ⟨b, o, none⟩) m c)).setCell ⟨w.heap.size, 2, none⟩ (.bool Sdown)).setCell ⟨w.heap.size, 3, none⟩ (.int .i64 Sarmed)).setCell ⟨w.heap.size, 4, none⟩ (.int .u64 Ssteps))).heap.size = w3.heap.size := by simp [World.setCell]
          rw [hszq] at QB
          clear hszq
          have AL : Below ((((((w3.setCell ⟨w.heap.size, 0, none⟩ (.int .i64 room)).setCell ⟨w.heap.size, 1, none⟩ (.slice (some ⟨b, o, none⟩) m c)).setCell ⟨w.heap.size, 2, none⟩ (.bool Sdown)).setCell ⟨w.heap.size, 3, none⟩ (.int .i64 Sarmed)).setCell ⟨w.heap.size, 4, none⟩ (.int .u64 Ssteps))).heap.size ((((((w3.setCell ⟨w.heap.size, 0, none⟩ (.int .i64 room)).setCell ⟨w.heap.size, 1, none⟩ (.slice (some ⟨b, o, none⟩) m c)).setCell ⟨w.heap.size, 2, none⟩ (.bool Sdown)).setCell ⟨w.heap.size, 3, none⟩ (.int .i64 Sarmed)).setCell ⟨w.heap.size, 4, none⟩ (.int .u64 Ssteps))) (((((((w3.setCell ⟨w.heap.size, 0, none⟩ (.int .i64 room)).setCell ⟨w.heap.size, 1, none⟩ (.slice (some ⟨b, o, none⟩) m c)).setCell ⟨w.heap.size, 2, none⟩ (.bool Sdown)).setCell ⟨w.heap.size, 3, none⟩ (.int .i64 Sarmed)).setCell ⟨w.heap.size, 4, none⟩ (.int .u64 Ssteps))).alloc (.cells #[.string fl.name, .string (strN (fl.all)), .int .i64 (fl.kept : Nat)] 96)) := (Below.refl _ _).alloc (Nat.le_refl _) _
          have X5 := Lib.hid (X4.out.below AL)
          have Z5 := Lib.hid (Z4.out.below AL)
          have B5 := Lib.hid (B4.out.trans (AL.mono B4.out.size))
          clear AL
          generalize World.alloc _ _ = w5 at *
          have Q5 := Lib.hid QB
          clear QB
          have hbf0 : w.heap.size + 1 < w3.heap.size := Z3.out.lt
          generalize w3.heap.size = bf at *
          clear r0 r1 r2 r3 r4 f0 f1 f2 f3 f4 z0 z1 z2 z3 z4 g0 g1 g2 g3 g4 hlx hlz
          clear y0 y1 y2 hyl
          refine (rwithout_any _ ⟨room, L, Sdown, Sarmed, Ssteps⟩ n w5 (RIs.new HL.out (HR.out.below B5.out)) HM.out).mono ?_
          rintro e w6 ⟨a6, c6, rfl, hs6, hn6, hb6⟩
          simp only at hs6 hn6 ⊢
          have X6 := Lib.hid (X5.out.below hb6)
          have Z6 := Lib.hid (Z5.out.below hb6)
          have B6 : Hid (Below w.heap.size w w6) := Lib.hid (B5.out.trans (hb6.mono B5.out.size))
          have Q6 := Lib.hid (Q5.out.below hb6)
          have S6 := Lib.hid hs6
          have N6 := Lib.hid hn6
          have L6 : Hid (bf < w5.heap.size) := Lib.hid Q5.out.lt
          obtain ⟨m6, hm6⟩ : ∃ k, (delFile n L).length = k := ⟨_, rfl⟩
          have HM6 := Lib.hid hm6
          have HL6 : Hid ((delFile n L).length ≤ 1000) := Lib.hid (Nat.le_trans (length_del n L) HM.out)
          rw [hm6] at S6 N6 ⊢
          clear hs6 hn6 hb6 hm6
          obtain ⟨r0, r1, r2, r3, r4, f0, f1, f2, f3, f4⟩ := X6.out
          obtain ⟨z0, z1, z2, z3, z4, g0, g1, g2, g3, g4⟩ := Z6.out
          have hlx := X6.out.lt
          have hlz := Z6.out.lt
          obtain ⟨s0, s1, s2, t0, t1, t2⟩ := Q6.out
          have hlq := Q6.out.lt
          have KS6 := Kept.set5D w6 w.heap.size ⟨room, [], Sdown, Sarmed, Ssteps⟩ (.slice a6 m6 c6)
          have S7 := S6.out.off KS6 N6.out (fun k hk => by have := L6.out; omega)
          unfold set5D at S7
          simp only at S7
          clear KS6
          have X7 := Lib.hid (X6.out.set ⟨room, [], Sdown, Sarmed, Ssteps⟩ (.slice a6 m6 c6))
          have KS7 := Kept.set5D w6 w.heap.size ⟨room, [], Sdown, Sarmed, Ssteps⟩ (.slice a6 m6 c6)
          have Z7 := Lib.hid (Z6.out.kept KS7 (by omega))
          have B7 := Lib.hid (B6.out.trans (KS7.below B6.out.size (fun k hk => by omega)))
          unfold set5D at X7 Z7 B7
          simp only at X7 Z7 B7
          clear KS7
          have K8 := Kept.setCell ((((((w6.setCell ⟨w.heap.size, 0, none⟩ (.int .i64 room)).setCell ⟨w.heap.size, 1, none⟩ (.slice a6 m6 c6)).setCell ⟨w.heap.size, 2, none⟩ (.bool Sdown)).setCell ⟨w.heap.size, 3, none⟩ (.int .i64 Sarmed)).setCell ⟨w.heap.size, 4, none⟩ (.int .u64 Ssteps))) ⟨bf, 0, none⟩ (.string to)
          have X8 := Lib.hid (X7.out.kept K8 (by simp only; omega))
          have Z8 := Lib.hid (Z7.out.kept K8 (by simp only; omega))
          have B8 := Lib.hid (B7.out.trans (K8.below B7.out.size (fun k hk => by simp only at hk; omega)))
          have S8 := Lib.hid (S7.off K8 N6.out (fun k hk => by simp only at hk; have := L6.out; omega))
          clear K8 S7
          go_wp2_with fail
          generalize ((((((w6.setCell ⟨w.heap.size, 0, none⟩ (.int .i64 room)).setCell ⟨w.heap.size, 1, none⟩ (.slice a6 m6 c6)).setCell ⟨w.heap.size, 2, none⟩ (.bool Sdown)).setCell ⟨w.heap.size, 3, none⟩ (.int .i64 Sarmed)).setCell ⟨w.heap.size, 4, none⟩ (.int .u64 Ssteps))).setCell ⟨bf, 0, none⟩ (.string to) = w8 at *
          clear r0 r1 r2 r3 r4 f0 f1 f2 f3 f4 z0 z1 z2 z3 z4 g0 g1 g2 g3 g4 hlx hlz
          clear s0 s1 s2 t0 t1 t2 hlq
          refine (rwith_n _ m6 c6 ⟨room, delFile n L, Sdown, Sarmed, Ssteps⟩ { fl with name := to } w8 HM6.out S8.out HL6.out).mono ?_
          rintro e w9 ⟨a5, c5, rfl, hs5, hn5, hb5⟩
          simp only at hs5 hn5 ⊢
          have X9 := Lib.hid (X8.out.below hb5)
          have Z9 := Lib.hid (Z8.out.below hb5)
          have B9 : Hid (Below w.heap.size w w9) := Lib.hid (B8.out.trans (hb5.mono B8.out.size))
          have S5 := Lib.hid hs5
          have N5 := Lib.hid hn5
          have L5 : Hid (w.heap.size + 1 < w8.heap.size) := Lib.hid Z8.out.lt
          obtain ⟨m5, hm5⟩ : ∃ k, ((putFile { fl with name := to } (delFile n L))).length = k := ⟨_, rfl⟩
          have HM5 := Lib.hid hm5
          rw [hm5] at S5 N5 ⊢
          clear hs5 hn5 hb5 hm5
          obtain ⟨r0, r1, r2, r3, r4, f0, f1, f2, f3, f4⟩ := X9.out
          obtain ⟨z0, z1, z2, z3, z4, g0, g1, g2, g3, g4⟩ := Z9.out
          have hlx := X9.out.lt
          have hlz := Z9.out.lt
          have RFF := Lib.hid (Z9.out.set ⟨room, [], Sdown, Sarmed, Ssteps⟩ (.slice a5 m5 c5))
          have BF := Lib.hid (B9.out.trans ((Kept.set5D w9 (w.heap.size + 1) ⟨room, [], Sdown, Sarmed, Ssteps⟩ (.slice a5 m5 c5)).below B9.out.size (fun k hk => by omega)))
          unfold set5D at RFF BF
          simp only at RFF BF
          go_wp2_with fail
          have S5F := S5.out.off (Kept.set5D w9 (w.heap.size + 1) ⟨room, [], Sdown, Sarmed, Ssteps⟩ (.slice a5 m5 c5)) N5.out (fun k hk => by have := L5.out; omega)
          unfold set5D at S5F
          simp only at S5F
          generalize (((((w9.setCell ⟨w.heap.size + 1, 0, none⟩ (.int .i64 room)).setCell ⟨w.heap.size + 1, 1, none⟩ (.slice a5 m5 c5)).setCell ⟨w.heap.size + 1, 2, none⟩ (.bool Sdown)).setCell ⟨w.heap.size + 1, 3, none⟩ (.int .i64 Sarmed)).setCell ⟨w.heap.size + 1, 4, none⟩ (.int .u64 Ssteps)) = wF at *
          obtain ⟨q0, q1, q2, q3, q4, _⟩ := RFF.out
          simp only at q0 q1 q2 q3 q4
          refine bodyPost_ret (v := .tuple #[.agg #[.int .i64 room, (.slice a5 m5 c5), .bool Sdown, .int .i64 Sarmed, .int .u64 Ssteps], .int .i64 0]) (by simp [results, Tryz.results133, go_sem, q0, q1, q2, q3, q4]) rfl ?_
          rw [HV.out]
          exact ⟨_, rfl, RIs.new (D := ⟨room, (putFile { fl with name := to } (delFile n L)), Sdown, Sarmed, Ssteps⟩) HM5.out (S5F), BF.out, by first | exact fun g hg => .inl hg | (intro g hg; first | exact (F3.out g hg).imp id (fun h => by have := L3.out; omega) | (right; first | (have h5 := N6.out g hg; have h6 := L6.out; omega) | (have h5 := N5.out g hg; have h6 := L5.out; omega)))⟩
  · go_enter Tryz.func133, Tryz.ntmps133
    go_wp2_with fail
    generalize World.alloc (World.alloc w _) _ = w1 at *
    have X1 := Lib.hid BX
    have Z1 := Lib.hid BZ
    have LZ := BZ.lt
    clear BX BZ
    refine (rfind_any _ ⟨room, L, true, armed, steps⟩ n w1 (RIs.new HL.out (HR.out.below B1.out)) HM.out).mono ?_
    rintro e w2 ⟨rfl, hb2⟩
    have X2 := Lib.hid (X1.out.below hb2)
    have Z2 := Lib.hid (Z1.out.below hb2)
    have B2 : Hid (Below w.heap.size w w2) := Lib.hid (B1.out.trans (hb2.mono B1.out.size))
    clear hb2
    have HV := Lib.hid (moveD_down (D := ⟨room, L, true, armed, steps⟩) rfl n to)
    obtain ⟨r0, r1, r2, r3, r4, f0, f1, f2, f3, f4⟩ := X2.out
    obtain ⟨z0, z1, z2, z3, z4, g0, g1, g2, g3, g4⟩ := Z2.out
    have hlx := X2.out.lt
    have hlz := Z2.out.lt
    have RFF := Lib.hid (Z2.out.set ⟨room, [], true, armed, steps⟩ (.slice a m c))
    have BF := Lib.hid (B2.out.trans ((Kept.set5D w2 (w.heap.size + 1) ⟨room, [], true, armed, steps⟩ (.slice a m c)).below B2.out.size (fun k hk => by omega)))
    unfold set5D at RFF BF
    simp only at RFF BF
    go_wp2_with fail
    generalize (((((w2.setCell ⟨w.heap.size + 1, 0, none⟩ (.int .i64 room)).setCell ⟨w.heap.size + 1, 1, none⟩ (.slice a m c)).setCell ⟨w.heap.size + 1, 2, none⟩ (.bool true)).setCell ⟨w.heap.size + 1, 3, none⟩ (.int .i64 armed)).setCell ⟨w.heap.size + 1, 4, none⟩ (.int .u64 steps)) = wF at *
    obtain ⟨q0, q1, q2, q3, q4, _⟩ := RFF.out
    simp only at q0 q1 q2 q3 q4
    refine bodyPost_ret (v := .tuple #[.agg #[.int .i64 room, (.slice a m c), .bool true, .int .i64 armed, .int .u64 steps], .int .i64 50]) (by simp [results, Tryz.results133, go_sem, q0, q1, q2, q3, q4]) rfl ?_
    rw [HV.out]
    exact ⟨_, rfl, RIs.new (D := ⟨room, L, true, armed, steps⟩) HL.out (HR.out.below BF.out), BF.out, by first | exact fun g hg => .inl hg | (intro g hg; first | exact (F3.out g hg).imp id (fun h => by have := L3.out; omega) | (right; first | (have h5 := N6.out g hg; have h6 := L6.out; omega) | (have h5 := N5.out g hg; have h6 := L5.out; omega)))⟩
theorem total_take (L : List FileS) (j : Nat) : total (L.take j) ≤ total L := by
  have h := total_app (L.take j) (L.drop j)
  rw [List.take_append_drop] at h
  omega
theorem total_snoc {L : List FileS} {j : Nat} {f : FileS} (hf : L[j]? = some f) : total (L.take (j + 1)) = total (L.take j) + f.all.length := by
  rw [List.take_add_one, hf, total_app]
  simp [total]
set_option maxHeartbeats 4000000 in
set_option maxRecDepth 20000 in
theorem rfree_any (v : Value) (D : DiskS) (w : World) (h : RIs w v D) (hg : DGood D) : Calls Tryz.prog 38 #[v] w fun e w' => e = .returned (.int .i64 (freeD D)) ∧ Below w.heap.size w w' := by
  obtain ⟨a, c, rfl, hr⟩ := h
  obtain ⟨room, L, down, armed, steps⟩ := D
  simp only at hr ⊢
  have HR := Lib.hid hr
  have htot : total L ≤ 1048576 := hg.tot
  have hrm0 : 0 ≤ room := hg.wf.room0
  have hrm1 : room ≤ 1048576 := hg.wf.room1
  have hfew : L.length ≤ 128 := hg.few
  obtain ⟨m, hlm⟩ : ∃ m, L.length = m := ⟨_, rfl⟩
  have HL := Lib.hid hlm
  rw [hlm] at HR hfew ⊢
  clear hr hlm hg
  go_enter Tryz.func38, Tryz.ntmps38
  go_wp2_with fail
  have BX := RD.box w ⟨room, L, down, armed, steps⟩ (.slice a m c)
  simp only at BX
  have B1 : Hid (Below w.heap.size w (w.alloc (.cells #[.int .i64 room, .slice a m c, .bool down, .int .i64 armed, .int .u64 steps] 29))) := Lib.hid ((Below.refl _ _).alloc (Nat.le_refl _) _)
  generalize World.alloc w _ = w1 at *
  have BX1 := Lib.hid BX
  clear BX
  go_loopw [3, 4] (fun nv i wr => ∃ j : Nat, i = .int .i64 j ∧ j ≤ m ∧ nv = .int .i64 (room - (total (L.take j) : Nat)) ∧ wr = w1) (fun _ i _ => m - (intOf i).toNat)
  case atStart => exact ⟨0, rfl, by omega, by simp [total], rfl⟩
  case round =>
    obtain ⟨j, rfl, hj, rfl, rfl⟩ := hrel
    obtain ⟨r0, r1, r2, r3, r4, _⟩ := BX1.out
    have ht := total_take L j
    by_cases hlt : j < m
    · obtain ⟨f, hf, _⟩ := getAt (l := L) (j := j) (by rw [HL.out]; exact hlt)
      obtain ⟨b, o, rfl, hbl, c0, c1, c2⟩ := (HR.out.below B1.out).file hf
      have hsn := total_snoc hf
      have ht2 := total_take L (j + 1)
      have hss := size_strN f.all
      obtain ⟨T, hT⟩ : ∃ T, total (L.take j) = T := ⟨_, rfl⟩
      have HT := Lib.hid hT
      have HSN : Hid (total (L.take (j + 1)) = T + f.all.length) := Lib.hid (by rw [hsn, hT])
      have hb1 : (T : Int) + (f.all.length : Int) ≤ 1048576 := by omega
      rw [hT] at ht ⊢
      clear hf hsn ht2 hT
      go_wp2_with fail
      go_roundw
      case rel => exact ⟨j + 1, by first | rfl | go_num, by omega, by rw [HSN.out]; first | go_num | (congr 1; omega) | skip, by first | trivial | rfl⟩
      all_goals (show m - ((j : Int) + 1).toNat < m - ((j : Int)).toNat; omega)
    · obtain rfl : j = m := by omega
      have HTT : Hid (total (L.take j) = total L) := Lib.hid (by rw [List.take_of_length_le (by rw [HL.out]; exact Nat.le_refl _)])
      rw [HTT.out]
      rw [HTT.out] at ht
      by_cases hneg : room - (total L : Int) < 0
      · have HV : Hid (freeD ⟨room, L, down, armed, steps⟩ = 0) := Lib.hid (by unfold freeD; simp only; omega)
        go_wp2_with fail
        go_ret
        exact ⟨by rw [HV.out]; rfl, B1.out⟩
      · have HV : Hid (freeD ⟨room, L, down, armed, steps⟩ = room - (total L : Int)) := Lib.hid (by unfold freeD; simp only; omega)
        go_wp2_with fail
        go_ret
        exact ⟨by rw [HV.out]; rfl, B1.out⟩
end Go.Proofs.YtofhccpagnkalaaGreat
