/- Several texts in one: Rl, Rs, Fi, Fl, Sm. What each proves stands ahead of it. -/
import Derived.Test.YtofhccpagnkalaaGreatRt
import Derived.Test.YtofhccpagnkalaaGreatRx
import Derived.Test.YtofhccpagnkalaaGreatBunVa
import Derived.Test.YtofhccpagnkalaaGreatBunRa
import Derived.Test.YtofhccpagnkalaaGreatBunVp
import Derived.Test.YtofhccpagnkalaaGreatBunC
/- The document's Last: the state that bytes have; no conditions but the ranges. -/
namespace Go.Proofs.YtofhccpagnkalaaGreat
open Go.RowKit Go.Maps Go.Proofs.Own

def LastPost (l : List Nat) (w : World) : Ending → World → Prop := fun e w' => e = .returned (.tuple #[.agg #[.int .u64 (lastR l).t, .int .i64 (lastR l).v], .int .i64 (lastR l).g]) ∧ Below w.heap.size w w'

set_option maxHeartbeats 4000000 in
set_option maxRecDepth 20000 in
theorem rlast_any (v : Value) (l : List Nat) (w : World) (hB : Bytes w v l) : Calls Tryz.prog 55 #[v] w (LastPost l w) := by
  have HB := Lib.hid hB
  have hlb : (l.length : Int) ≤ 2097152 := by have := hB.small; omega
  obtain ⟨a, c, rfl, _⟩ := hB.shape
  obtain ⟨n, hn⟩ : ∃ n, l.length = n := ⟨_, rfl⟩
  have HN := Lib.hid hn
  rw [hn] at HB hlb ⊢
  clear hB hn
  go_enter Tryz.func55, Tryz.ntmps55
  go_wp2_with fail
  have AA : Below w.heap.size w ((w.alloc (.cells #[.int .u64 0, .int .i64 0] 52)).alloc (.cells #[.int .u64 0, .int .i64 (-1)] 52)) := ((Below.refl _ _).alloc (Nat.le_refl _) _).alloc (by simp) _
  have SA0 : SC ((w.alloc (.cells #[.int .u64 0, .int .i64 0] 52)).alloc (.cells #[.int .u64 0, .int .i64 (-1)] 52)) w.heap.size 0 0 := ⟨by go_cell, by go_cell, by simp, by simp⟩
  have SA1 : SC ((w.alloc (.cells #[.int .u64 0, .int .i64 0] 52)).alloc (.cells #[.int .u64 0, .int .i64 (-1)] 52)) (w.heap.size + 1) 0 (-1) := ⟨by go_cell, by go_cell, by simp, by simp⟩
  generalize World.alloc (World.alloc w _) _ = w0 at *
  have B0 := Lib.hid AA
  have S0 := Lib.hid SA0
  have S1 := Lib.hid SA1
  clear AA SA0 SA1
  go_loopw [5] (fun i wr => ∃ (p k : Nat) (t v : Int), i = .int .i64 p ∧ p ≤ n ∧ n - p ≤ k ∧ lastR l = lastF k (l.drop p) ⟨t, v, p⟩ ∧ SC wr w.heap.size 0 0 ∧ SC wr (w.heap.size + 1) t v ∧ Below w.heap.size w wr) (fun i _ => n - (intOf i).toNat)
  case atStart => exact ⟨0, n, 0, -1, rfl, by omega, by omega, by unfold lastR; rw [HN.out]; rfl, S0.out, S1.out, B0.out⟩
  case round =>
    obtain ⟨p, k, t, v, rfl, hp, hk, hl, hs0, hs1, hb⟩ := hrel
    have HLR := Lib.hid hl
    have SR0 := Lib.hid hs0
    have SR1 := Lib.hid hs1
    have BR := Lib.hid hb
    have HK := Lib.hid hk
    clear hl hs0 hs1 hb hk S0 S1 B0
    by_cases hlt : p < n
    · obtain ⟨v2, hB2, hcut⟩ := (HB.out.below BR.out).cutl Tryz.u8s p (by rw [HN.out]; omega)
      obtain ⟨a2, c2, rfl, _⟩ := hB2.shape
      have HB2 := Lib.hid hB2
      generalize hm : l.drop p = m at *
      have HM := Lib.hid hm
      clear hB2 hm
      have hnm : ¬ m = [] := fun e => by have := congrArg List.length HM.out; rw [List.length_drop, HN.out, e] at this; simp at this; omega
      have HNM := Lib.hid hnm
      clear hnm
      go_wp2_with fail
      refine (rtake_any _ m wr HB2.out).mono ?_
      rintro e wt ⟨hbt, hno, hyes⟩
      have T := Lib.hid hbt
      clear hbt
      by_cases ht : takeE m = 0
      · obtain ⟨v', rfl, hB'⟩ := hyes ht
        have HT := Lib.hid ht
        obtain ⟨a4, c4, rfl, _⟩ := hB'.shape
        have HBB := Lib.hid hB'
        clear hno hyes hB' ht
        by_cases hk3 : m.getD 1 0 = 3
        · rw [hk3]
          have H3 := Lib.hid hk3
          clear hk3
          obtain ⟨rb, hrb, hown⟩ : ∃ rb : Nat, rb < wt.heap.size ∧ (frBody m = [] ∨ (Value.slice a4 (frBody m).length c4).ownBlock = some rb) := by
            by_cases h0 : frBody m = []
            · exact ⟨w.heap.size, (SR0.out.below T.out).lt, .inl h0⟩
            · obtain ⟨b, e1, e2⟩ := HBB.out.lt_block h0
              exact ⟨b, e2, .inr e1⟩
          have hwt1 : (wt.alloc (.cells #[.slice a4 (frBody m).length c4, .bool false] 158)).heap.size = wt.heap.size + 1 := by simp
          have RR1 : RdrIs (wt.alloc (.cells #[.slice a4 (frBody m).length c4, .bool false] 158)) wt.heap.size rb (frBody m) false := ⟨⟨_, by go_cell, HBB.out.alloc _, hown⟩, by omega, by go_cell, by simp, by simp⟩
          have A2 : Below wt.heap.size wt ((wt.alloc (.cells #[.slice a4 (frBody m).length c4, .bool false] 158)).alloc (.cells #[.int .u64 0, .int .i64 0] 52)) := ((Below.refl _ _).alloc (Nat.le_refl _) _).alloc (by simp) _
          have RR2 := RR1.below ((Below.refl _ _).alloc (Nat.le_refl _) (.cells #[.int .u64 0, .int .i64 0] 52))
          have SX2 : SC ((wt.alloc (.cells #[.slice a4 (frBody m).length c4, .bool false] 158)).alloc (.cells #[.int .u64 0, .int .i64 0] 52)) (wt.heap.size + 1) 0 0 := ⟨by go_cell, by go_cell, by simp, by simp⟩
          clear RR1 hwt1
          go_wp2_with fail
          have hw0 : w.heap.size + 1 < wt.heap.size := (SR1.out.below T.out).lt
          have NB := Lib.hid (And.intro hw0 hrb)
          generalize World.alloc (World.alloc wt _) _ = w2 at *
          have R2 := Lib.hid RR2
          have X2 := Lib.hid SX2
          have P2 := Lib.hid ((SR0.out.below T.out).below A2)
          have Q2 := Lib.hid ((SR1.out.below T.out).below A2)
          have B2 := Lib.hid ((BR.out.trans (T.out.mono BR.out.size)).trans (A2.mono (Nat.le_trans BR.out.size T.out.size)))
          generalize wt.heap.size = bt at *
          clear RR2 SX2 A2 hown
          refine (rnum_any bt 1152921504606846976 (frBody m) false w2 R2.out (by decide) (by decide)).mono ?_
          rintro e w3 ⟨rfl, hr3, hk3⟩
          rw [Bool.false_or] at hr3
          have R3 := Lib.hid hr3
          have X3 := Lib.hid (X2.out.kept hk3 (by omega))
          have P3 := Lib.hid (P2.out.kept hk3 (by omega))
          have Q3 := Lib.hid (Q2.out.kept hk3 (by omega))
          have B3 := Lib.hid (B2.out.trans (hk3.below B2.out.size (fun k hk => by omega)))
          obtain ⟨x0, x1, x2, x3⟩ := X3.out
          have hxl := X3.out.lt
          have htm : (numV (Int.toNat 1152921504606846976) (frBody m) : Int) ≤ 1152921504606846976 := by have := numV_le (Int.toNat 1152921504606846976) (frBody m); omega
          have HTV : Hid (vT m = numV (Int.toNat 1152921504606846976) (frBody m)) := Lib.hid rfl
          obtain ⟨tv, htv⟩ : ∃ tv, numV (Int.toNat 1152921504606846976) (frBody m) = tv := ⟨_, rfl⟩
          rw [htv] at htm HTV ⊢
          have K4 := Kept.setCell w3 ⟨bt + 1, 0, none⟩ (.int .u64 tv)
          have R4 := Lib.hid (R3.out.kept K4 (by simp only; omega) (by simp only; omega))
          have P4 := Lib.hid (P3.out.kept K4 (by simp only; omega))
          have Q4 := Lib.hid (Q3.out.kept K4 (by simp only; omega))
          have B4 := Lib.hid (B3.out.trans (K4.below B3.out.size (fun k hk => by simp only at hk; omega)))
          have X40 : (w3.setCell ⟨bt + 1, 0, none⟩ (.int .u64 tv)).cell? ⟨bt + 1, 0, none⟩ = some (.int .u64 tv) := World.cell?_setCell_same _ _ _ x0
          have X4 : Hid (SC (w3.setCell ⟨bt + 1, 0, none⟩ (.int .u64 tv)) (bt + 1) tv 0) := Lib.hid ⟨X40, by rw [World.cell?_setCell_other _ _ _ _ (by simp)]; exact x1, by rw [World.frozen?_setCell]; exact x2, by rw [World.frozen?_setCell]; exact x3⟩
          clear hr3 hk3 htv K4 X40
          go_wp2_with fail
          generalize World.setCell w3 _ _ = w4 at *
          clear x0 x1 x2 x3 hxl
          refine (rnum_any bt 7 _ _ w4 R4.out (by decide) (by decide)).mono ?_
          rintro e w5 ⟨rfl, hr5, hk5⟩
          have R5 := Lib.hid hr5
          have X5 := Lib.hid (X4.out.kept hk5 (by omega))
          have P5 := Lib.hid (P4.out.kept hk5 (by omega))
          have Q5 := Lib.hid (Q4.out.kept hk5 (by omega))
          have B5 := Lib.hid (B4.out.trans (hk5.below B4.out.size (fun k hk => by omega)))
          obtain ⟨x0, x1, x2, x3⟩ := X5.out
          have hxl := X5.out.lt
          have hvm : (numV (Int.toNat 7) (numL (Int.toNat 1152921504606846976) (frBody m)) : Int) ≤ 7 := by have := numV_le (Int.toNat 7) (numL (Int.toNat 1152921504606846976) (frBody m)); omega
          have HVV : Hid (vV m = numV (Int.toNat 7) (numL (Int.toNat 1152921504606846976) (frBody m))) := Lib.hid rfl
          obtain ⟨vv, hvv⟩ : ∃ vv, numV (Int.toNat 7) (numL (Int.toNat 1152921504606846976) (frBody m)) = vv := ⟨_, rfl⟩
          rw [hvv] at hvm HVV ⊢
          have K6 := Kept.setCell w5 ⟨bt + 1, 1, none⟩ (.int .i64 ((vv : Int) - 1))
          have R6 := Lib.hid (R5.out.kept K6 (by simp only; omega) (by simp only; omega))
          have P6 := Lib.hid (P5.out.kept K6 (by simp only; omega))
          have Q6 := Lib.hid (Q5.out.kept K6 (by simp only; omega))
          have B6 := Lib.hid (B5.out.trans (K6.below B5.out.size (fun k hk => by simp only at hk; omega)))
          have X61 : (w5.setCell ⟨bt + 1, 1, none⟩ (.int .i64 ((vv : Int) - 1))).cell? ⟨bt + 1, 1, none⟩ = some (.int .i64 ((vv : Int) - 1)) := World.cell?_setCell_same _ _ _ x1
          have X6 : Hid (SC (w5.setCell ⟨bt + 1, 1, none⟩ (.int .i64 ((vv : Int) - 1))) (bt + 1) tv ((vv : Int) - 1)) := Lib.hid ⟨by rw [World.cell?_setCell_other _ _ _ _ (by simp)]; exact x0, X61, by rw [World.frozen?_setCell]; exact x2, by rw [World.frozen?_setCell]; exact x3⟩
          clear hr5 hk5 hvv K6 X61
          go_wp2_with fail
          generalize World.setCell w5 _ _ = w6 at *
          clear x0 x1 x2 x3 hxl
          refine (rend_any bt _ _ w6 R6.out).mono ?_
          rintro e w7 ⟨rfl, rfl⟩
          have HEV : Hid (vE m = endE (numL (Int.toNat 7) (numL (Int.toNat 1152921504606846976) (frBody m))) (numB (Int.toNat 1152921504606846976) (frBody m) || numB (Int.toNat 7) (numL (Int.toNat 1152921504606846976) (frBody m)))) := Lib.hid rfl
          obtain ⟨ev, hev⟩ : ∃ ev, endE (numL (Int.toNat 7) (numL (Int.toNat 1152921504606846976) (frBody m))) (numB (Int.toNat 1152921504606846976) (frBody m) || numB (Int.toNat 7) (numL (Int.toNat 1152921504606846976) (frBody m))) = ev := ⟨_, rfl⟩
          rw [hev] at HEV ⊢
          clear hev
          by_cases he : ev = 0
          · subst he
            have HGO : Hid (vGo m) := Lib.hid ⟨HT.out, H3.out, HEV.out⟩
            obtain ⟨k', hk'⟩ : ∃ k', k = k' + 1 := ⟨k - 1, by have := HK.out; omega⟩
            have hfl := frNx_len HT.out
            have hbl : (frBody m).length = frN m := by
              have hs : sizeE m = 0 := by
                false_or_by_contra
                rename_i h2
                have := HT.out
                unfold takeE at this
                rw [if_pos h2] at this
                exact h2 this
              exact length_frBody hs
            have hml : m.length = n - p := by rw [← HM.out, List.length_drop, HN.out]
            have HNX : Hid (lastR l = lastF k' (l.drop (p + (frN m + 8))) ⟨vT m, (vV m : Int) - 1, p + (frN m + 8)⟩) := Lib.hid (by
              rw [HLR.out, hk', lastF_go HGO.out, hbl]
              have e1 : frNx m = l.drop (p + (frN m + 8)) := by unfold frNx; rw [← HM.out, List.drop_drop]
              rw [e1]
              simp only [Nat.add_assoc])
            obtain ⟨fn, hfn⟩ : ∃ fn, frN m = fn := ⟨_, rfl⟩
            have HFN : Hid (p + (fn + 8) ≤ n ∧ n - (p + (fn + 8)) ≤ k') := Lib.hid (by have := HK.out; omega)
            have hfb : (p : Int) + ((fn : Int) + 8) ≤ 2097152 := by have := HFN.out; omega
            rw [hfn] at HNX ⊢
            clear hfl hbl hml hfn
            obtain ⟨x0, x1, x2, x3⟩ := X6.out
            obtain ⟨s0, s1, s2, s3⟩ := Q6.out
            have hxl := X6.out.lt
            have hsl := Q6.out.lt
            have QN := Lib.hid (Q6.out.set tv ((vv : Int) - 1))
            have KN := Kept.set2 w6 (w.heap.size + 1) (.int .u64 tv) (.int .i64 ((vv : Int) - 1))
            have PN := Lib.hid (P6.out.kept KN (by omega))
            have BN := Lib.hid (B6.out.trans (KN.below B6.out.size (fun k hk => by omega)))
            clear KN
            rw [HTV.out, HVV.out] at HNX
            go_wp2_with fail
            generalize World.setCell _ _ _ = wN at *
            go_roundw
            case rel => exact ⟨p + (fn + 8), k', tv, (vv : Int) - 1, by first | rfl | go_num, HFN.out.1, HFN.out.2, HNX.out, PN.out, QN.out, BN.out⟩
            all_goals (simp only [intOf]; have := HFN.out; omega)
          · have hev0 : ((ev : Int) != 0) = true := bne_iff_ne.2 (by omega)
            have HEND : Hid (lastR l = ⟨t, v, p⟩) := Lib.hid (by rw [HLR.out]; exact lastF_no (fun h => he (by rw [← HEV.out]; exact h.2.2)) _ _)
            clear he
            obtain ⟨p0, p1, p2, p3⟩ := P6.out
            obtain ⟨s0, s1, s2, s3⟩ := Q6.out
            have hp0 := (P6.out).lt
            have hp1 := (Q6.out).lt
            have RFF := Lib.hid ((P6.out).set t v)
            have BF := Lib.hid ((B6.out).trans ((Kept.set2 w6 w.heap.size (.int .u64 t) (.int .i64 v)).below (B6.out).size (fun k hk => by omega)))
            go_wp2_with fail
            generalize (w6.setCell ⟨w.heap.size, 0, none⟩ (.int .u64 t)).setCell ⟨w.heap.size, 1, none⟩ (.int .i64 v) = wF at *
            obtain ⟨q0, q1, _, _⟩ := RFF.out
            refine bodyPost_ret (v := .tuple #[.agg #[.int .u64 t, .int .i64 v], .int .i64 p]) (by simp [results, Tryz.results55, go_sem, q0, q1]) rfl ?_
            unfold LastPost
            rw [HEND.out]
            exact ⟨rfl, BF.out⟩
        · have hkb : (((m.getD 1 0 : Nat) : Int) != 3) = true := bne_iff_ne.2 (by omega)
          have HEND : Hid (lastR l = ⟨t, v, p⟩) := Lib.hid (by rw [HLR.out]; exact lastF_no (fun h => hk3 h.2.1) _ _)
          clear hk3
          generalize m.getD 1 0 = kd at *
          obtain ⟨p0, p1, p2, p3⟩ := SR0.out.below T.out
          obtain ⟨s0, s1, s2, s3⟩ := SR1.out.below T.out
          have hp0 := (SR0.out.below T.out).lt
          have hp1 := (SR1.out.below T.out).lt
          have RFF := Lib.hid ((SR0.out.below T.out).set t v)
          have BF := Lib.hid ((BR.out.trans (T.out.mono BR.out.size)).trans ((Kept.set2 wt w.heap.size (.int .u64 t) (.int .i64 v)).below (BR.out.trans (T.out.mono BR.out.size)).size (fun k hk => by omega)))
          go_wp2_with fail
          generalize (wt.setCell ⟨w.heap.size, 0, none⟩ (.int .u64 t)).setCell ⟨w.heap.size, 1, none⟩ (.int .i64 v) = wF at *
          obtain ⟨q0, q1, _, _⟩ := RFF.out
          refine bodyPost_ret (v := .tuple #[.agg #[.int .u64 t, .int .i64 v], .int .i64 p]) (by simp [results, Tryz.results55, go_sem, q0, q1]) rfl ?_
          unfold LastPost
          rw [HEND.out]
          exact ⟨rfl, BF.out⟩
      · obtain rfl := hno ht
        have HEND : Hid (lastR l = ⟨t, v, p⟩) := Lib.hid (by rw [HLR.out]; exact lastF_no (fun h => ht h.1) _ _)
        obtain ⟨te, hte⟩ : ∃ te, takeE m = te := ⟨_, rfl⟩
        have hteb : ((te : Int) != 0) = true := bne_iff_ne.2 (by rw [hte] at ht; omega)
        rw [hte]
        clear hno hyes ht hte
        obtain ⟨p0, p1, p2, p3⟩ := SR0.out.below T.out
        obtain ⟨s0, s1, s2, s3⟩ := SR1.out.below T.out
        have hp0 := (SR0.out.below T.out).lt
        have hp1 := (SR1.out.below T.out).lt
        have RFF := Lib.hid ((SR0.out.below T.out).set t v)
        have BF := Lib.hid ((BR.out.trans (T.out.mono BR.out.size)).trans ((Kept.set2 wt w.heap.size (.int .u64 t) (.int .i64 v)).below (BR.out.trans (T.out.mono BR.out.size)).size (fun k hk => by omega)))
        go_wp2_with fail
        generalize (wt.setCell ⟨w.heap.size, 0, none⟩ (.int .u64 t)).setCell ⟨w.heap.size, 1, none⟩ (.int .i64 v) = wF at *
        obtain ⟨q0, q1, _, _⟩ := RFF.out
        refine bodyPost_ret (v := .tuple #[.agg #[.int .u64 t, .int .i64 v], .int .i64 p]) (by simp [results, Tryz.results55, go_sem, q0, q1]) rfl ?_
        unfold LastPost
        rw [HEND.out]
        exact ⟨rfl, BF.out⟩
    · obtain rfl : p = n := by omega
      have HEND : Hid (lastR l = ⟨t, v, p⟩) := Lib.hid (by rw [HLR.out, List.drop_of_length_le (by rw [HN.out]; exact Nat.le_refl _)]; exact lastF_no (fun h => by have := h.1; revert this; decide) _ _)
      obtain ⟨p0, p1, p2, p3⟩ := SR0.out
      obtain ⟨s0, s1, s2, s3⟩ := SR1.out
      have hp0 := (SR0.out).lt
      have hp1 := (SR1.out).lt
      have RFF := Lib.hid ((SR0.out).set t v)
      have BF := Lib.hid ((BR.out).trans ((Kept.set2 wr w.heap.size (.int .u64 t) (.int .i64 v)).below (BR.out).size (fun k hk => by omega)))
      go_wp2_with fail
      generalize (wr.setCell ⟨w.heap.size, 0, none⟩ (.int .u64 t)).setCell ⟨w.heap.size, 1, none⟩ (.int .i64 v) = wF at *
      obtain ⟨q0, q1, _, _⟩ := RFF.out
      refine bodyPost_ret (v := .tuple #[.agg #[.int .u64 t, .int .i64 v], .int .i64 p]) (by simp [results, Tryz.results55, go_sem, q0, q1]) rfl ?_
      unfold LastPost
      rw [HEND.out]
      exact ⟨rfl, BF.out⟩
end Go.Proofs.YtofhccpagnkalaaGreat

/- The document's Open of the vow, where the power stays; contracts; no conditions but the ranges. -/
namespace Go.Proofs.YtofhccpagnkalaaGreat
open Go.RowKit Go.Maps Go.Proofs.Own

theorem SC.zero26 (w : World) : SC (w.alloc (.cells #[.int .u64 0, .int .i64 0] 52)) w.heap.size 0 0 := ⟨by go_cell, by go_cell, by simp, by simp⟩
theorem SC.box26 (w : World) (t v : Int) : SC (w.alloc (.cells #[.int .u64 t, .int .i64 v] 52)) w.heap.size t v := ⟨by go_cell, by go_cell, by simp, by simp⟩
theorem DGood.small {D : DiskS} (h : DGood D) : ∀ f ∈ D.files, f.all.length ≤ 1048576 := fun f hf => by
  have h1 := h.tot
  obtain ⟨i, hi⟩ := List.getElem?_of_mem hf
  have h2 := total_snoc hi
  have h3 := total_take D.files (i + 1)
  omega
theorem Byt8.remove {D : DiskS} (h : Byt8 D.files) (n : ByteArray) : Byt8 (removeD D n).1.files := by
  unfold removeD
  split
  · split
    · exact h
    · split
      · simp only [stepD_files]; exact h
      · exact fun f hf => h f (mem_del.1 hf).1
  · exact h
/-- What Open of the vow tells, where the power stays. -/
def ROpenPost (D : DiskS) (w : World) : Ending → World → Prop := fun e w' => ∃ v', e = .returned (.tuple #[v', .agg #[.int .u64 (vopenS D).t, .int .i64 (vopenS D).v], .int .i64 0]) ∧ RIs w' v' (vopenD D).1 ∧ Below w.heap.size w w'
/-- .. and where the files' slice lies. -/
def ROpenPostN (D : DiskS) (v0 : Value) (w : World) : Ending → World → Prop := fun e w' => ∃ v', e = .returned (.tuple #[v', .agg #[.int .u64 (vopenS D).t, .int .i64 (vopenS D).v], .int .i64 0]) ∧ RIs w' v' (vopenD D).1 ∧ Below w.heap.size w w' ∧ ∀ g, fsOwn v' = some g → fsOwn v0 = some g ∨ w.heap.size ≤ g
theorem SRow.setSC {w : World} {b : Nat} {t v : Int} {a : Option Addr} {n c : Nat} {L : List FileS} (h : SRow w 3 (.slice a n c) (L.map rfV)) (k : SC w b t v) (x y : Value) : SRow ((w.setCell ⟨b, 0, none⟩ x).setCell ⟨b, 1, none⟩ y) 3 (.slice a n c) (L.map rfV) := by
  refine h.far (N := 2) (b := b) (fun i hi => ?_) (fun g i hg => ?_) (Kept.set2 w b x y).size
  · match i, hi with
    | 0, _ => exact ⟨_, k.c0, fun s e => by cases e⟩
    | 1, _ => exact ⟨_, k.c1, fun s e => by cases e⟩
  · have hne : ∀ j, j < 2 → (⟨b, j, none⟩ : Addr) ≠ ⟨g, i, none⟩ := by
      intro j hj e
      simp only [Addr.mk.injEq, and_true] at e
      have := hg e.1.symm
      omega
    rw [World.cell?_setCell_other _ _ _ _ (hne 1 (by omega)), World.cell?_setCell_other _ _ _ _ (hne 0 (by omega))]

set_option maxHeartbeats 4000000 in
set_option maxRecDepth 20000 in
theorem ropen_new (v : Value) (D : DiskS) (w : World) (h : RIs w v D) (hg : DGood D) (hc : Calm D) (hs : D.steps + 3 ≤ 1000000000) (hb : Byt8 D.files) : Calls Tryz.prog 20 #[v] w (ROpenPostN D v w) := by
  obtain ⟨a, c, rfl, hr⟩ := h
  obtain ⟨room, L, down, armed, steps⟩ := D
  obtain ⟨hc1, hc2⟩ := hc
  simp only at hr hc1 hc2 hs hb ⊢
  subst hc1 hc2
  have HG := Lib.hid hg
  have HS := Lib.hid hs
  have HB8 := Lib.hid hb
  obtain ⟨n, hn⟩ : ∃ k, L.length = k := ⟨_, rfl⟩
  have HN := Lib.hid hn
  rw [hn] at hr ⊢
  have HR := Lib.hid hr
  clear hr hn hg hs hb
  have hz1 : (w.alloc (.cells #[.int .i64 room, .slice a n c, .bool false, .int .i64 (-1), .int .u64 steps] 29)).heap.size = w.heap.size + 1 := by simp
  have hz2 : ((w.alloc (.cells #[.int .i64 room, .slice a n c, .bool false, .int .i64 (-1), .int .u64 steps] 29)).alloc (.cells #[.int .i64 0, .slice none 0 0, .bool false, .int .i64 0, .int .u64 0] 29)).heap.size = w.heap.size + 1 + 1 := by simp
  have BX : RD ((((w.alloc (.cells #[.int .i64 room, .slice a n c, .bool false, .int .i64 (-1), .int .u64 steps] 29)).alloc (.cells #[.int .i64 0, .slice none 0 0, .bool false, .int .i64 0, .int .u64 0] 29)).alloc (.cells #[.int .u64 0, .int .i64 0] 52)).alloc (.cells #[.int .u64 0, .int .i64 0] 52)) w.heap.size ⟨room, L, false, -1, steps⟩ (.slice a n c) := (((RD.box w ⟨room, L, false, -1, steps⟩ (.slice a n c)).below ((Below.refl _ _).alloc (Nat.le_refl _) _)).below ((Below.refl _ _).alloc (Nat.le_refl _) _)).below ((Below.refl _ _).alloc (Nat.le_refl _) _)
  have BZ : RD ((((w.alloc (.cells #[.int .i64 room, .slice a n c, .bool false, .int .i64 (-1), .int .u64 steps] 29)).alloc (.cells #[.int .i64 0, .slice none 0 0, .bool false, .int .i64 0, .int .u64 0] 29)).alloc (.cells #[.int .u64 0, .int .i64 0] 52)).alloc (.cells #[.int .u64 0, .int .i64 0] 52)) (w.heap.size + 1) zeroD (.slice none 0 0) := by
    have h := ((RD.zero (w.alloc (.cells #[.int .i64 room, .slice a n c, .bool false, .int .i64 (-1), .int .u64 steps] 29))).below ((Below.refl _ _).alloc (Nat.le_refl _) _)).below ((Below.refl _ _).alloc (Nat.le_refl _) _) (w' := ((((w.alloc (.cells #[.int .i64 room, .slice a n c, .bool false, .int .i64 (-1), .int .u64 steps] 29)).alloc (.cells #[.int .i64 0, .slice none 0 0, .bool false, .int .i64 0, .int .u64 0] 29)).alloc (.cells #[.int .u64 0, .int .i64 0] 52)).alloc (.cells #[.int .u64 0, .int .i64 0] 52)))
    rw [hz1] at h
    exact h
  have BY : SC ((((w.alloc (.cells #[.int .i64 room, .slice a n c, .bool false, .int .i64 (-1), .int .u64 steps] 29)).alloc (.cells #[.int .i64 0, .slice none 0 0, .bool false, .int .i64 0, .int .u64 0] 29)).alloc (.cells #[.int .u64 0, .int .i64 0] 52)).alloc (.cells #[.int .u64 0, .int .i64 0] 52)) (w.heap.size + 1 + 1) 0 0 := by
    have h : SC (((w.alloc (.cells #[.int .i64 room, .slice a n c, .bool false, .int .i64 (-1), .int .u64 steps] 29)).alloc (.cells #[.int .i64 0, .slice none 0 0, .bool false, .int .i64 0, .int .u64 0] 29)).alloc (.cells #[.int .u64 0, .int .i64 0] 52)) ((w.alloc (.cells #[.int .i64 room, .slice a n c, .bool false, .int .i64 (-1), .int .u64 steps] 29)).alloc (.cells #[.int .i64 0, .slice none 0 0, .bool false, .int .i64 0, .int .u64 0] 29)).heap.size 0 0 := SC.zero26 _
    have h2 := h.below ((Below.refl _ _).alloc (Nat.le_refl _) _) (W' := ((((w.alloc (.cells #[.int .i64 room, .slice a n c, .bool false, .int .i64 (-1), .int .u64 steps] 29)).alloc (.cells #[.int .i64 0, .slice none 0 0, .bool false, .int .i64 0, .int .u64 0] 29)).alloc (.cells #[.int .u64 0, .int .i64 0] 52)).alloc (.cells #[.int .u64 0, .int .i64 0] 52)))
    rw [hz2] at h2
    exact h2
  have BB : Below w.heap.size w ((((w.alloc (.cells #[.int .i64 room, .slice a n c, .bool false, .int .i64 (-1), .int .u64 steps] 29)).alloc (.cells #[.int .i64 0, .slice none 0 0, .bool false, .int .i64 0, .int .u64 0] 29)).alloc (.cells #[.int .u64 0, .int .i64 0] 52)).alloc (.cells #[.int .u64 0, .int .i64 0] 52)) := (((Below.refl _ _).alloc (Nat.le_refl _) _).alloc (by simp) _).alloc (by simp; omega) _ |>.alloc (by simp; omega) _
  clear hz1 hz2
  go_enter Tryz.func20, Tryz.ntmps20
  go_wp2_with fail
  generalize World.alloc (World.alloc (World.alloc (World.alloc w _) _) _) _ = w1 at *
  have X1 := Lib.hid BX
  have Z1 := Lib.hid BZ
  have Y1 := Lib.hid BY
  have B1 := Lib.hid BB
  clear BX BZ BY BB
  refine (rgone_new _ ⟨room, L, false, -1, steps⟩ nVowN w1 (RIs.new (D := ⟨room, L, false, -1, steps⟩) HN.out (HR.out.below B1.out)) HG.out rfl).mono ?_
  rintro e w2 ⟨v2, rfl, hr2, hb2, hf2⟩
  have GC := gone_calm (D := ⟨room, L, false, -1, steps⟩) ⟨rfl, rfl⟩
  have GG := vgoneD_good nVowN HG.out (by have := HS.out; simp only at this ⊢; omega)
  have GB : Byt8 (vgoneD ⟨room, L, false, -1, steps⟩ nVowN).1.files := Byt8.remove (D := ⟨room, L, false, -1, steps⟩) HB8.out nVowN
  obtain ⟨r, hr⟩ : ∃ r, vgoneD ⟨room, L, false, -1, steps⟩ nVowN = r := ⟨_, rfl⟩
  have HR1 := Lib.hid hr
  rw [hr] at hr2 GC GG GB ⊢
  obtain ⟨D1, e1⟩ := r
  obtain rfl : e1 = 0 := GC.1
  have C1 := Lib.hid GC.2.1
  have G1 := Lib.hid GG.1
  have HS1 : Hid (D1.steps + 2 ≤ 1000000000) := Lib.hid (by have h1 := HS.out; have h2 := GG.2; simp only at h1 h2; omega)
  have B81 := Lib.hid GB
  have HOP : Hid (vopenD ⟨room, L, false, -1, steps⟩ = settleD D1 ∧ vopenS ⟨room, L, false, -1, steps⟩ = settleS D1) := Lib.hid (by unfold vopenD vopenS; rw [HR1.out]; exact ⟨rfl, rfl⟩)
  have HF1 : Hid (D1.files.length ≤ 1000) := Lib.hid (by have h := GG.1.few; simp only at h; omega)
  have X2 := Lib.hid (X1.out.below hb2)
  have Z2 := Lib.hid (Z1.out.below hb2)
  have Y2 := Lib.hid (Y1.out.below hb2)
  have B2 : Hid (Below w.heap.size w w2) := Lib.hid (B1.out.trans (hb2.mono B1.out.size))
  obtain ⟨a2, c2, rfl, hs2⟩ := hr2
  obtain ⟨n2, hn2⟩ : ∃ k, D1.files.length = k := ⟨_, rfl⟩
  have HN2 := Lib.hid hn2
  have S2 := Lib.hid hs2
  rw [hn2] at S2 ⊢
  clear hs2 hn2
  simp only at hf2
  rw [HN2.out] at hf2
  have FO2 : Hid (∀ g, (Value.slice a2 n2 c2).ownBlock = some g → (Value.slice a n c).ownBlock = some g ∨ w.heap.size ≤ g) := Lib.hid (fun g hg => by
    rcases hf2 g hg with h | h
    · exact .inl h
    · exact .inr (Nat.le_trans B1.out.size h))
  clear hf2
  clear hb2 hr GC GG GB
  obtain ⟨r0, r1, r2, r3, r4, f0, f1, f2, f3, f4⟩ := X2.out
  obtain ⟨z0, z1, z2, z3, z4, g0, g1, g2, g3, g4⟩ := Z2.out
  obtain ⟨y0, y1, y2, y3⟩ := Y2.out
  have hlx := X2.out.lt
  have hlz := Z2.out.lt
  have hly := Y2.out.lt
  have S3 := Lib.hid (S2.out.setD X2.out (fun s e => by cases e) D1 (.slice a2 n2 c2))
  have X3 := Lib.hid (X2.out.set D1 (.slice a2 n2 c2))
  have KS := Kept.set5D w2 w.heap.size D1 (.slice a2 n2 c2)
  have Z3 := Lib.hid (Z2.out.kept KS (by omega))
  have Y3 := Lib.hid (Y2.out.kept KS (by omega))
  have B3 := Lib.hid (B2.out.trans (KS.below B2.out.size (fun k hk => by omega)))
  unfold set5D at S3 X3 Z3 Y3 B3
  clear KS
  go_wp2_with fail
  generalize (((((w2.setCell ⟨w.heap.size, 0, none⟩ (.int .i64 D1.room)).setCell ⟨w.heap.size, 1, none⟩ (.slice a2 n2 c2)).setCell ⟨w.heap.size, 2, none⟩ (.bool D1.down)).setCell ⟨w.heap.size, 3, none⟩ (.int .i64 D1.armed)).setCell ⟨w.heap.size, 4, none⟩ (.int .u64 D1.steps)) = w3 at *
  clear r0 r1 r2 r3 r4 f0 f1 f2 f3 f4 z0 z1 z2 z3 z4 g0 g1 g2 g3 g4 y0 y1 y2 y3 hlx hlz hly
  refine (rfind_any _ D1 nVow w3 (RIs.new HN2.out S3.out) HF1.out).mono ?_
  rintro e w4 ⟨rfl, hb4⟩
  have X4 := Lib.hid (X3.out.below hb4)
  have Z4 := Lib.hid (Z3.out.below hb4)
  have Y4 := Lib.hid (Y3.out.below hb4)
  have B4 : Hid (Below w.heap.size w w4) := Lib.hid (B3.out.trans (hb4.mono B3.out.size))
  have S4 := Lib.hid (S3.out.below hb4)
  clear hb4
  cases hf : findFile nVow D1.files with
  | none =>
    have hI : findI nVow D1.files = -1 := findI_none.2 hf
    have HV : Hid (settleD D1 = (D1, 0) ∧ settleS D1 = ⟨0, -1, 0⟩) := Lib.hid (by
      have h31 : fileE D1 nVow = 31 := fileE_31 C1.out.1 hf
      unfold settleD settleS
      rw [if_pos h31, if_pos h31]
      exact ⟨rfl, rfl⟩)
    rw [hI]
    clear hf hI
    obtain ⟨r0, r1, r2, r3, r4, f0, f1, f2, f3, f4⟩ := X4.out
    obtain ⟨z0, z1, z2, z3, z4, g0, g1, g2, g3, g4⟩ := Z4.out
    obtain ⟨y0, y1, y2, y3⟩ := Y4.out
    have hlx := X4.out.lt
    have hlz := Z4.out.lt
    have hly := Y4.out.lt
    have RFF := Lib.hid (Z4.out.set D1 (.slice a2 n2 c2))
    have KS := Kept.set5D w4 (w.heap.size + 1) D1 (.slice a2 n2 c2)
    have YS := Y4.out.kept KS (by omega)
    have SS := S4.out.setD Z4.out (fun s e => by cases e) D1 (.slice a2 n2 c2)
    have RFG := Lib.hid (RFF.out.kept (Kept.set2 _ (w.heap.size + 1 + 1) (.int .u64 0) (.int .i64 (-1))) (by omega))
    have RFY := Lib.hid (YS.set 0 (-1))
    have SF := Lib.hid (SS.setSC YS (.int .u64 0) (.int .i64 (-1)))
    have BF0 := B4.out.trans (KS.below B4.out.size (fun k hk => by omega))
    have BF := Lib.hid (BF0.trans ((Kept.set2 _ (w.heap.size + 1 + 1) (.int .u64 0) (.int .i64 (-1))).below BF0.size (fun k hk => by omega)))
    unfold set5D at RFG RFY SF BF
    clear KS YS SS BF0 RFF
    go_wp2_with fail
    generalize World.setCell (World.setCell (((((w4.setCell ⟨w.heap.size + 1, 0, none⟩ (.int .i64 D1.room)).setCell ⟨w.heap.size + 1, 1, none⟩ (.slice a2 n2 c2)).setCell ⟨w.heap.size + 1, 2, none⟩ (.bool D1.down)).setCell ⟨w.heap.size + 1, 3, none⟩ (.int .i64 D1.armed)).setCell ⟨w.heap.size + 1, 4, none⟩ (.int .u64 D1.steps)) _ _) _ _ = wF at *
    clear r0 r1 r2 r3 r4 f0 f1 f2 f3 f4 z0 z1 z2 z3 z4 g0 g1 g2 g3 g4 y0 y1 y2 y3 hlx hlz hly
    obtain ⟨q0, q1, q2, q3, q4, _⟩ := RFG.out
    obtain ⟨u0, u1, _, _⟩ := RFY.out
    refine bodyPost_ret (v := .tuple #[.agg #[.int .i64 D1.room, .slice a2 n2 c2, .bool D1.down, .int .i64 D1.armed, .int .u64 D1.steps], .agg #[.int .u64 0, .int .i64 (-1)], .int .i64 0]) (by simp [results, Tryz.results20, go_sem, q0, q1, q2, q3, q4, u0, u1]) rfl ?_
    unfold ROpenPostN
    rw [HOP.out.1, HOP.out.2, HV.out.1, HV.out.2]
    exact ⟨_, rfl, RIs.new HN2.out SF.out, BF.out, FO2.out⟩
  | some f =>
    obtain ⟨i, hI, hLi⟩ := findI_some hf
    rw [hI]
    have hi0 : ¬ (i : Int) < 0 := by omega
    have hsm := G1.out.small f (List.mem_of_getElem? hLi)
    have h8 := B81.out f (List.mem_of_getElem? hLi)
    have h0 : fileE D1 nVow = 0 := by unfold fileE; rw [if_neg (by rw [C1.out.1]; decide), if_neg (by rw [hf]; simp)]
    have HF0 := Lib.hid h0
    have HFF := Lib.hid hf
    have HGF := Lib.hid (getF_some hf)
    obtain ⟨b, o, rfl, hbl, k0, k1, k2⟩ := S4.out.file hLi
    have him : (i : Int) < (n2 : Int) := by have h1 := (List.getElem?_eq_some_iff.1 hLi).1; have h2 := HN2.out; omega
    have HTB : Hid (natsOf (strN f.all) = f.all) := Lib.hid (natsOf_strN h8)
    have HSZ : Hid ((strN f.all).size ≤ 2097152) := Lib.hid (by rw [size_strN]; omega)
    have HSM := Lib.hid hsm
    have hst : Hid (settleS D1 = lastR f.all) := Lib.hid (by unfold settleS; rw [h0, if_neg (by decide), if_neg (by decide), HGF.out])
    clear hf hI hLi h8 h0
    obtain ⟨r0, r1, r2, r3, r4, f0, f1, f2, f3, f4⟩ := X4.out
    obtain ⟨z0, z1, z2, z3, z4, g0, g1, g2, g3, g4⟩ := Z4.out
    obtain ⟨y0, y1, y2, y3⟩ := Y4.out
    have hlx := X4.out.lt
    have hlz := Z4.out.lt
    have hly := Y4.out.lt
    go_wp2_with (refine wpList_to_bytes rfl 9 22 5 _ rfl Tryz.underlying9 Tryz.underlying22 Tryz.underlying5 _ rfl HSZ.out ?_; intro bv w5 hB5 hb5 hob5; rw [HTB.out] at hB5; obtain ⟨ab, cb, rfl, _⟩ := hB5.shape; have HB5 := Lib.hid hB5; have HB45 := Lib.hid hb5; clear hB5 hb5 hob5)
    have X5 := Lib.hid (X4.out.below HB45.out)
    have Z5 := Lib.hid (Z4.out.below HB45.out)
    have Y5 := Lib.hid (Y4.out.below HB45.out)
    have B5 : Hid (Below w.heap.size w w5) := Lib.hid (B4.out.trans (HB45.out.mono B4.out.size))
    have S5 := Lib.hid (S4.out.below HB45.out)
    clear k0 k1 k2 hbl
    clear r0 r1 r2 r3 r4 f0 f1 f2 f3 f4 z0 z1 z2 z3 z4 g0 g1 g2 g3 g4 y0 y1 y2 y3 hlx hlz hly
    refine (rlast_any _ f.all w5 HB5.out).mono ?_
    rintro e w6 ⟨rfl, hb6⟩
    have hgl := lastR_le f.all
    obtain ⟨r, hr⟩ : ∃ r, lastR f.all = r := ⟨_, rfl⟩
    rw [hr] at hgl hst ⊢
    obtain ⟨tv, vv, gd⟩ := r
    simp only at hgl ⊢
    have HST := Lib.hid hst
    have HLR := Lib.hid hr
    have HGL := Lib.hid hgl
    clear hst hr hgl
    have X6 := Lib.hid (X5.out.below hb6)
    have Z6 := Lib.hid (Z5.out.below hb6)
    have Y6 := Lib.hid (Y5.out.below hb6)
    have B6 : Hid (Below w.heap.size w w6) := Lib.hid (B5.out.trans (hb6.mono B5.out.size))
    have S6 := Lib.hid (S5.out.below hb6)
    clear hb6
    have HBS : Hid (w.heap.size + 1 + 1 < w6.heap.size) := Lib.hid Y6.out.lt
    have AL : Below w6.heap.size w6 (w6.alloc (.cells #[.int .u64 tv, .int .i64 vv] 52)) := (Below.refl _ _).alloc (Nat.le_refl _) _
    have TB := SC.box26 w6 tv vv
    have X7 := Lib.hid (X6.out.below AL)
    have Z7 := Lib.hid (Z6.out.below AL)
    have Y7 := Lib.hid (Y6.out.below AL)
    have B7 : Hid (Below w.heap.size w (w6.alloc (.cells #[.int .u64 tv, .int .i64 vv] 52))) := Lib.hid (B6.out.trans (AL.mono B6.out.size))
    have S7 := Lib.hid (S6.out.below AL)
    have T7 := Lib.hid TB
    have hss := size_strN f.all
    have hgd0 : ¬ (gd : Int) < 0 := by omega
    clear AL TB
    by_cases hlt : gd < f.all.length
    · obtain ⟨r0, r1, r2, r3, r4, f0, f1, f2, f3, f4⟩ := X7.out
      obtain ⟨z0, z1, z2, z3, z4, g0, g1, g2, g3, g4⟩ := Z7.out
      obtain ⟨y0, y1, y2, y3⟩ := Y7.out
      have hlx := X7.out.lt
      have hlz := Z7.out.lt
      have hly := Y7.out.lt
      have hltb : (gd : Int) < (f.all.length : Int) := by omega
      have HLT := Lib.hid hlt
      go_wp2_with fail
      generalize World.alloc w6 _ = w7 at *
      generalize w6.heap.size = bs at *
      clear hss hltb hlt
      clear r0 r1 r2 r3 r4 f0 f1 f2 f3 f4 z0 z1 z2 z3 z4 g0 g1 g2 g3 g4 y0 y1 y2 y3 hlx hlz hly
      refine (rcut_new _ D1 nVow gd w7 (RIs.new HN2.out S7.out) G1.out (fun fl hfl => by have := G1.out.small fl hfl; omega)).mono ?_
      rintro e w8 ⟨v8, rfl, hr8, hb8, hf8⟩
      have CCM := cut_calm C1.out HFF.out gd (Nat.le_of_lt HLT.out)
      have CG := G1.out.cut nVow gd (by have := HS1.out; omega)
      obtain ⟨r, hr⟩ : ∃ r, cutD D1 nVow gd = r := ⟨_, rfl⟩
      have HRC := Lib.hid hr
      rw [hr] at hr8 CCM CG ⊢
      obtain ⟨D2, e2⟩ := r
      obtain rfl : e2 = 0 := CCM.1
      have CX := Lib.hid CCM.2.1
      have FX := Lib.hid CCM.2.2
      have G2 := Lib.hid CG.1
      have X8 := Lib.hid (X7.out.below hb8)
      have Z8 := Lib.hid (Z7.out.below hb8)
      have Y8 := Lib.hid (Y7.out.below hb8)
      have B8 : Hid (Below w.heap.size w w8) := Lib.hid (B7.out.trans (hb8.mono B7.out.size))
      have T8 := Lib.hid (T7.out.below hb8)
      obtain ⟨a8, c8, rfl, hs8⟩ := hr8
      obtain ⟨n8, hn8⟩ : ∃ k, D2.files.length = k := ⟨_, rfl⟩
      have HN8 := Lib.hid hn8
      have S8 := Lib.hid hs8
      rw [hn8] at S8 ⊢
      clear hs8 hn8
      simp only at hf8
      rw [HN8.out] at hf8
      have FO8 : Hid (∀ g, (Value.slice a8 n8 c8).ownBlock = some g → (Value.slice a n c).ownBlock = some g ∨ w.heap.size ≤ g) := Lib.hid (fun g hg => by
        rcases hf8 g hg with h | h
        · exact FO2.out g h
        · exact .inr (Nat.le_trans B7.out.size h))
      clear hf8
      clear hb8 hr CCM CG
      obtain ⟨r0, r1, r2, r3, r4, f0, f1, f2, f3, f4⟩ := X8.out
      obtain ⟨z0, z1, z2, z3, z4, g0, g1, g2, g3, g4⟩ := Z8.out
      obtain ⟨y0, y1, y2, y3⟩ := Y8.out
      have hlx := X8.out.lt
      have hlz := Z8.out.lt
      have hly := Y8.out.lt
      have S9 := Lib.hid (S8.out.setD X8.out (fun s e => by cases e) D2 (.slice a8 n8 c8))
      have X9 := Lib.hid (X8.out.set D2 (.slice a8 n8 c8))
      have KS := Kept.set5D w8 w.heap.size D2 (.slice a8 n8 c8)
      have Z9 := Lib.hid (Z8.out.kept KS (by omega))
      have Y9 := Lib.hid (Y8.out.kept KS (by omega))
      have B9 := Lib.hid (B8.out.trans (KS.below B8.out.size (fun k hk => by omega)))
      unfold set5D at S9 X9 Z9 Y9 B9
      clear KS
      have T9 := Lib.hid (T8.out.kept (Kept.set5D w8 w.heap.size D2 (.slice a8 n8 c8)) (by have := HBS.out; omega))
      unfold set5D at T9
      go_wp2_with fail
      generalize (((((w8.setCell ⟨w.heap.size, 0, none⟩ (.int .i64 D2.room)).setCell ⟨w.heap.size, 1, none⟩ (.slice a8 n8 c8)).setCell ⟨w.heap.size, 2, none⟩ (.bool D2.down)).setCell ⟨w.heap.size, 3, none⟩ (.int .i64 D2.armed)).setCell ⟨w.heap.size, 4, none⟩ (.int .u64 D2.steps)) = w9 at *
      clear r0 r1 r2 r3 r4 f0 f1 f2 f3 f4 z0 z1 z2 z3 z4 g0 g1 g2 g3 g4 y0 y1 y2 y3 hlx hlz hly
      refine (rsync_new _ D2 nVow w9 (RIs.new HN8.out S9.out) G2.out).mono ?_
      rintro e w10 ⟨v10, rfl, hr10, hb10, hf10⟩
      have SCM := sync_calm CX.out FX.out
      obtain ⟨r, hr⟩ : ∃ r, syncD D2 nVow = r := ⟨_, rfl⟩
      have HRS := Lib.hid hr
      rw [hr] at hr10 SCM ⊢
      obtain ⟨D3, e3⟩ := r
      obtain rfl : e3 = 0 := SCM.1
      have X10 := Lib.hid (X9.out.below hb10)
      have Z10 := Lib.hid (Z9.out.below hb10)
      have Y10 := Lib.hid (Y9.out.below hb10)
      have B10 : Hid (Below w.heap.size w w10) := Lib.hid (B9.out.trans (hb10.mono B9.out.size))
      have T10 := Lib.hid (T9.out.below hb10)
      obtain ⟨a10, c10, rfl, hs10⟩ := hr10
      obtain ⟨n10, hn10⟩ : ∃ k, D3.files.length = k := ⟨_, rfl⟩
      have HN10 := Lib.hid hn10
      have S10 := Lib.hid hs10
      rw [hn10] at S10 ⊢
      clear hs10 hn10
      simp only at hf10
      rw [HN10.out] at hf10
      have FO10 : Hid (∀ g, (Value.slice a10 n10 c10).ownBlock = some g → (Value.slice a n c).ownBlock = some g ∨ w.heap.size ≤ g) := Lib.hid (fun g hg => by
        rcases hf10 g hg with h | h
        · exact FO8.out g h
        · exact .inr (Nat.le_trans B9.out.size h))
      clear hf10
      clear hb10 hr SCM
      obtain ⟨r0, r1, r2, r3, r4, f0, f1, f2, f3, f4⟩ := X10.out
      obtain ⟨z0, z1, z2, z3, z4, g0, g1, g2, g3, g4⟩ := Z10.out
      obtain ⟨y0, y1, y2, y3⟩ := Y10.out
      have hlx := X10.out.lt
      have hlz := Z10.out.lt
      have hly := Y10.out.lt
      have S11 := Lib.hid (S10.out.setD X10.out (fun s e => by cases e) D3 (.slice a10 n10 c10))
      have X11 := Lib.hid (X10.out.set D3 (.slice a10 n10 c10))
      have KS := Kept.set5D w10 w.heap.size D3 (.slice a10 n10 c10)
      have Z11 := Lib.hid (Z10.out.kept KS (by omega))
      have Y11 := Lib.hid (Y10.out.kept KS (by omega))
      have B11 := Lib.hid (B10.out.trans (KS.below B10.out.size (fun k hk => by omega)))
      unfold set5D at S11 X11 Z11 Y11 B11
      clear KS
      have T11 := Lib.hid (T10.out.kept (Kept.set5D w10 w.heap.size D3 (.slice a10 n10 c10)) (by have := HBS.out; omega))
      unfold set5D at T11
      go_wp2_with fail
      generalize (((((w10.setCell ⟨w.heap.size, 0, none⟩ (.int .i64 D3.room)).setCell ⟨w.heap.size, 1, none⟩ (.slice a10 n10 c10)).setCell ⟨w.heap.size, 2, none⟩ (.bool D3.down)).setCell ⟨w.heap.size, 3, none⟩ (.int .i64 D3.armed)).setCell ⟨w.heap.size, 4, none⟩ (.int .u64 D3.steps)) = w11 at *
      clear r0 r1 r2 r3 r4 f0 f1 f2 f3 f4 z0 z1 z2 z3 z4 g0 g1 g2 g3 g4 y0 y1 y2 y3 hlx hlz hly
      have HV : Hid (settleD D1 = (D3, 0)) := Lib.hid (by
        have h1 : settle1 D1 = (D2, 0) := by unfold settle1; rw [HGF.out, HLR.out]; simp only; rw [if_pos HLT.out, HRC.out]
        unfold settleD
        rw [HF0.out, if_neg (by decide), if_neg (by decide), h1, if_neg (by simp)]
        exact HRS.out)
      obtain ⟨r0, r1, r2, r3, r4, f0, f1, f2, f3, f4⟩ := X11.out
      obtain ⟨z0, z1, z2, z3, z4, g0, g1, g2, g3, g4⟩ := Z11.out
      obtain ⟨y0, y1, y2, y3⟩ := Y11.out
      have hlx := X11.out.lt
      have hlz := Z11.out.lt
      have hly := Y11.out.lt
      have J1 : Hid (RD (set5D w11 (w.heap.size + 1) D3 (.slice a10 n10 c10)) w.heap.size D3 (.slice a10 n10 c10) ∧ SC (set5D w11 (w.heap.size + 1) D3 (.slice a10 n10 c10)) bs tv vv) := Lib.hid ⟨X11.out.kept (Kept.set5D w11 (w.heap.size + 1) D3 (.slice a10 n10 c10)) (by omega), T11.out.kept (Kept.set5D w11 (w.heap.size + 1) D3 (.slice a10 n10 c10)) (by have := HBS.out; omega)⟩
      have J2 : Hid (RD (set5D w11.drew (w.heap.size + 1) D3 (.slice a10 n10 c10)) w.heap.size D3 (.slice a10 n10 c10) ∧ SC (set5D w11.drew (w.heap.size + 1) D3 (.slice a10 n10 c10)) bs tv vv) := Lib.hid ⟨(X11.out.below ((Below.refl _ _).drew)).kept (Kept.set5D w11.drew (w.heap.size + 1) D3 (.slice a10 n10 c10)) (by omega), (T11.out.below ((Below.refl _ _).drew)).kept (Kept.set5D w11.drew (w.heap.size + 1) D3 (.slice a10 n10 c10)) (by have := HBS.out; omega)⟩
      unfold set5D at J1 J2
      refine region_start [0, 0, 1, 7, 15] 4 (fun w' => RD w' w.heap.size D3 (.slice a10 n10 c10) ∧ SC w' bs tv vv) (by kernel_rfl) ?_
      refine stage_heads [0, 1] (by kernel_rfl) (L := #[true, true, false, false, false]) (by kernel_rfl) (f' := 3) rfl (fun _ _ _ _ h => h) (fun w o h => ⟨h.1.below ((Below.refl _ _).alloc (Nat.le_refl _) o), h.2.below ((Below.refl _ _).alloc (Nat.le_refl _) o)⟩) (.inr (by first | exact ⟨X11.out, T11.out⟩ | exact ⟨X11.out.below ((Below.refl _ _).drew), T11.out.below ((Below.refl _ _).drew)⟩)) ?_
      simp only [List.flatMap_cons, List.flatMap_nil, List.drop_succ_cons, List.drop_zero, List.take_succ_cons, List.take_zero, List.cons_append, List.nil_append, List.append_nil]
      iterate 2 (first | (refine heads_load _ (by rfl) (fun w' hs => by obtain ⟨⟨r0, r1, r2, r3, r4, _⟩, b0, b1, _, _⟩ := hs; go_simp; try with_reducible rfl) rfl ?_; simp only [Act.put, List.setIfInBounds_toArray, List.set_cons_zero, List.set_cons_succ]) | (refine heads_pure _ (by rfl) (fun w' => by go_simp; try with_reducible rfl) ?_; simp only [Act.put, List.setIfInBounds_toArray, List.set_cons_zero, List.set_cons_succ]))
      refine heads_nil ?_
      refine stage_op 2 (by kernel_rfl) (L := #[true, true, true, false, false]) (by kernel_rfl) ?_
      simp only [List.drop_succ_cons, List.drop_zero, List.take_succ_cons, List.take_zero]
      go_wp2_with fail
      refine step_post (fun _ => (by first | exact J1.out | exact J2.out)) ?_
      refine stage_op 3 (by kernel_rfl) (L := #[true, true, true, true, false]) (by kernel_rfl) ?_
      simp only [List.drop_succ_cons, List.drop_zero, List.take_succ_cons, List.take_zero]
      go_wp2_with fail
      refine step_post nofun ?_
      refine stage_heads [4] (by kernel_rfl) (L := #[true, true, true, true, true]) (by kernel_rfl) (f' := 0) rfl (fun _ _ _ _ h => h) (fun w o h => ⟨h.1.below ((Below.refl _ _).alloc (Nat.le_refl _) o), h.2.below ((Below.refl _ _).alloc (Nat.le_refl _) o)⟩) (.inl (by kernel_rfl)) ?_
      simp only [List.flatMap_cons, List.flatMap_nil, List.drop_succ_cons, List.drop_zero, List.take_succ_cons, List.take_zero, List.append_nil]
      iterate 1 (refine heads_pure _ (by rfl) (fun w' => by go_simp; try with_reducible rfl) ?_; simp only [Act.put, List.setIfInBounds_toArray, List.set_cons_zero, List.set_cons_succ])
      refine heads_nil ?_
      refine stage_done (by kernel_rfl) ?_
      generalize hwz : World.drew _ = wz
      have W1 : wz = (((((((((w11.setCell ⟨w.heap.size + 1, 0, none⟩ (.int .i64 D3.room)).setCell ⟨w.heap.size + 1, 1, none⟩ (.slice a10 n10 c10)).setCell ⟨w.heap.size + 1, 2, none⟩ (.bool D3.down)).setCell ⟨w.heap.size + 1, 3, none⟩ (.int .i64 D3.armed)).setCell ⟨w.heap.size + 1, 4, none⟩ (.int .u64 D3.steps))).setCell ⟨w.heap.size + 1 + 1, 0, none⟩ (.int .u64 tv)).setCell ⟨w.heap.size + 1 + 1, 1, none⟩ (.int .i64 vv))).drew := hwz.symm
      have KS := Kept.set5D w11 (w.heap.size + 1) D3 (.slice a10 n10 c10)
      have RFF := (Z11.out.set D3 (.slice a10 n10 c10))
      have YS := Y11.out.kept KS (by omega)
      have SS := S11.out.setD Z11.out (fun s e => by cases e) D3 (.slice a10 n10 c10)
      have RFG0 := (RFF.kept (Kept.set2 _ (w.heap.size + 1 + 1) (.int .u64 tv) (.int .i64 vv)) (by omega)).below ((Below.refl _ _).drew)
      have RFY0 := (YS.set tv vv).below ((Below.refl _ _).drew)
      have SF0 := (SS.setSC YS (.int .u64 tv) (.int .i64 vv)).below ((Below.refl _ _).drew)
      have BF0 := B11.out.trans (KS.below B11.out.size (fun k hk => by omega))
      have BF1 := (BF0.trans ((Kept.set2 _ (w.heap.size + 1 + 1) (.int .u64 tv) (.int .i64 vv)).below BF0.size (fun k hk => by omega))).drew
      unfold set5D at RFG0 RFY0 SF0 BF1
      rw [← W1] at RFG0 RFY0 SF0 BF1
      have RFG := Lib.hid RFG0
      have RFY := Lib.hid RFY0
      have SF := Lib.hid SF0
      have BF := Lib.hid BF1
      clear KS RFF YS SS RFG0 RFY0 SF0 BF0 BF1 W1 hwz
      clear r0 r1 r2 r3 r4 f0 f1 f2 f3 f4 z0 z1 z2 z3 z4 g0 g1 g2 g3 g4 y0 y1 y2 y3 hlx hlz hly
      obtain ⟨q0, q1, q2, q3, q4, _⟩ := RFG.out
      obtain ⟨u0, u1, _, _⟩ := RFY.out
      go_wp2_with fail
      refine bodyPost_ret (v := .tuple #[.agg #[.int .i64 D3.room, .slice a10 n10 c10, .bool D3.down, .int .i64 D3.armed, .int .u64 D3.steps], .agg #[.int .u64 tv, .int .i64 vv], .int .i64 0]) (by simp [results, Tryz.results20, go_sem, q0, q1, q2, q3, q4, u0, u1]) rfl ?_
      unfold ROpenPostN
      rw [HOP.out.1, HOP.out.2, HV.out, HST.out]
      exact ⟨_, rfl, RIs.new HN10.out SF.out, BF.out, FO10.out⟩
    · obtain ⟨r0, r1, r2, r3, r4, f0, f1, f2, f3, f4⟩ := X7.out
      obtain ⟨z0, z1, z2, z3, z4, g0, g1, g2, g3, g4⟩ := Z7.out
      obtain ⟨y0, y1, y2, y3⟩ := Y7.out
      have hlx := X7.out.lt
      have hlz := Z7.out.lt
      have hly := Y7.out.lt
      have hltb : ¬ (gd : Int) < (f.all.length : Int) := by omega
      have HLT := Lib.hid hlt
      have CX := C1
      have FX := HFF
      go_wp2_with fail
      generalize World.alloc w6 _ = w7 at *
      generalize w6.heap.size = bs at *
      clear hss hltb hlt
      clear r0 r1 r2 r3 r4 f0 f1 f2 f3 f4 z0 z1 z2 z3 z4 g0 g1 g2 g3 g4 y0 y1 y2 y3 hlx hlz hly
      refine (rsync_new _ D1 nVow w7 (RIs.new HN2.out S7.out) G1.out).mono ?_
      rintro e w10 ⟨v10, rfl, hr10, hb10, hf10⟩
      have SCM := sync_calm CX.out FX.out
      obtain ⟨r, hr⟩ : ∃ r, syncD D1 nVow = r := ⟨_, rfl⟩
      have HRS := Lib.hid hr
      rw [hr] at hr10 SCM ⊢
      obtain ⟨D3, e3⟩ := r
      obtain rfl : e3 = 0 := SCM.1
      have X10 := Lib.hid (X7.out.below hb10)
      have Z10 := Lib.hid (Z7.out.below hb10)
      have Y10 := Lib.hid (Y7.out.below hb10)
      have B10 : Hid (Below w.heap.size w w10) := Lib.hid (B7.out.trans (hb10.mono B7.out.size))
      have T10 := Lib.hid (T7.out.below hb10)
      obtain ⟨a10, c10, rfl, hs10⟩ := hr10
      obtain ⟨n10, hn10⟩ : ∃ k, D3.files.length = k := ⟨_, rfl⟩
      have HN10 := Lib.hid hn10
      have S10 := Lib.hid hs10
      rw [hn10] at S10 ⊢
      clear hs10 hn10
      simp only at hf10
      rw [HN10.out] at hf10
      have FO10 : Hid (∀ g, (Value.slice a10 n10 c10).ownBlock = some g → (Value.slice a n c).ownBlock = some g ∨ w.heap.size ≤ g) := Lib.hid (fun g hg => by
        rcases hf10 g hg with h | h
        · exact FO2.out g h
        · exact .inr (Nat.le_trans B7.out.size h))
      clear hf10
      clear hb10 hr SCM
      obtain ⟨r0, r1, r2, r3, r4, f0, f1, f2, f3, f4⟩ := X10.out
      obtain ⟨z0, z1, z2, z3, z4, g0, g1, g2, g3, g4⟩ := Z10.out
      obtain ⟨y0, y1, y2, y3⟩ := Y10.out
      have hlx := X10.out.lt
      have hlz := Z10.out.lt
      have hly := Y10.out.lt
      have S11 := Lib.hid (S10.out.setD X10.out (fun s e => by cases e) D3 (.slice a10 n10 c10))
      have X11 := Lib.hid (X10.out.set D3 (.slice a10 n10 c10))
      have KS := Kept.set5D w10 w.heap.size D3 (.slice a10 n10 c10)
      have Z11 := Lib.hid (Z10.out.kept KS (by omega))
      have Y11 := Lib.hid (Y10.out.kept KS (by omega))
      have B11 := Lib.hid (B10.out.trans (KS.below B10.out.size (fun k hk => by omega)))
      unfold set5D at S11 X11 Z11 Y11 B11
      clear KS
      have T11 := Lib.hid (T10.out.kept (Kept.set5D w10 w.heap.size D3 (.slice a10 n10 c10)) (by have := HBS.out; omega))
      unfold set5D at T11
      go_wp2_with fail
      generalize (((((w10.setCell ⟨w.heap.size, 0, none⟩ (.int .i64 D3.room)).setCell ⟨w.heap.size, 1, none⟩ (.slice a10 n10 c10)).setCell ⟨w.heap.size, 2, none⟩ (.bool D3.down)).setCell ⟨w.heap.size, 3, none⟩ (.int .i64 D3.armed)).setCell ⟨w.heap.size, 4, none⟩ (.int .u64 D3.steps)) = w11 at *
      clear r0 r1 r2 r3 r4 f0 f1 f2 f3 f4 z0 z1 z2 z3 z4 g0 g1 g2 g3 g4 y0 y1 y2 y3 hlx hlz hly
      have HV : Hid (settleD D1 = (D3, 0)) := Lib.hid (by
        have h1 : settle1 D1 = (D1, 0) := by unfold settle1; rw [HGF.out, HLR.out]; simp only; rw [if_neg HLT.out]
        unfold settleD
        rw [HF0.out, if_neg (by decide), if_neg (by decide), h1, if_neg (by simp)]
        exact HRS.out)
      obtain ⟨r0, r1, r2, r3, r4, f0, f1, f2, f3, f4⟩ := X11.out
      obtain ⟨z0, z1, z2, z3, z4, g0, g1, g2, g3, g4⟩ := Z11.out
      obtain ⟨y0, y1, y2, y3⟩ := Y11.out
      have hlx := X11.out.lt
      have hlz := Z11.out.lt
      have hly := Y11.out.lt
      have J1 : Hid (RD (set5D w11 (w.heap.size + 1) D3 (.slice a10 n10 c10)) w.heap.size D3 (.slice a10 n10 c10) ∧ SC (set5D w11 (w.heap.size + 1) D3 (.slice a10 n10 c10)) bs tv vv) := Lib.hid ⟨X11.out.kept (Kept.set5D w11 (w.heap.size + 1) D3 (.slice a10 n10 c10)) (by omega), T11.out.kept (Kept.set5D w11 (w.heap.size + 1) D3 (.slice a10 n10 c10)) (by have := HBS.out; omega)⟩
      have J2 : Hid (RD (set5D w11.drew (w.heap.size + 1) D3 (.slice a10 n10 c10)) w.heap.size D3 (.slice a10 n10 c10) ∧ SC (set5D w11.drew (w.heap.size + 1) D3 (.slice a10 n10 c10)) bs tv vv) := Lib.hid ⟨(X11.out.below ((Below.refl _ _).drew)).kept (Kept.set5D w11.drew (w.heap.size + 1) D3 (.slice a10 n10 c10)) (by omega), (T11.out.below ((Below.refl _ _).drew)).kept (Kept.set5D w11.drew (w.heap.size + 1) D3 (.slice a10 n10 c10)) (by have := HBS.out; omega)⟩
      unfold set5D at J1 J2
      refine region_start [0, 0, 1, 7, 15] 4 (fun w' => RD w' w.heap.size D3 (.slice a10 n10 c10) ∧ SC w' bs tv vv) (by kernel_rfl) ?_
      refine stage_heads [0, 1] (by kernel_rfl) (L := #[true, true, false, false, false]) (by kernel_rfl) (f' := 3) rfl (fun _ _ _ _ h => h) (fun w o h => ⟨h.1.below ((Below.refl _ _).alloc (Nat.le_refl _) o), h.2.below ((Below.refl _ _).alloc (Nat.le_refl _) o)⟩) (.inr (by first | exact ⟨X11.out, T11.out⟩ | exact ⟨X11.out.below ((Below.refl _ _).drew), T11.out.below ((Below.refl _ _).drew)⟩)) ?_
      simp only [List.flatMap_cons, List.flatMap_nil, List.drop_succ_cons, List.drop_zero, List.take_succ_cons, List.take_zero, List.cons_append, List.nil_append, List.append_nil]
      iterate 2 (first | (refine heads_load _ (by rfl) (fun w' hs => by obtain ⟨⟨r0, r1, r2, r3, r4, _⟩, b0, b1, _, _⟩ := hs; go_simp; try with_reducible rfl) rfl ?_; simp only [Act.put, List.setIfInBounds_toArray, List.set_cons_zero, List.set_cons_succ]) | (refine heads_pure _ (by rfl) (fun w' => by go_simp; try with_reducible rfl) ?_; simp only [Act.put, List.setIfInBounds_toArray, List.set_cons_zero, List.set_cons_succ]))
      refine heads_nil ?_
      refine stage_op 2 (by kernel_rfl) (L := #[true, true, true, false, false]) (by kernel_rfl) ?_
      simp only [List.drop_succ_cons, List.drop_zero, List.take_succ_cons, List.take_zero]
      go_wp2_with fail
      refine step_post (fun _ => (by first | exact J1.out | exact J2.out)) ?_
      refine stage_op 3 (by kernel_rfl) (L := #[true, true, true, true, false]) (by kernel_rfl) ?_
      simp only [List.drop_succ_cons, List.drop_zero, List.take_succ_cons, List.take_zero]
      go_wp2_with fail
      refine step_post nofun ?_
      refine stage_heads [4] (by kernel_rfl) (L := #[true, true, true, true, true]) (by kernel_rfl) (f' := 0) rfl (fun _ _ _ _ h => h) (fun w o h => ⟨h.1.below ((Below.refl _ _).alloc (Nat.le_refl _) o), h.2.below ((Below.refl _ _).alloc (Nat.le_refl _) o)⟩) (.inl (by kernel_rfl)) ?_
      simp only [List.flatMap_cons, List.flatMap_nil, List.drop_succ_cons, List.drop_zero, List.take_succ_cons, List.take_zero, List.append_nil]
      iterate 1 (refine heads_pure _ (by rfl) (fun w' => by go_simp; try with_reducible rfl) ?_; simp only [Act.put, List.setIfInBounds_toArray, List.set_cons_zero, List.set_cons_succ])
      refine heads_nil ?_
      refine stage_done (by kernel_rfl) ?_
      generalize hwz : World.drew _ = wz
      have W1 : wz = (((((((((w11.setCell ⟨w.heap.size + 1, 0, none⟩ (.int .i64 D3.room)).setCell ⟨w.heap.size + 1, 1, none⟩ (.slice a10 n10 c10)).setCell ⟨w.heap.size + 1, 2, none⟩ (.bool D3.down)).setCell ⟨w.heap.size + 1, 3, none⟩ (.int .i64 D3.armed)).setCell ⟨w.heap.size + 1, 4, none⟩ (.int .u64 D3.steps))).setCell ⟨w.heap.size + 1 + 1, 0, none⟩ (.int .u64 tv)).setCell ⟨w.heap.size + 1 + 1, 1, none⟩ (.int .i64 vv))).drew := hwz.symm
      have KS := Kept.set5D w11 (w.heap.size + 1) D3 (.slice a10 n10 c10)
      have RFF := (Z11.out.set D3 (.slice a10 n10 c10))
      have YS := Y11.out.kept KS (by omega)
      have SS := S11.out.setD Z11.out (fun s e => by cases e) D3 (.slice a10 n10 c10)
      have RFG0 := (RFF.kept (Kept.set2 _ (w.heap.size + 1 + 1) (.int .u64 tv) (.int .i64 vv)) (by omega)).below ((Below.refl _ _).drew)
      have RFY0 := (YS.set tv vv).below ((Below.refl _ _).drew)
      have SF0 := (SS.setSC YS (.int .u64 tv) (.int .i64 vv)).below ((Below.refl _ _).drew)
      have BF0 := B11.out.trans (KS.below B11.out.size (fun k hk => by omega))
      have BF1 := (BF0.trans ((Kept.set2 _ (w.heap.size + 1 + 1) (.int .u64 tv) (.int .i64 vv)).below BF0.size (fun k hk => by omega))).drew
      unfold set5D at RFG0 RFY0 SF0 BF1
      rw [← W1] at RFG0 RFY0 SF0 BF1
      have RFG := Lib.hid RFG0
      have RFY := Lib.hid RFY0
      have SF := Lib.hid SF0
      have BF := Lib.hid BF1
      clear KS RFF YS SS RFG0 RFY0 SF0 BF0 BF1 W1 hwz
      clear r0 r1 r2 r3 r4 f0 f1 f2 f3 f4 z0 z1 z2 z3 z4 g0 g1 g2 g3 g4 y0 y1 y2 y3 hlx hlz hly
      obtain ⟨q0, q1, q2, q3, q4, _⟩ := RFG.out
      obtain ⟨u0, u1, _, _⟩ := RFY.out
      go_wp2_with fail
      refine bodyPost_ret (v := .tuple #[.agg #[.int .i64 D3.room, .slice a10 n10 c10, .bool D3.down, .int .i64 D3.armed, .int .u64 D3.steps], .agg #[.int .u64 tv, .int .i64 vv], .int .i64 0]) (by simp [results, Tryz.results20, go_sem, q0, q1, q2, q3, q4, u0, u1]) rfl ?_
      unfold ROpenPostN
      rw [HOP.out.1, HOP.out.2, HV.out, HST.out]
      exact ⟨_, rfl, RIs.new HN10.out SF.out, BF.out, FO10.out⟩
theorem ropen_any (v : Value) (D : DiskS) (w : World) (h : RIs w v D) (hg : DGood D) (hc : Calm D) (hs : D.steps + 3 ≤ 1000000000) (hb : Byt8 D.files) : Calls Tryz.prog 20 #[v] w (ROpenPost D w) := (ropen_new v D w h hg hc hs hb).mono fun _ _ ⟨v', h1, h2, h3, _⟩ => ⟨v', h1, h2, h3⟩
end Go.Proofs.YtofhccpagnkalaaGreat

/- The program's disk tells its files; contract; no conditions but the ranges. -/
namespace Go.Proofs.YtofhccpagnkalaaGreat
open Go.RowKit Go.Maps Go.Proofs.Own

theorem dfile3 : RowSlice Tryz.prog 107 110 3 64 := by
  obtain ⟨i0, hi, hz0, hz1, hz2⟩ := info_parts (show (Tryz.prog.info? 110).map (fun i => (i.zero, i.size, i.bytes)) = some (some (.agg #[.string ⟨#[]⟩, .slice none 0 0, .slice none 0 0]), 3, 64) by kernel_rfl)
  exact ⟨Tryz.underlying107, ⟨i0, _, hi, hz0, hz1, hz2, rfl⟩, by decide, by decide⟩
/-- A file as it is told: its name, its kept and its loose bytes. -/
def fiV (p : FileS × Value × Value) : List Value := [.string p.1.name, p.2.1, p.2.2]
structure FiOk (w : World) (B : Nat) (p : FileS × Value × Value) : Prop where
  k : Owns w B 5 .u8 p.2.1 (ints (p.1.all.take p.1.kept))
  l : Owns w B 5 .u8 p.2.2 (ints (p.1.all.drop p.1.kept))
theorem FiOk.kept {w w' : World} {B : Nat} {p : FileS × Value × Value} {S : Nat → Prop} (h : FiOk w B p) (hk : Kept w w' S) (h1 : ∀ b, p.2.1.ownBlock = some b → ¬ S b) (h2 : ∀ b, p.2.2.ownBlock = some b → ¬ S b) : FiOk w' B p := ⟨h.k.kept hk h1, h.l.kept hk h2⟩
theorem FiOk.below {w w' : World} {B : Nat} {p : FileS × Value × Value} (h : FiOk w B p) (hb : Below w.heap.size w w') : FiOk w' B p := ⟨h.k.below hb, h.l.below hb⟩
/-- Its blocks are not the list's own. -/
def FiA (v : Value) (p : FileS × Value × Value) : Prop := ∀ b, p.2.1.ownBlock = some b ∨ p.2.2.ownBlock = some b → v.ownBlock ≠ some b
theorem fiV_len (p : FileS × Value × Value) : (fiV p).length = 3 := rfl
theorem fiV_cells (w : World) (p : FileS × Value × Value) : ∀ j u, (fiV p)[j]? = some u → (w.alloc (.cells #[.string p.1.name, p.2.1, p.2.2] 110)).cell? ⟨w.heap.size, j, none⟩ = some u := by
  intro j u hu
  match j, hu with
  | 0, hu => obtain rfl : Value.string p.1.name = u := Option.some.inj hu; go_cell
  | 1, hu => obtain rfl : p.2.1 = u := Option.some.inj hu; go_cell
  | 2, hu => obtain rfl : p.2.2 = u := Option.some.inj hu; go_cell
theorem fiV_one {p : FileS × Value × Value} (h1 : p.2.1.oneCell' = true) (h2 : p.2.2.oneCell' = true) : ∀ u ∈ fiV p, u.oneCell' = true := by
  intro u hu
  simp only [fiV, List.mem_cons, List.not_mem_nil, or_false] at hu
  rcases hu with rfl | rfl | rfl
  · rfl
  · exact h1
  · exact h2
theorem find_at {L : List FileS} (h : Rising L) {j : Nat} (hj : j < L.length) : findFile L[j].name L = some L[j] := by
  have e : L.take j ++ L[j] :: L.drop (j + 1) = L := by rw [← List.drop_eq_getElem_cons hj, List.take_append_drop]
  generalize L[j] = f at e ⊢
  rw [← e] at h ⊢
  exact find_mid h
theorem DiskIs.byt {w : World} {db mb tb : Nat} {D : DiskS} (h : DiskIs w db mb tb D) : ∀ f ∈ D.files, (∀ c ∈ f.all, c < 256) ∧ f.all.length ≤ 2097152 := by
  obtain ⟨vals, _, hfs⟩ := h.fs
  intro f hf
  obtain ⟨_, _, _, hB, _⟩ := hfs f hf
  exact ⟨hB.lt, hB.small⟩
/-- How it stands ahead of the j-th file. -/
structure FiI (w1 : World) (L : List FileS) (j : Nat) (v : Value) (P : List (FileS × Value × Value)) (wr : World) : Prop where
  fst : P.map (·.1) = L.take j
  own : OwnR wr w1.heap.size 110 3 v (P.map fiV)
  each : ∀ p ∈ P, FiOk wr w1.heap.size p ∧ FiA v p
  bel : Below w1.heap.size w1 wr
theorem FiI.next {w1 wr wm w' : World} {L : List FileS} {j : Nat} {v v' k l : Value} {P : List (FileS × Value × Value)} (h : FiI w1 L j v P wr) (hj : j < L.length) (hb : Below wr.heap.size wr wm)
    (hk : Owns wm wr.heap.size 5 .u8 k (ints (L[j].all.take L[j].kept))) (hl : Owns wm wr.heap.size 5 .u8 l (ints (L[j].all.drop L[j].kept)))
    (ho : OwnR w' w1.heap.size 110 3 v' (P.map fiV ++ [fiV (L[j], k, l)])) (hg : wm.grownBy w' v.ownBlock) (hat : v'.ownBlock = v.ownBlock ∨ v'.ownBlock = some wm.heap.size) (hB : Below w1.heap.size wm w') : FiI w1 L (j + 1) v' (P ++ [(L[j], k, l)]) w' := by
  have hK := Kept.of_grown hg
  have hn : FiOk wm w1.heap.size (L[j], k, l) := ⟨hk.lower fun b e => Nat.le_trans h.bel.size (hk.lt b e).1, hl.lower fun b e => Nat.le_trans h.bel.size (hl.lt b e).1⟩
  have hlt : ∀ p b, FiOk wm w1.heap.size p → (p.2.1.ownBlock = some b ∨ p.2.2.ownBlock = some b) → b < wm.heap.size := fun p b hp e => e.elim (fun e => (hp.k.lt b e).2) fun e => (hp.l.lt b e).2
  have hA : FiA v (L[j], k, l) := fun b e ev => by
    have h1 := (h.own.lt b ev).2
    rcases e with e | e
    · have := (hk.lt b e).1; omega
    · have := (hl.lt b e).1; omega
  refine ⟨by rw [List.map_append, h.fst, List.take_succ_eq_append_getElem hj]; rfl, by rw [List.map_append]; exact ho, fun p hp => ?_, (h.bel.trans (hb.mono h.bel.size)).trans hB⟩
  have hall : FiOk wm w1.heap.size p ∧ FiA v p := by
    rcases List.mem_append.1 hp with hp | hp
    · exact ⟨(h.each p hp).1.below hb, (h.each p hp).2⟩
    · obtain rfl := List.mem_singleton.1 hp; exact ⟨hn, hA⟩
  refine ⟨hall.1.kept hK (fun b e e' => hall.2 b (.inl e) e') (fun b e e' => hall.2 b (.inr e) e'), fun b e ev => ?_⟩
  rcases hat with hat | hat
  · exact hall.2 b e (hat ▸ ev)
  · rw [hat] at ev
    have := hlt p b hall.1 e
    have := Option.some.inj ev
    omega

theorem FiI.drew {w1 wr : World} {L : List FileS} {j : Nat} {v : Value} {P : List (FileS × Value × Value)} (h : FiI w1 L j v P wr) : FiI w1 L j v P wr.drew :=
  have hb := (Below.refl wr.heap.size wr).drew
  ⟨h.fst, h.own.below hb, fun p hp => ⟨(h.each p hp).1.below hb, (h.each p hp).2⟩, h.bel.drew⟩

set_option maxHeartbeats 2000000 in
set_option maxRecDepth 20000 in
theorem dfiles_any (db mb tb : Nat) (D : DiskS) (w : World) (h : DiskIs w db mb tb D) (hw : DWf D) :
    Calls Tryz.prog 48 #[.pointer (some ⟨db, 0, none⟩)] w fun e w' => ∃ v, e = .returned v ∧ ∃ P : List (FileS × Value × Value), P.map (·.1) = D.files ∧ SRow w' 3 v (P.map fiV) ∧ (∀ p ∈ P, FiOk w' w.heap.size p) ∧ Below w.heap.size w w' := by
  have H := Lib.hid h
  have HW := Lib.hid hw
  have many := hw.many
  clear h hw
  go_enter Tryz.func48, Tryz.ntmps48
  go_wp2_with fail
  refine (dnames db mb tb D _ H.out HW.out).mono ?_
  rintro e w1 ⟨nv, rfl, hnv, hb1, hno⟩
  have NV := Lib.hid hnv
  have B1 := Lib.hid hb1
  have H1 := Lib.hid (H.out.below hb1)
  obtain ⟨an, cn, rfl, _⟩ := hnv
  have HNL : Hid ((List.map (fun f : FileS => f.name) D.files).length = D.files.length) := Lib.hid (List.length_map _)
  rw [HNL.out] at NV ⊢
  clear hb1 hno
  go_wp2_with fail
  go_loopw [2, 9] (fun lv y wr => ∃ j P, j ≤ D.files.length ∧ y = .int .i64 j ∧ FiI w1 D.files j lv P wr) (fun _ y _ => D.files.length - (intOf y).toNat)
  case atStart => exact ⟨0, [], Nat.zero_le _, rfl, rfl, OwnR.nil _ _ _ _, nofun, Below.refl _ _⟩
  case round =>
    obtain ⟨j, P, hj, rfl, hi⟩ := hrel
    have I := Lib.hid hi
    obtain ⟨la, lc, rfl⟩ := hi.own.shape
    by_cases hlt : j < D.files.length
    · have HNM : Hid (∃ b o, an = some ⟨b, o, none⟩ ∧ wr.cell? ⟨b, o + j, none⟩ = some (.string (D.files[j]).name)) := Lib.hid (by
        obtain ⟨a', c', e, hc⟩ := NV.out.below I.out.bel
        obtain ⟨b, o, e1, e2⟩ := hc j (by rw [List.length_map]; exact hlt)
        injection e with e3
        exact ⟨b, o, e3.trans e1, by rw [e2, List.getElem_map]⟩)
      obtain ⟨nb, no, rfl, hnc⟩ := HNM.out
      have HDr := Lib.hid (H1.out.below I.out.bel)
      have HRS : Hid (Rising D.files) := Lib.hid (by obtain ⟨_, hm, _⟩ := HDr.out.fs; exact hm.rising)
      have HEA : Hid ((D.files[j]).name.size ≤ 16 ∧ (D.files[j]).kept ≤ (D.files[j]).all.length) := Lib.hid (HW.out.each _ (List.getElem_mem hlt))
      obtain ⟨a, c, hrun, hfi⟩ := HDr.out.look (find_at HRS.out hlt) (by have := HEA.out.1; unfold maxLen; omega)
      have NX : ∀ (wm w' : World) (v' k l : Value), Below wr.heap.size wr wm → Owns wm wr.heap.size 5 .u8 k (ints ((D.files[j]).all.take (D.files[j]).kept)) → Owns wm wr.heap.size 5 .u8 l (ints ((D.files[j]).all.drop (D.files[j]).kept)) → OwnR w' w1.heap.size 110 3 v' (P.map fiV ++ [fiV (D.files[j], k, l)]) → wm.grownBy w' _ → (v'.ownBlock = _ ∨ v'.ownBlock = some wm.heap.size) → Below w1.heap.size wm w' → FiI w1 D.files (j + 1) v' (P ++ [(D.files[j], k, l)]) w' := fun wm w' v' k l x1 x2 x3 x4 x5 x6 x7 => I.out.next hlt x1 x2 x3 x4 x5 x6 x7
      have NXH := Lib.hid NX
      clear NX hi
      have c0 := HDr.out.c0
      have ldb : db < wr.heap.size := HDr.out.lt
      generalize D.files[j] = f at *
      have HB0 : Hid (Bytes wr (.slice a f.all.length c) f.all) := Lib.hid (by obtain ⟨a2, c2, e1, e2, _⟩ := hfi; cases e1; exact e2)
      obtain ⟨v1, hB1, hcut1⟩ := HB0.out.cuth Tryz.u8s f.kept HEA.out.2
      obtain ⟨v2, hB2, hcut2⟩ := HB0.out.cutl Tryz.u8s f.kept HEA.out.2
      have HL1 : Hid ((ints (f.all.take f.kept)).length ≤ 2097152) := Lib.hid (by rw [length_ints]; exact hB1.small)
      have HL2 : Hid ((ints (f.all.drop f.kept)).length ≤ 2097152) := Lib.hid (by rw [length_ints]; exact hB2.small)
      obtain ⟨n, hn⟩ : ∃ n, f.all.length = n := ⟨_, rfl⟩
      have HN := Lib.hid hn
      rw [hn] at hrun hcut1 hcut2
      have B3 : Hid (Below wr.heap.size wr (wr.alloc (.cells #[.slice a n c, .int .i64 f.kept] 87))) := Lib.hid ((Below.refl _ _).alloc (Nat.le_refl _) _)
      have HB1 := Lib.hid (hB1.alloc (.cells #[.slice a n c, .int .i64 f.kept] 87))
      have HB2 := Lib.hid (hB2.alloc (.cells #[.slice a n c, .int .i64 f.kept] 87))
      have OW := Lib.hid I.out.own
      have hlen : (P.map fiV).length = j := by
        have h1 := congrArg List.length I.out.fst
        rw [List.length_map, List.length_take] at h1
        rw [List.length_map]; omega
      have HLE : Hid ((P.map fiV).length ≤ 4294967296) := Lib.hid (by omega)
      have IB := Lib.hid I.out.bel
      rw [hlen] at OW NXH ⊢
      have j0 : (0 : Int) ≤ (j : Int) := by omega
      have j1 : (j : Int) < (D.files.length : Int) := by omega
      clear hfi hB1 hB2 hn hlen I
      go_wp2_with fail
      have X3' : ((wr.alloc (.cells #[.slice a n c, .int .i64 f.kept] 87)).cell? ⟨wr.heap.size, 0, none⟩ = some (.slice a n c) ∧ (wr.alloc (.cells #[.slice a n c, .int .i64 f.kept] 87)).cell? ⟨wr.heap.size, 1, none⟩ = some (.int .i64 f.kept)) := ⟨by go_cell, by go_cell⟩
      have L3' : wr.heap.size < (wr.alloc (.cells #[.slice a n c, .int .i64 f.kept] 87)).heap.size := by simp
      generalize World.alloc wr _ = w3 at *
      have X3 := Lib.hid X3'
      have L3 := L3'
      clear X3' L3'
      refine region_start [0, 0, 0, 4, 0, 16, 60, 124, 0, 256, 0, 1024, 3840, 8188, 16382, 32766, 65535, 131071] 128 (fun w' => w'.cell? ⟨wr.heap.size, 0, none⟩ = some (.slice a n c) ∧ w'.cell? ⟨wr.heap.size, 1, none⟩ = some (.int .i64 f.kept)) (by kernel_rfl) ?_
      refine stage_heads [0, 1, 2, 3, 4, 5, 6, 8, 9, 10, 11, 12] (by kernel_rfl) (L := #[true, true, true, true, true, true, true, false, true, true, true, true, true, false, false, false, false, false]) (by kernel_rfl) (f' := 6) rfl (fun _ _ _ _ h => h) (fun w o h => ((Stable.cell _ _).and (Stable.cell _ _)).alloc h o) (.inr (by exact X3.out)) ?_
      simp only [List.flatMap_cons, List.flatMap_nil, List.drop_succ_cons, List.drop_zero, List.take_succ_cons, List.take_zero, List.cons_append, List.nil_append, List.append_nil]
      iterate 12 (first | (refine heads_load _ (by rfl) (fun w' hs => by obtain ⟨y0, y1⟩ := hs; go_simp; try with_reducible rfl) rfl ?_; simp only [Act.put, List.setIfInBounds_toArray, List.set_cons_zero, List.set_cons_succ]) | (refine heads_pure _ (by rfl) (fun w' => by go_simp; try with_reducible rfl) ?_; simp only [Act.put, List.setIfInBounds_toArray, List.set_cons_zero, List.set_cons_succ]))
      refine heads_nil ?_
      refine stage_op 7 (by kernel_rfl) (L := #[true, true, true, true, true, true, true, true, true, true, true, true, true, false, false, false, false, false]) (by kernel_rfl) ?_
      simp only [List.drop_succ_cons, List.drop_zero, List.take_succ_cons, List.take_zero]
      go_wp2_with fail; refine (bclone _ _ _ (by exact HB1.out.rd) HL1.out).mono ?_; rintro e u4 ⟨k1, rfl, hk1, hb4⟩; have B4 : Hid (Below w3.heap.size w3 u4) := Lib.hid (by first | exact hb4 | exact ((Below.refl _ _).drew).trans hb4); have K1 : Hid (Owns u4 w3.heap.size 5 .u8 k1 (ints (f.all.take f.kept))) := Lib.hid (by exact hk1); have L4 : Hid (wr.heap.size < u4.heap.size) := Lib.hid (Nat.lt_of_lt_of_le L3 B4.out.size); have X4 : Hid (u4.cell? ⟨wr.heap.size, 0, none⟩ = some (.slice a n c) ∧ u4.cell? ⟨wr.heap.size, 1, none⟩ = some (.int .i64 f.kept)) := Lib.hid (by exact ⟨Below.at B4.out X3.out.1 L3, Below.at B4.out X3.out.2 L3⟩); obtain ⟨k1a, k1c, rfl⟩ := hk1.shape; clear hk1 hb4; go_wp2_with fail
      refine step_post (fun _ => X4.out) ?_
      refine stage_op 13 (by kernel_rfl) (L := #[true, true, true, true, true, true, true, true, true, true, true, true, true, true, false, false, false, false]) (by kernel_rfl) ?_
      simp only [List.drop_succ_cons, List.drop_zero, List.take_succ_cons, List.take_zero]
      go_wp2_with fail; refine (bclone _ _ _ (by exact HB2.out.rd.below B4.out) HL2.out).mono ?_; rintro e u5 ⟨k2, rfl, hk2, hb5⟩; have B5 : Hid (Below u4.heap.size u4 u5) := Lib.hid (by first | exact hb5 | exact ((Below.refl _ _).drew).trans hb5); have K2 : Hid (Owns u5 u4.heap.size 5 .u8 k2 (ints (f.all.drop f.kept))) := Lib.hid (by exact hk2); obtain ⟨k2a, k2c, rfl⟩ := hk2.shape; have HBS : Hid (∀ o, w1.heap.size ≤ (u5.alloc o).heap.size) := Lib.hid (fun o => by have h1 := IB.out.size; have h2 := B3.out.size; have h3 := B4.out.size; have h4 := B5.out.size; simp only [World.size_alloc]; omega); clear hk2 hb5; go_wp2_with fail
      refine step_post nofun ?_
      refine stage_heads [14] (by kernel_rfl) (L := #[true, true, true, true, true, true, true, true, true, true, true, true, true, true, true, false, false, false]) (by kernel_rfl) (f' := 3) rfl (fun _ _ _ _ h => h) (fun w o h => ((Stable.cell _ _).and (Stable.cell _ _)).alloc h o) (.inl (by kernel_rfl)) ?_
      simp only [List.flatMap_cons, List.flatMap_nil, List.drop_succ_cons, List.drop_zero, List.take_succ_cons, List.take_zero, List.append_nil]
      iterate 1 (refine heads_pure _ (by rfl) (fun w' => by go_simp; try with_reducible rfl) ?_; simp only [Act.put, List.setIfInBounds_toArray, List.set_cons_zero, List.set_cons_succ])
      refine heads_nil ?_
      refine stage_op 15 (by kernel_rfl) (L := #[true, true, true, true, true, true, true, true, true, true, true, true, true, true, true, true, false, false]) (by kernel_rfl) ?_
      simp only [List.drop_succ_cons, List.drop_zero, List.take_succ_cons, List.take_zero]
      go_wp2_with fail
      refine step_post nofun ?_
      refine stage_op 16 (by kernel_rfl) (L := #[true, true, true, true, true, true, true, true, true, true, true, true, true, true, true, true, true, false]) (by kernel_rfl) ?_
      simp only [List.drop_succ_cons, List.drop_zero, List.take_succ_cons, List.take_zero]
      refine wpList_append_row dfile3 _ _ rfl w1.heap.size _ (P.map fiV) _ (fiV (f, .slice k1a (ints (f.all.take f.kept)).length k1c, .slice k2a (ints (f.all.drop f.kept)).length k2c)) rfl rfl (by exact (OW.out.below B3.out).below ((B4.out.trans (B5.out.mono B4.out.size)).trans (Below.refl _ _)) |>.alloc _) rfl (by exact fiV_cells _ _) (fiV_one rfl rfl) (by exact HLE.out) (by exact HBS.out _) rfl ?_; intro v7 w7 ho7 hg7 hat7 hb7; have N7 := Lib.hid (NXH.out _ _ _ _ _ (((B3.out.trans (B4.out.mono B3.out.size)).trans (B5.out.mono (Nat.le_trans B3.out.size B4.out.size))).alloc (by have h2 := B3.out.size; have h3 := B4.out.size; have h4 := B5.out.size; omega) _) (((K1.out.lower fun b e => Nat.le_trans B3.out.size (K1.out.lt b e).1).below B5.out).alloc _) ((K2.out.lower fun b e => Nat.le_trans B3.out.size (Nat.le_trans B4.out.size (K2.out.lt b e).1)).alloc _) ho7 hg7 hat7 hb7); clear ho7 hg7 hat7 hb7; go_wp2_with fail
      refine step_post nofun ?_
      refine stage_heads [17] (by kernel_rfl) (L := #[true, true, true, true, true, true, true, true, true, true, true, true, true, true, true, true, true, true]) (by kernel_rfl) (f' := 0) rfl (fun _ _ _ _ h => h) (fun w o h => ((Stable.cell _ _).and (Stable.cell _ _)).alloc h o) (.inl (by kernel_rfl)) ?_
      simp only [List.flatMap_cons, List.flatMap_nil, List.drop_succ_cons, List.drop_zero, List.take_succ_cons, List.take_zero, List.append_nil]
      iterate 1 (refine heads_pure _ (by rfl) (fun w' => by go_simp; try with_reducible rfl) ?_; simp only [Act.put, List.setIfInBounds_toArray, List.set_cons_zero, List.set_cons_succ])
      refine heads_nil ?_
      refine stage_done (by kernel_rfl) ?_
      go_wp2_with fail
      go_roundw
      case rel => exact ⟨j + 1, _, by omega, by first | rfl | go_num, by first | exact N7.out | exact N7.out.drew⟩
      case measure => simp [intOf]; omega
    · have hje : j = D.files.length := by omega
      subst hje
      have hfst := I.out.fst
      rw [List.take_length] at hfst
      have j1 : ¬ (D.files.length : Int) < (D.files.length : Int) := by omega
      clear hi
      go_wp2_with fail
      go_ret
      have hsz := B1.out.size
      have HO := SRow.of_own I.out.own
      rw [List.length_map] at HO
      refine ⟨.slice la P.length lc, rfl, P, hfst, HO, fun p1 p2 p3 hp => ⟨?_, ?_⟩, B1.out.trans (I.out.bel.mono hsz)⟩
      · exact (I.out.each _ hp).1.k.lower fun b e => Nat.le_trans hsz ((I.out.each _ hp).1.k.lt b e).1
      · exact (I.out.each _ hp).1.l.lower fun b e => Nat.le_trans hsz ((I.out.each _ hp).1.l.lt b e).1
end Go.Proofs.YtofhccpagnkalaaGreat

/- The law's own list of a disk's files (curfewlaw23.Files); contract; no conditions but the ranges. -/
namespace Go.Proofs.YtofhccpagnkalaaGreat
open Go.RowKit Go.Maps Go.Proofs.Own

theorem fi_at {w : World} {B n c : Nat} {a : Option Addr} {P : List (FileS × Value × Value)} {L : List FileS} (hP : P.map (·.1) = L) (hr : SRow w 3 (.slice a n c) (P.map fiV)) (hk : ∀ p ∈ P, FiOk w B p)
    (hl : ∀ f ∈ L, ((∀ c ∈ f.all, c < 256) ∧ f.all.length ≤ 2097152) ∧ f.kept ≤ f.all.length) {j : Nat} {f : FileS} (hj : L[j]? = some f) :
    ∃ b o ka kc la lc, a = some ⟨b, o, none⟩ ∧ b < w.heap.size ∧ w.cell? ⟨b, o + j * 3, none⟩ = some (.string f.name) ∧ w.cell? ⟨b, o + j * 3 + 1, none⟩ = some (.slice ka f.kept kc) ∧ w.cell? ⟨b, o + j * 3 + 2, none⟩ = some (.slice la (f.all.length - f.kept) lc) ∧
      Bytes w (.slice ka f.kept kc) (f.all.take f.kept) ∧ Bytes w (.slice la (f.all.length - f.kept) lc) (f.all.drop f.kept) := by
  have hf := hl f (List.mem_of_getElem? hj)
  rw [← hP, List.getElem?_map] at hj
  obtain ⟨p, hp, rfl⟩ := Option.map_eq_some_iff.1 hj
  obtain ⟨hlt, he⟩ := List.getElem?_eq_some_iff.1 hp
  obtain ⟨b, o, h1, h2, h3⟩ := hr.at (j := j) (by rw [List.length_map]; exact hlt)
  rw [List.getElem_map, he] at h3
  have ho := hk p (List.mem_of_getElem? hp)
  have b1 := Bytes.of_owns ho.k (fun c hc => hf.1.1 c (List.mem_of_mem_take hc)) (by rw [List.length_take]; omega)
  have b2 := Bytes.of_owns ho.l (fun c hc => hf.1.1 c (List.mem_of_mem_drop hc)) (by rw [List.length_drop]; omega)
  obtain ⟨p1, p2, p3⟩ := p
  obtain ⟨ka, kc, e1, _⟩ := b1.shape
  obtain ⟨la, lc, e2, _⟩ := b2.shape
  rw [List.length_take, Nat.min_eq_left hf.2] at e1
  rw [List.length_drop] at e2
  simp only at e1 e2 b1 b2 h3 ⊢
  subst e1
  subst e2
  exact ⟨b, o, ka, kc, la, lc, h1, h2, by have := h3 0 _ rfl; rwa [Nat.add_zero] at this, h3 1 _ rfl, h3 2 _ rfl, b1, b2⟩

set_option maxHeartbeats 2000000 in
set_option maxRecDepth 20000 in
theorem lfiles_any (db mb tb : Nat) (D : DiskS) (w : World) (h : DiskIs w db mb tb D) (hw : DWf D) :
    Calls Tryz.prog 17 #[.pointer (some ⟨db, 0, none⟩)] w fun e w' => ∃ v, e = .returned v ∧ SRow w' 3 v (D.files.map rfV) ∧ Below w.heap.size w w' := by
  have H := Lib.hid h
  have HW := Lib.hid hw
  have HLL : Hid (∀ f ∈ D.files, ((∀ c ∈ f.all, c < 256) ∧ f.all.length ≤ 2097152) ∧ f.kept ≤ f.all.length) := Lib.hid fun f hf => ⟨h.byt f hf, (hw.each f hf).2⟩
  obtain ⟨m, hm⟩ : ∃ m, D.files.length = m := ⟨_, rfl⟩
  have HM := Lib.hid hm
  have many : m ≤ 1000 := by rw [← hm]; exact hw.many
  clear h hw hm
  go_enter Tryz.func17, Tryz.ntmps17
  go_wp2_with fail
  refine (dfiles_any db mb tb D _ H.out HW.out).mono ?_
  rintro e w1 ⟨v, rfl, P, hP, hr, hk, hb⟩
  have HP := Lib.hid hP
  have HR := Lib.hid hr
  have HK := Lib.hid hk
  have B1 := Lib.hid hb
  obtain ⟨a, c, rfl, _⟩ := hr.shape
  have hlen : (P.map fiV).length = m := by
    have := congrArg List.length hP
    rw [List.length_map] at this ⊢
    rw [this]; exact HM.out
  rw [hlen] at HR ⊢
  clear hP hr hk hb hlen
  go_wp2_with fail
  go_loopw [3, 9] (fun lv y wr => ∃ j : Nat, j ≤ m ∧ y = .int .i64 j ∧ OwnR wr w1.heap.size 96 3 lv ((D.files.take j).map rfV) ∧ Below w1.heap.size w1 wr) (fun _ y _ => m - (intOf y).toNat)
  case atStart => exact ⟨0, Nat.zero_le _, rfl, OwnR.nil _ _ _ _, Below.refl _ _⟩
  case round =>
    obtain ⟨j, hj, rfl, ho, hb⟩ := hrel
    obtain ⟨la, lc, rfl⟩ := ho.shape
    have hlen : ((D.files.take j).map rfV).length = j := by rw [List.length_map, List.length_take]; have := HM.out; omega
    have OW := Lib.hid ho
    have BR := Lib.hid hb
    rw [hlen] at OW ⊢
    clear ho hb
    by_cases hlt : j < m
    · obtain ⟨f, hf, _⟩ := getAt (l := D.files) (j := j) (by rw [HM.out]; exact hlt)
      obtain ⟨b, o, ka, kc, ra, rc, rfl, hbl, c0, c1, c2, hB1, hB2⟩ := fi_at HP.out (HR.out.below BR.out) (fun p hp => (HK.out p hp).below BR.out) HLL.out hf
      have HF := Lib.hid hf
      have HX : Hid (D.files.take (j + 1) = D.files.take j ++ [f]) := Lib.hid (by rw [List.take_add_one, hf]; rfl)
      have hcat : strN (f.all.take f.kept) ++ strN (f.all.drop f.kept) = strN f.all := by rw [strN_app, List.take_append_drop]
      have hs1 := hB1.small
      have hs2 := hB2.small
      have hcl : ((strN (f.all.take f.kept)).size : Int) + ((strN (f.all.drop f.kept)).size : Int) ≤ 9223372036854775807 := by rw [size_strN, size_strN]; omega
      generalize f.all.take f.kept = l1 at *
      generalize f.all.drop f.kept = l2 at *
      generalize f.all.length - f.kept = n2 at *
      have y1 := (hB1.alloc (.cells #[.string f.name, .slice ka f.kept kc, .slice ra n2 rc] 110)).str Tryz.underlying22 Tryz.underlying5 Tryz.underlying9
      have y2 := (hB2.alloc (.cells #[.string f.name, .slice ka f.kept kc, .slice ra n2 rc] 110)).str Tryz.underlying22 Tryz.underlying5 Tryz.underlying9
      have HOA : Hid (OwnR ((wr.alloc (.cells #[.string f.name, .slice ka f.kept kc, .slice ra n2 rc] 110)).alloc (.cells #[.string f.name, .string (strN f.all), .int .i64 f.kept] 96)) w1.heap.size 96 3 (.slice la j lc) ((D.files.take j).map rfV)) := Lib.hid ((OW.out.alloc _).alloc _)
      have hce := rfV_cells (wr.alloc (.cells #[.string f.name, .slice ka f.kept kc, .slice ra n2 rc] 110)) f
      rw [World.size_alloc] at hce
      have HCE := Lib.hid hce
      have hsz := BR.out.size
      have HBS : Hid (w1.heap.size ≤ ((wr.alloc (.cells #[.string f.name, .slice ka f.kept kc, .slice ra n2 rc] 110)).alloc (.cells #[.string f.name, .string (strN f.all), .int .i64 f.kept] 96)).heap.size) := Lib.hid (by simp only [World.size_alloc]; omega)
      have HLE : Hid (((D.files.take j).map rfV).length ≤ 4294967296) := Lib.hid (by omega)
      have j0 : (0 : Int) ≤ (j : Int) := by omega
      have j1 : (j : Int) < (m : Int) := by omega
      clear hf hB1 hB2 hs1 hs2 hlen hce
      go_wp2_with (at_builtin; refine wpList_append_row rfile3 _ _ rfl w1.heap.size _ _ _ _ rfl rfl HOA.out (rfV_len f) HCE.out (rfV_one f) HLE.out HBS.out rfl ?_; intro v2 w2 ho2 hg2 hat2 hb2; have O2 := Lib.hid ho2; have B2 := Lib.hid hb2; clear ho2 hg2 hat2 hb2)
      go_roundw
      case rel => exact ⟨j + 1, by omega, by first | rfl | go_num, by rw [HX.out, List.map_append]; exact O2.out, ((BR.out.alloc hsz _).alloc (by simp only [World.size_alloc]; omega) _).trans B2.out⟩
      case measure => simp [intOf]; omega
    · obtain rfl : j = m := by omega
      have j1 : ¬ (j : Int) < (j : Int) := by omega
      go_wp2_with fail
      go_ret
      have HO := SRow.of_own OW.out
      rw [List.take_of_length_le (by rw [HM.out]; exact Nat.le_refl _)] at HO
      exact ⟨.slice la j lc, rfl, HO, B1.out.trans (BR.out.mono B1.out.size)⟩
end Go.Proofs.YtofhccpagnkalaaGreat

/- The document's Same of two lists of files that are alike; contract; no conditions but the ranges. -/
namespace Go.Proofs.YtofhccpagnkalaaGreat
open Go.RowKit Go.Maps Go.Proofs.Own

set_option maxHeartbeats 2000000 in
set_option maxRecDepth 20000 in
theorem rsameL_any (v1 v2 : Value) (L : List FileS) (w : World) (h1 : SRow w 3 v1 (L.map rfV)) (h2 : SRow w 3 v2 (L.map rfV)) (hm : L.length ≤ 1000) :
    Calls Tryz.prog 16 #[v1, v2] w fun e w' => e = .returned (.bool true) ∧ Below w.heap.size w w' := by
  have H1 := Lib.hid h1
  have H2 := Lib.hid h2
  obtain ⟨a1, c1, rfl, _⟩ := h1.shape
  obtain ⟨a2, c2, rfl, _⟩ := h2.shape
  obtain ⟨m, hlm⟩ : ∃ m, L.length = m := ⟨_, rfl⟩
  have HL := Lib.hid hlm
  have hl2 : (L.map rfV).length = m := by rw [List.length_map]; exact hlm
  rw [hl2] at H1 H2 ⊢
  rw [hlm] at hm
  clear h1 h2 hlm hl2
  go_enter Tryz.func16, Tryz.ntmps16
  go_wp2_with fail
  go_loopw [5] (fun y wr => ∃ j : Nat, j ≤ m ∧ y = .int .i64 j ∧ Below w.heap.size w wr) (fun y _ => m - (intOf y).toNat)
  case atStart => exact ⟨0, Nat.zero_le _, rfl, Below.refl _ _⟩
  case round =>
    obtain ⟨j, hj, rfl, hb⟩ := hrel
    have BR := Lib.hid hb
    clear hb
    by_cases hlt : j < m
    · obtain ⟨f, hf, _⟩ := getAt (l := L) (j := j) (by rw [HL.out]; exact hlt)
      obtain ⟨b, o, rfl, hbl, c0, c1, c2⟩ := (H1.out.below BR.out).file hf
      obtain ⟨b', o', rfl, hbl', d0, d1, d2⟩ := (H2.out.below BR.out).file hf
      have e1 : (f.name.toList == f.name.toList) = true := by simp
      have e2 : ((strN f.all).toList == (strN f.all).toList) = true := by simp
      have j0 : (0 : Int) ≤ (j : Int) := by omega
      have j1 : (j : Int) < (m : Int) := by omega
      clear hf hbl hbl'
      go_wp2_with fail
      go_quiet (fail)
      go_wp2_with fail
      go_roundw
      case rel => exact ⟨j + 1, by omega, by first | rfl | go_num, below_drewN BR.out _⟩
      case measure => simp [intOf]; omega
    · obtain rfl : j = m := by omega
      have j1 : ¬ (j : Int) < (j : Int) := by omega
      go_wp2_with fail
      go_ret
      exact ⟨rfl, BR.out⟩
end Go.Proofs.YtofhccpagnkalaaGreat
