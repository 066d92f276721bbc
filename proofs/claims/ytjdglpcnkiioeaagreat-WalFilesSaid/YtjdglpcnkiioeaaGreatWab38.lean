/- Several texts in one: Wyg, WkeH, Wyi, WfiH, Wyj, WnoH. What each proves stands ahead of it; together they serve wkeeps_law_holds,wfiles_law_holds,wnobody_law_holds. No conditions but those stated. -/
import Derived.Deep.CutBlock
import Derived.Deep.DeepCutAuto
import Derived.Test.YtjdglpcnkiioeaaGreatWab29
import Derived.Test.YtjdglpcnkiioeaaGreatWab37
import Derived.Test.YtjdglpcnkiioeaaGreatWab18
/- The law WalKeeps, walked; no conditions. -/
namespace Go.Proofs.YtjdglpcnkiioeaaGreat
open Go.RowKit Go.Maps Go.Proofs.Own Go.Shelf

set_option maxHeartbeats 4000000 in
set_option maxRecDepth 20000 in
theorem wkeeps_big (rs : List WOp) (la ta : Option Addr) (n lc m tc k : Nat) (w : World) (hl : WOpsIs w (.slice la n lc) rs) (h : ¬ (wLight rs = true ∧ m ≤ 40)) : Calls Tryz.prog 5 #[.slice la n lc, .int .u8 k, .slice ta m tc] w fun e w' => e = .returned (.bool true) ∧ Below w.heap.size w w' := by
  have HL := Lib.hid hl
  clear hl
  cases hc : wLight rs with
  | true =>
    have b2 : decide ((40 : Int) < (m : Int)) = true := decide_eq_true (by have : ¬ m ≤ 40 := fun q => h ⟨hc, q⟩; omega)
    have HC := Lib.hid hc
    clear h hc
    go_enter Tryz.func5, Tryz.ntmps5
    go_wp2_with fail
    refine (wlight_any _ rs _ HL.out).mono ?_
    rintro e w1 ⟨rfl, hb1⟩
    rw [HC.out]
    have B1 := Lib.hid hb1
    clear hb1
    go_wp2_with fail
    refine (wlives_any _).mono ?_
    rintro e w2 ⟨rfl, hb2⟩
    have B2 : Hid (Below w.heap.size w w2) := Lib.hid (B1.out.trans (hb2.mono B1.out.size))
    clear hb2
    go_wp2_with fail
    go_ret
    exact ⟨rfl, B2.out⟩
  | false =>
    have HC := Lib.hid hc
    clear h hc
    go_enter Tryz.func5, Tryz.ntmps5
    go_wp2_with fail
    refine (wlight_any _ rs _ HL.out).mono ?_
    rintro e w1 ⟨rfl, hb1⟩
    rw [HC.out]
    have B1 := Lib.hid hb1
    clear hb1
    go_wp2_with fail
    refine (wlives_any _).mono ?_
    rintro e w2 ⟨rfl, hb2⟩
    have B2 : Hid (Below w.heap.size w w2) := Lib.hid (B1.out.trans (hb2.mono B1.out.size))
    clear hb2
    go_wp2_with fail
    go_ret
    exact ⟨rfl, B2.out⟩
/-- What a light call's entries are. -/
theorem light_ents {w : World} {rs : List WOp} {r : WOp} (hl : wLight rs = true) (hr : r ∈ rs) (ho : WOpOk w r) : ∃ ml : EntR, EntsIs w r.lv ml ∧ Few ml ∧ ml.length = r.l.length := by
  have h1 : wLight1 r = true := by
    unfold wLight at hl
    rw [Bool.and_eq_true, List.all_eq_true] at hl
    exact hl.1 r hr
  unfold wLight1 at h1
  rw [Bool.and_eq_true, List.all_eq_true] at h1
  obtain ⟨h2, h3⟩ := h1
  have h4 := of_decide_eq_true h2
  obtain ⟨ml, h5, h6, h7⟩ := ho.2.1.ents fun e he => of_decide_eq_true (h3 e he)
  exact ⟨ml, h5, ⟨by omega, h7⟩, h6⟩
theorem light_few {rs : List WOp} (hl : wLight rs = true) : rs.length ≤ 60 := by
  unfold wLight at hl
  rw [Bool.and_eq_true] at hl
  exact of_decide_eq_true hl.2
set_option maxHeartbeats 8000000 in
set_option maxRecDepth 20000 in
theorem wkeeps_small (rs : List WOp) (ts : List (Nat × Nat)) (la ta : Option Addr) (lc tc k : Nat) (w : World) (hl : WOpsIs w (.slice la rs.length lc) rs) (ht : TearsIs w (.slice ta ts.length tc) ts) (hk : k < 256) (h1 : wLight rs = true) (h2 : ts.length ≤ 40) :
    Calls Tryz.prog 5 #[.slice la rs.length lc, .int .u8 k, .slice ta ts.length tc] w fun e w' => e = .returned (.bool true) ∧ Below w.heap.size w w' := by
  have HL := Lib.hid hl
  have HT := Lib.hid ht
  have HC := Lib.hid h1
  have HFEW := Lib.hid (light_few h1)
  obtain ⟨n, hn⟩ : ∃ n, rs.length = n := ⟨_, rfl⟩
  obtain ⟨m, hm⟩ : ∃ m, ts.length = m := ⟨_, rfl⟩
  have b2 : decide ((40 : Int) < (m : Int)) = false := decide_eq_false (by omega)
  have HN := Lib.hid hn
  have HM := Lib.hid hm
  rw [hn] at HL HFEW ⊢
  rw [hm] at HT ⊢
  have HK := Lib.hid hk
  clear hl ht h1 h2 hn hm hk
  go_enter Tryz.func5, Tryz.ntmps5
  go_wp2_with fail
  refine (wlight_any _ rs _ HL.out).mono ?_
  rintro e w0 ⟨rfl, hb0⟩
  rw [HC.out]
  have B0 := Lib.hid hb0
  clear hb0
  go_wp2_with fail
  refine (dnew 1048576 w0 (by decide) (by decide)).mono ?_
  rintro e w1 ⟨db, mb, tb, rfl, hd1, hb1, h1, h2, h3⟩
  have D1 : Hid (DiskIs w1 db mb tb dMaxW) := Lib.hid hd1
  have B1 : Hid (Below w.heap.size w w1) := Lib.hid (B0.out.trans (hb1.mono B0.out.size))
  have HO : Hid (∀ k, Own3 db mb tb k → w.heap.size ≤ k) := Lib.hid (by have := B0.out.size; rintro k (rfl | rfl | rfl) <;> omega)
  clear hd1 hb1 h1 h2 h3
  go_wp2_with fail
  have WO : Calls Tryz.prog 19 #[.pointer (some ⟨db, 0, none⟩), .int .u64 0] w1 (OpenWP db mb tb (openW dMaxW 0) w1) := wopen_late D1.out dMaxW_good (by decide) 0 (by decide) (by decide)
  rw [dMaxW_open] at WO
  refine WO.mono ?_
  clear WO
  rintro e w2 ⟨_, hk2, _, hs2⟩
  obtain ⟨lb, ev, fv, el, rfl, hl2, hlb, hev, hfv⟩ := hs2 lX rfl
  have LG : Hid (LogAt w2 lb db mb tb ev fv el dMaxW lX) := Lib.hid hl2
  have B2 : Hid (Below w.heap.size w w2) := Lib.hid (B1.out.trans (hk2.below B1.out.size HO.out))
  have HGE : Hid (∀ b, LOwn lb db mb tb ev fv b → w.heap.size ≤ b) := Lib.hid (by
    have hz := B1.out.size
    rintro b (hq | hq | hq | hq)
    · omega
    · exact HO.out b hq
    · have := hev b hq; omega
    · have := hfv b hq; omega)
  clear hk2 hs2 hl2 hlb hev hfv
  have wk : IntKind.i64.wrap (k : Int) = (k : Int) := by simp only [IntKind.wrap_i64]; have := HK.out; omega
  go_wp2_with fail
  refine (darm_any db mb tb dMaxW k w2 LG.out.disk).mono ?_
  rintro e w3 ⟨rfl, hd3, hk3⟩
  have HA : Hid (armD dMaxW k = (⟨1048576, [], false, k, 0⟩, 0)) := Lib.hid (by unfold armD; rw [if_neg (by decide), if_neg (by omega)]; rfl)
  rw [HA.out] at hd3 ⊢
  have GA : Hid (DGood ⟨1048576, [], false, k, 0⟩) := Lib.hid (by have h := dMaxW_good.arm k (by have := HK.out; omega); rw [HA.out] at h; exact h)
  have L3 := Lib.hid (LG.out.disked hd3 hk3)
  have B3 : Hid (Below w.heap.size w w3) := Lib.hid (B2.out.trans (hk3.below B2.out.size HO.out))
  have I3 : Hid (CutI ⟨1048576, [], false, k, 0⟩ lX) := Lib.hid ⟨⟨[], (open_none (D := dMaxW) (b := 0) ⟨rfl, rfl⟩ (by decide) rfl).2.same rfl⟩, rfl, List.Pairwise.nil, GA.out⟩
  have TA : Hid (ts = [] ∨ ∀ b, (Value.slice ta m tc).ownBlock = some b → ¬ Own3 db mb tb b) := Lib.hid (by
    rcases ts with _ | ⟨x, ts⟩
    · exact .inl rfl
    · obtain ⟨_, _, b', o, rfl, h, _⟩ := HT.out.head
      refine .inr fun b hb e => ?_
      obtain rfl : b' = b := Option.some.inj hb
      have := HO.out _ e
      have := World.block_lt_of_cell? _ _ h
      simp only at this
      omega)
  clear D1 B1 LG B2 HA GA hd3 hk3 wk
  go_upto_block 0 with fail
  go_cut [10] (fun lv wz => ∃ (D : DiskS) (L : WalS) (ev fv : Value) (el ll : EntR) (xa : Option Addr) (xn xc : Nat), lv = .slice xa xn xc ∧ LogAt wz lb db mb tb ev fv el D L ∧ TailP D L (ll.map (·.1)) ∧ SRow wz 3 (.slice xa xn xc) (entRows ll) ∧ DatasN wz (Own3 db mb tb) ll ∧ ll.length ≤ 100 ∧ Below w.heap.size w wz)
  case first =>
    go_wp2_with fail
    go_loopw [10, 48] (fun lv i wr => ∃ (j : Nat) (D : DiskS) (L : WalS) (ev fv : Value) (el : EntR), lv = .slice none 0 0 ∧ i = .int .i64 j ∧ j ≤ n ∧ D.steps ≤ 150 * j ∧ CutI D L ∧ LogAt wr lb db mb tb ev fv el D L ∧ (∀ b, LOwn lb db mb tb ev fv b → w.heap.size ≤ b) ∧ Below w.heap.size w wr) (fun _ i _ => n - (intOf i).toNat)
    case atStart => exact ⟨0, _, lX, ev, fv, el, rfl, rfl, by omega, by show (0 : Int) ≤ _; omega, I3.out, L3.out, HGE.out, B3.out⟩
    case round =>
      clear I3 L3 HGE B3
      obtain ⟨j, D, L, ev, fv, el, rfl, rfl, hj, hst, hi, hl, hge, hb⟩ := hrel
      have SZ := Lib.hid hst
      have IR := Lib.hid hi
      have LR := Lib.hid hl
      have GE := Lib.hid hge
      have BR := Lib.hid hb
      clear hst hi hl hge hb
      by_cases hlt : j < n
      · obtain ⟨r, hr, hm⟩ := getAtW (l := rs) (j := j) (by rw [HN.out]; exact hlt)
        obtain ⟨b, o, rfl, hbl, c0, c1, c2, c3, c4⟩ := (HL.out.below BR.out).at hr
        have hok := HL.out.2.1 r hm
        obtain ⟨ml, hml, hfw, _⟩ := light_ents HC.out hm hok
        obtain ⟨rk, rn, ra, rlv, rl, rtv, rts⟩ := r
        simp only at c0 c1 c2 c3 c4 hml hok
        obtain ⟨ea, ec, hev, _⟩ := hml.1.shape
        obtain ⟨ta', tc', htv, _⟩ := hok.2.2.1.shape
        simp only at htv
        subst hev htv
        obtain ⟨tn', htn⟩ : ∃ tn', (rts.map tearV).length = tn' := ⟨_, rfl⟩
        obtain ⟨en, hen⟩ : ∃ en, (entRows ml).length = en := ⟨_, rfl⟩
        rw [htn] at c4
        rw [hen] at c3 hml
        have HRA := Lib.hid hok.1.2
        have HML := Lib.hid hml
        have HFW := Lib.hid hfw
        have HJN := Lib.hid hlt
        clear hr hm hok hml hfw htn hen
        go_wp2_with fail
        generalize hwx : World.alloc wr _ = wx
        have AX : Hid (Below wr.heap.size wr wx) := Lib.hid (by subst hwx; exact (Below.refl _ _).alloc (Nat.le_refl _) _)
        have CX : Hid (wx.cell? ⟨wr.heap.size, 0, none⟩ = some (.int .i64 rk) ∧ wx.cell? ⟨wr.heap.size, 3, none⟩ = some (.slice ea en ec)) := Lib.hid (by subst hwx; exact ⟨by go_cell, by go_cell⟩)
        clear hwx c0 c1 c2 c3 c4 hbl hlt
        have LX := Lib.hid (LR.out.below AX.out)
        have BX : Hid (Below w.heap.size w wx) := Lib.hid (BR.out.trans (AX.out.mono BR.out.size))
        have HBX : Hid (¬ LOwn lb db mb tb ev fv wr.heap.size) := Lib.hid (fun e => by have := LR.out.own_lt e; omega)
        have HM : Hid (ArgE wx (LOwn lb db mb tb ev fv) (.slice ea en ec) ml) := Lib.hid (HML.out.arg BX.out GE.out)
        generalize wr.heap.size = bo at *
        have WC := wcall LX.out IR.out (by have := SZ.out; have := HFEW.out; omega) ⟨rk, rn, ra, .slice ea en ec, rl, .slice ta' tn' tc', rts⟩ HRA.out HM.out HFW.out
        simp only at WC
        refine WC.mono ?_
        clear WC
        rintro e wn ⟨rfl, evn, fvn, eln, hl4, hs4⟩
        have CL := call_law IR.out.inv.choose_spec IR.out.up IR.out.ris rk ra (ml.map (·.1))
        have RC := reach_call D L rk ra (ml.map (·.1))
        have RG := RC.good IR.out.good (by have := IR.out.inv.choose_spec.few IR.out.good; have := SZ.out; have := HFEW.out; omega)
        have RR := RC.rising IR.out.ris
        have HGN := Lib.hid RG.1
        have HRN := Lib.hid RR
        have HSN : Hid ((callW rk ra (ml.map (·.1)) D L).1.steps ≤ 150 * ((j + 1 : Nat) : Int)) := Lib.hid (by have h1 := RG.2; have h2 := SZ.out; have h3 := IR.out.inv.choose_spec.few IR.out.good; omega)
        obtain ⟨r4, hr4⟩ : ∃ r4, callW rk ra (ml.map (·.1)) D L = r4 := ⟨_, rfl⟩
        rw [hr4] at hl4 CL HGN HRN HSN ⊢
        obtain ⟨DN, LN, en4⟩ := r4
        simp only at hl4 HGN HRN HSN
        have LG := Lib.hid hl4
        have HCL := Lib.hid CL
        have GEN : Hid (∀ b, LOwn lb db mb tb evn fvn b → w.heap.size ≤ b) := Lib.hid (by
          have hz := BX.out.size
          rintro b (hq | hq | hq | hq)
          · exact GE.out b (.inl hq)
          · exact GE.out b (.inr (.inl hq))
          · rcases hs4.2.1 b hq with e | e
            · exact GE.out b (.inr (.inr (.inl e)))
            · omega
          · rcases hs4.2.2 b hq with e | e
            · exact GE.out b (.inr (.inr (.inr e)))
            · omega)
        have BN : Hid (Below w.heap.size w wn) := Lib.hid (BX.out.trans (hs4.1.below BX.out.size GE.out))
        have x0 := hs4.1.cell CX.out.1 HBX.out
        have x3 := hs4.1.cell CX.out.2 HBX.out
        have MN := Lib.hid (HML.out.arg BN.out (S := Own3 db mb tb) HO.out)
        clear hl4 CL RC RG RR hs4 LX BX HM AX CX
        go_wp2_with fail
        refine (ddown_any db mb tb DN wn LG.out.disk).mono ?_
        rintro e y1 ⟨rfl, rfl⟩
        by_cases hd : DN.down = true
        · rw [hd]
          have TP0 : Hid (TailP DN LN (lostW rk (ml.map (·.1)))) := Lib.hid (by
            rcases HCL.out with h | h
            · have h2 : DN.down = false := h.1
              rw [hd] at h2
              cases h2
            · exact tail_dn h HGN.out HRN.out (by have := HSN.out; have := HFEW.out; have := HJN.out; show DN.steps ≤ 20000; omega))
          clear hd
          by_cases h1 : rk < 1
          · have z1 : decide (rk < 1) = true := decide_eq_true h1
            have TP : Hid (TailP DN LN (ml.map (·.1))) := Lib.hid (by have h := TP0.out; unfold lostW at h; rw [if_pos (.inl h1)] at h; exact h)
            clear h1 TP0
            go_wp2_with fail
            go_meet
            exact ⟨DN, LN, evn, fvn, eln, ml, ea, en, ec, rfl, LG.out, TP.out, MN.out.row, MN.out.dat, HFW.out.many, BN.out⟩
          · have z1 : decide (rk < 1) = false := decide_eq_false h1
            by_cases h2 : 4 < rk
            · have z2 : decide (4 < rk) = true := decide_eq_true h2
              have TP : Hid (TailP DN LN (ml.map (·.1))) := Lib.hid (by have h := TP0.out; unfold lostW at h; rw [if_pos (.inr h2)] at h; exact h)
              clear h1 h2 TP0
              go_wp2_with fail
              go_meet
              exact ⟨DN, LN, evn, fvn, eln, ml, ea, en, ec, rfl, LG.out, TP.out, MN.out.row, MN.out.dat, HFW.out.many, BN.out⟩
            · have z2 : decide (4 < rk) = false := decide_eq_false h2
              have TP : Hid (TailP DN LN []) := Lib.hid (by have h := TP0.out; unfold lostW at h; rw [if_neg (fun q => q.elim h1 h2)] at h; exact h)
              clear h1 h2 TP0
              go_wp2_with fail
              go_meet
              exact ⟨DN, LN, evn, fvn, eln, [], none, 0, 0, rfl, LG.out, TP.out, SRow.nil _ _, nofun, by decide, BN.out⟩
        · have hdf : DN.down = false := by simpa using hd
          rw [hdf]
          have IN : Hid (CutI DN LN) := Lib.hid (by
            rcases HCL.out with h | h
            · exact ⟨h.2.2, hdf, HRN.out, HGN.out⟩
            · exact absurd h.1 hd)
          clear hd hdf x0 x3
          have hj60 : (j : Int) < 60 := by have := HJN.out; have := HFEW.out; omega
          go_wp2_with fail
          go_roundw
          case rel => exact ⟨j + 1, DN, LN, evn, fvn, eln, rfl, by first | rfl | go_num, by have := HJN.out; omega, HSN.out, IN.out, LG.out, GEN.out, BN.out⟩
          all_goals (show n - ((j : Int) + 1).toNat < n - ((j : Int)).toNat; have := HJN.out; omega)
      · have TP : Hid (TailP D L []) := Lib.hid (tail_up IR.out (by have := SZ.out; have := HFEW.out; omega))
        go_wp2_with fail
        go_meet
        exact ⟨D, L, ev, fv, el, [], none, 0, 0, rfl, LR.out, TP.out, SRow.nil _ _, nofun, by decide, BR.out⟩
  case rest =>
    clear I3 L3 HGE B3
    obtain ⟨D, L, ev, fv, el, ll, xa, xn, xc, rfl, hl, htp, hxl, hdl, hln, hb⟩ := hcut
    have LC := Lib.hid hl
    have TP := Lib.hid htp
    have XL := Lib.hid hxl
    have DLL := Lib.hid hdl
    have HLN := Lib.hid hln
    have BC := Lib.hid hb
    obtain ⟨bz, hbz⟩ : ∃ bz : Int, (L.b : Int) = bz := ⟨_, rfl⟩
    have HBZ := Lib.hid hbz
    clear hl htp hxl hdl hln hb hbz
    obtain ⟨fz, hfz⟩ : ∃ fz : Int, (L.b : Int) + 1 = fz := ⟨_, rfl⟩
    have HBA := Lib.hid hfz
    obtain ⟨gz, hgz⟩ : ∃ gz : Int, (L.b : Int) + L.safe = gz := ⟨_, rfl⟩
    have HSA := Lib.hid hgz
    have hb59 : (L.b : Int) < 576460752303423488 := by have := TP.out.b; unfold H59 at this; omega
    have hs17 : (L.safe : Int) ≤ 131072 := by have := TP.out.safe; omega
    have hbz2 := HBZ.out
    have wb1 : IntKind.u64.wrap (fz - 1) = bz := by rw [wrap_u64]; omega
    have wb2 : IntKind.u64.wrap (gz + 1) = gz + 1 := by rw [wrap_u64]; omega
    have wb3 : IntKind.u64.wrap (gz + 1 - fz) = (L.safe : Int) := by rw [wrap_u64]; omega
    have wb4 : IntKind.i64.wrap (L.safe : Int) = (L.safe : Int) := by simp only [IntKind.wrap_i64]; omega
    have wb5 : wrap64 (L.safe : Int) = (L.safe : Int) := by unfold wrap64; omega
    clear hb59 hs17 hbz2
    clear hfz hgz
    go_wp2_with fail
    refine (wfirst LC.out (by have := TP.out.b; unfold H59 at this; omega)).mono ?_
    rintro e y1 ⟨rfl, rfl⟩
    rw [HBA.out]
    go_wp2_with fail
    refine (wsafe LC.out (by have hb := TP.out.b; have hs := TP.out.safe; unfold H59 at hb; omega)).mono ?_
    rintro e w1 ⟨rfl, hb1⟩
    rw [HSA.out]
    have L1 := Lib.hid (LC.out.below hb1)
    have B1 : Hid (Below wc.heap.size wc w1) := Lib.hid hb1
    clear hb1
    go_wp2_with fail
    refine (wfirst L1.out (by have := TP.out.b; unfold H59 at this; omega)).mono ?_
    rintro e y1 ⟨rfl, rfl⟩
    rw [HBA.out]
    go_wp2_with fail
    refine (wfrom L1.out TP.out.last (by have := TP.out.few; omega) 0 (by decide) 1048576 (by decide)).mono ?_
    rintro e w2 ⟨v2, l2, rfl, ho2, hm2, hd2, hn2, hb2⟩
    have B2 : Hid (Below wc.heap.size wc w2) := Lib.hid (B1.out.trans (hb2.mono B1.out.size))
    have D2 := Lib.hid (L1.out.disk.below hb2)
    have O2 := Lib.hid ho2
    have HM2 : Hid (l2.map (·.1) = L.es) := Lib.hid (by
      rw [hm2]
      unfold fromW
      rw [show max 0 (L.b + 1) - (L.b + 1) = 0 by omega, List.drop_zero, List.take_of_length_le]
      have := TP.out.few
      show L.es.length ≤ 1048576
      omega)
    have HD2 : Hid (Datas w2 (fun k => k < wc.heap.size) l2) := Lib.hid (hd2.mono fun p hp b hb h => Nat.lt_of_lt_of_le h B1.out.size)
    have HN2 : Hid (∀ b, v2.ownBlock = some b → wc.heap.size ≤ b) := Lib.hid (fun b hb => Nat.le_trans B1.out.size (hn2 b hb))
    have XL2 := Lib.hid (XL.out.below B2.out)
    have DL2 : Hid (DatasN w2 (Own3 db mb tb) ll) := Lib.hid (DLL.out.below B2.out)
    have HLL : Hid ((entRows l2).length + (entRows ll).length ≤ 4294967296) := Lib.hid (by
      rw [entRows_length, entRows_length]
      have h1 := congrArg List.length HM2.out
      rw [List.length_map] at h1
      have := TP.out.few
      have := HLN.out
      omega)
    obtain ⟨a2, n2, c2, rfl⟩ := ownl_slice ho2
    clear ho2 hm2 hd2 hn2 hb2
    go_wp2_with (at_builtin; refine wpList_append_ownl entry3 _ _ rfl (.slice a2 n2 c2) (.slice xa xn xc) (entRows l2) (entRows ll) rfl rfl O2.out XL2.out (entRows_each ll) DL2.out.loose.oneCell (entRows_no8 DL2.out.loose) entry8 HLL.out rfl ?_; intro v3 w3 ho3 hg3 ha3; have O3 := Lib.hid ho3; have G3 := Lib.hid (Kept.of_grown hg3); have A3 := Lib.hid ha3; obtain ⟨a3, n3, c3, rfl⟩ := ownl_slice ho3; clear ho3 hg3 ha3)
    have NB2 : Hid (NoB w2 (fun k => (Value.slice a2 n2 c2).ownBlock = some k)) := Lib.hid (noB_own O2.out)
    have D3 : Hid (DiskIs w3 db mb tb D) := Lib.hid (D2.out.keptN G3.out (fun k h1 h2 => by have := HN2.out k h2; have := LC.out.disk.lt3 k h1; omega) NB2.out)
    have E3 : Hid (DatasN w3 (Own3 db mb tb) (l2 ++ ll)) := Lib.hid (((HD2.out.mono fun p hp b _ h => LC.out.disk.lt3 b h).toN.keptN G3.out NB2.out).app (DL2.out.keptN G3.out NB2.out))
    have N3 : Hid (∀ b, (Value.slice a3 n3 c3).ownBlock = some b → ¬ Own3 db mb tb b) := Lib.hid (fun b hb h => by
      have h1 := LC.out.disk.lt3 b h
      rcases A3.out with h2 | h2 <;> rw [hb] at h2
      · have := HN2.out b h2.symm
        omega
      · have h3 := Option.some.inj h2
        have := B2.out.size
        omega)
    have B3 : Hid (Below w.heap.size w w3) := Lib.hid ((BC.out.trans (B2.out.mono BC.out.size)).trans (G3.out.below (Nat.le_trans BC.out.size B2.out.size) fun k h => Nat.le_trans BC.out.size (HN2.out k h)))
    clear L1 B1 B2 D2 O2 HD2 HN2 XL2 DL2 HLL NB2 G3 A3
    refine (dcrash_any db mb tb D _ ts w3 D3.out TP.out.good (HT.out.below B3.out) TA.out).mono ?_
    rintro e w4 ⟨rfl, hd4, hk4⟩
    have D4 := Lib.hid hd4
    have O4 := Lib.hid (O3.out.kept hk4 N3.out)
    have E4 := Lib.hid (E3.out.kept hk4 fun k h => h)
    have B4 : Hid (Below w.heap.size w w4) := Lib.hid (B3.out.trans (hk4.below B3.out.size HO.out))
    clear hd4 hk4 D3 O3 E3
    go_wp2_with fail
    refine (dboot_any db mb tb _ w4 D4.out).mono ?_
    rintro e w5 ⟨rfl, hd5, hk5⟩
    have D5 : Hid (DiskIs w5 db mb tb (bootD (crashD D ts))) := Lib.hid hd5
    have O5 := Lib.hid (O4.out.kept hk5 N3.out)
    have E5 := Lib.hid (E4.out.kept hk5 fun k h => h)
    have B5 : Hid (Below w.heap.size w w5) := Lib.hid (B4.out.trans (hk5.below B4.out.size HO.out))
    have G5 : Hid (DGood (bootD (crashD D ts))) := Lib.hid (TP.out.good.crash ts).boot
    have Z5 : Hid ((bootD (crashD D ts)).steps + 1000 ≤ 1000000000) := Lib.hid (by have := TP.out.st; show D.steps + 1000 ≤ _; omega)
    have U5 : Hid (¬ (bootD (crashD D ts)).down = true) := Lib.hid (by show ¬ false = true; decide)
    have OP := TP.out.opened ts
    clear hd5 hk5 D4 O4 E4
    generalize bootD (crashD D ts) = D' at *
    obtain ⟨Dz, Lz, Pz, p1, p2, p3, p4, p5, p6, j, p7, p8, p9⟩ := OP
    have HP1 := Lib.hid p1
    have HP4 := Lib.hid p4
    have HP5 := Lib.hid p5
    have HP6 := Lib.hid p6
    have HP7 := Lib.hid p7
    have HP8 := Lib.hid p8
    have HP9 := Lib.hid p9
    clear p1 p2 p3 p4 p5 p6 p7 p8 p9
    go_wp2_with fail
    have WO := wopen_late D5.out G5.out Z5.out L.b U5.out (by have := TP.out.b; omega)
    rw [HBZ.out] at WO
    refine WO.mono ?_
    clear WO
    rintro e w6 ⟨hd6, hk6, _, hs6⟩
    rw [HP1.out] at hd6 hs6
    obtain ⟨lb6, ev6, fv6, el6, rfl, hl6, hge6, _, _⟩ := hs6 Lz rfl
    have L6 := Lib.hid hl6
    have O6 := Lib.hid (O5.out.kept hk6 N3.out)
    have E6 := Lib.hid (E5.out.kept hk6 fun k h => h)
    have B6 : Hid (Below w.heap.size w w6) := Lib.hid (B5.out.trans (hk6.below B5.out.size HO.out))
    have HLZ : Hid (Lz.last ≤ H59 ∧ Lz.es.length ≤ 1048576) := Lib.hid ⟨HP4.out.hi, by
      have h1 := congrArg List.length HP9.out
      rw [List.length_take, List.length_append, List.length_map] at h1
      have := TP.out.few
      have := HLN.out
      omega⟩
    clear hd6 hk6 hs6 hl6 hge6 D5 O5 E5
    go_wp2_with fail
    refine (wfrom L6.out HLZ.out.1 (by have := HLZ.out.2; omega) 0 (by decide) 1048576 (by decide)).mono ?_
    rintro e w7 ⟨v7, l7, rfl, ho7, hm7, hd7, hn7, hb7⟩
    have L7 := Lib.hid (L6.out.below hb7)
    have O7 := Lib.hid ho7
    have HM7 : Hid (l7.map (·.1) = Lz.es) := Lib.hid (by
      rw [hm7]
      unfold fromW
      rw [show max 0 (Lz.b + 1) - (Lz.b + 1) = 0 by omega, List.drop_zero, List.take_of_length_le]
      have := HLZ.out.2
      show Lz.es.length ≤ 1048576
      omega)
    have HD7 : Hid (Datas w7 (fun _ => False) l7) := Lib.hid (hd7.mono fun _ _ _ _ h => h.elim)
    have O37 := Lib.hid (O6.out.below hb7)
    have E37 : Hid (Datas w7 (fun _ => False) (l2 ++ ll)) := Lib.hid (E6.out.below hb7).loose
    have B7 : Hid (Below w.heap.size w w7) := Lib.hid (B6.out.trans (hb7.mono B6.out.size))
    have H71 : Hid (l7.length = j) := Lib.hid (by
      have h1 := congrArg List.length HM7.out
      rw [HP9.out, List.length_take, List.length_map] at h1
      have := HP8.out
      omega)
    have H73 : Hid ((l2 ++ ll).length = (L.es ++ ll.map (·.1)).length) := Lib.hid (by
      have h1 := congrArg List.length HM2.out
      rw [List.length_map] at h1
      rw [List.length_append, List.length_append, List.length_map, h1])
    obtain ⟨a7, c7, rfl, hc7⟩ := ho7.shape
    rw [entRows_length, H71.out] at O7 hc7 ⊢
    obtain ⟨k3, hk3⟩ : ∃ k3, (l2 ++ ll).length = k3 := ⟨_, rfl⟩
    obtain ⟨a3', c3', he3, hc3'⟩ := O37.out.shape
    rw [← entRows_app, entRows_length, hk3] at he3
    obtain ⟨rfl, rfl, rfl⟩ := Value.slice.inj he3
    have HK3 := Lib.hid hk3
    obtain ⟨vc, hsc, _, hcut⟩ := SRow.cuth (P := Tryz.prog) (t := 23) Tryz.underlying23 (by kernel_rfl) O37.out.srow j (by rw [← entRows_app, entRows_length, H73.out]; exact HP8.out)
    have hj3 : j ≤ n3 := by rw [← hk3, H73.out]; exact HP8.out
    have hrc : (entRows l2 ++ entRows ll).take j = entRows ((l2 ++ ll).take j) := by rw [← entRows_app]; unfold entRows; rw [List.map_take]
    rw [hrc] at hsc
    have SC := Lib.hid hsc
    have EC : Hid (Datas w7 (fun _ => False) ((l2 ++ ll).take j)) := Lib.hid (E37.out.sub fun p hp => List.mem_of_mem_take hp)
    obtain ⟨ac, nc, cc, rfl⟩ : ∃ a n c, vc = Value.slice a n c := by obtain ⟨a, c, e, _⟩ := hsc.shape; exact ⟨a, _, c, e⟩
    have HSAME : Hid (l7.map (·.1) = ((l2 ++ ll).take j).map (·.1)) := Lib.hid (by
      rw [HM7.out, HP9.out, List.map_take, List.map_append, HM2.out])
    have hjs : ¬ j < L.safe := by have := HP7.out; omega
    have hjk : ¬ n3 < j := by omega
    have wj : IntKind.u64.wrap (bz + 1) = bz + 1 := by rw [wrap_u64]; have hb := TP.out.b; have := HBZ.out; unfold H59 at hb; omega
    clear ho7 hm7 hd7 hn7 hb7 hk3 he3 hsc hrc hj3
    go_wp2_with fail
    refine (wfirst L7.out (by have := HLZ.out.1; have h : Lz.b ≤ Lz.last := (by unfold WalS.last; omega); unfold H59 at this; omega)).mono ?_
    rintro e y1 ⟨rfl, rfl⟩
    have hzb : (Lz.b : Int) = bz := by rw [HP5.out]; exact HBZ.out
    rw [hzb]
    go_wp2_with fail
    refine (wsafe L7.out (by have := HLZ.out.1; rw [HP6.out]; have h : Lz.b + Lz.es.length = Lz.last := rfl; unfold H59 at this; omega)).mono ?_
    rintro e w8 ⟨rfl, hb8⟩
    have L8 := Lib.hid (L7.out.below hb8)
    have B78 : Hid (Below w7.heap.size w7 w8) := Lib.hid hb8
    clear hb8
    go_wp2_with fail
    refine (wlast L8.out (by have := HLZ.out.1; unfold H59 at this; omega)).mono ?_
    rintro e w9 ⟨rfl, hb9⟩
    have hzl : (Lz.last : Int) = (Lz.b : Int) + (Lz.safe : Int) := by rw [HP6.out]; rfl
    rw [hzl]
    have B79 : Hid (Below w7.heap.size w7 w9) := Lib.hid (B78.out.trans (hb9.mono B78.out.size))
    clear hb9
    go_wp2_with fail
    refine (gsame_any (O7.out.srow.below B79.out) (HD7.out.kept (Kept.of_below B79.out (S := fun _ => False) fun k h1 h2 => by omega) fun _ h => h) (SC.out.below B79.out) (EC.out.kept (Kept.of_below B79.out (S := fun _ => False) fun k h1 h2 => by omega) fun _ h => h) (by rw [H71.out]; have := HP8.out; have := H73.out; have := HLN.out; have := TP.out.few; rw [List.length_append, List.length_map] at *; omega) (by rw [List.length_take]; have := HP8.out; have := HLN.out; have := TP.out.few; rw [List.length_append, List.length_map] at *; omega)).mono ?_
    rintro e w10 ⟨rb, rfl, hiff, hb10⟩
    obtain rfl : rb = true := hiff.2 HSAME.out
    have B10 : Hid (Below w7.heap.size w7 w10) := Lib.hid (B79.out.trans (hb10.mono B79.out.size))
    clear hiff hb10
    go_wp2_with fail
    refine (wlives_any _).mono ?_
    rintro e w11 ⟨rfl, hb11⟩
    have B11 : Hid (Below w7.heap.size w7 w11) := Lib.hid (B10.out.trans (hb11.mono B10.out.size))
    clear hb11
    go_wp2_with fail
    go_ret
    exact ⟨rfl, B7.out.trans (B11.out.mono B7.out.size)⟩

theorem wkeeps_any (W : World) (lv tv : Value) (k : Nat) (rs : List WOp) (ts : List (Nat × Nat)) (hl : WOpsIs W lv rs) (ht : TearsIs W tv ts) (hk : k < 256) :
    Calls Tryz.prog 5 #[lv, .int .u8 k, tv] W fun e w' => e = .returned (.bool true) ∧ Below W.heap.size W w' := by
  obtain ⟨la, lc, rfl, _⟩ := hl.1.shape
  obtain ⟨ta, tc, rfl, _⟩ := ht.1.shape
  rw [List.length_map] at hl ht ⊢
  rw [List.length_map]
  by_cases h : wLight rs = true ∧ ts.length ≤ 40
  · exact wkeeps_small rs ts la ta lc tc k W hl ht hk h.1 h.2
  · exact wkeeps_big rs la ta _ lc _ tc k W hl h
end Go.Proofs.YtjdglpcnkiioeaaGreat

/- THE STATEMENT WalKeeps: behind any crash the log that is opened anew has all that was safe and not cut, and behind it the first ones of what was written since. For every input; no conditions. -/
namespace Go.Proofs.YtjdglpcnkiioeaaGreat
open Go.ChangeShapes Go.WideShapes Go.ChangeAt Go.RowKit Go.Deep Go.Proofs.Own


set_option maxRecDepth 100000 in
theorem wkeeps_law_lifted (os : Os) (started : os.Started) (H : Type) (enc : TypeId × Value → H) :
    ReturnsInHanded {} Tryz.checked os 5 .any (Rows.walKeepsSpec.pre6 enc Tryz.prog Tryz.f5 Rows.walKeepsRow.domain false) (Rows.walKeepsSpec.post enc Tryz.prog Tryz.f5 false true false false) := by
  refine returnsInHanded_of_change (C := Tryz.checked) own started (by kernel_rfl) Tryz.func5
    (ChangeSpec.witness6 (enc := enc) (C := Tryz.checked) false ⟨#[], #[.slice none 0 0, .int .u8 0, .slice none 0 0], []⟩ 8 (by kernel_rfl) (by kernel_rfl) (by kernel_rfl) (by kernel_rfl)) ?_
  intro W base args ds gs before hval0 hW hcnd _
  have hval : ∀ (j : Nat) t v, Tryz.f5.params[j]? = some t → args[j]? = some v → Value.okWide Tryz.prog W .any base t v := hval0
  have hW' := hW
  obtain ⟨p, q, hA0, hV, _, hfz, hnd⟩ := hW
  have hA : DataW.TrodAll enc Tryz.prog W 0 (fun _ => true) true Tryz.f5.params.toList args.toList ds p := hA0
  rw [Tryz.params5] at hA hval
  obtain ⟨v0, v1, v2, d0, d1, d2, p0, p1, p2, rfl, rfl, rfl, h0, h1, h2⟩ := trodAll_three hA
  obtain ⟨q0, n0, c0, rfl⟩ := okWide_slice Tryz.underlying28 (hval 0 28 v0 rfl rfl); obtain ⟨f0, g0⟩ := h0; obtain ⟨rs, b0⟩ := open_wops (v := .slice q0 n0 c0) g0
  obtain ⟨k1, rfl, b1⟩ := open_u8 (hval 1 5 v1 rfl rfl) h1
  obtain ⟨q2, n2, c2, rfl⟩ := okWide_slice Tryz.underlying24 (hval 2 24 v2 rfl rfl); obtain ⟨f2, g2⟩ := h2; obtain ⟨ts, b2⟩ := open_tears (v := .slice q2 n2 c2) g2
  refine (wkeeps_any W _ _ k1 rs ts b0 b2 b1).mono fun e W' ⟨he, hb⟩ => ?_
  exact ⟨_, he, law_post laid (by kernel_rfl) ⟨4, rfl, Tryz.underlying4⟩ rfl (fun ds hds => by
    match ds, hds with
    | [x0, x1, x2], _ => rfl) hW' hb⟩

theorem wkeeps_law_holds : Rows.WalKeepsSaid :=
  OpenClaim.holds_of_wide 5 Tryz.f5 rfl rfl rfl rfl rfl rfl rfl ⟨rfl, rfl, rfl, rfl, rfl⟩ rfl rfl rfl rfl rfl (by kernel_rfl) Tryz.func5 (by kernel_rfl)
    (of_decide_eq_true (by kernel_rfl)) (by unfold Func.isWrapper; first | (rw [if_pos (by decide +kernel)]; kernel_rfl) | (rw [if_neg (by decide +kernel)]; exact ⟨rfl, rfl⟩))
    (fun os started H enc _ => wkeeps_law_lifted os started H enc)
#print axioms wkeeps_law_holds
end Go.Proofs.YtjdglpcnkiioeaaGreat

/- The law WalFiles, walked; no conditions. -/
namespace Go.Proofs.YtjdglpcnkiioeaaGreat
open Go.RowKit Go.Maps Go.Proofs.Own Go.Shelf

theorem esOf_take_succ {P : List Pc} {j : Nat} {p : Pc} (h : P[j]? = some p) : esOf (P.take (j + 1)) = esOf (P.take j) ++ p.es := by
  rw [List.take_add_one, h, esOf_app]
  congr 1
  exact List.append_nil _
theorem split_at {P : List Pc} {j : Nat} {p : Pc} (h : P[j]? = some p) : P = P.take j ++ p :: P.drop (j + 1) := by
  obtain ⟨hl, rfl⟩ := List.getElem?_eq_some_iff.1 h
  conv => lhs; rw [← List.take_append_drop j P, List.drop_eq_getElem_cons hl]
theorem esOf_take_le (P : List Pc) (j : Nat) : (esOf (P.take j)).length ≤ (esOf P).length := by
  conv => rhs; rw [← List.take_append_drop j P, esOf_app, List.length_append]
  omega

set_option maxHeartbeats 8000000 in
set_option maxRecDepth 20000 in
theorem wfiles_any (rs : List WOp) (v : Value) (w : World) (hl : WOpsIs w v rs) :
    Calls Tryz.prog 4 #[v] w fun e w' => e = .returned (.bool true) ∧ Below w.heap.size w w' := by
  obtain ⟨la, lc, rfl, _⟩ := hl.1.shape
  rw [List.length_map] at hl ⊢
  have HL := Lib.hid hl
  obtain ⟨n, hn⟩ : ∃ n, rs.length = n := ⟨_, rfl⟩
  have HN := Lib.hid hn
  rw [hn] at HL ⊢
  clear hl hn
  cases hc : wLight rs with
  | false =>
    have HC := Lib.hid hc
    clear hc
    go_enter Tryz.func4, Tryz.ntmps4
    go_wp2_with fail
    refine (wlight_any _ rs _ HL.out).mono ?_
    rintro e w1 ⟨rfl, hb1⟩
    rw [HC.out]
    have B1 := Lib.hid hb1
    clear hb1
    go_wp2_with fail
    refine (wlives_any _).mono ?_
    rintro e w2 ⟨rfl, hb2⟩
    have B2 : Hid (Below w.heap.size w w2) := Lib.hid (B1.out.trans (hb2.mono B1.out.size))
    clear hb2
    go_wp2_with fail
    go_ret
    exact ⟨rfl, B2.out⟩
  | true =>
    have HC := Lib.hid hc
    have HFEW : Hid (n ≤ 60) := Lib.hid (by have := light_few hc; have := HN.out; omega)
    clear hc
    go_enter Tryz.func4, Tryz.ntmps4
    go_wp2_with fail
    refine (wlight_any _ rs _ HL.out).mono ?_
    rintro e w0 ⟨rfl, hb0⟩
    rw [HC.out]
    have B0 := Lib.hid hb0
    clear hb0
    go_wp2_with fail
    refine (dnew 1048576 w0 (by decide) (by decide)).mono ?_
    rintro e w1 ⟨db, mb, tb, rfl, hd1, hb1, h1, h2, h3⟩
    have D1 : Hid (DiskIs w1 db mb tb dMaxW) := Lib.hid hd1
    have B1 : Hid (Below w.heap.size w w1) := Lib.hid (B0.out.trans (hb1.mono B0.out.size))
    have HO : Hid (∀ k, Own3 db mb tb k → w.heap.size ≤ k) := Lib.hid (by have := B0.out.size; rintro k (rfl | rfl | rfl) <;> omega)
    clear hd1 hb1 h1 h2 h3
    go_wp2_with fail
    have WO : Calls Tryz.prog 19 #[.pointer (some ⟨db, 0, none⟩), .int .u64 0] w1 (OpenWP db mb tb (openW dMaxW 0) w1) := wopen_late D1.out dMaxW_good (by decide) 0 (by decide) (by decide)
    rw [dMaxW_open] at WO
    refine WO.mono ?_
    clear WO
    rintro e w2 ⟨_, hk2, _, hs2⟩
    obtain ⟨lb, ev, fv, el, rfl, hl2, hlb, hev, hfv⟩ := hs2 lX rfl
    have LG : Hid (LogAt w2 lb db mb tb ev fv el dMaxW lX) := Lib.hid hl2
    have B2 : Hid (Below w.heap.size w w2) := Lib.hid (B1.out.trans (hk2.below B1.out.size HO.out))
    have HGE : Hid (∀ b, LOwn lb db mb tb ev fv b → w.heap.size ≤ b) := Lib.hid (by
      have hz := B1.out.size
      rintro b (hq | hq | hq | hq)
      · omega
      · exact HO.out b hq
      · have := hev b hq; omega
      · have := hfv b hq; omega)
    clear hk2 hs2 hl2 hlb hev hfv
    have I3 : Hid (CutI dMaxW lX) := Lib.hid ⟨⟨[], (open_none (D := dMaxW) (b := 0) ⟨rfl, rfl⟩ (by decide) rfl).2⟩, rfl, List.Pairwise.nil, dMaxW_good⟩
    clear D1 B1
    go_wp2_with fail
    go_loopw [35] (fun i wr => ∃ (j : Nat) (D : DiskS) (L : WalS) (ev fv : Value) (el : EntR), i = .int .i64 j ∧ j ≤ n ∧ D.steps ≤ 150 * j ∧ CutI D L ∧ Calm D ∧ AllW D ∧ LogAt wr lb db mb tb ev fv el D L ∧ (∀ b, LOwn lb db mb tb ev fv b → w.heap.size ≤ b) ∧ Below w.heap.size w wr) (fun i _ => n - (intOf i).toNat)
    case atStart => exact ⟨0, _, lX, ev, fv, el, rfl, by omega, by show (0 : Int) ≤ _; omega, I3.out, ⟨rfl, rfl⟩, (fun f hf => by cases hf), LG.out, HGE.out, B2.out⟩
    case round =>
      clear I3 LG HGE B2
      obtain ⟨j, D, L, ev, fv, el, rfl, hj, hst, hi, hca, haw, hl, hge, hb⟩ := hrel
      have SZ := Lib.hid hst
      have IR := Lib.hid hi
      have CR := Lib.hid hca
      have AR := Lib.hid haw
      have LR := Lib.hid hl
      have GE := Lib.hid hge
      have BR := Lib.hid hb
      clear hst hi hca haw hl hge hb
      by_cases hlt : j < n
      · obtain ⟨r, hr, hm⟩ := getAtW (l := rs) (j := j) (by rw [HN.out]; exact hlt)
        obtain ⟨b, o, rfl, hbl, c0, c1, c2, c3, c4⟩ := (HL.out.below BR.out).at hr
        have hok := HL.out.2.1 r hm
        obtain ⟨ml, hml, hfw, _⟩ := light_ents HC.out hm hok
        obtain ⟨rk, rn, ra, rlv, rl, rtv, rts⟩ := r
        simp only at c0 c1 c2 c3 c4 hml hok
        obtain ⟨ea, ec, hev, _⟩ := hml.1.shape
        obtain ⟨ta', tc', htv, _⟩ := hok.2.2.1.shape
        simp only at htv
        subst hev htv
        obtain ⟨tn', htn⟩ : ∃ tn', (rts.map tearV).length = tn' := ⟨_, rfl⟩
        obtain ⟨en, hen⟩ : ∃ en, (entRows ml).length = en := ⟨_, rfl⟩
        rw [htn] at c4
        rw [hen] at c3 hml
        have HRA := Lib.hid hok.1.2
        have HML := Lib.hid hml
        have HFW := Lib.hid hfw
        have HJN := Lib.hid hlt
        clear hr hm hok hml hfw htn hen
        go_wp2_with fail
        generalize hwx : World.alloc wr _ = wx
        have AX : Hid (Below wr.heap.size wr wx) := Lib.hid (by subst hwx; exact (Below.refl _ _).alloc (Nat.le_refl _) _)
        clear hwx c0 c1 c2 c3 c4 hbl hlt
        have LX := Lib.hid (LR.out.below AX.out)
        have BX : Hid (Below w.heap.size w wx) := Lib.hid (BR.out.trans (AX.out.mono BR.out.size))
        have HM : Hid (ArgE wx (LOwn lb db mb tb ev fv) (.slice ea en ec) ml) := Lib.hid (HML.out.arg BX.out GE.out)
        have WC := wcall LX.out IR.out (by have := SZ.out; have := HFEW.out; omega) ⟨rk, rn, ra, .slice ea en ec, rl, .slice ta' tn' tc', rts⟩ HRA.out HM.out HFW.out
        simp only at WC
        refine WC.mono ?_
        clear WC
        rintro e w4 ⟨rfl, ev4, fv4, el4, hl4, hs4⟩
        have CL := call_law IR.out.inv.choose_spec IR.out.up IR.out.ris rk ra (ml.map (·.1))
        have RC := reach_call D L rk ra (ml.map (·.1))
        have RG := RC.good IR.out.good (by have := IR.out.inv.choose_spec.few IR.out.good; have := SZ.out; have := HFEW.out; omega)
        have HG4 := Lib.hid RG.1
        have HR4 := Lib.hid (RC.rising IR.out.ris)
        have HC4 := Lib.hid (RC.calm CR.out)
        have HA4 := Lib.hid (RC.allW AR.out)
        have HS4 : Hid ((callW rk ra (ml.map (·.1)) D L).1.steps ≤ 150 * ((j + 1 : Nat) : Int)) := Lib.hid (by have h1 := RG.2; have h2 := SZ.out; have h3 := IR.out.inv.choose_spec.few IR.out.good; omega)
        obtain ⟨r4, hr4⟩ : ∃ r4, callW rk ra (ml.map (·.1)) D L = r4 := ⟨_, rfl⟩
        rw [hr4] at hl4 CL HG4 HR4 HC4 HA4 HS4 ⊢
        obtain ⟨D4, L4, e4⟩ := r4
        simp only at hl4 HG4 HR4 HC4 HA4 HS4
        have LG := Lib.hid hl4
        have I4 : Hid (∃ P, WInv D4 L4 P) := Lib.hid (by
          rcases CL with h | h
          · exact h.2.2
          · have h2 : D4.down = true := h.1
            rw [HC4.out.1] at h2
            cases h2)
        have GE4 : Hid (∀ b, LOwn lb db mb tb ev4 fv4 b → w.heap.size ≤ b) := Lib.hid (by
          have hz := BX.out.size
          rintro b (hq | hq | hq | hq)
          · exact GE.out b (.inl hq)
          · exact GE.out b (.inr (.inl hq))
          · rcases hs4.2.1 b hq with e | e
            · exact GE.out b (.inr (.inr (.inl e)))
            · omega
          · rcases hs4.2.2 b hq with e | e
            · exact GE.out b (.inr (.inr (.inr e)))
            · omega)
        have B4 : Hid (Below w.heap.size w w4) := Lib.hid (BX.out.trans (hs4.1.below BX.out.size GE.out))
        clear hl4 CL RC RG hs4 LX BX HM AX hr4
        obtain ⟨P, hP⟩ := I4.out
        have HP := Lib.hid hP
        have FL := Lib.hid (files_law hP HA4.out)
        have HPL : Hid (P.length ≤ 128) := Lib.hid (by have h := hP.few HG4.out; rwa [hP.fs, List.length_map] at h)
        have HLK := Lib.hid (hP.lok HG4.out)
        have HHI : Hid (L4.last ≤ H59) := Lib.hid hP.hi
        obtain ⟨q, hq⟩ : ∃ q, P.length = q := ⟨_, rfl⟩
        have HQ := Lib.hid hq
        clear hP hq
        go_wp2_with fail
        refine (dnames_own db mb tb D4 w4 LG.out.disk HG4.out.wf).mono ?_
        rintro e w5 ⟨v5, base, rfl, hrow, hb5, hbase⟩
        have S5 := Lib.hid (strs_own hrow).1
        have HNM : Hid (D4.files.map (·.name) = P.map (fun p => nameW p.f)) := Lib.hid (by rw [FL.out.1, List.map_map]; rfl)
        obtain ⟨a5, m5, c5, rfl⟩ : ∃ a n c, v5 = Value.slice a n c := by obtain ⟨a, c, e, _⟩ := S5.out; exact ⟨a, _, c, e⟩
        obtain rfl : m5 = q := by
          obtain ⟨a', c', e', _⟩ := S5.out
          have h := (Value.slice.inj e').2.1
          rw [h, HNM.out, List.length_map]
          exact HQ.out
        have L5 := Lib.hid (LG.out.below hb5)
        have B5 : Hid (Below w.heap.size w w5) := Lib.hid (B4.out.trans (hb5.mono B4.out.size))
        clear hrow hb5 hbase
        go_wp2_with fail
        go_loopw [8, 46] (fun av i wr => ∃ (k : Nat) (al : EntR), i = .int .i64 k ∧ k ≤ m5 ∧ OwnL wr 38 3 av (entRows al) ∧ al.map (·.1) = esOf (P.take k) ∧ Datas wr (fun _ => False) al ∧ (∀ b, av.ownBlock = some b → w5.heap.size ≤ b) ∧ Below w5.heap.size w5 wr) (fun _ i _ => m5 - (intOf i).toNat)
        case atStart => exact ⟨0, [], rfl, by omega, OwnL.nil _ _ _, rfl, nofun, nofun, Below.refl _ _⟩
        case round =>
          obtain ⟨k, al, rfl, hk, ho, hma, hda, hna, hba⟩ := hrel
          have OA := Lib.hid ho
          have MA := Lib.hid hma
          have DA := Lib.hid hda
          have NA := Lib.hid hna
          have BA := Lib.hid hba
          have HAL : Hid (al.length = (esOf (P.take k)).length) := Lib.hid (by have h := congrArg List.length hma; rwa [List.length_map] at h)
          have HESL : Hid (L4.es.length = (esOf P).length) := Lib.hid (by rw [HP.out.es])
          obtain ⟨aa, ac, rfl, _⟩ := ho.shape
          obtain ⟨na, hnal⟩ : ∃ na, (entRows al).length = na := ⟨_, rfl⟩
          have HNA : Hid (al.length = na) := Lib.hid (by rw [← hnal, entRows_length])
          rw [hnal] at OA NA ⊢
          clear ho hma hda hna hba hnal
          by_cases hlt2 : k < m5
          · obtain ⟨p, hp, hpm⟩ := getAtW (l := P) (j := k) (by rw [HQ.out]; exact hlt2)
            have hsp := split_at hp
            obtain ⟨hseg, hpf, hbig⟩ := FL.out.2 _ _ _ hsp
            have hin := HP.out.in60 hpm
            have HFI : Hid (findFile (nameW p.f) D4.files = some p.file) := Lib.hid (log_find (A := P.take k) (B := P.drop (k + 1)) HR4.out (by rw [← hsp]; exact HP.out.fil) hin)
            have HNS : Hid ((nameW p.f).size ≤ maxLen) := Lib.hid (Nat.le_trans (size_nameW_le p.f) (by decide))
            have SZ5 := S5.out.kept (Kept.of_below BA.out (S := fun _ => False) fun k h1 h2 => by omega) fun _ _ h => h
            obtain ⟨a', c', e', hc'⟩ := SZ5
            obtain ⟨rfl, hz9, rfl⟩ := Value.slice.inj e'
            clear hz9
            have hkn : k < (D4.files.map (·.name)).length := by rw [HNM.out, List.length_map, HQ.out]; exact hlt2
            obtain ⟨sb, so, rfl, hcell⟩ := hc' k hkn
            have hname : (D4.files.map (·.name))[k] = nameW p.f := by
              have h : (D4.files.map (·.name))[k]? = some (nameW p.f) := by rw [HNM.out, List.getElem?_map, hp]; rfl
              exact (List.getElem?_eq_some_iff.1 h).2
            rw [hname] at hcell
            have HSEG := Lib.hid hseg
            have HIN := Lib.hid hin
            have HES := Lib.hid (esOf_take_succ hp)
            have HPE : Hid (p.es.length ≤ 2147483648 ∧ (esOf (P.take (k + 1))).length ≤ 131072) := Lib.hid (by
              have h1 := esOf_take_le P (k + 1)
              have h2 := HLK.out.2
              have h3 := HESL.out
              have h4 := congrArg List.length (esOf_take_succ hp)
              rw [List.length_append] at h4
              omega)
            obtain ⟨lw, hlw⟩ : ∃ lw, p.w.length = lw := ⟨_, rfl⟩
            have HLW := Lib.hid hlw
            have hbg : decide ((k : Int) < (m5 : Int) - 1) = false ∨ (decide ((k : Int) < (m5 : Int) - 1) = true ∧ decide ((lw : Int) < 1024) = false) := by
              by_cases hk1 : k + 1 < m5
              · right
                have hne : P.drop (k + 1) ≠ [] := by rw [Ne, List.drop_eq_nil_iff, HQ.out]; omega
                have := hbig hne
                exact ⟨decide_eq_true (by omega), decide_eq_false (by omega)⟩
              · left
                exact decide_eq_false (by omega)
            have HBG := Lib.hid hbg
            have hm1 : IntKind.i64.wrap ((m5 : Int) - 1) = (m5 : Int) - 1 := by simp only [IntKind.wrap_i64]; have := HPL.out; have := HQ.out; omega
            have hm2 : wrap64 ((m5 : Int) - 1) = (m5 : Int) - 1 := by unfold wrap64; have := HPL.out; have := HQ.out; omega
            obtain ⟨fz, hfz⟩ : ∃ fz : Int, (L4.b : Int) + 1 = fz := ⟨_, rfl⟩
            have HFZ := Lib.hid hfz
            obtain ⟨pf, hpfz⟩ : ∃ pf : Int, (p.f : Int) = pf := ⟨_, rfl⟩
            have HPF := Lib.hid hpfz
            have e1 : IntKind.u64.wrap (na : Int) = (na : Int) := by rw [wrap_u64]; have := HAL.out; have := HNA.out; have h1 := esOf_take_le P k; have h2 := HLK.out.2; have h3 := HESL.out; omega
            have e2 : fz + (na : Int) = pf := by have := HAL.out; have := HNA.out; omega
            have e3 : IntKind.u64.wrap pf = pf := by rw [wrap_u64]; have := hin.1; have := hin.2; omega
            have HLTK := Lib.hid hlt2
            have LZ := Lib.hid (L5.out.below BA.out)
            have HFB : Hid ((L4.b : Int) + 1 < 18446744073709551616) := Lib.hid (by have := HP.out.lo.1; unfold H59 at this; omega)
            have E1 := Lib.hid e1
            have E2 := Lib.hid e2
            have E3 := Lib.hid e3
            have HM1 := Lib.hid hm1
            have HM2 := Lib.hid hm2
            have t0 : (0 : Int) ≤ (k : Int) := by omega
            have t1 : (k : Int) < (m5 : Int) := by omega
            clear hp hpm hsp hseg hpf hbig hin e' hc' hkn hname hlw hbg hfz hpfz e1 e2 e3 hm1 hm2 hlt2 hk hj
            go_wp2_with fail
            refine (dread_ok db mb tb D4 (nameW p.f) p.file wr LZ.out.disk HC4.out.1 HNS.out HFI.out).mono ?_
            rintro e u1 ⟨bv, rfl, hB1, hb1⟩
            have HB1 : Hid (Bytes u1 bv p.w) := Lib.hid hB1
            have BU1 : Hid (Below wr.heap.size wr u1) := Lib.hid hb1
            obtain ⟨ba, bc, rfl, _⟩ := HB1.out.shape
            rw [HLW.out] at HB1 ⊢
            clear hB1 hb1 hcell
            go_wp2_with fail
            have GR := gread_any (.slice ba lw bc) p.w u1 HB1.out
            rw [HSEG.out, HLW.out] at GR
            simp only at GR
            rw [HPF.out] at GR
            refine GR.mono ?_
            clear GR
            rintro e u2 ⟨lv, nl, rfl, hol, hml2, hdl, hnl, hb2⟩
            have OL := Lib.hid hol
            have ML := Lib.hid hml2
            have DL : Hid (Datas u2 (fun _ => False) nl) := Lib.hid (hdl.mono fun _ _ _ _ h => h.elim)
            have BU2 : Hid (Below wr.heap.size wr u2) := Lib.hid (BU1.out.trans (hb2.mono BU1.out.size))
            have HNL : Hid (nl.length = p.es.length) := Lib.hid (by have h := congrArg List.length hml2; rwa [List.length_map] at h)
            obtain ⟨pa, pn, pc, rfl⟩ := ownl_slice hol
            clear hol hml2 hdl hnl hb2
            go_wp2_with fail
            have GN := gname_any p.f u2 HIN.out.1 HIN.out.2
            rw [HPF.out] at GN
            refine GN.mono ?_
            clear GN
            rintro e u3 ⟨rfl, hb3⟩
            have BU3 : Hid (Below wr.heap.size wr u3) := Lib.hid (BU2.out.trans (hb3.mono BU2.out.size))
            have OL3 := Lib.hid (OL.out.below hb3)
            have DL3 : Hid (Datas u3 (fun _ => False) nl) := Lib.hid (DL.out.kept (Kept.of_below hb3 (S := fun _ => False) fun k h1 h2 => by omega) fun _ h => h)
            clear hb3
            go_wp2_with fail
            refine (wfirst (LZ.out.below BU3.out) HFB.out).mono ?_
            rintro e y1 ⟨rfl, rfl⟩
            rw [HFZ.out]
            have O3 := Lib.hid (OA.out.below BU3.out)
            have D3 : Hid (Datas u3 (fun _ => False) al) := Lib.hid (DA.out.kept (Kept.of_below BU3.out (S := fun _ => False) fun k h1 h2 => by omega) fun _ h => h)
            have HLEN : Hid ((entRows al).length + (entRows nl).length ≤ 4294967296) := Lib.hid (by
              rw [entRows_length, entRows_length, HNL.out]
              have h1 := HPE.out.2
              rw [HES.out, List.length_append] at h1
              have := HAL.out
              omega)
            have APP := Lib.hid trivial
            have e1 := E1.out
            have e2 := E2.out
            have e3 := E3.out
            have hm1 := HM1.out
            have hm2 := HM2.out
            have k128 : (k : Int) < 128 := by have := HLTK.out; have := HPL.out; have := HQ.out; omega
            rcases HBG.out with hbg | ⟨hbg, hbg2⟩
            · go_wp2_with (at_builtin; refine wpList_append_ownl entry3 _ _ rfl (.slice aa na ac) (.slice pa pn pc) (entRows al) (entRows nl) rfl rfl O3.out OL3.out.srow (entRows_each nl) DL3.out.oneCell (entRows_no8 DL3.out) entry8 HLEN.out rfl ?_; intro v4 w4' ho4 hg4 ha4; have O4 := Lib.hid ho4; have G4 := Lib.hid (Kept.of_grown hg4); have A4 := Lib.hid ha4; obtain ⟨a4, n4, c4, rfl⟩ := ownl_slice ho4; clear ho4 hg4 ha4)
              go_roundw
              case rel =>
                have hnb := noB_own O3.out
                refine ⟨k + 1, al ++ nl, by first | rfl | go_num, by have := HLTK.out; omega, by rw [entRows_app]; exact O4.out, by rw [List.map_append, MA.out, ML.out, HES.out], (D3.out.keptN G4.out hnb).app (DL3.out.keptN G4.out hnb), fun b hb => ?_, ?_⟩
                · rcases A4.out with h | h <;> rw [hb] at h
                  · exact NA.out b h.symm
                  · have h3 := Option.some.inj h
                    have := BU3.out.size
                    have := BA.out.size
                    omega
                · exact (BA.out.trans (BU3.out.mono BA.out.size)).trans (G4.out.below (Nat.le_trans BA.out.size BU3.out.size) fun k h => NA.out k h)
              all_goals (show m5 - ((k : Int) + 1).toNat < m5 - ((k : Int)).toNat; have := HLTK.out; omega)
            · go_wp2_with (at_builtin; refine wpList_append_ownl entry3 _ _ rfl (.slice aa na ac) (.slice pa pn pc) (entRows al) (entRows nl) rfl rfl O3.out OL3.out.srow (entRows_each nl) DL3.out.oneCell (entRows_no8 DL3.out) entry8 HLEN.out rfl ?_; intro v4 w4' ho4 hg4 ha4; have O4 := Lib.hid ho4; have G4 := Lib.hid (Kept.of_grown hg4); have A4 := Lib.hid ha4; obtain ⟨a4, n4, c4, rfl⟩ := ownl_slice ho4; clear ho4 hg4 ha4)
              go_roundw
              case rel =>
                have hnb := noB_own O3.out
                refine ⟨k + 1, al ++ nl, by first | rfl | go_num, by have := HLTK.out; omega, by rw [entRows_app]; exact O4.out, by rw [List.map_append, MA.out, ML.out, HES.out], (D3.out.keptN G4.out hnb).app (DL3.out.keptN G4.out hnb), fun b hb => ?_, ?_⟩
                · rcases A4.out with h | h <;> rw [hb] at h
                  · exact NA.out b h.symm
                  · have h3 := Option.some.inj h
                    have := BU3.out.size
                    have := BA.out.size
                    omega
                · exact (BA.out.trans (BU3.out.mono BA.out.size)).trans (G4.out.below (Nat.le_trans BA.out.size BU3.out.size) fun k h => NA.out k h)
              all_goals (show m5 - ((k : Int) + 1).toNat < m5 - ((k : Int)).toNat; have := HLTK.out; omega)
          · obtain rfl : k = m5 := by omega
            have HEND : Hid (al.map (·.1) = L4.es) := Lib.hid (by rw [MA.out, HP.out.es, List.take_of_length_le (by rw [HQ.out]; exact Nat.le_refl _)])
            have LZ := Lib.hid (L5.out.below BA.out)
            have BZ : Hid (Below w.heap.size w wr) := Lib.hid (B5.out.trans (BA.out.mono B5.out.size))
            go_wp2_with fail
            refine (wfrom LZ.out HHI.out (by have := HLK.out.2; omega) 0 (by decide) 1048576 (by decide)).mono ?_
            rintro e u1 ⟨v1, l1, rfl, ho1, hm1, hd1, hn1, hb1⟩
            have O1 := Lib.hid ho1
            have D1 : Hid (Datas u1 (fun _ => False) l1) := Lib.hid (hd1.mono fun _ _ _ _ h => h.elim)
            have M1 : Hid (l1.map (·.1) = L4.es) := Lib.hid (by
              rw [hm1]
              unfold fromW
              rw [show max 0 (L4.b + 1) - (L4.b + 1) = 0 by omega, List.drop_zero, List.take_of_length_le]
              have := HLK.out.2
              show L4.es.length ≤ 1048576
              omega)
            have O2 := Lib.hid (OA.out.below hb1)
            have D2 : Hid (Datas u1 (fun _ => False) al) := Lib.hid (DA.out.kept (Kept.of_below hb1 (S := fun _ => False) fun k h1 h2 => by omega) fun _ h => h)
            have BU1 : Hid (Below wr.heap.size wr u1) := Lib.hid hb1
            obtain ⟨a1, n1, c1, rfl⟩ := ownl_slice ho1
            clear ho1 hm1 hd1 hn1 hb1
            go_wp2_with fail
            refine (gsame_any O2.out.srow D2.out O1.out.srow D1.out (by have h := congrArg List.length HEND.out; rw [List.length_map] at h; have := HLK.out.2; omega) (by have h := congrArg List.length M1.out; rw [List.length_map] at h; have := HLK.out.2; omega)).mono ?_
            rintro e u2 ⟨rb, rfl, hiff, hb2⟩
            obtain rfl : rb = true := hiff.2 (by rw [HEND.out, M1.out])
            have BU2 : Hid (Below wr.heap.size wr u2) := Lib.hid (BU1.out.trans (hb2.mono BU1.out.size))
            clear hiff hb2
            have hj60 : (j : Int) < 60 := by have := HJN.out; have := HFEW.out; omega
            go_wp2_with fail
            go_roundw
            case rel => exact ⟨j + 1, D4, L4, ev4, fv4, el4, by first | rfl | go_num, by have := HJN.out; omega, HS4.out, ⟨⟨P, HP.out⟩, HC4.out.1, HR4.out, HG4.out⟩, HC4.out, HA4.out, LZ.out.below BU2.out, GE4.out, BZ.out.trans (BU2.out.mono BZ.out.size)⟩
            all_goals (show n - ((j : Int) + 1).toNat < n - ((j : Int)).toNat; have := HJN.out; omega)
      · go_wp2_with fail
        refine (wlives_any _).mono ?_
        rintro e w2 ⟨rfl, hb2⟩
        have B2 : Hid (Below w.heap.size w w2) := Lib.hid (BR.out.trans (hb2.mono BR.out.size))
        clear hb2
        go_wp2_with fail
        go_ret
        exact ⟨rfl, B2.out⟩
end Go.Proofs.YtjdglpcnkiioeaaGreat

/- THE STATEMENT WalFiles: the files of a log's disk are its pieces, each but the last one of 1024 bytes or more. For every input; no conditions. -/
namespace Go.Proofs.YtjdglpcnkiioeaaGreat
open Go.ChangeShapes Go.WideShapes Go.ChangeAt Go.RowKit Go.Deep Go.Proofs.Own


set_option maxRecDepth 100000 in
theorem wfiles_law_lifted (os : Os) (started : os.Started) (H : Type) (enc : TypeId × Value → H) :
    ReturnsInHanded {} Tryz.checked os 4 .any (Rows.walFilesSpec.pre6 enc Tryz.prog Tryz.f4 Rows.walFilesRow.domain false) (Rows.walFilesSpec.post enc Tryz.prog Tryz.f4 false true false false) := by
  refine returnsInHanded_of_change (C := Tryz.checked) own started (by kernel_rfl) Tryz.func4
    (ChangeSpec.witness6 (enc := enc) (C := Tryz.checked) false ⟨#[], #[.slice none 0 0], []⟩ 8 (by kernel_rfl) (by kernel_rfl) (by kernel_rfl) (by kernel_rfl)) ?_
  intro W base args ds gs before hval0 hW hcnd _
  have hval : ∀ (j : Nat) t v, Tryz.f4.params[j]? = some t → args[j]? = some v → Value.okWide Tryz.prog W .any base t v := hval0
  have hW' := hW
  obtain ⟨p, q, hA0, hV, _, hfz, hnd⟩ := hW
  have hA : DataW.TrodAll enc Tryz.prog W 0 (fun _ => true) true Tryz.f4.params.toList args.toList ds p := hA0
  rw [Tryz.params4] at hA hval
  obtain ⟨v0, d0, rfl, rfl, h0⟩ := trodAll_one hA
  obtain ⟨q0, n0, c0, rfl⟩ := okWide_slice Tryz.underlying28 (hval 0 28 v0 rfl rfl); obtain ⟨f0, g0⟩ := h0; obtain ⟨rs, b0⟩ := open_wops (v := .slice q0 n0 c0) g0
  refine (wfiles_any rs _ W b0).mono fun e W' ⟨he, hb⟩ => ?_
  exact ⟨_, he, law_post laid (by kernel_rfl) ⟨4, rfl, Tryz.underlying4⟩ rfl (fun ds hds => by
    match ds, hds with
    | [x0], _ => rfl) hW' hb⟩

theorem wfiles_law_holds : Rows.WalFilesSaid :=
  OpenClaim.holds_of_wide 4 Tryz.f4 rfl rfl rfl rfl rfl rfl rfl ⟨rfl, rfl, rfl, rfl, rfl⟩ rfl rfl rfl rfl rfl (by kernel_rfl) Tryz.func4 (by kernel_rfl)
    (of_decide_eq_true (by kernel_rfl)) (by unfold Func.isWrapper; first | (rw [if_pos (by decide +kernel)]; kernel_rfl) | (rw [if_neg (by decide +kernel)]; exact ⟨rfl, rfl⟩))
    (fun os started H enc _ => wfiles_law_lifted os started H enc)
#print axioms wfiles_law_holds
end Go.Proofs.YtjdglpcnkiioeaaGreat

/- The law WalNobody, walked; no conditions. -/
namespace Go.Proofs.YtjdglpcnkiioeaaGreat
open Go.RowKit Go.Maps Go.Proofs.Own Go.Shelf

set_option maxHeartbeats 1000000 in
theorem nod_read (p : Option Addr) (n : ByteArray) (w : World) (h : NoDisk w p) : Calls Tryz.prog 23 #[.pointer p, .string n] w fun e w' => e = .returned (.tuple #[.slice none 0 0, .int .i64 1]) ∧ Below w.heap.size w w' := by
  have H := Lib.hid h
  clear h
  go_enter Tryz.func23, Tryz.ntmps23
  go_wp2_with fail
  refine (nod_file p n _ H.out).mono ?_
  rintro e w1 ⟨rfl, hb1⟩
  have B1 := Lib.hid hb1
  have L1 := hb1.size
  clear hb1
  go_wp2_with fail
  go_ret2
  exact ⟨rfl, B1.out.alloc L1 _⟩
set_option maxHeartbeats 1000000 in
/-- A log's Open of a disk that is none. -/
theorem wopen_nod (p : Option Addr) (base : Int) (w : World) (h : NoDisk w p) : Calls Tryz.prog 19 #[.pointer p, .int .u64 base] w fun e w' => e = .returned (.tuple #[.pointer none, .int .i64 1]) ∧ Below w.heap.size w w' := by
  have H := Lib.hid h
  clear h
  go_enter Tryz.func19, Tryz.ntmps19
  go_wp2_with fail
  refine (nod_read p _ w H.out).mono ?_
  rintro e w1 ⟨rfl, hb⟩
  have B1 := Lib.hid hb
  clear hb
  go_wp2_with fail
  go_ret2
  exact ⟨rfl, B1.out⟩
set_option maxHeartbeats 4000000 in
set_option maxRecDepth 20000 in
/-- A call of a log that is none. -/
theorem ncall {p : Option Addr} {w : World} (h : NoLog p w) (k n a : Int) (ea : Option Addr) (en ec : Nat) (tv : Value) : Calls Tryz.prog 14 #[.pointer p, .agg #[.int .i64 k, .int .i64 n, .int .u64 a, .slice ea en ec, tv]] w fun e w' => e = .returned (.int .i64 1) ∧ Below w.heap.size w w' := by
  obtain ⟨W1, hW1⟩ : ∃ W1 : World, W1 = w.alloc (.cells #[.int .i64 k, .int .i64 n, .int .u64 a, .slice ea en ec, tv] 26) := ⟨_, rfl⟩
  have B : Hid (Below w.heap.size w W1) := Lib.hid (by subst hW1; exact (Below.refl _ _).alloc (Nat.le_refl _) _)
  have H1 := Lib.hid (h.below B.out)
  have x0 : W1.cell? ⟨w.heap.size, 0, none⟩ = some (.int .i64 k) := by subst hW1; go_cell
  have x2 : W1.cell? ⟨w.heap.size, 2, none⟩ = some (.int .u64 a) := by subst hW1; go_cell
  have x3 : W1.cell? ⟨w.heap.size, 3, none⟩ = some (.slice ea en ec) := by subst hW1; go_cell
  clear h
  by_cases h1 : k = 1
  · have b1 : (k == 1) = true := beq_iff_eq.2 h1
    clear h1
    go_enter Tryz.func14, Tryz.ntmps14
    go_wp2_with fail
    rw [← hW1]
    go_wp2_with fail
    refine (nsync H1.out).mono ?_
    rintro e w2 ⟨rfl, hb2⟩
    have B2 : Hid (Below w.heap.size w w2) := Lib.hid (B.out.trans (hb2.mono B.out.size))
    clear hb2
    go_wp2_with fail
    go_ret
    exact ⟨rfl, B2.out⟩
  · have b1 : (k == 1) = false := beq_eq_false_iff_ne.2 h1
    clear h1
    by_cases h2 : k = 2
    · have b2 : (k == 2) = true := beq_iff_eq.2 h2
      clear h2
      go_enter Tryz.func14, Tryz.ntmps14
      go_wp2_with fail
      rw [← hW1]
      go_wp2_with fail
      refine (ncut H1.out a).mono ?_
      rintro e w2 ⟨rfl, hb2⟩
      have B2 : Hid (Below w.heap.size w w2) := Lib.hid (B.out.trans (hb2.mono B.out.size))
      clear hb2
      go_wp2_with fail
      go_ret
      exact ⟨rfl, B2.out⟩
    · have b2 : (k == 2) = false := beq_eq_false_iff_ne.2 h2
      clear h2
      by_cases h3 : k = 3
      · have b3 : (k == 3) = true := beq_iff_eq.2 h3
        clear h3
        go_enter Tryz.func14, Tryz.ntmps14
        go_wp2_with fail
        rw [← hW1]
        go_wp2_with fail
        refine (ndrop H1.out a).mono ?_
        rintro e w2 ⟨rfl, hb2⟩
        have B2 : Hid (Below w.heap.size w w2) := Lib.hid (B.out.trans (hb2.mono B.out.size))
        clear hb2
        go_wp2_with fail
        go_ret
        exact ⟨rfl, B2.out⟩
      · have b3 : (k == 3) = false := beq_eq_false_iff_ne.2 h3
        clear h3
        by_cases h4 : k = 4
        · have b4 : (k == 4) = true := beq_iff_eq.2 h4
          clear h4
          go_enter Tryz.func14, Tryz.ntmps14
          go_wp2_with fail
          rw [← hW1]
          go_wp2_with fail
          refine (nreset H1.out a).mono ?_
          rintro e w2 ⟨rfl, hb2⟩
          have B2 : Hid (Below w.heap.size w w2) := Lib.hid (B.out.trans (hb2.mono B.out.size))
          clear hb2
          go_wp2_with fail
          go_ret
          exact ⟨rfl, B2.out⟩
        · have b4 : (k == 4) = false := beq_eq_false_iff_ne.2 h4
          clear h4
          go_enter Tryz.func14, Tryz.ntmps14
          go_wp2_with fail
          rw [← hW1]
          go_wp2_with fail
          refine (nappend H1.out ea en ec).mono ?_
          rintro e w2 ⟨rfl, hb2⟩
          have B2 : Hid (Below w.heap.size w w2) := Lib.hid (B.out.trans (hb2.mono B.out.size))
          clear hb2
          go_wp2_with fail
          go_ret
          exact ⟨rfl, B2.out⟩
def d100W (b : Bool) : DiskS := ⟨100, [], b, -1, 0⟩
theorem d100W_good : DGood (d100W false) := ⟨⟨by decide, by decide, by decide, by decide, by decide, by decide, by decide, fun f h => by cases h⟩, by decide, by decide⟩
theorem srow_op1 (w : World) (x y z u v : Value) (t : TypeId) : SRow (w.alloc (.cells #[x, y, z, u, v] t)) 5 (.slice (some ⟨w.heap.size, 0, none⟩) 1 1) [[x, y, z, u, v]] := by
  refine ⟨_, _, rfl, Nat.le_refl _, fun j hj => ?_⟩
  obtain rfl : j = 0 := by simpa using hj
  refine ⟨w.heap.size, 0, rfl, by simp, fun i u' hu => ?_⟩
  have hu' : [x, y, z, u, v][i]? = some u' := hu
  match i, hu' with
  | 0, hu' => obtain rfl : x = u' := by simpa using hu'
              go_cell
  | 1, hu' => obtain rfl : y = u' := by simpa using hu'
              go_cell
  | 2, hu' => obtain rfl : z = u' := by simpa using hu'
              go_cell
  | 3, hu' => obtain rfl : u = u' := by simpa using hu'
              go_cell
  | 4, hu' => obtain rfl : v = u' := by simpa using hu'
              go_cell
  | i + 5, hu' => simp at hu'

set_option maxHeartbeats 4000000 in
set_option maxRecDepth 20000 in
theorem wnobody_any (r : WOp) (base : Nat) (w : World) (hr : WOpOk w r) : Calls Tryz.prog 3 #[.agg #[.int .i64 r.k, .int .i64 r.n, .int .u64 r.a, r.lv, r.tv], .int .u64 base] w fun e w' => e = .returned (.bool true) ∧ Below w.heap.size w w' := by
  obtain ⟨rk, rn, ra, rlv, rl, rtv, rts⟩ := r
  simp only
  obtain ⟨ea, ec, hev, _⟩ := hr.2.1.1.shape
  obtain ⟨ta', tc', htv, _⟩ := hr.2.2.1.shape
  simp only at hev htv
  subst hev htv
  obtain ⟨tn', htn⟩ : ∃ tn', (rts.map tearV).length = tn' := ⟨_, rfl⟩
  obtain ⟨en, hen⟩ : ∃ en, (rl.map earV).length = en := ⟨_, rfl⟩
  rw [hen, htn] at hr ⊢
  have HR := Lib.hid hr
  obtain ⟨bz, hbz⟩ : ∃ bz : Int, (base : Int) = bz := ⟨_, rfl⟩
  have HBZ := Lib.hid hbz
  rw [hbz]
  clear hr htn hen hbz
  obtain ⟨W2, hW2⟩ : ∃ W2 : World, W2 = (w.alloc (.cells #[.int .i64 rk, .int .i64 rn, .int .u64 ra, .slice ea en ec, .slice ta' tn' tc'] 26)).alloc (.cells #[.int .i64 rk, .int .i64 rn, .int .u64 ra, .slice ea en ec, .slice ta' tn' tc'] 26) := ⟨_, rfl⟩
  have B : Hid (Below w.heap.size w W2) := Lib.hid (by subst hW2; exact ((Below.refl _ _).alloc (Nat.le_refl _) _).alloc (by simp) _)
  have HO : Hid (WOpsIs W2 (.slice (some ⟨w.heap.size + 1, 0, none⟩) 1 1) [⟨rk, rn, ra, .slice ea en ec, rl, .slice ta' tn' tc', rts⟩]) := Lib.hid (by
    refine ⟨?_, fun r h => ?_, by show 1 ≤ maxLen; decide⟩
    · have h := srow_op1 (w.alloc (.cells #[.int .i64 rk, .int .i64 rn, .int .u64 ra, .slice ea en ec, .slice ta' tn' tc'] 26)) (.int .i64 rk) (.int .i64 rn) (.int .u64 ra) (.slice ea en ec) (.slice ta' tn' tc') 26
      have e : (w.alloc (.cells #[.int .i64 rk, .int .i64 rn, .int .u64 ra, .slice ea en ec, .slice ta' tn' tc'] 26)).heap.size = w.heap.size + 1 := by simp
      rw [← hW2, e] at h
      exact h
    · obtain rfl := List.mem_singleton.1 h
      exact HR.out.below B.out)
  have CO : Hid (WC25 W2 w.heap.size 0 ⟨rk, rn, ra, .slice ea en ec, rl, .slice ta' tn' tc', rts⟩) := Lib.hid (by subst hW2; exact ⟨by go_cell, by go_cell, by go_cell, by go_cell, by go_cell⟩)
  go_enter Tryz.func3, Tryz.ntmps3
  go_wp2_with fail
  rw [← hW2]
  refine (wlight_any _ _ W2 HO.out).mono ?_
  rintro e w1 ⟨rfl, hb1⟩
  have B1 : Hid (Below w.heap.size w w1) := Lib.hid (B.out.trans (hb1.mono B.out.size))
  have C1 := Lib.hid (CO.out.below hb1)
  have HBO : Hid (w.heap.size < w1.heap.size) := Lib.hid (World.block_lt_of_cell? _ _ C1.out.c0)
  clear hb1 HO CO hW2
  generalize w.heap.size = ob at C1 HBO ⊢
  cases hc : wLight [⟨rk, rn, ra, .slice ea en ec, rl, .slice ta' tn' tc', rts⟩] with
  | false =>
    clear hc
    go_wp2_with fail
    refine (wlives_any _).mono ?_
    rintro e w2 ⟨rfl, hb2⟩
    have B2 : Hid (Below w.heap.size w w2) := Lib.hid (B1.out.trans (hb2.mono B1.out.size))
    clear hb2
    go_wp2_with fail
    go_ret
    exact ⟨rfl, B2.out⟩
  | true =>
    clear hc
    go_wp2_with fail
    generalize hw2 : World.alloc (World.alloc w1 _) _ = w2
    have A2 : Hid (Below w1.heap.size w1 w2) := Lib.hid (by subst hw2; exact ((Below.refl _ _).alloc (Nat.le_refl _) _).alloc (by simp) _)
    have B2 : Hid (Below w.heap.size w w2) := Lib.hid (B1.out.trans (A2.out.mono B1.out.size))
    have C2 : Hid (WC25 w2 ob 0 ⟨rk, rn, ra, .slice ea en ec, rl, .slice ta' tn' tc', rts⟩) := Lib.hid (C1.out.below A2.out)
    have N2 : Hid (w2.cell? ⟨w1.heap.size, 0, none⟩ = some (.pointer none) ∧ w2.cell? ⟨w1.heap.size + 1, 0, none⟩ = some (.pointer none) ∧ w2.cell? ⟨w1.heap.size + 1, 1, none⟩ = some (.pointer (some ⟨w1.heap.size, 0, none⟩))) := Lib.hid (by subst hw2; exact ⟨by go_cell, by go_cell, by go_cell⟩)
    clear hw2
    generalize w1.heap.size = lb at *
    go_loopw [27] (fun i wr => ∃ j : Nat, j ≤ 2 ∧ i = .int .i64 j ∧ Below w2.heap.size w2 wr) (fun i _ => 2 - (intOf i).toNat)
    case atStart => exact ⟨0, by omega, rfl, Below.refl _ _⟩
    case round =>
      obtain ⟨j, hj, rfl, hb⟩ := hrel
      have BR := Lib.hid hb
      have CR := Lib.hid (C2.out.below hb)
      have NR : Hid (wr.cell? ⟨lb, 0, none⟩ = some (.pointer none) ∧ wr.cell? ⟨lb + 1, 0, none⟩ = some (.pointer none) ∧ wr.cell? ⟨lb + 1, 1, none⟩ = some (.pointer (some ⟨lb, 0, none⟩))) := Lib.hid (by
        obtain ⟨h1, h2, h3⟩ := N2.out
        exact ⟨Below.at hb h1 (World.block_lt_of_cell? _ _ h1), Below.at hb h2 (World.block_lt_of_cell? _ _ h2), Below.at hb h3 (World.block_lt_of_cell? _ _ h3)⟩)
      clear hb
      by_cases hlt : j < 2
      · have HP : ∃ p, wr.cell? ⟨lb + 1, 0 + j, none⟩ = some (.pointer p) ∧ NoLog p wr := by
          obtain ⟨h1, h2, h3⟩ := NR.out
          match j, hlt with
          | 0, _ => exact ⟨none, h2, nofun⟩
          | 1, _ => exact ⟨some ⟨lb, 0, none⟩, h3, fun b e => ⟨lb, (Option.some.inj e).symm, h1⟩⟩
        obtain ⟨p, hp, hno⟩ := HP
        rw [Nat.zero_add] at hp
        have HNO := Lib.hid hno
        obtain ⟨x0, x1, x2, x3, x4⟩ := CR.out
        have t0 : (0 : Int) ≤ (j : Int) := by omega
        have t1 : (j : Int) < 2 := by omega
        have HLT := Lib.hid hlt
        clear hno hlt hj
        go_wp2_with fail
        refine (nat HNO.out ra).mono ?_
        rintro e u1 ⟨rfl, hb1⟩
        have I1 : Hid (Below wr.heap.size wr u1) := Lib.hid hb1
        clear hb1 hp x0 x1 x2 x3 x4
        obtain ⟨x0, x1, x2, x3, x4⟩ := CR.out.below I1.out
        have hob : ob < u1.heap.size := World.block_lt_of_cell? _ _ x0
        go_wp2_with fail
        generalize hu2 : World.alloc u1 _ = u2
        have I2 : Hid (Below wr.heap.size wr u2) := Lib.hid (by subst hu2; exact I1.out.alloc I1.out.size _)
        clear hu2 hob
        refine (ncall (HNO.out.below I2.out) rk rn ra ea en ec (.slice ta' tn' tc')).mono ?_
        rintro e u3 ⟨rfl, hb3⟩
        have I3 : Hid (Below wr.heap.size wr u3) := Lib.hid (I2.out.trans (hb3.mono I2.out.size))
        clear hb3 x0 x1 x2 x3 x4
        go_wp2_with fail
        refine (nfirst (HNO.out.below I3.out)).mono ?_
        rintro e u4 ⟨rfl, hb4⟩
        have I4 : Hid (Below wr.heap.size wr u4) := Lib.hid (I3.out.trans (hb4.mono I3.out.size))
        clear hb4
        go_wp2_with fail
        refine (nlast (HNO.out.below I4.out)).mono ?_
        rintro e u5 ⟨rfl, hb5⟩
        have I5 : Hid (Below wr.heap.size wr u5) := Lib.hid (I4.out.trans (hb5.mono I4.out.size))
        clear hb5
        go_wp2_with fail
        refine (nsafe (HNO.out.below I5.out)).mono ?_
        rintro e u6 ⟨rfl, hb6⟩
        have I6 : Hid (Below wr.heap.size wr u6) := Lib.hid (I5.out.trans (hb6.mono I5.out.size))
        clear hb6
        obtain ⟨x0, x1, x2, x3, x4⟩ := CR.out.below I6.out
        go_wp2_with fail
        refine (nfrom (HNO.out.below I6.out) ra rn).mono ?_
        rintro e u7 ⟨rfl, hb7⟩
        have I7 : Hid (Below wr.heap.size wr u7) := Lib.hid (I6.out.trans (hb7.mono I6.out.size))
        clear hb7 x0 x1 x2 x3 x4
        go_wp2_with fail
        go_roundw
        case rel => exact ⟨j + 1, by have := HLT.out; omega, by first | rfl | go_num, BR.out.trans (I7.out.mono BR.out.size)⟩
        all_goals (show 2 - ((j : Int) + 1).toNat < 2 - ((j : Int)).toNat; have := HLT.out; omega)
      · obtain rfl : j = 2 := by omega
        have B3 : Hid (Below w.heap.size w wr) := Lib.hid (B2.out.trans (BR.out.mono B2.out.size))
        clear hlt hj
        go_wp2_with fail
        refine (wopen_nod none bz wr (.inl rfl)).mono ?_
        rintro e u1 ⟨rfl, hb1⟩
        have B4 : Hid (Below w.heap.size w u1) := Lib.hid (B3.out.trans (hb1.mono B3.out.size))
        clear hb1
        go_wp2_with fail
        generalize hu2 : World.alloc u1 _ = u2
        have B5 : Hid (Below w.heap.size w u2) := Lib.hid (by subst hu2; exact B4.out.alloc B4.out.size _)
        have ND : Hid (NoDisk u2 (some ⟨u1.heap.size, 0, none⟩)) := Lib.hid (.inr ⟨u1.heap.size, rfl, by subst hu2; go_cell⟩)
        clear hu2
        refine (wopen_nod _ bz u2 ND.out).mono ?_
        rintro e u3 ⟨rfl, hb3⟩
        have B6 : Hid (Below w.heap.size w u3) := Lib.hid (B5.out.trans (hb3.mono B5.out.size))
        clear hb3
        go_wp2_with fail
        refine (dnew 100 u3 (by decide) (by decide)).mono ?_
        rintro e u4 ⟨db, mb, tb, rfl, hd4, hb4, h1, h2, h3⟩
        have D4 : Hid (DiskIs u4 db mb tb (d100W false)) := Lib.hid hd4
        have B7 : Hid (Below w.heap.size w u4) := Lib.hid (B6.out.trans (hb4.mono B6.out.size))
        have HO : Hid (∀ k, Own3 db mb tb k → w.heap.size ≤ k) := Lib.hid (by have := B6.out.size; rintro k (rfl | rfl | rfl) <;> omega)
        clear hd4 hb4 h1 h2 h3
        go_wp2_with fail
        refine (dcrash_any db mb tb (d100W false) (.slice none 0 0) [] u4 D4.out d100W_good (TearsIs.nil _) (.inl rfl)).mono ?_
        rintro e u5 ⟨rfl, hd5, hk5⟩
        have D5 : Hid (DiskIs u5 db mb tb (d100W true)) := Lib.hid hd5
        have B8 : Hid (Below w.heap.size w u5) := Lib.hid (B7.out.trans (hk5.below B7.out.size HO.out))
        clear hd5 hk5
        go_wp2_with fail
        have WO := wopen_early D5.out base (.inl rfl)
        rw [HBZ.out] at WO
        have WO' : Calls Tryz.prog 19 #[.pointer (some ⟨db, 0, none⟩), .int .u64 bz] u5 (OpenWP db mb tb (d100W true, none, 50) u5) := WO
        refine WO'.mono ?_
        clear WO WO'
        rintro e u6 ⟨_, hk6, hn6, _⟩
        obtain rfl := hn6 rfl
        have B9 : Hid (Below w.heap.size w u6) := Lib.hid (B8.out.trans (hk6.below B8.out.size HO.out))
        clear hk6 hn6
        go_wp2_with fail
        refine (wlives_any _).mono ?_
        rintro e u7 ⟨rfl, hb7⟩
        have B10 : Hid (Below w.heap.size w u7) := Lib.hid (B9.out.trans (hb7.mono B9.out.size))
        clear hb7
        go_wp2_with fail
        go_ret
        exact ⟨rfl, B10.out⟩
end Go.Proofs.YtjdglpcnkiioeaaGreat

/- THE STATEMENT WalNobody: a log that is nil or unmade has nothing and takes nothing; of no disk, or of one without power, none is opened. For every input; no conditions. -/
namespace Go.Proofs.YtjdglpcnkiioeaaGreat
open Go.ChangeShapes Go.WideShapes Go.ChangeAt Go.RowKit Go.Deep Go.Proofs.Own

section
variable {H : Type} {enc : TypeId × Value → H} {W : World}
set_option maxRecDepth 100000 in
/-- An argument uint64. -/
theorem open_u64 {base : Nat} {v : Value} {d : DataW H} {ps : List MemPlace} (hv : Value.okWide Tryz.prog W .any base 22 v) (h : DataW.Trod enc Tryz.prog W 0 (fun _ => true) true 22 v d ps) : ∃ k : Nat, v = .int .u64 k ∧ (k : Int) < 18446744073709551616 := by
  obtain ⟨z, rfl⟩ := okWide_int Tryz.underlying22 hv
  obtain ⟨fuel, hf⟩ := h
  obtain ⟨z', e, _, w⟩ := DataW.trod_int Tryz.underlying22 hf
  obtain rfl : z = z' := by simpa [Value.cells] using e
  have r := u64_range w
  exact ⟨z.toNat, by rw [Int.toNat_of_nonneg r.1], by rw [Int.toNat_of_nonneg r.1]; exact r.2⟩
set_option maxRecDepth 100000 in
/-- An argument that is one of the calls. -/
theorem open_wop1 {base : Nat} {v : Value} {d : DataW H} {ps : List MemPlace} (hv : Value.okWide Tryz.prog W .any base 26 v) (h : DataW.Trod enc Tryz.prog W 0 (fun _ => true) true 26 v d ps) :
    ∃ r : WOp, v = .agg #[.int .i64 r.k, .int .i64 r.n, .int .u64 r.a, r.lv, r.tv] ∧ WOpOk W r := by
  obtain ⟨cs, rfl, hsz⟩ := okWide_struct Tryz.underlying26 hv
  obtain ⟨fuel, hf⟩ := h
  obtain ⟨r, e, hr⟩ := open_wop hf
  refine ⟨r, ?_, hr⟩
  have e' : cs.toList = wopV r := e
  obtain ⟨l⟩ := cs
  have e2 : l = wopV r := e'
  rw [e2]
  rfl
end

set_option maxRecDepth 100000 in
theorem wnobody_law_lifted (os : Os) (started : os.Started) (H : Type) (enc : TypeId × Value → H) :
    ReturnsInHanded {} Tryz.checked os 3 .any (Rows.walNobodySpec.pre6 enc Tryz.prog Tryz.f3 Rows.walNobodyRow.domain false) (Rows.walNobodySpec.post enc Tryz.prog Tryz.f3 false true false false) := by
  refine returnsInHanded_of_change (C := Tryz.checked) own started (by kernel_rfl) Tryz.func3
    (ChangeSpec.witness6 (enc := enc) (C := Tryz.checked) false ⟨#[], #[.agg #[.int .i64 0, .int .i64 0, .int .u64 0, .slice none 0 0, .slice none 0 0], .int .u64 0], []⟩ 8 (by kernel_rfl) (by kernel_rfl) (by kernel_rfl) (by kernel_rfl)) ?_
  intro W base args ds gs before hval0 hW hcnd _
  have hval : ∀ (j : Nat) t v, Tryz.f3.params[j]? = some t → args[j]? = some v → Value.okWide Tryz.prog W .any base t v := hval0
  have hW' := hW
  obtain ⟨p, q, hA0, hV, _, hfz, hnd⟩ := hW
  have hA : DataW.TrodAll enc Tryz.prog W 0 (fun _ => true) true Tryz.f3.params.toList args.toList ds p := hA0
  rw [Tryz.params3] at hA hval
  obtain ⟨v0, v1, d0, d1, p0, p1, rfl, rfl, rfl, h0, h1⟩ := trodAll_two hA
  obtain ⟨r, rfl, b0⟩ := open_wop1 (hval 0 26 v0 rfl rfl) h0
  obtain ⟨k1, rfl, b1⟩ := open_u64 (hval 1 22 v1 rfl rfl) h1
  refine (wnobody_any r k1 W b0).mono fun e W' ⟨he, hb⟩ => ?_
  exact ⟨_, he, law_post laid (by kernel_rfl) ⟨4, rfl, Tryz.underlying4⟩ rfl (fun ds hds => by
    match ds, hds with
    | [x0, x1], _ => rfl) hW' hb⟩

theorem wnobody_law_holds : Rows.WalNobodySaid :=
  OpenClaim.holds_of_wide 3 Tryz.f3 rfl rfl rfl rfl rfl rfl rfl ⟨rfl, rfl, rfl, rfl, rfl⟩ rfl rfl rfl rfl rfl (by kernel_rfl) Tryz.func3 (by kernel_rfl)
    (of_decide_eq_true (by kernel_rfl)) (by unfold Func.isWrapper; first | (rw [if_pos (by decide +kernel)]; kernel_rfl) | (rw [if_neg (by decide +kernel)]; exact ⟨rfl, rfl⟩))
    (fun os started H enc _ => wnobody_law_lifted os started H enc)
#print axioms wnobody_law_holds
end Go.Proofs.YtjdglpcnkiioeaaGreat
