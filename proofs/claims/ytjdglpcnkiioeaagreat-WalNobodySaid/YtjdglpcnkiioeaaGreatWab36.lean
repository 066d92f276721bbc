/- Several texts in one: Wxq, Wxr. What each proves stands ahead of it; together they serve wkeeps_law_holds,wfiles_law_holds,wnobody_law_holds. No conditions but those stated. -/
import Derived.Test.YtjdglpcnkiioeaaGreatWab35
/- The contract of a log's Cut; no conditions but the ranges. -/
namespace Go.Proofs.YtjdglpcnkiioeaaGreat
open Go.RowKit Go.Maps Go.Proofs.Own Go.Shelf

theorem popW_fs' {D : DiskS} {L : WalS} {f : WF} (hf : L.fs.getLast? = some f) (he : (popW D L).2.2 = 0) : (popW D L).2.1.fs.length + 1 = L.fs.length := popW_fs D L (List.ne_nil_of_mem (List.mem_of_getLast? hf)) he
theorem cutF_round {frm : Nat} {D : DiskS} {L : WalS} {f : WF} (hf : L.fs.getLast? = some f) (hc : ¬ f.f < frm) (he : (popW D L).2.2 = 0) : cutF frm L.fs.length D L = cutF frm (popW D L).2.1.fs.length (popW D L).1 (popW D L).2.1 := by
  have hl := popW_fs' hf he
  rw [← hl]
  show (match L.fs.getLast? with | none => _ | some f => _) = _
  rw [hf]
  simp only
  rw [if_neg hc, if_neg (fun h => h he)]
theorem cutF_stop {frm : Nat} {D : DiskS} {L : WalS} {f : WF} (hf : L.fs.getLast? = some f) (hc : ¬ f.f < frm) (he : (popW D L).2.2 ≠ 0) : cutF frm L.fs.length D L = popW D L := by
  obtain ⟨m, hm⟩ : ∃ m, L.fs.length = m + 1 := ⟨L.fs.length - 1, by have := List.length_pos_iff.2 (List.ne_nil_of_mem (List.mem_of_getLast? hf)); omega⟩
  rw [hm]
  show (match L.fs.getLast? with | none => _ | some f => _) = _
  rw [hf]
  simp only
  rw [if_neg hc, if_pos he]
theorem cutF_none {frm : Nat} {D : DiskS} {L : WalS} (hf : L.fs = []) (n : Nat) : cutF frm n D L = (D, L, 0) := by
  cases n with
  | zero => rfl
  | succ n =>
    show (match L.fs.getLast? with | none => _ | some f => _) = _
    rw [hf]
    rfl
theorem cutF_some {frm : Nat} {D : DiskS} {L : WalS} {f : WF} (hf : L.fs.getLast? = some f) (hc : f.f < frm) (n : Nat) : cutF frm n D L = (D, L, 0) := by
  cases n with
  | zero => rfl
  | succ n =>
    show (match L.fs.getLast? with | none => _ | some f => _) = _
    rw [hf]
    simp only
    rw [if_pos hc]
/-- Where the last file's numbers lie. -/
def lastP (fv : Value) : Value := match fv with
  | .slice (some ⟨g, 0, none⟩) (m + 1) _ => .pointer (some ⟨g, m * 3, none⟩)
  | _ => .pointer none
theorem wopen_all {lb db mb tb : Nat} {ev fv : Value} {el : EntR} {D : DiskS} {L : WalS} {w : World} (h : LogAt w lb db mb tb ev fv el D L) (hs : L.fs.length ≤ 1000000) :
    Calls Tryz.prog 113 #[.pointer (some ⟨lb, 0, none⟩)] w fun e w' => e = .returned (lastP fv) ∧ Below w.heap.size w w' := by
  by_cases hn : L.fs = []
  · refine (wopen_nil h hn).mono ?_
    rintro e w' ⟨rfl, rfl⟩
    refine ⟨?_, Below.refl _ _⟩
    obtain ⟨a, c, e, _⟩ := h.shapeF
    rw [hn] at e
    subst e
    unfold lastP
    split
    · rename_i h1
      simp at h1
    · rfl
  · obtain ⟨m, hmm⟩ : ∃ m, L.fs.length = m + 1 := ⟨L.fs.length - 1, by have := List.length_pos_iff.2 hn; omega⟩
    obtain ⟨g, c, rfl, hcc, hgg⟩ := OwnL.some h.fr (by simpa using hn)
    refine (wopen_some h (m := m) (by rw [List.length_map]; exact hmm) (by rw [List.length_map]; omega)).mono ?_
    rintro e w' ⟨rfl, hb⟩
    refine ⟨?_, hb⟩
    rw [List.length_map, hmm]
    rfl
/-- What a round of Cut, and of Drop, keeps. -/
structure CutI (D : DiskS) (L : WalS) : Prop where
  inv : ∃ P, WInv D L P
  up : D.down = false
  ris : Rising D.files
  good : DGood D
theorem CutI.pop {D : DiskS} {L : WalS} (h : CutI D L) (hne : L.fs ≠ []) (he : (popW D L).2.2 = 0) (hs : D.steps + 1 ≤ 1000000000) : CutI (popW D L).1 (popW D L).2.1 ∧ (popW D L).1.steps ≤ D.steps + 1 ∧ (popW D L).2.1.b = L.b := by
  obtain ⟨⟨P, hi⟩, hd, hr, hg⟩ := h
  have hP : P ≠ [] := fun e => hne (by rw [hi.fs, e]; rfl)
  obtain ⟨A, z, rfl⟩ := split_last hP
  have hg2 := popW_good L hg hs
  rcases pop_law hi hd hr with ⟨h1, _⟩ | ⟨_, h2, h3, h4, h5, _⟩
  · rw [h1] at he
    cases he
  · exact ⟨⟨⟨A, h4⟩, h2, h3, hg2.1⟩, hg2.2, h5⟩

set_option maxHeartbeats 8000000 in
set_option maxRecDepth 20000 in
theorem wcut {lb db mb tb : Nat} {ev fv : Value} {el : EntR} {D : DiskS} {L : WalS} {w : World} (h : LogAt w lb db mb tb ev fv el D L) (hi : CutI D L) (hst : D.steps + 200 ≤ 1000000000) (frm : Nat) (hfr : (frm : Int) < 18446744073709551616) :
    Calls Tryz.prog 61 #[.pointer (some ⟨lb, 0, none⟩), .int .u64 frm] w (LogPost lb db mb tb ev fv (cutW D L frm) w) := by
  have HH := Lib.hid h
  have HI := Lib.hid hi
  obtain ⟨P0, hinv⟩ := hi.inv
  have hl : L.last ≤ H59 := hinv.hi
  have hla : L.last = L.b + L.es.length := rfl
  have hfew := hinv.few hi.good
  have HST : Hid (D.steps + L.fs.length + 10 ≤ 1000000000) := Lib.hid (by omega)
  have HFW : Hid (L.fs.length ≤ 128) := Lib.hid hfew
  have HB := Lib.hid (show (L.last : Int) < 18446744073709551616 by unfold H59 at hl; omega)
  obtain ⟨lz, hlz⟩ : ∃ lz : Int, (L.last : Int) = lz := ⟨_, rfl⟩
  have HLZ := Lib.hid hlz
  obtain ⟨fr, hfrz⟩ : ∃ fr : Int, (frm : Int) = fr := ⟨_, rfl⟩
  have HFR := Lib.hid hfrz
  obtain ⟨bz, hbz⟩ : ∃ bz : Int, (L.b : Int) = bz := ⟨_, rfl⟩
  have HBZ := Lib.hid hbz
  have c1 := h.c1
  rw [hbz] at c1
  have hl1 : lz ≤ 576460752303423488 := by unfold H59 at hl; omega
  have hl0 : 0 ≤ lz := by omega
  have hb1 : bz ≤ lz := by omega
  have hb0 : 0 ≤ bz := by omega
  have hf0 : 0 ≤ fr := by omega
  have hf1 : fr < 18446744073709551616 := by omega
  rw [hfrz]
  by_cases ha : frm ≤ L.b
  · have haz : decide (fr ≤ bz) = true := decide_eq_true (by omega)
    have HR : Hid (cutW D L frm = (D, L, 2)) := Lib.hid (by unfold cutW; rw [if_pos (.inl ha)])
    clear h hi hinv hl hla hfew hst hfr hlz hfrz hbz ha hl1 hl0 hb1 hb0 hf0 hf1
    go_enter Tryz.func61, Tryz.ntmps61
    go_wp2_with fail
    refine (wnone HH.out).mono ?_
    rintro e w1 ⟨rfl, rfl⟩
    go_wp2_with fail
    go_ret
    rw [HR.out]
    exact ⟨rfl, _, _, _, HH.out, LStep.refl _ _ _ _ _ _ _⟩
  · have haz : decide (fr ≤ bz) = false := decide_eq_false (by omega)
    have wz : IntKind.u64.wrap (lz + 1) = lz + 1 := by rw [wrap_u64]; omega
    by_cases hb : L.last + 1 < frm
    · have hbx : decide (lz + 1 < fr) = true := decide_eq_true (by omega)
      have HR : Hid (cutW D L frm = (D, L, 2)) := Lib.hid (by unfold cutW; rw [if_pos (.inr hb)])
      clear h hi hinv hl hla hfew hst hfr hlz hfrz hbz ha hb hl1 hl0 hb1 hb0 hf0 hf1
      go_enter Tryz.func61, Tryz.ntmps61
      go_wp2_with fail
      refine (wnone HH.out).mono ?_
      rintro e w1 ⟨rfl, rfl⟩
      go_wp2_with fail
      refine (wlast HH.out HB.out).mono ?_
      rintro e w2 ⟨rfl, hb2⟩
      rw [HLZ.out]
      have L2 := Lib.hid (HH.out.below hb2)
      have B2 : Hid (LStep lb db mb tb w ev fv w2 ev fv) := Lib.hid (LStep.below hb2)
      clear hb2
      go_wp2_with fail
      go_ret
      rw [HR.out]
      exact ⟨rfl, _, _, _, L2.out, B2.out⟩
    · have hbx : decide (lz + 1 < fr) = false := decide_eq_false (by omega)
      have HR : Hid (cutW D L frm = if (cutF frm L.fs.length D L).2.2 ≠ 0 then cutF frm L.fs.length D L
        else if (cutF frm L.fs.length D L).2.1.last < frm then ((cutF frm L.fs.length D L).1, (cutF frm L.fs.length D L).2.1, 0)
        else cutL (cutF frm L.fs.length D L).1 (cutF frm L.fs.length D L).2.1 frm) := Lib.hid (by unfold cutW; rw [if_neg (fun q => q.elim ha hb)])
      have HBF : Hid (L.b < frm) := Lib.hid (by omega)
      have HNUM : Hid (lz ≤ 576460752303423488 ∧ 0 ≤ lz ∧ bz ≤ lz ∧ 0 ≤ bz ∧ 0 ≤ fr ∧ fr < 18446744073709551616 ∧ bz < fr ∧ fr ≤ lz + 1) := Lib.hid ⟨hl1, hl0, hb1, hb0, hf0, hf1, by have := of_decide_eq_false haz; omega, by have := of_decide_eq_false hbx; omega⟩
      clear h hi hinv hl hla hfew hst hfr hlz hfrz hbz ha hb hl1 hl0 hb1 hb0 hf0 hf1
      go_enter Tryz.func61, Tryz.ntmps61
      go_wp2_with fail
      refine (wnone HH.out).mono ?_
      rintro e w1 ⟨rfl, rfl⟩
      go_wp2_with fail
      refine (wlast HH.out HB.out).mono ?_
      rintro e w2 ⟨rfl, hb2⟩
      rw [HLZ.out]
      have L2 := Lib.hid (HH.out.below hb2)
      have S2 : Hid (LStep lb db mb tb w ev fv w2 ev fv) := Lib.hid (LStep.below hb2)
      clear hb2
      go_wp2_with fail
      refine (wopen_all L2.out (by have := HFW.out; omega)).mono ?_
      rintro e w3 ⟨rfl, hb3⟩
      have L3 := Lib.hid (L2.out.below hb3)
      have S3 : Hid (LStep lb db mb tb w ev fv w3 ev fv) := Lib.hid (S2.out.trans (LStep.below hb3))
      clear hb3 c1
      go_wp2_with fail
      go_loopw [5] (fun y wr => ∃ D' L' ev' fv' el', y = lastP fv' ∧ LogAt wr lb db mb tb ev' fv' el' D' L' ∧ LStep lb db mb tb w ev fv wr ev' fv' ∧ cutF frm L'.fs.length D' L' = cutF frm L.fs.length D L ∧ CutI D' L' ∧ L'.b = L.b ∧ D'.steps + L'.fs.length + 10 ≤ 1000000000 ∧ L'.fs.length ≤ 128) (fun _ wr => nFilesAt lb wr)
      case atStart => exact ⟨D, L, ev, fv, el, rfl, L3.out, S3.out, rfl, HI.out, rfl, HST.out, HFW.out⟩
      case round =>
        obtain ⟨D', L', ev', fv', el', rfl, hl, hst, hr, hi, hbb, hs, hf⟩ := hrel
        have HL := Lib.hid hl
        have HS := Lib.hid hst
        have HRF := Lib.hid hr
        have HI' := Lib.hid hi
        have HBB := Lib.hid hbb
        have HS' := Lib.hid hs
        have HF' := Lib.hid hf
        have HOK := Lib.hid ((hi.inv.choose_spec.lok hi.good).1)
        clear hl hst hr hi hbb hs hf
        obtain ⟨lz', hlz'⟩ : ∃ lz' : Int, (L'.last : Int) = lz' := ⟨_, rfl⟩
        have HLZ' := Lib.hid hlz'
        have hlast : L'.last ≤ H59 := HI'.out.inv.choose_spec.hi
        have HB' := Lib.hid (show (L'.last : Int) < 18446744073709551616 by unfold H59 at hlast; omega)
        by_cases hne : L'.fs = []
        · have HE : Hid (cutF frm L.fs.length D L = (D', L', 0)) := Lib.hid (by rw [← HRF.out, cutF_none hne])
          have hq : L'.last < frm := by
            obtain ⟨P, hinv⟩ := HI'.out.inv
            have hP : P = [] := by have h := hinv.fs; rw [hne] at h; exact List.map_eq_nil_iff.1 h.symm
            have he := hinv.es
            rw [hP] at he
            have h1 : L'.last = L'.b + L'.es.length := rfl
            rw [he, HBB.out] at h1
            rw [h1]
            exact HBF.out
          have hqz : decide (lz' < fr) = true := decide_eq_true (by have := HFR.out; omega)
          have HQ := Lib.hid hq
          have hlp : lastP fv' = .pointer none := by
            obtain ⟨a, c, e, _⟩ := HL.out.shapeF
            rw [hne] at e
            subst e
            unfold lastP
            split
            · rename_i h1
              simp at h1
            · rfl
          rw [hlp]
          clear hne hq hlp hlast hlz'
          go_wp2_with fail
          refine (wlast HL.out HB'.out).mono ?_
          rintro e w5 ⟨rfl, hb5⟩
          rw [HLZ'.out]
          have L5 := Lib.hid (HL.out.below hb5)
          have S5 := Lib.hid (HS.out.trans (LStep.below hb5))
          clear hb5
          go_wp2_with fail
          go_ret
          rw [HR.out, HE.out, if_neg (fun q => q rfl), if_pos HQ.out]
          exact ⟨rfl, _, _, _, L5.out, S5.out.1, S5.out.2.1, S5.out.2.2⟩
        · obtain ⟨f, hf⟩ : ∃ f, L'.fs.getLast? = some f := ⟨_, List.getLast?_eq_some_getLast hne⟩
          obtain ⟨m, hm⟩ : ∃ m, L'.fs.length = m + 1 := ⟨L'.fs.length - 1, by have := List.length_pos_iff.2 hne; omega⟩
          obtain ⟨g, c, rfl, hc, hg⟩ := OwnL.some HL.out.fr (by simpa using hne)
          rw [List.length_map] at HL HS hc ⊢
          obtain ⟨n, hn⟩ : ∃ n, L'.fs.length = n := ⟨_, rfl⟩
          have HN := Lib.hid hn
          rw [hn] at HL HS hc ⊢
          have hnm : n = m + 1 := by omega
          have hlp : lastP (.slice (some ⟨g, 0, none⟩) n c) = .pointer (some ⟨g, m * 3, none⟩) := by rw [hnm]; rfl
          rw [hlp]
          have HF := Lib.hid hf
          have HM := Lib.hid hm
          have HNE := Lib.hid hne
          obtain ⟨q0, q1, q2⟩ := HL.out.cellL hf hm
          obtain ⟨ff, hff⟩ : ∃ ff : Int, (f.f : Int) = ff := ⟨_, rfl⟩
          have HFF := Lib.hid hff
          rw [hff] at q0
          clear hlp hm hg hn hlast
          by_cases hfc : f.f < frm
          · have hfz : decide (fr ≤ ff) = false := decide_eq_false (by have := HFR.out; omega)
            have HE : Hid (cutF frm L.fs.length D L = (D', L', 0)) := Lib.hid (by rw [← HRF.out, cutF_some hf hfc])
            have HFC := Lib.hid hfc
            clear hf hne hfc hc hnm
            by_cases hq : L'.last < frm
            · have hqz : decide (lz' < fr) = true := decide_eq_true (by have := HFR.out; omega)
              have HQ := Lib.hid hq
              clear hq hlz'
              go_wp2_with fail
              refine (wlast HL.out HB'.out).mono ?_
              rintro e w5 ⟨rfl, hb5⟩
              rw [HLZ'.out]
              have L5 := Lib.hid (HL.out.below hb5)
              have S5 := Lib.hid (HS.out.trans (LStep.below hb5))
              clear hb5
              go_wp2_with fail
              go_ret
              rw [HR.out, HE.out, if_neg (fun q => q rfl), if_pos HQ.out]
              exact ⟨rfl, _, _, _, L5.out, S5.out.1, S5.out.2.1, S5.out.2.2⟩
            · have hqz : decide (lz' < fr) = false := decide_eq_false (by have := HFR.out; omega)
              have HQ0 := Lib.hid hq
              clear hq
              go_wp2_with fail
              refine (wlast HL.out HB'.out).mono ?_
              rintro e w5 ⟨rfl, hb5⟩
              rw [HLZ'.out]
              have L5 := Lib.hid (HL.out.below hb5)
              have S5 := Lib.hid (HS.out.trans (LStep.below hb5))
              clear hb5 q0 q1 q2
              obtain ⟨ea, ec, rfl, _⟩ := L5.out.shapeE
              obtain ⟨en, hen⟩ : ∃ en, L'.es.length = en := ⟨_, rfl⟩
              have HEN := Lib.hid hen
              rw [hen] at L5 S5
              have FACTS : (f.f = L'.b + 1 + (L'.es.length - f.m) ∧ f.m ≤ L'.es.length ∧ f.f ≤ H59) ∧ (linesW f.f (L'.es.drop (f.f - L'.b - 1))).length ≤ 1048576 ∧ (1 ≤ f.f ∧ f.f < 1152921504606846976) := by
                obtain ⟨P, hinv⟩ := HI'.out.inv
                have hP : P ≠ [] := fun e => HNE.out (by rw [hinv.fs, e]; rfl)
                obtain ⟨A, z, rfl⟩ := split_last hP
                have hz : f = z.wf := by have := (fs_last hinv).1; rw [HF.out] at this; exact Option.some.inj this
                subst hz
                have hzf : z.f = L'.b + 1 + (esOf A).length := (Chain.app.1 hinv.ch).2.1
                have hes : L'.es = esOf A ++ z.es := by rw [hinv.es, esOf_app, esOf_one]
                have hlen : L'.es.length = (esOf A).length + z.es.length := by rw [hes, List.length_append]
                have hzm : z ∈ A ++ [z] := List.mem_append_right _ (List.mem_singleton_self z)
                refine ⟨⟨?_, ?_, hinv.lo.2 z hzm⟩, ?_, hinv.in60 hzm⟩
                · show z.f = L'.b + 1 + (L'.es.length - z.es.length)
                  omega
                · show z.es.length ≤ L'.es.length
                  omega
                · have hd : L'.es.drop (z.wf.f - L'.b - 1) = z.es := by
                    rw [hes, show z.wf.f - L'.b - 1 = (esOf A).length by show z.f - L'.b - 1 = _; omega]
                    exact List.drop_left' rfl
                  rw [hd]
                  have ht : total ((A ++ [z]).map Pc.file) ≤ 1048576 := by
                    rw [← hinv.fil]
                    exact Nat.le_trans (total_filter _ _) HI'.out.good.tot
                  have h1 := all_total (L := (A ++ [z]).map Pc.file) (List.mem_map_of_mem (f := Pc.file) hzm)
                  have h2 : z.file.all.length = (headW z.f).length + (linesW z.f z.es).length := by show (segW z.f z.es).length = _; unfold segW; rw [List.length_append]
                  show (linesW z.f z.es).length ≤ _
                  omega
              obtain ⟨⟨k1, k2, k3⟩, k4, k5⟩ := FACTS
              have HNM := Lib.hid k5
              have HQL : Hid (frm ≤ L'.last) := Lib.hid (Nat.not_lt.1 HQ0.out)
              obtain ⟨tq, htq⟩ : ∃ tq, f.f - L'.b - 1 = tq := ⟨_, rfl⟩
              obtain ⟨mq, hmq⟩ : ∃ mq, frm - f.f = mq := ⟨_, rfl⟩
              obtain ⟨hq, hhq⟩ : ∃ hq, tq + mq = hq := ⟨_, rfl⟩
              have hlast' : L'.last = L'.b + L'.es.length := rfl
              have hfc := HFC.out
              have hql := HQL.out
              have hhl : hq ≤ L'.es.length := by omega
              have hjj : frm - L'.b - 1 = hq := by omega
              have HJJ := Lib.hid hjj
              have HHL := Lib.hid hhl
              have HTQ := Lib.hid htq
              have HMQ := Lib.hid hmq
              have hlen : hq ≤ (entRows el').length := by rw [entRows_length, L5.out.lenE]; exact hhl
              obtain ⟨v1, hs1, ho1, hcut1⟩ := SRow.cutlhK (P := Tryz.prog) (t := 23) Tryz.underlying23 (by kernel_rfl) .u64 .u64 L5.out.er.srow tq hq (by omega) hlen
              have hr1 : ((entRows el').take hq).drop tq = entRows ((el'.drop tq).take mq) := by
                unfold entRows
                rw [List.map_take, List.map_drop, List.drop_take, show hq - tq = mq by omega]
              rw [hr1] at hs1
              have HS1 := Lib.hid hs1
              have HD1 : Hid (Datas w5 (fun _ => False) ((el'.drop tq).take mq)) := Lib.hid ((L5.out.dat.sub fun p hp => List.mem_of_mem_drop (List.mem_of_mem_take hp)).mono fun _ _ _ _ hf => hf.elim)
              obtain ⟨ms, hms⟩ : ∃ ms, (L'.es.drop tq).take mq = ms := ⟨_, rfl⟩
              have HMSE := Lib.hid hms
              have HMS : Hid (((el'.drop tq).take mq).map (·.1) = ms) := Lib.hid (by rw [← hms, List.map_take, List.map_drop, L5.out.es])
              have HLN : Hid ((linesW f.f ms).length ≤ 1048576) := Lib.hid (by
                rw [← hms]
                exact Nat.le_trans (linesW_le f.f mq _) (by rw [← htq]; exact k4))
              have HMN : Hid (ms.length ≤ 2147483648) := Lib.hid (by
                rw [← hms, List.length_take, List.length_drop]
                have := (HOK.out).few
                omega)
              have HFI : Hid (f.f ≤ 1152921506754330625) := Lib.hid (by have := k5.2; omega)
              have HALL : Hid (∀ e ∈ ms, e.ok) := Lib.hid (by
                obtain ⟨P, hinv⟩ := HI'.out.inv
                intro e he
                rw [← hms] at he
                exact hinv.ok e (List.mem_of_mem_drop (List.mem_of_mem_take he)))
              obtain ⟨bz', hbz'⟩ : ∃ bz' : Int, (L'.b : Int) = bz' := ⟨_, rfl⟩
              have ebz : bz' = bz := by rw [← hbz', HBB.out]; exact HBZ.out
              subst ebz
              have HBZ' := Lib.hid hbz'
              have hfrz := HFR.out
              have k3' : ff ≤ 576460752303423488 := by unfold H59 at k3; omega
              have hmi : fr - ff = (mq : Int) := by omega
              have hti : ff - bz' - 1 = (tq : Int) := by omega
              have hti0 : ff - bz' = (tq : Int) + 1 := by omega
              have hhi : (tq : Int) + (mq : Int) = (hq : Int) := by omega
              have hji0 : fr - bz' = (hq : Int) + 1 := by omega
              have hb59 : (hq : Int) ≤ 2147483648 := by have := (HOK.out).few; omega
              have hm59 : (mq : Int) ≤ 2147483648 := by omega
              have ht59 : (tq : Int) ≤ 2147483648 := by omega
              have w1' : IntKind.u64.wrap (mq : Int) = (mq : Int) := by rw [wrap_u64]; omega
              have w2' : IntKind.i64.wrap (mq : Int) = (mq : Int) := by simp only [IntKind.wrap_i64]; omega
              have w3' : IntKind.u64.wrap ((tq : Int) + 1) = (tq : Int) + 1 := by rw [wrap_u64]; omega
              have w4' : IntKind.u64.wrap (tq : Int) = (tq : Int) := by rw [wrap_u64]; omega
              have w5' : IntKind.u64.wrap (hq : Int) = (hq : Int) := by rw [wrap_u64]; omega
              have w6' : IntKind.u64.wrap ((hq : Int) + 1) = (hq : Int) + 1 := by rw [wrap_u64]; omega
              have w7' : IntKind.i64.wrap (hq : Int) = (hq : Int) := by simp only [IntKind.wrap_i64]; omega
              have wh' : wrap64 (hq : Int) = (hq : Int) := by unfold wrap64; omega
              have w8' : (tq : Int) + 1 - 1 = (tq : Int) := by omega
              have w9' : (hq : Int) + 1 - 1 = (hq : Int) := by omega
              have HNF : Hid (L'.fs.length ≤ 1000000) := Lib.hid (by have := HF'.out; omega)
              have hs' : (n : Int) ≤ 4294967296 := by have := HF'.out; have := HN.out; omega
              have hnm : n = m + 1 := by have := HN.out; have := HM.out; omega
              have HV1 := Lib.hid hs1
              obtain ⟨v1a, v1n, v1c, rfl⟩ : ∃ a n c, v1 = Value.slice a n c := by obtain ⟨a, c, e, _⟩ := hs1.shape; exact ⟨a, _, c, e⟩
              clear k1 k2 k3 k4 k5 htq hmq hhq hlast' hfc hql hhl hjj hlen hs1 ho1 hr1 hms hbz' hfrz hen hlz'
              go_wp2_with fail
              refine (wopen_some L5.out hnm hs').mono ?_
              rintro e w6 ⟨rfl, hb6⟩
              have L6 := Lib.hid (L5.out.below hb6)
              have S6 := Lib.hid (S5.out.trans (LStep.below hb6))
              have HS6 := Lib.hid (HS1.out.below hb6)
              have HD6 : Hid (Datas w6 (fun _ => False) ((el'.drop tq).take mq)) := Lib.hid (HD1.out.kept (Kept.of_below hb6 (S := fun _ => False) fun k h1 h2 => by omega) fun _ h => h)
              obtain ⟨q0, q1, q2⟩ := L6.out.cellL HF.out HM.out
              rw [HFF.out] at q0
              have c1' := L6.out.c1
              rw [HBZ'.out] at c1'
              clear hb6
              go_wp2_with fail
              go_quiet (fail)
              generalize hwq : World.drewN w6 _ = wq
              have BQ : Below w6.heap.size w6 wq := by subst hwq; exact Below.drewN _ _
              have HQ := Lib.hid (L6.out.below BQ)
              have SQ := Lib.hid (S6.out.trans (LStep.below BQ))
              have HSQ := Lib.hid (HS6.out.below BQ)
              have HDQ : Hid (Datas wq (fun _ => False) ((el'.drop tq).take mq)) := Lib.hid (HD6.out.kept (Kept.of_below BQ (S := fun _ => False) fun k h1 h2 => by omega) fun _ h => h)
              have STq := Stable.from wq
              clear hwq BQ q0 q1 q2 c1'
              go_wp2_with fail
              refine region_start [0, 1, 3, 7, 0, 16, 48, 112, 0, 0, 0, 1024, 3584, 8176, 16383, 32767, 65535, 65535, 131071, 524287] 0 (fun w' => Below wq.heap.size wq w') (by kernel_rfl) ?_
              refine stage_heads [0, 1, 2, 3, 4, 5, 6, 7, 8, 9, 10, 11, 12, 13] (by kernel_rfl) (L := #[true, true, true, true, true, true, true, true, true, true, true, true, true, true, false, false, false, false, false, false]) (by kernel_rfl) (f' := 6) rfl (fun _ _ _ _ h => h) (fun w o h => STq.alloc h o) (.inr (by first | exact Below.refl _ _ | exact (Below.refl _ _).drew)) ?_
              simp only [List.flatMap_cons, List.flatMap_nil, List.drop_succ_cons, List.drop_zero, List.take_succ_cons, List.take_zero, List.cons_append, List.nil_append, List.append_nil]
              iterate 14 (first | (refine heads_load _ (by rfl) (fun w' hs => by have Y := HQ.out.below hs; have b2 := Y.c2; obtain ⟨y0, y1, y2⟩ := Y.cellL HF.out HM.out; rw [HFF.out] at y0; go_simp; try with_reducible rfl) rfl ?_; simp only [Act.put, List.setIfInBounds_toArray, List.set_cons_zero, List.set_cons_succ]) | (refine heads_pure _ (by rfl) (fun w' => by go_simp; try with_reducible rfl) ?_; simp only [Act.put, List.setIfInBounds_toArray, List.set_cons_zero, List.set_cons_succ]))
              refine heads_nil ?_
              refine stage_op 14 (by kernel_rfl) (L := #[true, true, true, true, true, true, true, true, true, true, true, true, true, true, true, false, false, false, false, false]) (by kernel_rfl) ?_
              simp only [List.drop_succ_cons, List.drop_zero, List.take_succ_cons, List.take_zero]
              go_wp2_with fail; have WL := wlines (i := f.f) (w := wq.drew) (HSQ.out.below ((Below.refl wq.heap.size wq).drew)) (HDQ.out.kept (Kept.of_below ((Below.refl wq.heap.size wq).drew) (S := fun _ => False) fun k h1 h2 => by omega) fun _ h => h) HMS.out (by have := HLN.out; omega) HMN.out HFI.out; rw [HFF.out] at WL; refine WL.mono ?_; clear WL; rintro e u14 ⟨hb14, hyes, _⟩; obtain ⟨bv, rfl, hown, hblt⟩ := hyes HALL.out; have I14 : Hid (Below wq.heap.size wq u14) := Lib.hid (((Below.refl wq.heap.size wq).drew).trans hb14); obtain ⟨ba, bc, rfl⟩ := hown.shape; clear hyes hown hblt hb14; go_wp2_with fail
              refine step_post nofun ?_
              refine stage_heads [15, 16, 17, 18, 19] (by kernel_rfl) (L := #[true, true, true, true, true, true, true, true, true, true, true, true, true, true, true, true, true, true, true, true]) (by kernel_rfl) (f' := 0) rfl (fun _ _ _ _ h => h) (fun w o h => STq.alloc h o) (.inl (by kernel_rfl)) ?_
              simp only [List.flatMap_cons, List.flatMap_nil, List.drop_succ_cons, List.drop_zero, List.take_succ_cons, List.take_zero, List.cons_append, List.nil_append, List.append_nil]
              iterate 5 (refine heads_pure _ (by rfl) (fun w' => by go_simp; try with_reducible rfl) ?_; simp only [Act.put, List.setIfInBounds_toArray, List.set_cons_zero, List.set_cons_succ])
              refine heads_nil ?_
              refine stage_done (by kernel_rfl) ?_
              obtain ⟨bn, hbn⟩ : ∃ bn, (ints (linesW f.f ms)).length = bn := ⟨_, rfl⟩
              have HBN : Hid ((linesW f.f ms).length = bn) := Lib.hid (by rw [← hbn, length_ints])
              rw [hbn]
              have L14 := Lib.hid (HQ.out.below I14.out)
              have S14 := Lib.hid (SQ.out.trans (LStep.below I14.out))
              obtain ⟨q0, q1, q2⟩ := L14.out.cellL HF.out HM.out
              rw [HFF.out] at q0
              clear hbn
              go_wp2_with fail
              have WG := ghead_any f.f u14 (by have := HNM.out.2; omega)
              rw [HFF.out] at WG
              refine WG.mono ?_
              clear WG
              rintro e w7 ⟨hv, rfl, ho7, hb7⟩
              obtain ⟨ha7, hc7, rfl⟩ := ho7.shape
              obtain ⟨hn7, hhn⟩ : ∃ hn, (ints (headW f.f)).length = hn := ⟨_, rfl⟩
              have HHN : Hid ((headW f.f).length = hn7) := Lib.hid (by rw [← hhn, length_ints])
              rw [hhn]
              obtain ⟨sz, hsz⟩ : ∃ sz : Nat, hn7 + bn = sz := ⟨_, rfl⟩
              have HSZ : Hid ((headW f.f).length + (linesW f.f ((L'.es.drop (f.f - L'.b - 1)).take (frm - f.f))).length = sz) := Lib.hid (by rw [HTQ.out, HMQ.out, HMSE.out, HHN.out, HBN.out]; exact hsz)
              have hszi : (hn7 : Int) + (bn : Int) = (sz : Int) := by omega
              have wsz : IntKind.i64.wrap (sz : Int) = (sz : Int) := by
                have h1 := (headW_small (n := f.f) (by have := HNM.out.2; omega)).1
                have h2 := HLN.out
                have h3 := HHN.out
                have h4 := HBN.out
                simp only [IntKind.wrap_i64]
                omega
              have LS := Lib.hid (L14.out.below hb7)
              have SS := Lib.hid (S14.out.trans (LStep.below hb7))
              have HNS : Hid ((nameW f.f).size ≤ maxLen) := Lib.hid (Nat.le_trans (size_nameW_le f.f) (by decide))
              generalize w7 = ws at *
              have STs := Stable.from ws
              clear ho7 hb7 hhn hsz q0 q1 q2
              go_wp2_with fail
              refine region_start [0, 1, 3, 7, 0, 16, 48, 112, 0, 511, 1023] 128 (fun w' => Below ws.heap.size ws w') (by kernel_rfl) ?_
              refine stage_heads [0, 1, 2, 3, 4, 5, 6, 8] (by kernel_rfl) (L := #[true, true, true, true, true, true, true, false, true, false, false]) (by kernel_rfl) (f' := 3) rfl (fun _ _ _ _ h => h) (fun w o h => STs.alloc h o) (.inr (by first | exact Below.refl _ _ | exact (Below.refl _ _).drew)) ?_
              simp only [List.flatMap_cons, List.flatMap_nil, List.drop_succ_cons, List.drop_zero, List.take_succ_cons, List.take_zero, List.cons_append, List.nil_append, List.append_nil]
              iterate 8 (first | (refine heads_load _ (by rfl) (fun w' hs => by have Y := LS.out.below hs; have b0 := Y.c0; obtain ⟨y0, y1, y2⟩ := Y.cellL HF.out HM.out; rw [HFF.out] at y0; go_simp; try with_reducible rfl) rfl ?_; simp only [Act.put, List.setIfInBounds_toArray, List.set_cons_zero, List.set_cons_succ]) | (refine heads_pure _ (by rfl) (fun w' => by go_simp; try with_reducible rfl) ?_; simp only [Act.put, List.setIfInBounds_toArray, List.set_cons_zero, List.set_cons_succ]))
              refine heads_nil ?_
              refine stage_op 7 (by kernel_rfl) (L := #[true, true, true, true, true, true, true, true, true, false, false]) (by kernel_rfl) ?_
              simp only [List.drop_succ_cons, List.drop_zero, List.take_succ_cons, List.take_zero]
              go_wp2_with fail; have WN := wname f.f f.m f.s ws.drew HNM.out.1 HNM.out.2; rw [HFF.out] at WN; refine WN.mono ?_; clear WN; rintro e u7 ⟨rfl, hb7⟩; have I7 : Hid (Below ws.heap.size ws u7) := Lib.hid (by first | exact hb7 | exact ((Below.refl _ _).drew).trans hb7); clear hb7; go_wp2_with fail
              refine step_post (fun _ => I7.out) ?_
              refine stage_op 9 (by kernel_rfl) (L := #[true, true, true, true, true, true, true, true, true, true, false]) (by kernel_rfl) ?_
              simp only [List.drop_succ_cons, List.drop_zero, List.take_succ_cons, List.take_zero]
              go_wp2_with fail; have L7 := Lib.hid (LS.out.below I7.out); refine (dcut_any db mb tb D' (nameW f.f) sz u7 L7.out.disk HI'.out.good.wf HNS.out).mono ?_; rintro e w4 ⟨rfl, hd4, hk4⟩; have L4 : Hid (LogAt w4 lb db mb tb (.slice ea en ec) (.slice (some ⟨g, 0, none⟩) n c) el' (cutD D' (nameW f.f) sz).1 L') := Lib.hid (L7.out.disked hd4 hk4); have S4 : Hid (LStep lb db mb tb w ev fv w4 (.slice ea en ec) (.slice (some ⟨g, 0, none⟩) n c)) := Lib.hid (SS.out.trans ((LStep.below I7.out).trans (LStep.disk hk4))); clear hd4 hk4; obtain ⟨k, hk⟩ : ∃ k, (cutD D' (nameW f.f) sz).2 = k := ⟨_, rfl⟩; have HK := Lib.hid hk; rw [hk]; clear hk; go_wp2_with fail
              refine step_post nofun ?_
              refine stage_heads [10] (by kernel_rfl) (L := #[true, true, true, true, true, true, true, true, true, true, true]) (by kernel_rfl) (f' := 0) rfl (fun _ _ _ _ h => h) (fun w o h => STs.alloc h o) (.inl (by kernel_rfl)) ?_
              simp only [List.flatMap_cons, List.flatMap_nil, List.drop_succ_cons, List.drop_zero, List.take_succ_cons, List.take_zero, List.append_nil]
              iterate 1 (refine heads_pure _ (by rfl) (fun w' => by go_simp; try with_reducible rfl) ?_; simp only [Act.put, List.setIfInBounds_toArray, List.set_cons_zero, List.set_cons_succ])
              refine heads_nil ?_
              refine stage_done (by kernel_rfl) ?_
              by_cases hk0 : k = 0
              · have hkb : ((k : Int) != 0) = false := by rw [hk0]; rfl
                have HK0 : Hid ((cutD D' (nameW f.f) sz).2 = 0) := Lib.hid (HK.out.trans hk0)
                obtain ⟨q0, q1, q2⟩ := L4.out.cellL HF.out HM.out
                have z1 := OwnL.unfrozen L4.out.fr (m * 3 + 1)
                have z2 := OwnL.unfrozen L4.out.fr (m * 3 + 2)
                have c1' := L4.out.c1
                rw [HBZ'.out] at c1'
                have hgl : ¬ g = lb := (L4.out.nf g rfl).1
                have hgl' : ¬ lb = g := fun e => hgl e.symm
                have d1 : ((w4.setCell ⟨g, m * 3 + 1, none⟩ (.int .i64 (mq : Nat))).setCell ⟨g, m * 3 + 2, none⟩ (.int .i64 (sz : Nat))).cell? ⟨lb, 1, none⟩ = some (.int .u64 bz') := by rw [← HBZ'.out]; exact (L4.out.stored2 HF.out HM.out mq sz).c1
                clear hk0 k3' hmi hti hti0 hhi hb59 hm59 ht59 w1' w2' w3' w4' w8' hszi wsz hqz hfz haz hbx wz hs' hnm hcut1
                go_wp2_with fail
                have L5' := Lib.hid (L4.out.stored2 HF.out HM.out mq sz)
                have S5' : Hid (LStep lb db mb tb w4 (.slice ea en ec) (.slice (some ⟨g, 0, none⟩) n c) ((w4.setCell ⟨g, m * 3 + 1, none⟩ (.int .i64 (mq : Nat))).setCell ⟨g, m * 3 + 2, none⟩ (.int .i64 (sz : Nat))) (.slice ea en ec) (.slice (some ⟨g, 0, none⟩) n c)) := Lib.hid ⟨((Kept.setCell w4 ⟨g, m * 3 + 1, none⟩ _).trans (Kept.setCell _ ⟨g, m * 3 + 2, none⟩ _)).mono fun b _ e => .inr (.inr (.inr (by rw [e]; rfl))), fun b hb => .inl hb, fun b hb => .inl hb⟩
                refine (wshrink L5'.out hq HHL.out).mono ?_
                rintro e w8 ⟨rfl, ev8, hl8, hb8, hk8⟩
                have L8 := Lib.hid hl8
                have S8 : Hid (LStep lb db mb tb w ev fv w8 ev8 (.slice (some ⟨g, 0, none⟩) n c)) := Lib.hid (S4.out.trans (S5'.out.trans ⟨hk8.mono fun k _ e => .inl e, fun b hb => .inl (hb8 ▸ hb), fun b hb => .inl hb⟩))
                clear hl8 hb8 hk8 d1 q0 q1 q2 c1' z1 z2
                go_wp2_with fail
                go_ret
                have HC : cutL D' L' frm = ((cutD D' (nameW f.f) sz).1, ⟨L'.b, L'.es.take hq, L'.fs.dropLast ++ [⟨f.f, mq, sz⟩], min L'.safe hq⟩, 0) := by
                  unfold cutL
                  rw [HF.out]
                  simp only
                  rw [HSZ.out, if_neg (fun q => q HK0.out), HJJ.out, HMQ.out]
                rw [HR.out, HE.out, if_neg (fun q => q rfl), if_neg HQ0.out, HC]
                exact ⟨rfl, _, _, _, L8.out, S8.out.1, S8.out.2.1, S8.out.2.2⟩
              · have hkb : ((k : Int) != 0) = true := by simp; omega
                have HK0 : Hid ((cutD D' (nameW f.f) sz).2 ≠ 0) := Lib.hid (by rw [HK.out]; exact hk0)
                clear hk0
                go_wp2_with fail
                go_ret
                have HC : cutL D' L' frm = ((cutD D' (nameW f.f) sz).1, L', (cutD D' (nameW f.f) sz).2) := by
                  unfold cutL
                  rw [HF.out]
                  simp only
                  rw [HSZ.out, if_pos HK0.out]
                rw [HR.out, HE.out, if_neg (fun q => q rfl), if_neg HQ0.out, HC]
                exact ⟨by rw [HK.out]; rfl, _, _, _, L4.out, S4.out.1, S4.out.2.1, S4.out.2.2⟩
          · have hfz : decide (fr ≤ ff) = true := decide_eq_true (by have := HFR.out; omega)
            have HFC := Lib.hid hfc
            clear hf hne hfc hc hnm
            go_wp2_with fail
            refine (wpop HL.out HI'.out.good.wf HOK.out HNE.out (by have := HF'.out; omega)).mono ?_
            rintro e w4 ⟨rfl, ev2, fv2, el2, hl2, hst2⟩
            have L4 := Lib.hid hl2
            have S4 := Lib.hid (HS.out.trans hst2)
            obtain ⟨k, hk⟩ : ∃ k, (popW D' L').2.2 = k := ⟨_, rfl⟩
            have HK := Lib.hid hk
            rw [hk]
            clear hl2 hst2 hk q0 q1 q2
            by_cases hk0 : k = 0
            · have bk : ((k : Int) != 0) = false := by rw [hk0]; rfl
              have HK0 : Hid ((popW D' L').2.2 = 0) := Lib.hid (HK.out.trans hk0)
              have HP := Lib.hid (HI'.out.pop HNE.out HK0.out (by have := HS'.out; omega))
              have HFS := Lib.hid (popW_fs D' L' HNE.out HK0.out)
              clear hk0
              go_wp2_with fail
              refine (wopen_all L4.out (by have := HF'.out; have := HFS.out; omega)).mono ?_
              rintro e w5 ⟨rfl, hb5⟩
              have L5 := Lib.hid (L4.out.below hb5)
              have S5 := Lib.hid (S4.out.trans (LStep.below hb5))
              clear hb5
              go_wp2_with fail
              go_roundw
              case rel =>
                refine ⟨(popW D' L').1, (popW D' L').2.1, ev2, fv2, el2, rfl, L5.out, S5.out, ?_, HP.out.1, HP.out.2.2.trans HBB.out, ?_, ?_⟩
                · rw [← HRF.out, cutF_round HF.out HFC.out HK0.out]
                · have := HP.out.2.1; have := HS'.out; have := HFS.out; omega
                · have := HF'.out; have := HFS.out; omega
              case measure =>
                have := HFS.out
                rw [HL.out.nfs, L5.out.nfs]
                omega
            · have bk : ((k : Int) != 0) = true := by simp; omega
              have HK0 : Hid ((popW D' L').2.2 ≠ 0) := Lib.hid (by rw [HK.out]; exact hk0)
              clear hk0
              go_wp2_with fail
              go_ret
              have HE : cutF frm L.fs.length D L = popW D' L' := by rw [← HRF.out, cutF_stop HF.out HFC.out HK0.out]
              rw [HR.out, HE, if_pos HK0.out]
              exact ⟨by rw [HK.out]; rfl, _, _, _, L4.out, S4.out.1, S4.out.2.1, S4.out.2.2⟩
end Go.Proofs.YtjdglpcnkiioeaaGreat

/- The contract of a log's Drop; no conditions but the ranges. -/
namespace Go.Proofs.YtjdglpcnkiioeaaGreat
open Go.RowKit Go.Maps Go.Proofs.Own Go.Shelf

/-- The first file goes. -/
theorem drop1_law {D : DiskS} {L : WalS} {p q : Pc} {s : List Pc} (h : WInv D L (p :: q :: s)) (hd : D.down = false) (hr : Rising D.files) :
    ((removeD D (nameW p.f)).2 = 50 ∧ (removeD D (nameW p.f)).1.down = true) ∨
    ((removeD D (nameW p.f)).2 = 0 ∧ (removeD D (nameW p.f)).1.down = false ∧ Rising (removeD D (nameW p.f)).1.files ∧ WInv (removeD D (nameW p.f)).1 ⟨L.b + p.es.length, L.es.drop p.es.length, (q :: s).map Pc.wf, L.safe - p.es.length⟩ (q :: s) ∧ p.es.length ≤ L.safe ∧ p.es.length ≤ L.es.length) := by
  have hf := log_find (A := []) hr h.fil (h.in60 (List.mem_cons_self ..))
  have hel : L.es = p.es ++ esOf (q :: s) := h.es
  rcases remove_cases hd hf with ⟨k1, k2, k3⟩ | ⟨k1, k2, k3⟩
  · exact .inl ⟨k1, k2⟩
  · have hes : L.es.drop p.es.length = esOf (q :: s) := by
      rw [hel]
      exact List.drop_left' rfl
    have hlen : L.es.length = p.es.length + (esOf (q :: s)).length := by rw [hel, List.length_append]
    have hqf : q.f = L.b + 1 + p.es.length := h.ch.2.1
    have hq59 := h.lo.2 q (List.mem_cons_of_mem _ (List.mem_cons_self ..))
    have hsafe : p.es.length ≤ L.safe := by
      obtain ⟨A, z, e⟩ := split_last (P := q :: s) (by simp)
      have := (h.kept (p :: A) z (by rw [e]; rfl)).1
      rw [esOf_cons, List.length_append] at this
      omega
    refine .inr ⟨k1, k2, ?_, ⟨?_, rfl, hes, ?_, ?_, ?_, ?_, ?_, ?_, (by show L.b + p.es.length < H59; omega), fun x hx => h.lo.2 x (List.mem_cons_of_mem _ hx)⟩, hsafe, by omega⟩
    · rw [k3]
      exact hr.del _
    · show (removeD D (nameW p.f)).1.files.filter isW = _
      rw [k3]
      exact log_del (A := []) hr h.fil
    · have := h.ch.2
      rw [show L.b + 1 + p.es.length = L.b + p.es.length + 1 by omega] at this
      exact this
    · intro e he
      exact h.ok e (List.mem_of_mem_drop he)
    · show L.b + p.es.length + (L.es.drop p.es.length).length ≤ H59
      have := h.hi
      rw [hes]
      omega
    · intro x hx
      refine h.full x ?_
      show x ∈ p :: (q :: s).dropLast
      exact List.mem_cons_of_mem _ hx
    · show L.safe - p.es.length ≤ (L.es.drop p.es.length).length
      have := h.safe
      rw [hes]
      omega
    · intro B y e
      have hB : p :: q :: s = (p :: B) ++ [y] := by rw [List.cons_append, ← e]
      obtain ⟨s1, s2⟩ := h.kept (p :: B) y hB
      rw [esOf_cons, List.length_append] at s1 s2
      show (esOf B).length ≤ L.safe - p.es.length ∧ _
      refine ⟨by omega, ?_⟩
      rcases s2 with ⟨p0, p1, p2⟩ | ⟨j, j1, j2, j3⟩
      · exact .inl ⟨p0, by show L.safe - p.es.length = _; omega, p2⟩
      · exact .inr ⟨j, j1, by show L.safe - p.es.length ≤ _; omega, j3⟩
def dropL (L : WalS) (f : WF) (r : List WF) : WalS := ⟨L.b + f.m, L.es.drop f.m, r, L.safe - f.m⟩
theorem CutI.dropped {D : DiskS} {L : WalS} (h : CutI D L) {f g : WF} {r : List WF} (hf : L.fs = f :: g :: r) (hs : D.steps + 1 ≤ 1000000000) (he : (removeD D (nameW f.f)).2 = 0) :
    CutI (removeD D (nameW f.f)).1 (dropL L f (g :: r)) ∧ (removeD D (nameW f.f)).1.steps ≤ D.steps + 1 ∧ f.m ≤ L.safe ∧ f.m ≤ L.es.length := by
  obtain ⟨⟨P, hi⟩, hd, hr, hg⟩ := h
  have hfs := hi.fs
  rw [hf] at hfs
  match P, hfs with
  | p :: q :: s, hfs =>
    simp only [List.map_cons, List.cons.injEq] at hfs
    obtain ⟨rfl, rfl, rfl⟩ := hfs
    have hg2 := hg.remove (nameW p.f) hs
    rcases drop1_law hi hd hr with ⟨h1, _⟩ | ⟨_, h2, h3, h4, h5, h6⟩
    · have he' : (removeD D (nameW p.f)).2 = 0 := he
      rw [h1] at he'
      cases he'
    · exact ⟨⟨⟨q :: s, h4⟩, h2, h3, hg2.1⟩, hg2.2, h5, h6⟩
theorem dropF_round {upto : Nat} {D : DiskS} {L : WalS} {f g : WF} {r : List WF} (hf : L.fs = f :: g :: r) (hc : g.f ≤ upto + 1) (he : (removeD D (nameW f.f)).2 = 0) : dropF upto L.fs.length D L = dropF upto (dropL L f (g :: r)).fs.length (removeD D (nameW f.f)).1 (dropL L f (g :: r)) := by
  have hl : L.fs.length = (g :: r).length + 1 := by rw [hf]; rfl
  rw [hl]
  show (match L.fs with | f :: g :: r => _ | _ => _) = _
  rw [hf]
  simp only
  rw [if_pos hc, if_neg (fun h => h he)]
  rfl
theorem dropF_stop {upto : Nat} {D : DiskS} {L : WalS} {f g : WF} {r : List WF} (hf : L.fs = f :: g :: r) (hc : g.f ≤ upto + 1) (he : (removeD D (nameW f.f)).2 ≠ 0) : dropF upto L.fs.length D L = ((removeD D (nameW f.f)).1, L, (removeD D (nameW f.f)).2) := by
  have hl : L.fs.length = (g :: r).length + 1 := by rw [hf]; rfl
  rw [hl]
  show (match L.fs with | f :: g :: r => _ | _ => _) = _
  rw [hf]
  simp only
  rw [if_pos hc, if_pos he]
theorem dropF_more {upto : Nat} {D : DiskS} {L : WalS} {f g : WF} {r : List WF} (hf : L.fs = f :: g :: r) (hc : ¬ g.f ≤ upto + 1) (n : Nat) : dropF upto n D L = (D, L, 0) := by
  cases n with
  | zero => rfl
  | succ n =>
    show (match L.fs with | f :: g :: r => _ | _ => _) = _
    rw [hf]
    simp only
    rw [if_neg hc]
theorem dropF_few {upto : Nat} {D : DiskS} {L : WalS} (hf : L.fs.length ≤ 1) (n : Nat) : dropF upto n D L = (D, L, 0) := by
  cases n with
  | zero => rfl
  | succ n =>
    show (match L.fs with | f :: g :: r => _ | _ => _) = _
    split
    · rename_i h
      rw [h] at hf
      simp at hf
    · rfl
/-- Block b holds a file's numbers. -/
structure FB (W : World) (b : Nat) (f : WF) : Prop where
  c0 : W.cell? ⟨b, 0, none⟩ = some (.int .u64 f.f)
  c1 : W.cell? ⟨b, 1, none⟩ = some (.int .i64 f.m)
  c2 : W.cell? ⟨b, 2, none⟩ = some (.int .i64 f.s)
theorem FB.kept {W W' : World} {b : Nat} {f : WF} {S : Nat → Prop} (h : FB W b f) (hk : Kept W W' S) (hs : ¬ S b) : FB W' b f := ⟨hk.cell h.c0 hs, hk.cell h.c1 hs, hk.cell h.c2 hs⟩
theorem FB.below {W W' : World} {b : Nat} {f : WF} (h : FB W b f) (hb : Below W.heap.size W W') : FB W' b f := h.kept (Kept.of_below hb (S := fun _ => False) fun k h1 h2 => by omega) id
/-- .. and a log's block tells how many entries are safe. -/
structure FB4 (W : World) (b : Nat) (f : WF) (lb s : Nat) : Prop where
  fb : FB W b f
  c4 : W.cell? ⟨lb, 4, none⟩ = some (.int .i64 s)
theorem FB4.below {W W' : World} {b : Nat} {f : WF} {lb s : Nat} (h : FB4 W b f lb s) (hb : Below W.heap.size W W') : FB4 W' b f lb s := ⟨h.fb.below hb, Below.at hb h.c4 (World.block_lt_of_cell? _ _ h.c4)⟩
theorem FB4.set1 {W : World} {b : Nat} {f : WF} {lb s : Nat} (h : FB4 W b f lb s) (v : Value) (hb : b ≠ lb) : FB4 (W.setCell ⟨lb, 1, none⟩ v) b f lb s := ⟨h.fb.kept (Kept.setCell W ⟨lb, 1, none⟩ v) hb, by rw [World.cell?_setCell_other _ _ _ _ (by simp)]; exact h.c4⟩

set_option maxHeartbeats 8000000 in
set_option maxRecDepth 20000 in
theorem wdrop {lb db mb tb : Nat} {ev fv : Value} {el : EntR} {D : DiskS} {L : WalS} {w : World} (h : LogAt w lb db mb tb ev fv el D L) (hi : CutI D L) (hst : D.steps + 200 ≤ 1000000000) (upto : Nat) (hup : (upto : Int) < 18446744073709551616) :
    Calls Tryz.prog 62 #[.pointer (some ⟨lb, 0, none⟩), .int .u64 upto] w (LogPost lb db mb tb ev fv (dropW D L upto) w) := by
  have HH := Lib.hid h
  have HI := Lib.hid hi
  obtain ⟨P0, hinv⟩ := hi.inv
  have hl : L.last ≤ H59 := hinv.hi
  have hfew := hinv.few hi.good
  have HST : Hid (D.steps + L.fs.length + 10 ≤ 1000000000) := Lib.hid (by omega)
  have HFW : Hid (L.fs.length ≤ 128) := Lib.hid hfew
  have HB := Lib.hid (show (L.last : Int) < 18446744073709551616 by unfold H59 at hl; omega)
  obtain ⟨lz, hlz⟩ : ∃ lz : Int, (L.last : Int) = lz := ⟨_, rfl⟩
  have HLZ := Lib.hid hlz
  obtain ⟨up, hupz⟩ : ∃ up : Int, (upto : Int) = up := ⟨_, rfl⟩
  have HUP := Lib.hid hupz
  have hl1 : lz ≤ 576460752303423488 := by unfold H59 at hl; omega
  rw [hupz]
  by_cases ha : L.last < upto
  · have haz : decide (lz < up) = true := decide_eq_true (by omega)
    have HR : Hid (dropW D L upto = (D, L, 2)) := Lib.hid (by unfold dropW; rw [if_pos ha])
    clear h hi hinv hl hfew hst hup hlz hupz ha hl1
    go_enter Tryz.func62, Tryz.ntmps62
    go_wp2_with fail
    refine (wnone HH.out).mono ?_
    rintro e w1 ⟨rfl, rfl⟩
    go_wp2_with fail
    refine (wlast HH.out HB.out).mono ?_
    rintro e w2 ⟨rfl, hb2⟩
    rw [HLZ.out]
    have L2 := Lib.hid (HH.out.below hb2)
    have B2 : Hid (LStep lb db mb tb w ev fv w2 ev fv) := Lib.hid (LStep.below hb2)
    clear hb2
    go_wp2_with fail
    go_ret
    rw [HR.out]
    exact ⟨rfl, _, _, _, L2.out, B2.out⟩
  · have haz : decide (lz < up) = false := decide_eq_false (by omega)
    have HU : Hid (0 ≤ up ∧ up ≤ 576460752303423488) := Lib.hid ⟨by omega, by omega⟩
    have hu1 := HU.out
    have wz : IntKind.u64.wrap (up + 1) = up + 1 := by rw [wrap_u64]; omega
    have HR : Hid (dropW D L upto = dropF upto L.fs.length D L) := Lib.hid (by unfold dropW; rw [if_neg ha])
    clear hu1 h hi hinv hl hfew hst hup hlz hupz ha hl1
    go_enter Tryz.func62, Tryz.ntmps62
    go_wp2_with fail
    refine (wnone HH.out).mono ?_
    rintro e w1 ⟨rfl, rfl⟩
    go_wp2_with fail
    refine (wlast HH.out HB.out).mono ?_
    rintro e w2 ⟨rfl, hb2⟩
    rw [HLZ.out]
    have L2 := Lib.hid (HH.out.below hb2)
    have S2 : Hid (LStep lb db mb tb w ev fv w2 ev fv) := Lib.hid (LStep.below hb2)
    clear hb2
    go_wp2_with fail
    go_loopw [] (fun wr => ∃ D' L' ev' fv' el', LogAt wr lb db mb tb ev' fv' el' D' L' ∧ LStep lb db mb tb w ev fv wr ev' fv' ∧ dropF upto L'.fs.length D' L' = dropF upto L.fs.length D L ∧ CutI D' L' ∧ D'.steps + L'.fs.length + 10 ≤ 1000000000 ∧ L'.fs.length ≤ 128) (fun wr => nFilesAt lb wr)
    case atStart => exact ⟨D, L, ev, fv, el, L2.out, S2.out, rfl, HI.out, HST.out, HFW.out⟩
    case round =>
      obtain ⟨D', L', ev', fv', el', hl, hst, hr, hi, hs, hf⟩ := hrel
      have HL := Lib.hid hl
      have HS := Lib.hid hst
      have HRF := Lib.hid hr
      have HI' := Lib.hid hi
      have HS' := Lib.hid hs
      have HF' := Lib.hid hf
      have HOK := Lib.hid ((hi.inv.choose_spec.lok hi.good).1)
      have c3 := hl.c3
      obtain ⟨fa, fc, rfl, hfc⟩ := hl.shapeF
      obtain ⟨n, hn⟩ : ∃ n, L'.fs.length = n := ⟨_, rfl⟩
      have HN := Lib.hid hn
      rw [hn] at c3 HL HS hfc
      clear hl hst hr hi hs hf
      by_cases h1 : n ≤ 1
      · have hn1 : decide ((1 : Int) < (n : Int)) = false := decide_eq_false (by omega)
        have HE : Hid (dropF upto L.fs.length D L = (D', L', 0)) := Lib.hid (by rw [← HRF.out, dropF_few (by omega)])
        clear h1 hfc hn
        go_wp2_with fail
        go_ret
        rw [HR.out, HE.out]
        exact ⟨rfl, _, _, _, HL.out, HS.out.1, HS.out.2.1, HS.out.2.2⟩
      · have hn1 : decide ((1 : Int) < (n : Int)) = true := decide_eq_true (by omega)
        have hn1' : (1 : Int) < (n : Int) := by omega
        have hn0' : (0 : Int) < (n : Int) := by omega
        obtain ⟨f, g1, r, hfs⟩ : ∃ f g1 r, L'.fs = f :: g1 :: r := by
          match e : L'.fs with
          | [] => rw [e] at hn; simp at hn; omega
          | [x] => rw [e] at hn; simp at hn; omega
          | x :: y :: r => exact ⟨x, y, r, rfl⟩
        obtain ⟨g, c', e1, hc', hg'⟩ := OwnL.some HL.out.fr (by rw [hfs]; simp)
        have e3 := (Value.slice.inj e1).1
        have e4 := (Value.slice.inj e1).2.2
        clear e1 hc' hg'
        subst e3 e4
        have HFS := Lib.hid hfs
        obtain ⟨x0, x1, x2⟩ := HL.out.cellF (k := 0) (by omega)
        have q0 := (HL.out.cellF (k := 1) (by omega)).1
        simp only [hfs, List.getElem_cons_zero, List.getElem_cons_succ, Nat.zero_mul, Nat.zero_add, Nat.one_mul] at x0 x1 x2 q0
        obtain ⟨gf, hgf⟩ : ∃ gf : Int, (g1.f : Int) = gf := ⟨_, rfl⟩
        rw [hgf] at q0
        by_cases hc : g1.f ≤ upto + 1
        · have hcz : decide (gf ≤ up + 1) = true := decide_eq_true (by have := HUP.out; omega)
          have HC := Lib.hid hc
          have HNM := Lib.hid ((HOK.out).nm f (by rw [hfs]; exact List.mem_cons_self ..))
          have HNS : Hid ((nameW f.f).size ≤ maxLen) := Lib.hid (Nat.le_trans (size_nameW_le f.f) (by decide))
          have HFM : Hid (f.m ≤ L'.es.length) := Lib.hid ((HOK.out).m (by rw [hfs]; exact List.mem_cons_self ..))
          have HB59 : Hid ((L'.b : Int) ≤ 1152921504606846976 ∧ (L'.es.length : Int) ≤ 2147483648) := Lib.hid ⟨by have := (HOK.out).b; omega, by have := (HOK.out).few; omega⟩
          obtain ⟨ea, ec, rfl, _⟩ := HL.out.shapeE
          obtain ⟨en, hen⟩ : ∃ en, L'.es.length = en := ⟨_, rfl⟩
          have HEN := Lib.hid hen
          rw [hen] at HL HS
          have hgc := HL.out.lt
          clear h1 hn hfc hfs hgf hc hen
          go_wp2_with fail
          generalize hwa : World.alloc wr _ = wa
          have BA : Below wr.heap.size wr wa := by subst hwa; exact (Below.refl _ _).alloc (Nat.le_refl _) _
          have FA : Hid (FB wa wr.heap.size f) := Lib.hid (by subst hwa; exact ⟨by go_cell, by go_cell, by go_cell⟩)
          have LA := Lib.hid (HL.out.below BA)
          have SA := Lib.hid (HS.out.trans (LStep.below BA))
          have HNB : Hid (¬ Own3 db mb tb wr.heap.size) := Lib.hid (fun h => by have := HL.out.disk.lt3 _ h; omega)
          have HFB : Hid (wr.heap.size ≠ lb) := Lib.hid (by omega)
          clear BA hwa q0 x0 x1 x2 c3 hgc
          generalize wr.heap.size = fb at *
          have STa := Stable.from wa
          go_wp2_with fail
          refine region_start [0, 1, 3, 7, 0, 16, 63, 127] 32 (fun w' => Below wa.heap.size wa w') (by kernel_rfl) ?_
          refine stage_heads [0, 1, 2, 3, 4] (by kernel_rfl) (L := #[true, true, true, true, true, false, false, false]) (by kernel_rfl) (f' := 3) rfl (fun _ _ _ _ h => h) (fun w o h => STa.alloc h o) (.inr (by first | exact Below.refl _ _ | exact (Below.refl _ _).drew)) ?_
          simp only [List.flatMap_cons, List.flatMap_nil, List.drop_succ_cons, List.drop_zero, List.take_succ_cons, List.take_zero, List.cons_append, List.nil_append, List.append_nil]
          iterate 5 (first | (refine heads_load _ (by rfl) (fun w' hs => by have Y := LA.out.below hs; have b0 := Y.c0; obtain ⟨y0, y1, y2⟩ := FA.out.below hs; go_simp; try with_reducible rfl) rfl ?_; simp only [Act.put, List.setIfInBounds_toArray, List.set_cons_zero, List.set_cons_succ]) | (refine heads_pure _ (by rfl) (fun w' => by go_simp; try with_reducible rfl) ?_; simp only [Act.put, List.setIfInBounds_toArray, List.set_cons_zero, List.set_cons_succ]))
          refine heads_nil ?_
          refine stage_op 5 (by kernel_rfl) (L := #[true, true, true, true, true, true, false, false]) (by kernel_rfl) ?_
          simp only [List.drop_succ_cons, List.drop_zero, List.take_succ_cons, List.take_zero]
          go_wp2_with fail; refine (wname f.f f.m f.s _ HNM.out.1 HNM.out.2).mono ?_; rintro e u5 ⟨rfl, hb5⟩; have I5 : Hid (Below wa.heap.size wa u5) := Lib.hid (by first | exact hb5 | exact ((Below.refl _ _).drew).trans hb5); clear hb5; go_wp2_with fail
          refine step_post (fun _ => I5.out) ?_
          refine stage_op 6 (by kernel_rfl) (L := #[true, true, true, true, true, true, true, false]) (by kernel_rfl) ?_
          simp only [List.drop_succ_cons, List.drop_zero, List.take_succ_cons, List.take_zero]
          go_wp2_with fail; have L5 := Lib.hid (LA.out.below I5.out); refine (dremove_any db mb tb D' (nameW f.f) u5 L5.out.disk HI'.out.good.wf HNS.out).mono ?_; rintro e w6 ⟨rfl, hd6, hk6⟩; have L6 : Hid (LogAt w6 lb db mb tb (.slice ea en ec) (.slice (some ⟨g, 0, none⟩) n fc) el' (removeD D' (nameW f.f)).1 L') := Lib.hid (L5.out.disked hd6 hk6); have S6 : Hid (LStep lb db mb tb w ev fv w6 (.slice ea en ec) (.slice (some ⟨g, 0, none⟩) n fc)) := Lib.hid (SA.out.trans ((LStep.below I5.out).trans (LStep.disk hk6))); have F6 := Lib.hid ((FA.out.below I5.out).kept hk6 HNB.out); clear hd6 hk6; obtain ⟨k, hk⟩ : ∃ k, (removeD D' (nameW f.f)).2 = k := ⟨_, rfl⟩; have HK := Lib.hid hk; rw [hk]; clear hk; go_wp2_with fail
          refine step_post nofun ?_
          refine stage_heads [7] (by kernel_rfl) (L := #[true, true, true, true, true, true, true, true]) (by kernel_rfl) (f' := 0) rfl (fun _ _ _ _ h => h) (fun w o h => STa.alloc h o) (.inl (by kernel_rfl)) ?_
          simp only [List.flatMap_cons, List.flatMap_nil, List.drop_succ_cons, List.drop_zero, List.take_succ_cons, List.take_zero, List.append_nil]
          iterate 1 (refine heads_pure _ (by rfl) (fun w' => by go_simp; try with_reducible rfl) ?_; simp only [Act.put, List.setIfInBounds_toArray, List.set_cons_zero, List.set_cons_succ])
          refine heads_nil ?_
          refine stage_done (by kernel_rfl) ?_

          by_cases hk0 : k = 0
          · have hkb : ((k : Int) != 0) = false := by rw [hk0]; rfl
            have HK0 : Hid ((removeD D' (nameW f.f)).2 = 0) := Lib.hid (HK.out.trans hk0)
            have HD := Lib.hid (HI'.out.dropped HFS.out (by have := HS'.out; omega) HK0.out)
            clear hk0
            have hm1 : f.m ≤ (entRows el').length := by rw [entRows_length, L6.out.lenE, ]; exact HFM.out
            obtain ⟨v7', hs7, ho7, hcut7⟩ := SRow.cutl (P := Tryz.prog) (t := 32) Tryz.underlying32 (by kernel_rfl) L6.out.fr.srow 1 (by rw [List.length_map, HFS.out]; simp)
            have hr7 : (L'.fs.map wfRow).drop 1 = (g1 :: r).map wfRow := by rw [HFS.out]; rfl
            rw [hr7] at hs7
            have H7 := Lib.hid hs7
            obtain ⟨v8', hs8, ho8, hcut8⟩ := SRow.cutlK (P := Tryz.prog) (t := 23) Tryz.underlying23 (by kernel_rfl) .i64 L6.out.er.srow f.m hm1
            have hr8 : (entRows el').drop f.m = entRows (el'.drop f.m) := by unfold entRows; rw [List.map_drop]
            rw [hr8] at hs8
            have H8 := Lib.hid hs8
            have HD8 : Hid (Datas w6 (fun _ => False) (el'.drop f.m)) := Lib.hid ((L6.out.dat.sub fun p hp => List.mem_of_mem_drop hp).mono fun _ _ _ _ hf => hf.elim)
            have HLN : Hid ((g1 :: r).length ≤ 2147483648) := Lib.hid (by have := HF'.out; have := HFS.out; have e : L'.fs.length = (g1 :: r).length + 1 := (by rw [HFS.out]; rfl); omega)
            have HLE : Hid ((el'.drop f.m).length ≤ 2147483648) := Lib.hid (by rw [List.length_drop, L6.out.lenE]; have := (HOK.out).few; omega)
            have hcut7' : ∀ w', (Instr.slice 32 (.slice (some ⟨g, 0, none⟩) n fc) (some (.int .i64 1)) none none).run Tryz.prog w' = .ok v7' w' := hcut7
            obtain ⟨p7, n7', c7', rfl⟩ : ∃ a n c, v7' = Value.slice a n c := by obtain ⟨a, c, e, _⟩ := hs7.shape; exact ⟨a, _, c, e⟩
            obtain ⟨p8, n8', c8', rfl⟩ : ∃ a n c, v8' = Value.slice a n c := by obtain ⟨a, c, e, _⟩ := hs8.shape; exact ⟨a, _, c, e⟩
            have ST6 := Stable.from w6
            clear hs7 ho7 hr7 hs8 ho8 hr8 hm1 hcut7
            go_wp2_with fail
            refine region_start [0, 0, 0, 4, 12, 28, 60, 124, 0, 256, 768, 1792, 0, 4096, 16128, 32764, 65533, 131069, 262141, 524287, 1048575, 2097151] 128 (fun w' => Below w6.heap.size w6 w') (by kernel_rfl) ?_
            refine stage_heads [0, 1, 2, 3, 4, 5, 6, 8, 9, 10, 11, 12, 13, 14] (by kernel_rfl) (L := #[true, true, true, true, true, true, true, false, true, true, true, true, true, true, true, false, false, false, false, false, false, false]) (by kernel_rfl) (f' := 8) rfl (fun _ _ _ _ h => h) (fun w o h => ST6.alloc h o) (.inr (by first | exact Below.refl _ _ | exact (Below.refl _ _).drew)) ?_
            simp only [List.flatMap_cons, List.flatMap_nil, List.drop_succ_cons, List.drop_zero, List.take_succ_cons, List.take_zero, List.cons_append, List.nil_append, List.append_nil]
            iterate 14 (first | (refine heads_load _ (by rfl) (fun w' hs => by have Y := L6.out.below hs; have b2 := Y.c2; have b3 := Y.c3; obtain ⟨y0, y1, y2⟩ := F6.out.below hs; go_simp; try with_reducible rfl) rfl ?_; simp only [Act.put, List.setIfInBounds_toArray, List.set_cons_zero, List.set_cons_succ]) | (refine heads_pure _ (by rfl) (fun w' => by go_simp; try with_reducible rfl) ?_; simp only [Act.put, List.setIfInBounds_toArray, List.set_cons_zero, List.set_cons_succ]))
            refine heads_nil ?_
            refine stage_op 7 (by kernel_rfl) (L := #[true, true, true, true, true, true, true, true, true, true, true, true, true, true, true, false, false, false, false, false, false, false]) (by kernel_rfl) ?_
            simp only [List.drop_succ_cons, List.drop_zero, List.take_succ_cons, List.take_zero]
            go_wp2_with fail; refine (fclone_any _ (g1 :: r) _ (H7.out.below (by first | exact Below.refl _ _ | exact (Below.refl _ _).drew)) HLN.out).mono ?_; rintro e w7 ⟨v7, rfl, ho7, hb7, hn7⟩; have I7 : Hid (Below w6.heap.size w6 w7) := Lib.hid (by first | exact hb7 | exact ((Below.refl _ _).drew).trans hb7); have O7 := Lib.hid ho7; have N7 : Hid (∀ b, v7.ownBlock = some b → w6.heap.size ≤ b) := Lib.hid hn7; obtain ⟨a7, n7, c7, rfl⟩ : ∃ a n c, v7 = Value.slice a n c := (by obtain ⟨a, c, e, _⟩ := ho7.shape; exact ⟨a, _, c, e⟩); clear ho7 hb7 hn7; go_wp2_with fail
            refine step_post (fun _ => I7.out) ?_
            refine stage_op 15 (by kernel_rfl) (L := #[true, true, true, true, true, true, true, true, true, true, true, true, true, true, true, true, false, false, false, false, false, false]) (by kernel_rfl) ?_
            simp only [List.drop_succ_cons, List.drop_zero, List.take_succ_cons, List.take_zero]
            go_wp2_with fail; refine (eclone_any _ (el'.drop f.m) w7 (H8.out.below I7.out) (HD8.out.kept (Kept.of_below I7.out (S := fun _ => False) fun k h1 h2 => by omega) fun _ h => h) HLE.out).mono ?_; rintro e w8 ⟨v8, rfl, ho8, hb8, hn8⟩; have I8 : Hid (Below w6.heap.size w6 w8) := Lib.hid (I7.out.trans (hb8.mono I7.out.size)); have O8 := Lib.hid ho8; have O78 := Lib.hid (O7.out.below hb8); have N8 : Hid (∀ b, v8.ownBlock = some b → w7.heap.size ≤ b) := Lib.hid hn8; obtain ⟨a8, n8, c8, rfl⟩ : ∃ a n c, v8 = Value.slice a n c := (by obtain ⟨a, c, e, _⟩ := ho8.shape; exact ⟨a, _, c, e⟩); have HN78 : Hid (w7.heap.size ≤ w8.heap.size) := Lib.hid hb8.size; have F8 := Lib.hid (F6.out.below I8.out); have L8 := Lib.hid (L6.out.below I8.out); clear ho8 hb8 hn8; go_wp2_with fail
            refine step_post nofun ?_
            refine stage_heads [16, 17] (by kernel_rfl) (L := #[true, true, true, true, true, true, true, true, true, true, true, true, true, true, true, true, true, true, false, false, false, false]) (by kernel_rfl) (f' := 4) rfl (fun _ _ _ _ h => h) (fun w o h => ST6.alloc h o) (.inl (by kernel_rfl)) ?_
            simp only [List.flatMap_cons, List.flatMap_nil, List.drop_succ_cons, List.drop_zero, List.take_succ_cons, List.take_zero, List.cons_append, List.nil_append, List.append_nil]
            iterate 2 (refine heads_pure _ (by rfl) (fun w' => by go_simp; try with_reducible rfl) ?_; simp only [Act.put, List.setIfInBounds_toArray, List.set_cons_zero, List.set_cons_succ])
            refine heads_nil ?_
            refine stage_op 18 (by kernel_rfl) (L := #[true, true, true, true, true, true, true, true, true, true, true, true, true, true, true, true, true, true, true, false, false, false]) (by kernel_rfl) ?_
            simp only [List.drop_succ_cons, List.drop_zero, List.take_succ_cons, List.take_zero]
            have x3 := L8.out.c3; have x2 := L8.out.c2; have z3 := L8.out.fz 3 (by decide) (by decide); have z2 := L8.out.fz 2 (by decide) (by decide); go_wp2_with fail
            refine step_post nofun ?_
            refine stage_heads [19, 20] (by kernel_rfl) (L := #[true, true, true, true, true, true, true, true, true, true, true, true, true, true, true, true, true, true, true, true, true, false]) (by kernel_rfl) (f' := 1) rfl (fun _ _ _ _ h => h) (fun w o h => ST6.alloc h o) (.inl (by kernel_rfl)) ?_
            simp only [List.flatMap_cons, List.flatMap_nil, List.drop_succ_cons, List.drop_zero, List.take_succ_cons, List.take_zero, List.cons_append, List.nil_append, List.append_nil]
            iterate 2 (refine heads_pure _ (by rfl) (fun w' => by go_simp; try with_reducible rfl) ?_; simp only [Act.put, List.setIfInBounds_toArray, List.set_cons_zero, List.set_cons_succ])
            refine heads_nil ?_
            refine stage_op 21 (by kernel_rfl) (L := #[true, true, true, true, true, true, true, true, true, true, true, true, true, true, true, true, true, true, true, true, true, true]) (by kernel_rfl) ?_
            simp only [List.drop_succ_cons, List.drop_zero, List.take_succ_cons, List.take_zero]
            go_wp2_with fail
            refine step_post nofun ?_
            refine stage_done (by kernel_rfl) ?_

            have L9a : Hid (LogAt (w8.setCell ⟨lb, 3, none⟩ (.slice a7 n7 c7)) lb db mb tb (.slice ea en ec) (.slice a7 n7 c7) el' (removeD D' (nameW f.f)).1 { L' with fs := g1 :: r }) := Lib.hid (L8.out.set3 (fs := g1 :: r) O78.out (fun b hb => by
              have h1 := N7.out b hb
              refine ⟨fun e => ?_, fun e => ?_, fun e => ?_⟩
              · have := L6.out.lt; omega
              · have := L6.out.disk.lt3 _ e; omega
              · have := L6.out.er.lt _ e; omega))
            have O9 : OwnL (w8.setCell ⟨lb, 3, none⟩ (.slice a7 n7 c7)) 38 3 (.slice a8 n8 c8) (entRows (el'.drop f.m)) := O8.out.kept (Kept.setCell w8 ⟨lb, 3, none⟩ _) (fun b hb e => by
              have h1 := N8.out b hb
              have h2 : b = lb := e
              have := L6.out.lt
              have := I7.out.size
              omega)
            have hes : (el'.drop f.m).map (·.1) = L'.es.drop f.m := by rw [List.map_drop, L6.out.es]
            obtain ⟨w9, hw9⟩ : ∃ w9, (w8.setCell ⟨lb, 3, none⟩ (.slice a7 n7 c7)).setCell ⟨lb, 2, none⟩ (.slice a8 n8 c8) = w9 := ⟨_, rfl⟩
            have L9 : Hid (LogAt w9 lb db mb tb (.slice a8 n8 c8) (.slice a7 n7 c7) (el'.drop f.m) (removeD D' (nameW f.f)).1 ⟨L'.b, L'.es.drop f.m, g1 :: r, L'.safe⟩) := Lib.hid (by
              have h := L9a.out.set2 (ev' := .slice a8 n8 c8) (el' := el'.drop f.m) O9 (L9a.out.dat.sub fun p hp => List.mem_of_mem_drop hp) (fun b hb => by
                have h1 := N8.out b hb
                have h0 := I7.out.size
                refine ⟨fun e => ?_, fun e => ?_, fun e => ?_⟩
                · have := L6.out.lt; omega
                · have := L6.out.disk.lt3 _ e; omega
                · have := O7.out.lt _ e; omega)
              rw [hes, hw9] at h
              exact h)
            have S9 : Hid (LStep lb db mb tb w ev fv w9 (.slice a8 n8 c8) (.slice a7 n7 c7)) := Lib.hid (S6.out.trans ⟨by
              rw [← hw9]
              exact ((Kept.of_below I8.out (S := fun b => b = lb) fun k h1 h2 => by omega).trans ((Kept.setCell w8 ⟨lb, 3, none⟩ _).trans (Kept.setCell _ ⟨lb, 2, none⟩ _))).mono fun k _ e => .inl e, fun b hb => .inr (Nat.le_trans I7.out.size (N8.out b hb)), fun b hb => .inr (N7.out b hb)⟩)
            have F9 : Hid (FB w9 fb f) := Lib.hid (by
              rw [← hw9]
              exact (F8.out.kept (Kept.setCell w8 ⟨lb, 3, none⟩ _) HFB.out).kept (Kept.setCell _ ⟨lb, 2, none⟩ _) HFB.out)
            rw [hw9]
            obtain ⟨bm, hbm⟩ : ∃ bm : Nat, L'.b + f.m = bm := ⟨_, rfl⟩
            obtain ⟨sm, hsm⟩ : ∃ sm : Nat, L'.safe - f.m = sm := ⟨_, rfl⟩
            have HBM := Lib.hid hbm
            have HSM := Lib.hid hsm
            have ebm : (L'.b : Int) + (f.m : Int) = (bm : Int) := by omega
            have esm : (L'.safe : Int) - (f.m : Int) = (sm : Int) := by have := HD.out.2.2.1; omega
            have hsl : L'.safe ≤ L'.es.length := (HOK.out).safe
            have wm : IntKind.u64.wrap (f.m : Int) = (f.m : Int) := by rw [wrap_u64]; have := HFM.out; have := HB59.out.2; omega
            have wbm : IntKind.u64.wrap (bm : Int) = (bm : Int) := by rw [wrap_u64]; have := HFM.out; have := HB59.out; omega
            have wsm : IntKind.i64.wrap (sm : Int) = (sm : Int) := by simp only [IntKind.wrap_i64]; have := HB59.out; omega
            have wsm' : wrap64 (sm : Int) = (sm : Int) := by unfold wrap64; have := HB59.out; omega
            have x1 : w9.cell? ⟨lb, 1, none⟩ = some (.int .u64 (L'.b : Int)) := L9.out.c1
            have x4 : w9.cell? ⟨lb, 4, none⟩ = some (.int .i64 (L'.safe : Int)) := L9.out.c4
            have F94 : Hid (FB4 w9 fb f lb L'.safe) := Lib.hid ⟨F9.out, x4⟩
            have z1 := L9.out.fz 1 (by decide) (by decide)
            have z4 := L9.out.fz 4 (by decide) (by decide)
            clear L9a O9 hes hw9 hbm hsm hsl x2 x3 z2 z3 hcut7' hcut8
            go_wp2_with fail
            refine region_start [0, 0, 0, 4, 12, 28, 0, 64, 192, 508, 0, 1024, 3072, 7168, 0, 16384, 64512, 16381, 147453, 409597, 1048575, 2097151, 4194303] 918048 (fun w' => FB4 w' fb f lb L'.safe) (by kernel_rfl) ?_
            refine stage_heads [0, 1, 2, 3, 4, 6, 7, 8, 10, 11, 12, 13, 14, 15, 16] (by kernel_rfl) (L := #[true, true, true, true, true, false, true, true, true, false, true, true, true, true, true, true, true, false, false, false, false, false, false]) (by kernel_rfl) (f' := 8) rfl (fun _ _ _ _ h => h) (fun w o h => h.below ((Below.refl _ _).alloc (Nat.le_refl _) o)) (.inr (by first | exact F94.out | exact F94.out.below ((Below.refl _ _).drew))) ?_
            simp only [List.flatMap_cons, List.flatMap_nil, List.drop_succ_cons, List.drop_zero, List.take_succ_cons, List.take_zero, List.cons_append, List.nil_append, List.append_nil]
            iterate 15 (first | (refine heads_load _ (by rfl) (fun w' hs => by obtain ⟨⟨y0, y1, y2⟩, y4⟩ := hs; go_simp; try with_reducible rfl) rfl ?_; simp only [Act.put, List.setIfInBounds_toArray, List.set_cons_zero, List.set_cons_succ]) | (refine heads_pure _ (by rfl) (fun w' => by go_simp; try with_reducible rfl) ?_; simp only [Act.put, List.setIfInBounds_toArray, List.set_cons_zero, List.set_cons_succ]))
            refine heads_nil ?_
            refine stage_op 5 (by kernel_rfl) (L := #[true, true, true, true, true, true, true, true, true, false, true, true, true, true, true, true, true, false, false, false, false, false, false]) (by kernel_rfl) ?_
            simp only [List.drop_succ_cons, List.drop_zero, List.take_succ_cons, List.take_zero]
            go_wp2_with fail
            refine step_post (fun _ => (by first | exact F94.out | exact F94.out.below ((Below.refl _ _).drew))) ?_
            refine stage_heads [9, 17, 18] (by kernel_rfl) (L := #[true, true, true, true, true, true, true, true, true, true, true, true, true, true, true, true, true, true, true, false, false, false, false]) (by kernel_rfl) (f' := 4) rfl (fun _ _ _ _ h => h) (fun w o h => h.below ((Below.refl _ _).alloc (Nat.le_refl _) o)) (.inr (by first | exact F94.out | exact F94.out.below ((Below.refl _ _).drew))) ?_
            simp only [List.flatMap_cons, List.flatMap_nil, List.drop_succ_cons, List.drop_zero, List.take_succ_cons, List.take_zero, List.cons_append, List.nil_append, List.append_nil]
            iterate 3 (refine heads_pure _ (by rfl) (fun w' => by go_simp; try with_reducible rfl) ?_; simp only [Act.put, List.setIfInBounds_toArray, List.set_cons_zero, List.set_cons_succ])
            refine heads_nil ?_
            refine stage_op 19 (by kernel_rfl) (L := #[true, true, true, true, true, true, true, true, true, true, true, true, true, true, true, true, true, true, true, true, false, false, false]) (by kernel_rfl) ?_
            simp only [List.drop_succ_cons, List.drop_zero, List.take_succ_cons, List.take_zero]
            go_wp2_with fail
            refine step_post (fun _ => (by first | exact F94.out.set1 _ HFB.out | exact (F94.out.below ((Below.refl _ _).drew)).set1 _ HFB.out)) ?_
            refine stage_heads [20, 21] (by kernel_rfl) (L := #[true, true, true, true, true, true, true, true, true, true, true, true, true, true, true, true, true, true, true, true, true, true, false]) (by kernel_rfl) (f' := 1) rfl (fun _ _ _ _ h => h) (fun w o h => h.below ((Below.refl _ _).alloc (Nat.le_refl _) o)) (.inl (by kernel_rfl)) ?_
            simp only [List.flatMap_cons, List.flatMap_nil, List.drop_succ_cons, List.drop_zero, List.take_succ_cons, List.take_zero, List.cons_append, List.nil_append, List.append_nil]
            iterate 2 (refine heads_pure _ (by rfl) (fun w' => by go_simp; try with_reducible rfl) ?_; simp only [Act.put, List.setIfInBounds_toArray, List.set_cons_zero, List.set_cons_succ])
            refine heads_nil ?_
            refine stage_op 22 (by kernel_rfl) (L := #[true, true, true, true, true, true, true, true, true, true, true, true, true, true, true, true, true, true, true, true, true, true, true]) (by kernel_rfl) ?_
            simp only [List.drop_succ_cons, List.drop_zero, List.take_succ_cons, List.take_zero]
            go_wp2_with fail
            refine step_post nofun ?_
            refine stage_done (by kernel_rfl) ?_
            have L10 := Lib.hid ((L9.out.set1 bm).set4 sm)
            have S10 : Hid (LStep lb db mb tb w ev fv ((w9.setCell ⟨lb, 1, none⟩ (.int .u64 (bm : Nat))).setCell ⟨lb, 4, none⟩ (.int .i64 (sm : Nat))) (.slice a8 n8 c8) (.slice a7 n7 c7)) := Lib.hid (S9.out.trans (LStep.own ((Kept.setCell w9 ⟨lb, 1, none⟩ _).trans (Kept.setCell _ ⟨lb, 4, none⟩ _))))
            have HL10 : Hid (dropL L' f (g1 :: r) = ⟨bm, L'.es.drop f.m, g1 :: r, sm⟩) := Lib.hid (by unfold dropL; rw [HBM.out, HSM.out])
            have HFE : Hid (L'.fs.length = (g1 :: r).length + 1) := Lib.hid (by rw [HFS.out]; rfl)
            generalize hwz : World.drew _ = wz
            have BZ : Below ((w9.setCell ⟨lb, 1, none⟩ (.int .u64 (bm : Nat))).setCell ⟨lb, 4, none⟩ (.int .i64 (sm : Nat))).heap.size ((w9.setCell ⟨lb, 1, none⟩ (.int .u64 (bm : Nat))).setCell ⟨lb, 4, none⟩ (.int .i64 (sm : Nat))) wz := by rw [← hwz]; exact (Below.refl _ _).drew
            have LZ := Lib.hid (L10.out.below BZ)
            have SZ := Lib.hid (S10.out.trans (LStep.below BZ))
            clear hwz BZ x1 x4 z1 z4 ebm esm wm wbm wsm wsm'
            go_wp2_with fail
            go_roundw
            case rel =>
              refine ⟨(removeD D' (nameW f.f)).1, dropL L' f (g1 :: r), _, _, _, (by rw [HL10.out]; exact LZ.out), SZ.out, ?_, HD.out.1, ?_, ?_⟩
              · rw [← HRF.out, dropF_round HFS.out HC.out HK0.out]
              · have := HD.out.2.1; have := HS'.out; have := HFE.out; show _ + ((g1 :: r).length : Int) + 10 ≤ _; omega
              · have := HF'.out; have := HFE.out; show (g1 :: r).length ≤ 128; omega
            case measure =>
              rw [HL.out.nfs, LZ.out.nfs, HFE.out]
              exact Nat.lt_succ_self _
          · have hkb : ((k : Int) != 0) = true := by simp; omega
            have HK0 : Hid ((removeD D' (nameW f.f)).2 ≠ 0) := Lib.hid (by rw [HK.out]; exact hk0)
            clear hk0
            go_wp2_with fail
            go_ret
            have HE : dropF upto L.fs.length D L = ((removeD D' (nameW f.f)).1, L', (removeD D' (nameW f.f)).2) := by rw [← HRF.out, dropF_stop HFS.out HC.out HK0.out]
            rw [HR.out, HE]
            exact ⟨by rw [HK.out]; rfl, _, _, _, L6.out, S6.out.1, S6.out.2.1, S6.out.2.2⟩
        · have hcz : decide (gf ≤ up + 1) = false := decide_eq_false (by have := HUP.out; omega)
          have HE : Hid (dropF upto L.fs.length D L = (D', L', 0)) := Lib.hid (by rw [← HRF.out, dropF_more hfs hc])
          clear h1 hn hfc hfs hgf hc
          go_wp2_with fail
          go_ret
          rw [HR.out, HE.out]
          exact ⟨rfl, _, _, _, HL.out, HS.out.1, HS.out.2.1, HS.out.2.2⟩
end Go.Proofs.YtjdglpcnkiioeaaGreat
