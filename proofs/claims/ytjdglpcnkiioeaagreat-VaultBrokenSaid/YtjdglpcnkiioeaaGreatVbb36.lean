/- Several texts in one: Wxj, Wxk, Wxl, Wxm. What each proves stands ahead of it; together they serve vbroken_law_holds. No conditions but those stated. -/
import Derived.Test.YtjdglpcnkiioeaaGreatVbb10
import Derived.Test.YtjdglpcnkiioeaaGreatVbb29
import Derived.Test.YtjdglpcnkiioeaaGreatVbb34
import Derived.Test.YtjdglpcnkiioeaaGreatVbb35
import Derived.Test.YtjdglpcnkiioeaaGreatVbb33
import Derived.Test.YtjdglpcnkiioeaaGreatVbb31
namespace Go.Proofs.YtjdglpcnkiioeaaGreat
open Go.Lib (hid)
open Go.RowKit Go.Maps Go.Proofs.Own Go.Shelf

theorem firstN_lt (l : List Nat) : firstN l < 1152921504606846976 := by
  unfold firstN
  split
  . rename_i h
    cases e : hexF l.tail 0 with
    | none => exact (by decide : (0 : Nat) < 1152921504606846976)
    | some n =>
      have h1 := hexF_lt e
      rw [List.length_tail, h.1] at h1
      have : (16 : Nat) ^ (16 - 1) = 1152921504606846976 := by decide
      show n < _
      omega
  . decide
theorem namesW_filter (D : DiskS) : namesW D = (D.files.map (·.name)).filter isN := by
  unfold namesW logF
  rw [List.filter_map]
  rfl
set_option maxHeartbeats 1000000 in
theorem dnames_own (db mb tb : Nat) (D : DiskS) (w : World) (h : DiskIs w db mb tb D) (hw : DWf D) :
    Calls Tryz.prog 22 #[.pointer (some ⟨db, 0, none⟩)] w fun e w' => ∃ v base, e = .returned v /\ w'.ownsRow base 9 1 v (D.files.map (·.name)).length ((D.files.map (·.name)).map Value.string) /\ Below w.heap.size w w' /\ w.heap.size <= base := by
  have H := hid h
  have c0 := h.c0
  obtain ⟨vals, hm, _⟩ := h.fs
  have HM := hid hm
  have HMX : Hid (Maps.size (dat vals D.files) <= maxLen /\ Maps.size (dat vals D.files) * 16 <= 140737488355328) := hid (by rw [dat_size]; have := hw.many; unfold maxLen; omega)
  clear h hm hw
  go_enter Tryz.func22, Tryz.ntmps22
  go_wp2_with fail
  refine (dnone db mb tb D _ H.out).mono ?_
  rintro e w1 ⟨rfl, rfl⟩
  go_wp2_with fail
  refine ((Go.callsIn_wide (n := 5)).1 (Tryz.maps_Keys_71 (some mb) w)).mono ?_
  rintro e w1 ⟨rfl, rfl⟩
  go_wp2_with fail
  refine ((Go.callsIn_wide (n := 5)).1 (Tryz.slices_Sorted_keys_70_71 mb _ _ _ w HM.out HMX.out.1 HMX.out.2)).mono ?_
  rintro e w2 ⟨v, ss, rfl, hS, hrow, hnil, hb⟩
  have HS := hid hS
  have HR := hid hrow
  have HB := hid hb
  clear hS hrow hnil hb
  go_wp2_with fail
  go_ret
  have hsn := sorted_names HM.out.rising HS.out
  have hl : ss.length = (D.files.map (·.name)).length := by rw [HS.out.length_eq]; show ((D.files.map (ent vals)).map _).length = _; simp
  have hr := HR.out
  rw [hsn, hl] at hr
  exact ⟨v, _, rfl, hr, ((Below.refl _ _).alloc (Nat.le_refl _) _).trans (HB.out.mono (by simp)), by simp⟩
structure LdOk (t : Nat) (L : WalS) : Prop where
  ok : LOk L
  es : L.es.length <= 2097152 * t
  fs : L.fs.length <= t
theorem LdOk.take {t : Nat} {L : WalS} (h : LdOk t L) (ht : t + 1 <= 1000) {first : Nat} {b : List Nat} {last : Bool} (h1 : 1 <= first) (h2 : first < 1152921504606846976) (hb : b.length <= 2097152) : LdOk (t + 1) (takeW L first b last).2.1 := by
  have hk := h.ok
  have he := h.es
  have hf := h.fs
  have hx : LdOk (t + 1) L := ⟨hk, by omega, by omega⟩
  have hfew := segR_few b
  unfold takeW
  split
  . exact hx
  . split
    . exact hx
    . refine ⟨⟨fun f hf => ?_, ?_, ?_, ?_, ?_, fun f hf => ?_⟩, ?_, ?_⟩
      . rcases List.mem_append.1 hf with hf | hf
        . exact hk.nm f hf
        . obtain rfl := List.mem_singleton.1 hf
          exact ⟨h1, h2⟩
      . show manyW (L.fs ++ [_]) <= (L.es ++ (segR b).es).length
        rw [manyW_app, manyW_one, List.length_append]
        have := hk.sum
        simp only
        omega
      . show (L.es ++ (segR b).es).length <= _
        rw [List.length_append]
        omega
      . show (if L.fs = [] then first - 1 else L.b) <= _
        have := hk.b
        split <;> omega
      . show L.safe <= (L.es ++ (segR b).es).length
        have := hk.safe
        rw [List.length_append]
        omega
      . rcases List.mem_append.1 hf with hf | hf
        . exact hk.size f hf
        . obtain rfl := List.mem_singleton.1 hf
          show (segR b).g <= _
          omega
      . show (L.es ++ (segR b).es).length <= _
        rw [List.length_append]
        omega
      . show (L.fs ++ [_]).length <= _
        simp only [List.length_append, List.length_cons, List.length_nil]
        omega
theorem LdOk.more {t : Nat} {L : WalS} (h : LdOk t L) : LdOk (t + 1) L := ⟨h.ok, by have := h.es; omega, by have := h.fs; omega⟩

theorem load_err {s : ByteArray} {r : List ByteArray} {D : DiskS} {L : WalS} (h : fileE D s ≠ 0) : loadW (s :: r) D L = (D, L, fileE D s) := by
  show (if fileE D s ≠ 0 then _ else _) = _
  rw [if_pos h]
theorem load_drop {s : ByteArray} {r : List ByteArray} {D : DiskS} {L : WalS} (h : ¬ fileE D s ≠ 0) (ht : (takeW L (firstN (natsOf s)) (getF D s).all (decide (r = []))).1 = false) :
    loadW (s :: r) D L = if (removeD D s).2 ≠ 0 then ((removeD D s).1, (takeW L (firstN (natsOf s)) (getF D s).all (decide (r = []))).2.1, (removeD D s).2) else loadW r (removeD D s).1 (takeW L (firstN (natsOf s)) (getF D s).all (decide (r = []))).2.1 := by
  show (if fileE D s ≠ 0 then _ else if _ = false then _ else _) = _
  rw [if_neg h, if_pos ht]
theorem load_keep {s : ByteArray} {r : List ByteArray} {D : DiskS} {L : WalS} (h : ¬ fileE D s ≠ 0) (ht : ¬ (takeW L (firstN (natsOf s)) (getF D s).all (decide (r = []))).1 = false) :
    loadW (s :: r) D L = if (takeW L (firstN (natsOf s)) (getF D s).all (decide (r = []))).2.2 ≠ 0 then (D, (takeW L (firstN (natsOf s)) (getF D s).all (decide (r = []))).2.1, (takeW L (firstN (natsOf s)) (getF D s).all (decide (r = []))).2.2) else loadW r D (takeW L (firstN (natsOf s)) (getF D s).all (decide (r = []))).2.1 := by
  show (if fileE D s ≠ 0 then _ else if _ = false then _ else _) = _
  rw [if_neg h, if_neg ht]

set_option maxHeartbeats 8000000 in
set_option maxRecDepth 20000 in
theorem wload {lb db mb tb : Nat} {ev fv : Value} {el : EntR} {D : DiskS} {L : WalS} {w : World} (h : LogAt w lb db mb tb ev fv el D L) (hg : DGood D) (hok : LdOk 0 L) (hst : D.steps + D.files.length <= 1000000000) :
    Calls Tryz.prog 64 #[.pointer (some ⟨lb, 0, none⟩)] w (LogPost lb db mb tb ev fv (loadW (namesW D) D L) w) := by
  have HH := hid h
  have HG := hid hg
  have HOK := hid hok
  have HST := hid hst
  have c0 := h.c0
  obtain ⟨ns, hns⟩ : ∃ ns, namesW D = ns := ⟨_, rfl⟩
  have HNS := hid hns
  have hnsf : (D.files.map (·.name)).filter isN = ns := by rw [<- hns, namesW_filter]
  have hnl : ns.length <= D.files.length := by rw [<- hnsf]; exact Nat.le_trans (List.length_filter_le _ _) (by rw [List.length_map]; exact Nat.le_refl _)
  have hfew := hg.few
  have HNF := hid hnsf
  have HNA : Hid (∀ s ∈ ns, isN s = true) := hid (fun s hs => by rw [<- hnsf] at hs; exact (List.mem_filter.1 hs).2)
  have HDL : Hid ((D.files.map (·.name)).length <= 1000000) := hid (by rw [List.length_map]; omega)
  have HSZ : Hid (∀ s ∈ ns, s.size <= maxLen) := hid (fun s hs => by
    rw [<- hnsf] at hs
    obtain ⟨f, hf, rfl⟩ := List.mem_map.1 (List.mem_filter.1 hs).1
    exact Nat.le_trans (hg.wf.each f hf).1 (by decide))
  obtain ⟨n, hn⟩ : ∃ n, ns.length = n := ⟨_, rfl⟩
  have HN := hid hn
  have hn128 : (n : Int) <= 128 := by omega
  have HN1 : Hid (n <= 128 /\ D.steps + n <= 1000000000) := hid ⟨by omega, by omega⟩
  rw [hns]
  clear h hg hok hst hns hnsf hnl hfew hn
  go_enter Tryz.func64, Tryz.ntmps64
  go_wp2_with fail
  refine (dnames_own db mb tb D w HH.out.disk HG.out.wf).mono ?_
  rintro e w1 ⟨v1, base, rfl, hrow, hb1, hbase⟩
  have HR := hid hrow
  have B1 := hid hb1
  have HVB : Hid (∀ b, v1.ownBlock = some b -> w.heap.size <= b) := hid fun b hb => Nat.le_trans hbase (World.ownsRow.lt hrow b hb).1
  obtain ⟨a1, m1, c1, rfl⟩ : ∃ a n c, v1 = Value.slice a n c := by obtain ⟨⟨a, c, e, _⟩, _⟩ := strs_own hrow; exact ⟨a, _, c, e⟩
  clear hrow hb1 hbase
  go_wp2_with fail
  refine (gdelete HR.out HDL.out).mono ?_
  rintro e w2 ⟨v2, rfl, hS2, hk2, ho2⟩
  rw [HNF.out] at hS2
  have S2 := hid hS2
  have B2 : Hid (Below w.heap.size w w2) := hid (B1.out.trans (hk2.below B1.out.size fun k e => HVB.out k e))
  have L2 := hid (HH.out.below B2.out)
  have HVO : Hid (∀ b, v2.ownBlock = some b -> ¬ LOwn lb db mb tb ev fv b) := hid fun b hb hl => by
    have h1 := HVB.out b (ho2 b hb)
    rcases hl with hl | hl | hl | hl
    . have := HH.out.lt; omega
    . have := HH.out.disk.lt3 _ hl; omega
    . have := HH.out.er.lt _ hl; omega
    . have := HH.out.fr.lt _ hl; omega
  obtain ⟨a2, c2, rfl, _⟩ := hS2
  rw [HN.out] at S2 HVO ⊢
  clear hk2 ho2 c0
  go_wp2_with fail
  go_loopw [4, 5, 6, 7, 8, 9, 10, 19] (fun _ _ _ _ _ _ _ x19 wr => ∃ (t : Nat) (D' : DiskS) (L' : WalS), t <= n /\ x19 = .int .i64 t /\ loadW (ns.drop t) D' L' = loadW ns D L /\ LogTo lb db mb tb ev fv w2 D' L' wr /\ DGood D' /\ D'.steps + (n - t : Nat) <= 1000000000 /\ LdOk t L') (fun _ _ _ _ _ _ _ x19 _ => n - (intOf x19).toNat)
  case atStart => exact ⟨0, D, L, Nat.zero_le _, rfl, rfl, ⟨ev, fv, el, L2.out, LStep.refl _ _ _ _ _ _ _⟩, HG.out, by have := HN1.out; omega, HOK.out⟩
  case round =>
    obtain ⟨t, D', L', ht, rfl, hr, ⟨ev', fv', el', hl, hs⟩, hg, hst, hld⟩ := hrel
    have HLR := hid hr
    have HL := hid hl
    have HS := hid hs
    have HG' := hid hg
    have HST' := hid hst
    have HLD := hid hld
    clear hr hl hs hg hst hld
    by_cases hlt : t < n
    . have htn : t < ns.length := by rw [HN.out]; exact hlt
      have SR := S2.out.kept HS.out.1 HVO.out
      obtain ⟨a', c', e', hc'⟩ := SR
      obtain ⟨rfl, _, rfl⟩ := Value.slice.inj e'
      obtain ⟨b, o, rfl, hcell⟩ := hc' t htn
      obtain ⟨s, hs⟩ : ∃ s, ns[t] = s := ⟨_, rfl⟩
      rw [hs] at hcell
      have hsm : s ∈ ns := hs ▸ List.getElem_mem htn
      have HDR : Hid (ns.drop t = s :: ns.drop (t + 1)) := hid (by rw [List.drop_eq_getElem_cons htn, hs])
      obtain ⟨f, hf⟩ : ∃ f, firstN (natsOf s) = f := ⟨_, rfl⟩
      have HF := hid hf
      have HF1 : Hid (1 <= f /\ f < 1152921504606846976) := hid ⟨by
        have := HNA.out s hsm
        unfold isN at this
        rw [decide_eq_true_iff, hf] at this
        omega, by rw [<- hf]; exact firstN_lt _⟩
      have HSS := hid (HSZ.out s hsm)
      obtain ⟨lt, hlt'⟩ : ∃ lt : Bool, decide (ns.drop (t + 1) = []) = lt := ⟨_, rfl⟩
      have HLT := hid hlt'
      have hlb : ((t : Int) == (n : Int) - 1) = lt := by
        rw [<- hlt', Bool.eq_iff_iff, beq_iff_eq, decide_eq_true_iff, List.drop_eq_nil_iff, HN.out]
        omega
      have hnw : IntKind.i64.wrap ((n : Int) - 1) = (n : Int) - 1 := by simp only [IntKind.wrap_i64]; omega
      have t0 : (0 : Int) <= (t : Int) := by omega
      have t1 : (t : Int) < (n : Int) := by omega
      have HT : Hid (t + 1 <= 1000) := hid (by have := HN1.out; omega)
      clear hs hsm hf hlt' hc' htn
      go_wp2_with fail
      refine (gfirst_any s wr).mono ?_
      rintro e u1 ⟨rfl, hu1⟩
      rw [HF.out]
      obtain ⟨bz, hbz⟩ : ∃ bz : Bool, decide (f ≠ 0) = bz := ⟨_, rfl⟩
      rw [hbz]
      have U1 := hid hu1
      have LU := hid (HL.out.below hu1)
      have SU : Hid (LStep lb db mb tb w2 ev fv u1 ev' fv') := hid (HS.out.trans (LStep.below hu1))
      have cu := LU.out.c0
      clear hu1 hbz hcell
      by_cases hfe : fileE D' s ≠ 0
      . obtain ⟨k, hk⟩ : ∃ k, fileE D' s = k := ⟨_, rfl⟩
        have HK := hid hk
        have HFE := hid hfe
        have hkb : ((k : Int) != 0) = true := by rw [hk] at hfe; simp; omega
        clear hfe
        go_wp2_with fail
        refine (dread_err db mb tb D' s u1 LU.out.disk HSS.out HFE.out).mono ?_
        rintro e u2 ⟨rfl, hu2⟩
        rw [hk]
        have LU2 := hid (LU.out.below hu2)
        have SU2 : Hid (LStep lb db mb tb w2 ev fv u2 ev' fv') := hid (SU.out.trans (LStep.below hu2))
        clear hu2 hk
        go_wp2_with fail
        go_ret
        rw [<- HLR.out, HDR.out, load_err HFE.out]
        have SF := (LStep.below (lb := lb) (db := db) (mb := mb) (tb := tb) (ev := ev) (fv := fv) B2.out).trans SU2.out
        exact ⟨by rw [HK.out]; rfl, _, _, _, LU2.out, SF.1, SF.2.1, SF.2.2⟩
      . have HFE := hid hfe
        have hfe0 : fileE D' s = 0 := Classical.not_not.1 hfe
        obtain ⟨hdn, fl, hfi⟩ := fileE_ok hfe0
        have HGF : Hid (getF D' s = fl) := hid (by unfold getF; rw [hfi]; rfl)
        have HDN := hid hdn
        have HFI := hid hfi
        clear hfe hfe0 hdn hfi
        go_wp2_with fail
        refine (dread_ok db mb tb D' s fl u1 LU.out.disk HDN.out HSS.out HFI.out).mono ?_
        rintro e u2 ⟨bv, rfl, hB2, hu2⟩
        have HB2 := hid hB2
        have LU2 := hid (LU.out.below hu2)
        have SU2 : Hid (LStep lb db mb tb w2 ev fv u2 ev' fv') := hid (SU.out.trans (LStep.below hu2))
        obtain ⟨ba, bc, rfl, _⟩ := hB2.shape
        have HSM : Hid (fl.all.length <= 2097152) := hid hB2.small
        clear hB2 hu2
        go_wp2_with fail
        refine (wtake LU2.out HB2.out f lt HF1.out.1 HF1.out.2 HLD.out.ok.b (by have := HLD.out.es; have := HSM.out; have := HT.out; omega) (by have := HLD.out.fs; have := HT.out; omega)).mono ?_
        rintro e u3 ⟨rfl, ev3, fv3, el3, hl3, hs3⟩
        obtain ⟨R, hR⟩ : ∃ R, takeW L' f fl.all lt = R := ⟨_, rfl⟩
        have HRR : Hid (takeW L' (firstN (natsOf s)) (getF D' s).all (decide (ns.drop (t + 1) = [])) = R) := hid (by rw [HF.out, HGF.out, HLT.out]; exact hR)
        rw [hR] at hl3 ⊢
        obtain ⟨is, L3, k3⟩ := R
        simp only at hl3 ⊢
        have HLK : Hid (LdOk (t + 1) L3) := hid (by have h := HLD.out.take HT.out (first := f) (b := fl.all) (last := lt) HF1.out.1 HF1.out.2 HSM.out; rw [hR] at h; exact h)
        have LU3 := hid hl3
        have SU3 := hid (SU2.out.trans hs3)
        have cu3 := LU3.out.c0
        clear hl3 hs3 hR cu
        cases is with
        | true =>
          by_cases hk0 : k3 = 0
          . have hkb : ((k3 : Int) != 0) = false := by rw [hk0]; rfl
            have HK0 := hid hk0
            clear hk0
            go_wp2_with fail
            go_roundw
            case rel =>
              refine ⟨t + 1, D', L3, by omega, by go_num, ?_, ⟨_, _, _, LU3.out, SU3.out⟩, HG'.out, by have := HST'.out; omega, HLK.out⟩
              rw [<- HLR.out, HDR.out, load_keep HFE.out (by rw [HRR.out]; simp), HRR.out]
              rw [if_neg (fun h => h HK0.out)]
            case measure => simp [intOf]; omega
          . have hkb : ((k3 : Int) != 0) = true := by simp; omega
            have HK0 := hid hk0
            clear hk0
            go_wp2_with fail
            go_ret
            rw [<- HLR.out, HDR.out, load_keep HFE.out (by rw [HRR.out]; simp), HRR.out, if_pos HK0.out]
            have SF := (LStep.below (lb := lb) (db := db) (mb := mb) (tb := tb) (ev := ev) (fv := fv) B2.out).trans SU3.out
            exact ⟨rfl, _, _, _, LU3.out, SF.1, SF.2.1, SF.2.2⟩
        | false =>
          go_wp2_with fail
          refine (dremove_any db mb tb D' s u3 LU3.out.disk HG'.out.wf HSS.out).mono ?_
          rintro e u4 ⟨rfl, hd4, hk4⟩
          have LU4 := hid (LU3.out.disked hd4 hk4)
          have SU4 := hid (SU3.out.trans (LStep.disk hk4))
          have HG4 := hid (HG'.out.remove s (by have := HST'.out; omega))
          obtain ⟨k4, hk4'⟩ : ∃ k, (removeD D' s).2 = k := ⟨_, rfl⟩
          have HK4 := hid hk4'
          rw [hk4']
          clear hd4 hk4 hk4' cu3
          by_cases hk0 : k4 = 0
          . have hkb : ((k4 : Int) != 0) = false := by rw [hk0]; rfl
            have HK0 : Hid ((removeD D' s).2 = 0) := hid (HK4.out.trans hk0)
            clear hk0
            go_wp2_with fail
            go_roundw
            case rel =>
              refine ⟨t + 1, (removeD D' s).1, L3, by omega, by go_num, ?_, ⟨_, _, _, LU4.out, SU4.out⟩, HG4.out.1, by have := HST'.out; have := HG4.out.2; omega, HLK.out⟩
              rw [<- HLR.out, HDR.out, load_drop HFE.out (by rw [HRR.out]), HRR.out]
              rw [if_neg (fun h => h HK0.out)]
            case measure => simp [intOf]; omega
          . have hkb : ((k4 : Int) != 0) = true := by simp; omega
            have HK0 : Hid ((removeD D' s).2 ≠ 0) := hid (by rw [HK4.out]; exact hk0)
            clear hk0
            go_wp2_with fail
            go_ret
            rw [<- HLR.out, HDR.out, load_drop HFE.out (by rw [HRR.out]), HRR.out, if_pos HK0.out]
            have SF := (LStep.below (lb := lb) (db := db) (mb := mb) (tb := tb) (ev := ev) (fv := fv) B2.out).trans SU4.out
            exact ⟨by rw [HK4.out]; rfl, _, _, _, LU4.out, SF.1, SF.2.1, SF.2.2⟩
    . have htn : t = n := by omega
      have HTN : Hid (ns.drop t = []) := hid (List.drop_eq_nil_iff.2 (by rw [HN.out]; omega))
      have t1 : ¬ (t : Int) < (n : Int) := by omega
      have tn : (t : Int) = (n : Int) := by omega
      clear htn
      go_wp2_with fail
      go_ret
      rw [<- HLR.out, HTN.out]
      have SF := (LStep.below (lb := lb) (db := db) (mb := mb) (tb := tb) (ev := ev) (fv := fv) B2.out).trans HS.out
      exact ⟨rfl, _, _, _, HL.out, SF.1, SF.2.1, SF.2.2⟩

theorem all_total {f : FileS} : ∀ {L : List FileS}, f ∈ L -> f.all.length <= total L
  | g :: r, h => by
    have e : total (g :: r) = g.all.length + total r := rfl
    rcases List.mem_cons.1 h with rfl | h
    . omega
    . have := all_total h
      omega
theorem getF_small {D : DiskS} (h : DGood D) (n : ByteArray) : (getF D n).all.length <= 2097152 := by
  unfold getF
  cases e : findFile n D.files with
  | none => simp
  | some f =>
    have h1 := all_total (find_name e).2
    have h2 := h.tot
    simp only [Option.getD_some]
    omega
theorem load_ok : ∀ (ns : List ByteArray) (t : Nat) (D : DiskS) (L : WalS), LdOk t L -> t + ns.length <= 1000 -> DGood D -> D.steps + ns.length <= 1000000000 -> (∀ s ∈ ns, isN s = true) ->
    LdOk (t + ns.length) (loadW ns D L).2.1 /\ DGood (loadW ns D L).1 /\ (loadW ns D L).1.steps <= D.steps + ns.length
  | [], t, D, L, h, _, hg, _, _ => ⟨h, hg, by show D.steps <= D.steps + ((0 : Nat) : Int); omega⟩
  | s :: r, t, D, L, h, ht, hg, hs, hn => by
    have hl : (s :: r).length = r.length + 1 := rfl
    rw [hl] at ht hs
    have h1 := hn s (List.mem_cons_self ..)
    have hf1 : 1 <= firstN (natsOf s) := by
      unfold isN at h1
      rw [decide_eq_true_iff] at h1
      omega
    have hr : ∀ x ∈ r, isN x = true := fun x hx => hn x (List.mem_cons_of_mem _ hx)
    have hT := h.take (by omega) (first := firstN (natsOf s)) (b := (getF D s).all) (last := decide (r = [])) hf1 (firstN_lt _) (getF_small hg s)
    have up : ∀ {L' : WalS}, LdOk (t + 1) L' -> LdOk (t + (s :: r).length) L' := fun {L'} q => ⟨q.ok, by have := q.es; rw [hl]; omega, by have := q.fs; rw [hl]; omega⟩
    have e1 : t + (s :: r).length = (t + 1) + r.length := by rw [hl]; omega
    by_cases hfe : fileE D s ≠ 0
    . rw [load_err hfe]
      exact ⟨up h.more, hg, by simp only; rw [hl]; omega⟩
    . by_cases hd : (takeW L (firstN (natsOf s)) (getF D s).all (decide (r = []))).1 = false
      . rw [load_drop hfe hd]
        have g := hg.remove s (by omega)
        split
        . exact ⟨up hT, g.1, by have := g.2; simp only; rw [hl]; omega⟩
        . have ih := load_ok r (t + 1) _ _ hT (by omega) g.1 (by have := g.2; omega) hr
          rw [e1]
          exact ⟨ih.1, ih.2.1, by have := g.2; have := ih.2.2; rw [hl]; omega⟩
      . rw [load_keep hfe hd]
        split
        . exact ⟨up hT, hg, by simp only; rw [hl]; omega⟩
        . have ih := load_ok r (t + 1) _ _ hT (by omega) hg (by omega) hr
          rw [e1]
          exact ⟨ih.1, ih.2.1, by have := ih.2.2; rw [hl]; omega⟩
theorem settle_good {D : DiskS} (L : WalS) (h : DGood D) (hs : D.steps + 2 <= 1000000000) : DGood (settleW D L).1 /\ (settleW D L).1.steps <= D.steps + 2 := by
  unfold settleW
  cases L.fs.getLast? with
  | none => exact ⟨h, by simp only; omega⟩
  | some f =>
    simp only
    split
    . exact ⟨h, by simp only; omega⟩
    . split
      . have g := h.cut (nameW f.f) f.s (by omega)
        split
        . exact ⟨g.1, by have := g.2; omega⟩
        . have k := g.1.sync (nameW f.f) (by have := g.2; omega)
          exact ⟨k.1, by have := g.2; have := k.2; omega⟩
      . have k := h.sync (nameW f.f) (by omega)
        exact ⟨k.1, by have := k.2; omega⟩
theorem wsettle {lb db mb tb : Nat} {ev fv : Value} {el : EntR} {D : DiskS} {L : WalS} {w : World} (h : LogAt w lb db mb tb ev fv el D L) (hg : DGood D) (hst : D.steps + 2 <= 1000000000) (hok : LOk L) (hs : L.fs.length <= 1000000) :
    Calls Tryz.prog 65 #[.pointer (some ⟨lb, 0, none⟩)] w (LogPost lb db mb tb ev fv ((settleW D L).1, L, (settleW D L).2) w) := by
  cases e : L.fs.getLast? with
  | none => exact wsettle_nil h (List.getLast?_eq_none_iff.1 e)
  | some f =>
    have hsz : (f.s : Int) <= 2097152 := by have := hok.size f (List.mem_of_getLast? e); omega
    by_cases hfe : fileE D (nameW f.f) = 0
    . by_cases hlt : f.s < (getF D (nameW f.f)).all.length
      . exact wsettle_cut h hg hst hok.nm e hs hsz hfe hlt
      . exact wsettle_same h hg hst hok.nm e hs hsz hfe hlt
    . exact wsettle_err h hg hst hok.nm e hs hsz hfe
theorem dread_any (db mb tb : Nat) (D : DiskS) (n : ByteArray) (w : World) (h : DiskIs w db mb tb D) (hn : n.size <= maxLen) :
    Calls Tryz.prog 23 #[.pointer (some ⟨db, 0, none⟩), .string n] w fun e w' => ∃ a m c, e = .returned (.tuple #[.slice a m c, .int .i64 (fileE D n)]) /\ Below w.heap.size w w' := by
  by_cases hfe : fileE D n = 0
  . obtain ⟨hd, f, hf⟩ := fileE_ok hfe
    refine (dread_ok db mb tb D n f w h hd hn hf).mono ?_
    rintro e w' ⟨v, rfl, hB, hb⟩
    obtain ⟨a, c, rfl, _⟩ := hB.shape
    exact ⟨a, _, c, by rw [hfe]; rfl, hb⟩
  . refine (dread_err db mb tb D n w h hn hfe).mono ?_
    rintro e w' ⟨rfl, hb⟩
    exact ⟨none, 0, 0, rfl, hb⟩
def OpenWP (db mb tb : Nat) (r : DiskS × Option WalS × Nat) (w : World) : Ending -> World -> Prop := fun E w' =>
  DiskIs w' db mb tb r.1 /\ Kept w w' (Own3 db mb tb) /\ (r.2.1 = none -> E = .returned (.tuple #[.pointer none, .int .i64 r.2.2])) /\
    ∀ L, r.2.1 = some L -> ∃ lb ev fv el, E = .returned (.tuple #[.pointer (some ⟨lb, 0, none⟩), .int .i64 r.2.2]) /\ LogAt w' lb db mb tb ev fv el r.1 L /\ w.heap.size <= lb /\ (∀ b, ev.ownBlock = some b -> w.heap.size <= b) /\ ∀ b, fv.ownBlock = some b -> w.heap.size <= b
theorem open_kept {lb db mb tb : Nat} {w w0 w' : World} {ev fv : Value} (hb : Below w.heap.size w w0) (hl : w.heap.size <= lb) (hs : LStep lb db mb tb w0 (.slice none 0 0) (.slice none 0 0) w' ev fv) :
    Kept w w' (Own3 db mb tb) /\ (∀ b, ev.ownBlock = some b -> w.heap.size <= b) /\ ∀ b, fv.ownBlock = some b -> w.heap.size <= b := by
  refine ⟨(Kept.of_below hb (S := fun _ => False) fun k h1 h2 => by omega).andThen hs.1 fun k hk h => ?_, fun b hb2 => ?_, fun b hb2 => ?_⟩
  . rcases h with h | h | h | h | h
    . exact h.elim
    . omega
    . exact h
    . cases h
    . cases h
  . rcases hs.2.1 b hb2 with h | h
    . cases h
    . exact Nat.le_trans hb.size h
  . rcases hs.2.2 b hb2 with h | h
    . cases h
    . exact Nat.le_trans hb.size h

set_option maxHeartbeats 8000000 in
set_option maxRecDepth 20000 in
theorem wopen_early {db mb tb : Nat} {D : DiskS} {w : World} (h : DiskIs w db mb tb D) (base : Nat) (he : D.down = true \/ H59 <= base) :
    Calls Tryz.prog 19 #[.pointer (some ⟨db, 0, none⟩), .int .u64 base] w (OpenWP db mb tb (openW D base) w) := by
  have HH := hid h
  clear h
  by_cases hd : D.down = true
  . have HR : Hid (openW D base = (D, none, 50)) := hid (by unfold openW; rw [if_pos hd])
    have HF : Hid (fileE D ⟨#[]⟩ = 50) := hid (by unfold fileE; rw [if_pos hd])
    clear hd he
    go_enter Tryz.func19, Tryz.ntmps19
    go_wp2_with fail
    refine (dread_any db mb tb D ⟨#[]⟩ w HH.out (by decide)).mono ?_
    rintro e w1 ⟨a, m, c, rfl, hb⟩
    rw [HF.out]
    have B1 := hid hb
    clear hb
    go_wp2_with fail
    go_ret2
    rw [HR.out]
    exact ⟨HH.out.below B1.out, Kept.of_below B1.out fun k h1 h2 => by omega, fun _ => rfl, nofun⟩
  . have hb := he.resolve_left hd
    have HR : Hid (openW D base = (D, none, 2)) := hid (by unfold openW; rw [if_neg hd, if_pos hb])
    obtain ⟨k, hk⟩ : ∃ k, fileE D ⟨#[]⟩ = k := ⟨_, rfl⟩
    have hk3 : k ≠ 1 /\ k ≠ 50 := by
      rw [<- hk]
      unfold fileE
      rw [if_neg hd]
      split <;> decide
    have k1 : ((k : Int) == 1) = false := by simp; omega
    have k2 : ((k : Int) == 50) = false := by simp; omega
    obtain ⟨bz, hbz⟩ : ∃ bz : Int, (base : Int) = bz := ⟨_, rfl⟩
    have hbi : (576460752303423488 : Int) <= bz := by unfold H59 at hb; omega
    rw [hbz]
    have HK := hid hk
    clear hd he hb hk hk3 hbz
    go_enter Tryz.func19, Tryz.ntmps19
    go_wp2_with fail
    refine (dread_any db mb tb D ⟨#[]⟩ w HH.out (by decide)).mono ?_
    rintro e w1 ⟨a, m, c, rfl, hb⟩
    rw [HK.out]
    have B1 := hid hb
    clear hb
    go_wp2_with fail
    go_ret2
    rw [HR.out]
    exact ⟨HH.out.below B1.out, Kept.of_below B1.out fun k h1 h2 => by omega, fun _ => rfl, nofun⟩

set_option maxHeartbeats 8000000 in
set_option maxRecDepth 100000 in
theorem wopen_late {db mb tb : Nat} {D : DiskS} {w : World} (h : DiskIs w db mb tb D) (hg : DGood D) (hst : D.steps + 1000 <= 1000000000) (base : Nat) (hd : ¬ D.down = true) (hb : ¬ H59 <= base) :
    Calls Tryz.prog 19 #[.pointer (some ⟨db, 0, none⟩), .int .u64 base] w (OpenWP db mb tb (openW D base) w) := by
  have HH := hid h
  have HG := hid hg
  have hfew := hg.few
  obtain ⟨r1, hr1⟩ : ∃ r, loadW (namesW D) D ⟨0, [], [], 0⟩ = r := ⟨_, rfl⟩
  have hlo : LdOk 0 ⟨0, [], [], 0⟩ := ⟨⟨nofun, by simp [manyW], by simp, by simp, by simp, nofun⟩, by simp, by simp⟩
  have HLO := hid hlo
  have hnl : (namesW D).length <= 128 := by
    rw [namesW_filter]
    refine Nat.le_trans (List.length_filter_le _ _) ?_
    rw [List.length_map]
    exact hfew
  have hlk := load_ok (namesW D) 0 D ⟨0, [], [], 0⟩ hlo (by omega) hg (by omega) (fun s hs => by rw [namesW_filter] at hs; exact (List.mem_filter.1 hs).2)
  rw [hr1] at hlk
  obtain ⟨D1, L1, k1⟩ := r1
  have HOP : Hid (openW D base = if k1 ≠ 0 then (D1, none, k1) else openE D1 L1 base) := hid (by
    unfold openW
    rw [if_neg hd, if_neg hb, hr1])
  have HR1 := hid hr1
  have HLK : Hid (LOk L1 /\ L1.fs.length <= 128 /\ DGood D1 /\ D1.steps <= D.steps + 128) := hid ⟨hlk.1.ok, by have := hlk.1.fs; simp only at this; omega, hlk.2.1, by have := hlk.2.2; simp only at this; omega⟩
  have HST := hid hst
  obtain ⟨k, hk⟩ : ∃ k, fileE D ⟨#[]⟩ = k := ⟨_, rfl⟩
  have hk3 : k ≠ 1 /\ k ≠ 50 := by
    rw [<- hk]
    unfold fileE
    rw [if_neg hd]
    split <;> decide
  have q1 : ((k : Int) == 1) = false := beq_eq_false_iff_ne.2 (by omega)
  have q2 : ((k : Int) == 50) = false := beq_eq_false_iff_ne.2 (by omega)
  obtain ⟨bz, hbz⟩ : ∃ bz : Int, (base : Int) = bz := ⟨_, rfl⟩
  have hbi : bz < 576460752303423488 := by unfold H59 at hb; omega
  have HBZ := hid hbz
  rw [hbz]
  have HK := hid hk
  have HDF : Hid (D.steps + D.files.length <= 1000000000) := hid (by omega)
  clear h hg hst hd hb hk hk3 hbz hfew hr1 hlo hnl hlk
  go_enter Tryz.func19, Tryz.ntmps19
  go_wp2_with fail
  refine (dread_any db mb tb D ⟨#[]⟩ w HH.out (by decide)).mono ?_
  rintro e w1 ⟨a, m, c, rfl, hb1⟩
  rw [HK.out]
  have B1 := hid hb1
  clear hb1
  go_wp2_with fail
  have LN := hid (LogAt.new (HH.out.below B1.out))
  have B2 : Hid (Below w.heap.size w (w1.alloc (.cells #[.pointer (some ⟨db, 0, none⟩), .int .u64 0, .slice none 0 0, .slice none 0 0, .int .i64 0] 34))) := hid (B1.out.alloc B1.out.size _)
  have HLB : Hid (w.heap.size <= w1.heap.size) := hid B1.out.size
  obtain ⟨lb, hlb⟩ : ∃ lb, w1.heap.size = lb := ⟨_, rfl⟩
  rw [hlb] at LN HLB ⊢
  generalize World.alloc w1 _ = w2 at *
  clear hlb B1
  refine (wload LN.out HG.out HLO.out HDF.out).mono ?_
  rintro e w3 ⟨rfl, ev3, fv3, el3, hl3, hs3⟩
  rw [HR1.out] at hl3 ⊢
  simp only at hl3 ⊢
  have L3 := hid hl3
  have S3 : Hid (LStep lb db mb tb w2 (.slice none 0 0) (.slice none 0 0) w3 ev3 fv3) := hid hs3
  clear hl3 hs3
  by_cases hk1 : k1 = 0
  . have hkb : ((k1 : Int) != 0) = false := by rw [hk1]; rfl
    have HK1 := hid hk1
    clear hk1
    go_wp2_with fail
    refine (wsettle L3.out HLK.out.2.2.1 (by have := HLK.out.2.2.2; have := HST.out; omega) HLK.out.1 (by have := HLK.out.2.1; omega)).mono ?_
    rintro e w4 ⟨rfl, ev4, fv4, el4, hl4, hs4⟩
    have HSG := hid (settle_good L1 HLK.out.2.2.1 (by have := HLK.out.2.2.2; have := HST.out; omega))
    have HOE : Hid (openW D base = if (settleW D1 L1).2 ≠ 0 then ((settleW D1 L1).1, none, (settleW D1 L1).2) else closeW (settleW D1 L1).1 L1 base) := hid (by rw [HOP.out, if_neg fun h => h HK1.out]; rfl)
    have L4 := hid hl4
    have S4 := hid (S3.out.trans hs4)
    simp only at L4 ⊢
    clear hl4 hs4
    generalize (settleW D1 L1).1 = D4 at *
    generalize (settleW D1 L1).2 = k4 at *
    by_cases hk4 : k4 = 0
    . have hkb4 : ((k4 : Int) != 0) = false := by rw [hk4]; rfl
      have HK4 := hid hk4
      clear hk4
      have c3 := L4.out.c3
      obtain ⟨fa, fc, rfl, _⟩ := L4.out.shapeF
      obtain ⟨n, hn⟩ : ∃ n, L1.fs.length = n := ⟨_, rfl⟩
      have HN := hid hn
      rw [hn] at c3 L4 S4
      clear hn
      by_cases hn0 : n = 0
      . have z0 : (n : Int) = 0 := by omega
        have HC : Hid (L1.fs = [] \/ L1.last < base) := hid (.inl (List.eq_nil_of_length_eq_zero (HN.out.trans hn0)))
        rw [hn0] at c3
        clear hn0
        go_wp2_with fail
        have WR := wreset L4.out HSG.out.1 HLK.out.1 (by have := HSG.out.2; have := HLK.out.2.2.2; have := HST.out; have := HLK.out.2.1; omega) (by have := HLK.out.2.1; omega) base
        rw [HBZ.out] at WR
        refine WR.mono ?_
        clear WR
        rintro e w6 ⟨rfl, ev6, fv6, el6, hl6, hs6⟩
        have HCW : Hid (closeW D4 L1 base = if (resetW D4 L1 base).2.2 ≠ 0 then ((resetW D4 L1 base).1, none, (resetW D4 L1 base).2.2) else if base < (resetW D4 L1 base).2.1.b then ((resetW D4 L1 base).1, none, 20) else ((resetW D4 L1 base).1, some { (resetW D4 L1 base).2.1 with safe := (resetW D4 L1 base).2.1.es.length }, 0)) := hid (by unfold closeW; rw [if_pos HC.out])
        have L6 := hid hl6
        have S6 := hid (S4.out.trans hs6)
        clear hl6 hs6
        generalize (resetW D4 L1 base).1 = D6 at *
        generalize (resetW D4 L1 base).2.1 = L6s at *
        generalize (resetW D4 L1 base).2.2 = k6 at *
        by_cases hk6 : k6 = 0
        . have hkb6 : ((k6 : Int) != 0) = false := by rw [hk6]; rfl
          have HK6 := hid hk6
          clear hk6
          have cb := L6.out.c1
          obtain ⟨bv, hbv⟩ : ∃ bv : Int, (L6s.b : Int) = bv := ⟨_, rfl⟩
          have HBV := hid hbv
          rw [hbv] at cb
          clear hbv
          obtain ⟨ea, ec, rfl, _⟩ := L6.out.shapeE
          have c2 := L6.out.c2
          have c4 := L6.out.c4
          have f4 := L6.out.fz 4 (by decide) (by decide)
          by_cases hbb : base < L6s.b
          . have hbbi : decide (bz < bv) = true := decide_eq_true (by have := HBZ.out; have := HBV.out; omega)
            have HBB := hid hbb
            clear hbb
            go_wp2_with fail
            go_ret2
            rw [HOE.out, if_neg fun h => h HK4.out, HCW.out, if_neg (fun h => h HK6.out), if_pos HBB.out]
            have o := open_kept B2.out HLB.out S6.out
            exact ⟨L6.out.disk, o.1, fun _ => rfl, nofun⟩
          . have hbbi : decide (bz < bv) = false := decide_eq_false (by have := HBZ.out; have := HBV.out; omega)
            have HBB := hid hbb
            clear hbb
            go_wp2_with fail
            go_ret2
            rw [HOE.out, if_neg fun h => h HK4.out, HCW.out, if_neg (fun h => h HK6.out), if_neg HBB.out]
            have hfin := L6.out.set4 L6s.es.length
            have hS := S6.out.trans (LStep.own (Kept.setCell w6 ⟨lb, 4, none⟩ (.int .i64 L6s.es.length)))
            have o := open_kept B2.out HLB.out hS
            refine ⟨hfin.disk, o.1, nofun, fun L hL => ?_⟩
            obtain rfl := Option.some.inj hL
            exact ⟨lb, _, _, _, rfl, hfin, HLB.out, o.2.1, o.2.2⟩
        . have hkb6 : ((k6 : Int) != 0) = true := by simp; omega
          have HK6 := hid hk6
          clear hk6
          go_wp2_with fail
          go_ret2
          rw [HOE.out, if_neg fun h => h HK4.out, HCW.out, if_pos HK6.out]
          have o := open_kept B2.out HLB.out S6.out
          exact ⟨L6.out.disk, o.1, fun _ => rfl, nofun⟩
      . have n1 : 0 < n := by omega
        have bn0 : ((n : Int) == 0) = false := beq_eq_false_iff_ne.2 (by omega)
        have HNE : Hid (¬ L1.fs = []) := hid (fun e => hn0 (by rw [<- HN.out, e]; rfl))
        clear hn0
        have hla1 : (L1.last : Int) < 18446744073709551616 := by have := HLK.out.1.last; omega
        have HLA := hid hla1
        obtain ⟨la, hla⟩ : ∃ la, L1.last = la := ⟨_, rfl⟩
        have HLL := hid hla
        clear hla1 hla
        go_wp2_with fail
        refine (wlast L4.out HLA.out).mono ?_
        rintro e w5 ⟨rfl, hb5⟩
        obtain ⟨lz, hlz⟩ : ∃ lz : Int, (la : Int) = lz := ⟨_, rfl⟩
        have HLZ := hid hlz
        rw [HLL.out, hlz]
        clear hlz
        have L5 := hid (L4.out.below hb5)
        have S5 := hid (S4.out.trans (LStep.below hb5))
        clear hb5 c3
        by_cases hlt : la < base
        . have hlti : decide (lz < bz) = true := decide_eq_true (by have := HBZ.out; have := HLZ.out; omega)
          have HC : Hid (L1.fs = [] \/ L1.last < base) := hid (.inr (by rw [HLL.out]; exact hlt))
          clear hlt
          go_wp2_with fail
          have WR := wreset L5.out HSG.out.1 HLK.out.1 (by have := HSG.out.2; have := HLK.out.2.2.2; have := HST.out; have := HLK.out.2.1; omega) (by have := HLK.out.2.1; omega) base
          rw [HBZ.out] at WR
          refine WR.mono ?_
          clear WR
          rintro e w6 ⟨rfl, ev6, fv6, el6, hl6, hs6⟩
          have HCW : Hid (closeW D4 L1 base = if (resetW D4 L1 base).2.2 ≠ 0 then ((resetW D4 L1 base).1, none, (resetW D4 L1 base).2.2) else if base < (resetW D4 L1 base).2.1.b then ((resetW D4 L1 base).1, none, 20) else ((resetW D4 L1 base).1, some { (resetW D4 L1 base).2.1 with safe := (resetW D4 L1 base).2.1.es.length }, 0)) := hid (by unfold closeW; rw [if_pos HC.out])
          have L6 := hid hl6
          have S6 := hid (S5.out.trans hs6)
          clear hl6 hs6
          generalize (resetW D4 L1 base).1 = D6 at *
          generalize (resetW D4 L1 base).2.1 = L6s at *
          generalize (resetW D4 L1 base).2.2 = k6 at *
          by_cases hk6 : k6 = 0
          . have hkb6 : ((k6 : Int) != 0) = false := by rw [hk6]; rfl
            have HK6 := hid hk6
            clear hk6
            clear hlti n1 bn0
            have cb := L6.out.c1
            obtain ⟨bv, hbv⟩ : ∃ bv : Int, (L6s.b : Int) = bv := ⟨_, rfl⟩
            have HBV := hid hbv
            rw [hbv] at cb
            clear hbv
            obtain ⟨ea, ec, rfl, _⟩ := L6.out.shapeE
            have c2 := L6.out.c2
            have c4 := L6.out.c4
            have f4 := L6.out.fz 4 (by decide) (by decide)
            by_cases hbb : base < L6s.b
            . have hbbi : decide (bz < bv) = true := decide_eq_true (by have := HBZ.out; have := HBV.out; omega)
              have HBB := hid hbb
              clear hbb
              go_wp2_with fail
              go_ret2
              rw [HOE.out, if_neg fun h => h HK4.out, HCW.out, if_neg (fun h => h HK6.out), if_pos HBB.out]
              have o := open_kept B2.out HLB.out S6.out
              exact ⟨L6.out.disk, o.1, fun _ => rfl, nofun⟩
            . have hbbi : decide (bz < bv) = false := decide_eq_false (by have := HBZ.out; have := HBV.out; omega)
              have HBB := hid hbb
              clear hbb
              go_wp2_with fail
              go_ret2
              rw [HOE.out, if_neg fun h => h HK4.out, HCW.out, if_neg (fun h => h HK6.out), if_neg HBB.out]
              have hfin := L6.out.set4 L6s.es.length
              have hS := S6.out.trans (LStep.own (Kept.setCell w6 ⟨lb, 4, none⟩ (.int .i64 L6s.es.length)))
              have o := open_kept B2.out HLB.out hS
              refine ⟨hfin.disk, o.1, nofun, fun L hL => ?_⟩
              obtain rfl := Option.some.inj hL
              exact ⟨lb, _, _, _, rfl, hfin, HLB.out, o.2.1, o.2.2⟩
          . have hkb6 : ((k6 : Int) != 0) = true := by simp; omega
            have HK6 := hid hk6
            clear hk6
            go_wp2_with fail
            go_ret2
            rw [HOE.out, if_neg fun h => h HK4.out, HCW.out, if_pos HK6.out]
            have o := open_kept B2.out HLB.out S6.out
            exact ⟨L6.out.disk, o.1, fun _ => rfl, nofun⟩
        . have hlti : decide (lz < bz) = false := decide_eq_false (by have := HBZ.out; have := HLZ.out; omega)
          have HC : Hid (¬ (L1.fs = [] \/ L1.last < base)) := hid (fun h => h.elim HNE.out (fun q => hlt (by rw [<- HLL.out]; exact q)))
          have HCW : Hid (closeW D4 L1 base = if base < L1.b then (D4, none, 20) else (D4, some { L1 with safe := L1.es.length }, 0)) := hid (by unfold closeW; rw [if_neg HC.out]; rfl)
          clear hlt
          have cb := L5.out.c1
          obtain ⟨bv, hbv⟩ : ∃ bv : Int, (L1.b : Int) = bv := ⟨_, rfl⟩
          have HBV := hid hbv
          rw [hbv] at cb
          clear hbv
          obtain ⟨ea, ec, rfl, _⟩ := L5.out.shapeE
          have c2 := L5.out.c2
          have c4 := L5.out.c4
          have f4 := L5.out.fz 4 (by decide) (by decide)
          by_cases hbb : base < L1.b
          . have hbbi : decide (bz < bv) = true := decide_eq_true (by have := HBZ.out; have := HBV.out; omega)
            have HBB := hid hbb
            clear hbb
            go_wp2_with fail
            go_ret2
            rw [HOE.out, if_neg fun h => h HK4.out, HCW.out, if_pos HBB.out]
            have o := open_kept B2.out HLB.out S5.out
            exact ⟨L5.out.disk, o.1, fun _ => rfl, nofun⟩
          . have hbbi : decide (bz < bv) = false := decide_eq_false (by have := HBZ.out; have := HBV.out; omega)
            have HBB := hid hbb
            clear hbb
            go_wp2_with fail
            go_ret2
            rw [HOE.out, if_neg fun h => h HK4.out, HCW.out, if_neg HBB.out]
            have hfin := L5.out.set4 L1.es.length
            have hS := S5.out.trans (LStep.own (Kept.setCell w5 ⟨lb, 4, none⟩ (.int .i64 L1.es.length)))
            have o := open_kept B2.out HLB.out hS
            refine ⟨hfin.disk, o.1, nofun, fun L hL => ?_⟩
            obtain rfl := Option.some.inj hL
            exact ⟨lb, _, _, _, rfl, hfin, HLB.out, o.2.1, o.2.2⟩
    . have hkb4 : ((k4 : Int) != 0) = true := by simp; omega
      have HK4 := hid hk4
      clear hk4
      go_wp2_with fail
      go_ret2
      rw [HOE.out, if_pos HK4.out]
      have o := open_kept B2.out HLB.out S4.out
      exact ⟨L4.out.disk, o.1, fun _ => rfl, nofun⟩
  . have hkb : ((k1 : Int) != 0) = true := by simp; omega
    have HK1 := hid hk1
    clear hk1
    go_wp2_with fail
    go_ret2
    rw [HOP.out, if_pos HK1.out]
    have o := open_kept B2.out HLB.out S3.out
    exact ⟨L3.out.disk, o.1, fun _ => rfl, nofun⟩

def DatasN (w : World) (S : Nat -> Prop) (l : EntR) : Prop := ∀ p ∈ l, Bytes w p.2 p.1.d /\ p.1.fits /\ (p.1.d ≠ [] -> ∀ b, p.2.ownBlock = some b -> ¬ S b)
theorem DatasN.kept {w w' : World} {S T : Nat -> Prop} {l : EntR} (h : DatasN w S l) (hk : Kept w w' T) (hs : ∀ k, T k -> S k) : DatasN w' S l := fun p hp =>
  let ⟨h1, h2, h3⟩ := h p hp
  ⟨h1.keptIf hk fun hne b hb ht => h3 hne b hb (hs b ht), h2, h3⟩
theorem DatasN.loose {w : World} {S : Nat -> Prop} {l : EntR} (h : DatasN w S l) : Datas w (fun _ => False) l := fun p hp => ⟨(h p hp).1, (h p hp).2.1, fun _ _ h => h⟩
theorem Datas.toN {w : World} {S : Nat -> Prop} {l : EntR} (h : Datas w S l) : DatasN w S l := fun p hp => ⟨(h p hp).1, (h p hp).2.1, fun _ => (h p hp).2.2⟩
structure ArgE (w : World) (S : Nat -> Prop) (mv : Value) (ml : EntR) : Prop where
  row : SRow w 3 mv (entRows ml)
  dat : DatasN w S ml
  apart : ml = [] \/ ∀ b, mv.ownBlock = some b -> ¬ S b
theorem ArgE.kept {w w' : World} {S : Nat -> Prop} {mv : Value} {ml : EntR} (h : ArgE w S mv ml) (hk : Kept w w' S) : ArgE w' S mv ml :=
  ⟨h.row.kept hk (h.apart.imp (fun e => by rw [e]; rfl) id), h.dat.kept hk fun _ h => h, h.apart⟩
theorem ArgE.loose {w : World} {S : Nat -> Prop} {mv : Value} {ml : EntR} (h : ArgE w S mv ml) : Datas w (fun _ => False) ml := h.dat.loose
set_option maxHeartbeats 4000000 in
set_option maxRecDepth 20000 in
theorem wappend_no {lb db mb tb : Nat} {ev fv mv : Value} {el ml : EntR} {D : DiskS} {L : WalS} {w : World} (h : LogAt w lb db mb tb ev fv el D L) (hm : ArgE w (LOwn lb db mb tb ev fv) mv ml) (hl : L.last <= H59) (hlen : (linesW (L.last + 1) (ml.map (·.1))).length <= 2097152) (hn : ml.length <= 2147483648)
    (hc : ¬ (∀ e ∈ ml.map (·.1), e.ok) \/ H59 < L.last + ml.length \/ ml = []) :
    Calls Tryz.prog 57 #[.pointer (some ⟨lb, 0, none⟩), mv] w (LogPost lb db mb tb ev fv (appendW D L (ml.map (·.1))) w) := by
  have HH := hid h
  have HM := hid hm
  obtain ⟨ma, mc, rfl, _⟩ := hm.row.shape
  obtain ⟨la, hla⟩ : ∃ la, L.last = la := ⟨_, rfl⟩
  have HLA := hid hla
  have hlf : leftW L.last = H59 - la := by unfold leftW H59 at *; omega
  have HLF := hid hlf
  obtain ⟨lz, hlz⟩ : ∃ lz : Int, (la : Int) = lz := ⟨_, rfl⟩
  have HLZ := hid hlz
  have hl0 : 0 <= lz := by omega
  have hl1 : lz <= 576460752303423488 := by unfold H59 at hl; omega
  have HB := hid (show (L.last : Int) < 18446744073709551616 by omega)
  obtain ⟨n, hnn⟩ : ∃ n, ml.length = n := ⟨_, rfl⟩
  have HN := hid hnn
  rw [entRows_length, hnn] at HM ⊢
  have hn' : (n : Int) <= 2147483648 := by omega
  have HLN := hid hlen
  have HC := hid hc
  have HN2 : Hid ((ml.map (·.1)).length <= 2147483648) := hid (by rw [List.length_map]; exact hn)
  have HL6 : Hid (L.last + 1 <= 1152921506754330625) := hid (by unfold H59 at hl; omega)
  have hnx : ((L.last + 1 : Nat) : Int) = lz + 1 := by rw [<- hlz, <- hla]; rfl
  have HNX := hid hnx
  have ew : IntKind.u64.wrap (n : Int) = (n : Int) := by rw [wrap_u64]; omega
  have es : IntKind.u64.wrap (576460752303423488 - lz) = 576460752303423488 - lz := by rw [wrap_u64]; omega
  have HNC : Hid (H59 < la + n ↔ 576460752303423488 - lz < (n : Int)) := hid (by unfold H59; omega)
  have HNL : Hid (H59 - la < n ↔ H59 < la + n) := hid (by unfold H59 at *; omega)
  clear h hm hla hlf hlz hlen hn hc hnn hnx hl
  go_enter Tryz.func57, Tryz.ntmps57
  go_wp2_with fail
  refine (wnone HH.out).mono ?_
  rintro e w1 ⟨rfl, rfl⟩
  go_wp2_with fail
  refine (wlast HH.out HB.out).mono ?_
  rintro e w2 ⟨rfl, hb2⟩
  rw [HLA.out, HLZ.out]
  have B2 := hid hb2
  have L2 := hid (HH.out.below hb2)
  have M2 := hid (HM.out.kept (Kept.of_below hb2 fun k h1 h2 => by omega))
  clear hb2
  go_wp2_with fail
  have WL := wlines M2.out.row M2.out.loose rfl HLN.out HN2.out HL6.out
  rw [HNX.out] at WL
  refine WL.mono ?_
  clear WL
  rintro e w3 ⟨hb3, hyes, hno⟩
  have B3 : Hid (Below w.heap.size w w3) := hid (B2.out.trans (hb3.mono B2.out.size))
  have L3 := hid (HH.out.below B3.out)
  clear hb3
  by_cases hall : ∀ e ∈ ml.map (·.1), e.ok
  . obtain ⟨bv, rfl, hown, _⟩ := hyes hall
    have HALL := hid hall
    obtain ⟨ba, bn, bc, rfl⟩ := owns_slice hown
    clear hyes hno hown hall
    go_wp2_with fail
    refine (wlast L3.out HB.out).mono ?_
    rintro e w4 ⟨rfl, hb4⟩
    rw [HLA.out, HLZ.out]
    have B4 : Hid (Below w.heap.size w w4) := hid (B3.out.trans (hb4.mono B3.out.size))
    have L4 := hid (HH.out.below B4.out)
    clear hb4
    by_cases hbig : H59 < la + n
    . have hbd : decide (576460752303423488 - lz < (n : Int)) = true := decide_eq_true (HNC.out.1 hbig)
      have HBG := hid hbig
      clear hbig
      go_wp2_with fail
      go_ret
      have HR : appendW D L (ml.map (·.1)) = (D, L, 10) := by
        unfold appendW
        rw [if_neg (fun q => q HALL.out), if_pos (by rw [HLF.out, List.length_map, HN.out]; exact HNL.out.2 HBG.out)]
      rw [HR]
      exact ⟨rfl, _, _, _, L4.out, LStep.below B4.out⟩
    . have hbd : decide (576460752303423488 - lz < (n : Int)) = false := decide_eq_false (fun q => hbig (HNC.out.2 q))
      have hml : ml = [] := (HC.out.resolve_left (fun q => q HALL.out)).resolve_left (by rw [HLA.out, HN.out]; exact hbig)
      have HML := hid hml
      have HBG := hid hbig
      have z0 : ((n : Int) == 0) = true := by rw [<- HN.out, hml]; rfl
      clear hbig hml
      go_wp2_with fail
      go_ret
      have HR : appendW D L (ml.map (·.1)) = (D, L, 0) := by
        unfold appendW
        rw [if_neg (fun q => q HALL.out), if_neg (by rw [HLF.out, List.length_map, HN.out]; exact fun q => HBG.out (HNL.out.1 q)), if_pos (by rw [HML.out]; rfl)]
      rw [HR]
      exact ⟨rfl, _, _, _, L4.out, LStep.below B4.out⟩
  . obtain rfl := hno hall
    have HALL := hid hall
    clear hyes hno hall
    go_wp2_with fail
    go_ret
    have HR : appendW D L (ml.map (·.1)) = (D, L, 2) := by
      unfold appendW
      rw [if_pos HALL.out]
    rw [HR]
    exact ⟨rfl, _, _, _, L3.out, LStep.below B3.out⟩

theorem wfRows_set {fs : List WF} {m : Nat} {f f' : WF} {i : Nat} {x : Int} (hm : m < (fs.map wfRow).length) (hf : fs[m]? = some f) (hr : wfRow f' = (wfRow f).set i (.int .i64 x)) : (fs.set m f').map wfRow = (fs.map wfRow).set m (((fs.map wfRow)[m]'hm).set i (.int .i64 x)) := by
  have h1 : m < fs.length := (List.getElem?_eq_some_iff.1 hf).1
  have h2 : fs[m] = f := (List.getElem?_eq_some_iff.1 hf).2
  rw [List.map_set, List.getElem_map, h2, hr]
theorem set_last {fs : List WF} {m : Nat} (hm : fs.length = m + 1) (f : WF) : fs.set m f = fs.dropLast ++ [f] := by
  have hne : fs ≠ [] := fun e => by rw [e] at hm; cases hm
  conv => lhs; rw [<- List.dropLast_concat_getLast hne]
  have hl : fs.dropLast.length = m := by rw [List.length_dropLast, hm]; rfl
  rw [List.set_append_right _ _ (by omega), hl, Nat.sub_self]
  rfl
theorem LogAt.stored2 {w : World} {lb db mb tb g k c m : Nat} {ev : Value} {el : EntR} {D : DiskS} {L : WalS} {f : WF} (h : LogAt w lb db mb tb ev (.slice (some ⟨g, 0, none⟩) k c) el D L) (hf : L.fs.getLast? = some f) (hm : L.fs.length = m + 1) (a b : Nat) :
    LogAt ((w.setCell ⟨g, m * 3 + 1, none⟩ (.int .i64 a)).setCell ⟨g, m * 3 + 2, none⟩ (.int .i64 b)) lb db mb tb ev (.slice (some ⟨g, 0, none⟩) k c) el D { L with fs := L.fs.dropLast ++ [⟨f.f, a, b⟩] } := by
  have hfm : L.fs[m]? = some f := by rw [List.getLast?_eq_getElem?, hm] at hf; exact hf
  have h1 := h.storedF (k := m) (i := 1) (q := .i64) (x := a) (by omega) (by decide) (by decide) (fs := L.fs.set m ⟨f.f, a, f.s⟩) (wfRows_set (by rw [List.length_map]; omega) hfm rfl)
  have hfm2 : (L.fs.set m ⟨f.f, a, f.s⟩)[m]? = some ⟨f.f, a, f.s⟩ := by rw [List.getElem?_set_self (by omega)]
  have h2 := h1.storedF (k := m) (i := 2) (q := .i64) (x := b) (by simp only [List.length_set]; omega) (by decide) (by decide) (fs := (L.fs.set m ⟨f.f, a, f.s⟩).set m ⟨f.f, a, b⟩) (wfRows_set (by rw [List.length_map, List.length_set]; omega) hfm2 rfl)
  rw [List.set_set, set_last hm ⟨f.f, a, b⟩] at h2
  exact h2

set_option maxHeartbeats 8000000 in
set_option maxRecDepth 20000 in
theorem wappend_add {lb db mb tb : Nat} {ev fv mv : Value} {el ml : EntR} {D : DiskS} {L : WalS} {w : World} {f : WF} (h : LogAt w lb db mb tb ev fv el D L) (hm : ArgE w (LOwn lb db mb tb ev fv) mv ml) (hl : L.last <= H59) (hlen : (linesW (L.last + 1) (ml.map (·.1))).length <= 2097152) (hn : ml.length <= 2147483648)
    (hg : DGood D) (hok : LOk L) (hfs : L.fs.length <= 1000000) (hes : L.es.length + ml.length <= 4294967296) (hf : L.fs.getLast? = some f) (hf0 : f.s ≠ 0) (hf1 : f.s < 1024) (hall : ∀ e ∈ ml.map (·.1), e.ok) (hbig : ¬ H59 < L.last + ml.length) (hml : ml ≠ []) :
    Calls Tryz.prog 57 #[.pointer (some ⟨lb, 0, none⟩), mv] w (LogPost lb db mb tb ev fv (appendW D L (ml.map (·.1))) w) := by
  have HR : Hid (appendW D L (ml.map (·.1)) = addW D L f (ml.map (·.1))) := hid (by
    unfold appendW
    rw [if_neg (fun q => q hall), if_neg (by have : leftW L.last = H59 - L.last := (by unfold leftW H59 at *; omega); rw [this, List.length_map]; omega), if_neg (by simpa using hml), hf]
    simp only
    rw [if_pos hf1])
  have HADD : Hid (addW D L f (ml.map (·.1)) = if (appendD D (nameW f.f) (linesW (L.last + 1) (ml.map (·.1)))).2 ≠ 0 then ((appendD D (nameW f.f) (linesW (L.last + 1) (ml.map (·.1)))).1, L, (appendD D (nameW f.f) (linesW (L.last + 1) (ml.map (·.1)))).2)
  else ((appendD D (nameW f.f) (linesW (L.last + 1) (ml.map (·.1)))).1, ⟨L.b, L.es ++ ml.map (·.1), L.fs.dropLast ++ [⟨f.f, f.m + (ml.map (·.1)).length, f.s + (linesW (L.last + 1) (ml.map (·.1))).length⟩], L.safe⟩, 0)) := hid rfl
  have hfm : f ∈ L.fs := List.mem_of_getLast? hf
  have hne : L.fs ≠ [] := List.ne_nil_of_mem hfm
  obtain ⟨m, hmm⟩ : ∃ m, L.fs.length = m + 1 := ⟨L.fs.length - 1, by have := List.length_pos_iff.2 hne; omega⟩
  obtain ⟨g, c, rfl, hcc, hgg⟩ := OwnL.some h.fr (by simpa using hne)
  rw [List.length_map] at h hm hcc ⊢
  obtain ⟨a0, c0, rfl, _⟩ := h.shapeE
  obtain ⟨k, hkk⟩ : ∃ k, L.fs.length = k := ⟨_, rfl⟩
  rw [hkk] at h hm hfs ⊢
  have hkm : k = m + 1 := by omega
  have HF := hid hf
  have HMM := hid hmm
  have HG := hid hg
  have HNM := hid (hok.nm f hfm)
  have HNS : Hid ((nameW f.f).size <= maxLen) := hid (Nat.le_trans (size_nameW_le f.f) (by decide))
  have hs' : (k : Int) <= 4294967296 := by omega
  have hz0 : ((f.s : Int) == 0) = false := beq_eq_false_iff_ne.2 (by omega)
  have hz1 : decide (1024 <= (f.s : Int)) = false := decide_eq_false (by omega)
  have hfmm : (f.m : Int) <= 2147483648 := by have := hok.m hfm; have := hok.few; omega
  have hfss : (f.s : Int) <= 1024 := by omega
  have HES := hid hes
  have HMLN : Hid (ml.length <= 2147483648) := hid hn
  have HALL := hid hall
  have hc : True := trivial
  have hbig' : ¬ H59 < L.last + ml.length := hbig
  have hmlen : 0 < ml.length := List.length_pos_iff.2 hml
  clear hf hmm hg hok hfm hne hkk hfs hf0 hf1 hcc hgg hes hall
  have HH := hid h
  have HM := hid hm
  obtain ⟨ma, mc, rfl, _⟩ := hm.row.shape
  obtain ⟨la, hla⟩ : ∃ la, L.last = la := ⟨_, rfl⟩
  have HLA := hid hla
  have hlf : leftW L.last = H59 - la := by unfold leftW H59 at *; omega
  have HLF := hid hlf
  obtain ⟨lz, hlz⟩ : ∃ lz : Int, (la : Int) = lz := ⟨_, rfl⟩
  have HLZ := hid hlz
  have hl0 : 0 <= lz := by omega
  have hl1 : lz <= 576460752303423488 := by unfold H59 at hl; omega
  have HB := hid (show (L.last : Int) < 18446744073709551616 by omega)
  obtain ⟨n, hnn⟩ : ∃ n, ml.length = n := ⟨_, rfl⟩
  have HN := hid hnn
  rw [entRows_length, hnn] at HM ⊢
  have hn' : (n : Int) <= 2147483648 := by omega
  have HLN := hid hlen
  have HBIG : Hid (¬ H59 < la + n) := hid (by rw [<- hla, <- hnn]; exact hbig')
  have hn0 : ((n : Int) == 0) = false := beq_eq_false_iff_ne.2 (by omega)
  have HN2 : Hid ((ml.map (·.1)).length <= 2147483648) := hid (by rw [List.length_map]; exact hn)
  have HL6 : Hid (L.last + 1 <= 1152921506754330625) := hid (by unfold H59 at hl; omega)
  have hnx : ((L.last + 1 : Nat) : Int) = lz + 1 := by rw [<- hlz, <- hla]; rfl
  have HNX := hid hnx
  have ew : IntKind.u64.wrap (n : Int) = (n : Int) := by rw [wrap_u64]; omega
  have es : IntKind.u64.wrap (576460752303423488 - lz) = 576460752303423488 - lz := by rw [wrap_u64]; omega
  have HNC : Hid (H59 < la + n ↔ 576460752303423488 - lz < (n : Int)) := hid (by unfold H59; omega)
  have HNL : Hid (H59 - la < n ↔ H59 < la + n) := hid (by unfold H59 at *; omega)
  have hbd : decide (576460752303423488 - lz < (n : Int)) = false := decide_eq_false (fun q => HBIG.out (HNC.out.2 q))
  clear h hm hla hlf hlz hlen hn hc hnn hnx hl hbig' hbig hml hmlen
  go_enter Tryz.func57, Tryz.ntmps57
  go_wp2_with fail
  refine (wnone HH.out).mono ?_
  rintro e w1 ⟨rfl, rfl⟩
  go_wp2_with fail
  refine (wlast HH.out HB.out).mono ?_
  rintro e w2 ⟨rfl, hb2⟩
  rw [HLA.out, HLZ.out]
  have B2 := hid hb2
  have L2 := hid (HH.out.below hb2)
  have M2 := hid (HM.out.kept (Kept.of_below hb2 fun k h1 h2 => by omega))
  clear hb2
  go_wp2_with fail
  have WL := wlines M2.out.row M2.out.loose rfl HLN.out HN2.out HL6.out
  rw [HNX.out] at WL
  refine WL.mono ?_
  clear WL
  rintro e w3 ⟨hb3, hyes, hno⟩
  have B3 : Hid (Below w.heap.size w w3) := hid (B2.out.trans (hb3.mono B2.out.size))
  have L3 := hid (HH.out.below B3.out)
  clear hb3
  obtain ⟨bv, rfl, hown, hblt⟩ := hyes HALL.out
  have BV3 : Hid (Bytes w3 bv (linesW (L.last + 1) (ml.map (·.1)))) := hid (Bytes.of_owns hown hblt HLN.out)
  obtain ⟨ba, bc, rfl⟩ := hown.shape
  obtain ⟨bn, hbn⟩ : ∃ bn, (ints (linesW (L.last + 1) (ml.map (·.1)))).length = bn := ⟨_, rfl⟩
  have HBN : Hid ((linesW (L.last + 1) (ml.map (·.1))).length = bn) := hid (by rw [<- hbn, length_ints])
  have hbn2 : (bn : Int) <= 2097152 := by have := HLN.out; have := HBN.out; omega
  rw [hbn] at BV3 ⊢
  clear hyes hno hown hblt hbn
  go_wp2_with fail
  refine (wlast L3.out HB.out).mono ?_
  rintro e w4 ⟨rfl, hb4⟩
  rw [HLA.out, HLZ.out]
  have B4 : Hid (Below w.heap.size w w4) := hid (B3.out.trans (hb4.mono B3.out.size))
  have L4 := hid (HH.out.below B4.out)
  have BV4 := hid (BV3.out.below hb4)
  clear hb4
  go_wp2_with fail
  refine (wopen_some L4.out hkm hs').mono ?_
  rintro e w5 ⟨rfl, hb5⟩
  have B5 : Hid (Below w.heap.size w w5) := hid (B4.out.trans (hb5.mono B4.out.size))
  have L5 := hid (HH.out.below B5.out)
  have BV5 := hid (BV4.out.below hb5)
  have q2 := (L5.out.cellL HF.out HMM.out).2.2
  have ST := Stable.from w5
  clear hb5
  go_wp2_with fail
  refine region_start [0, 1, 3, 7, 0, 16, 48, 112, 0, 511, 1023] 128 (fun w' => Below w5.heap.size w5 w') (by kernel_rfl) ?_
  refine stage_heads [0, 1, 2, 3, 4, 5, 6, 8] (by kernel_rfl) (L := #[true, true, true, true, true, true, true, false, true, false, false]) (by kernel_rfl) (f' := 3) rfl (fun _ _ _ _ h => h) (fun w o h => ST.alloc h o) (.inr (by first | exact Below.refl _ _ | exact (Below.refl _ _).drew)) ?_
  simp only [sF, sL]
  iterate 8 (first | (refine heads_load _ (by rfl) (fun w' hs => by have Y := L5.out.below hs; have b0 := Y.c0; obtain ⟨q0, q1, q2⟩ := Y.cellL HF.out HMM.out; go_simp; try with_reducible rfl) rfl ?_; simp only [Act.put, sA]) | (refine heads_pure _ (by rfl) (fun w' => by go_simp; try with_reducible rfl) ?_; simp only [Act.put, sA]))
  refine heads_nil ?_
  refine stage_op 7 (by kernel_rfl) (L := #[true, true, true, true, true, true, true, true, true, false, false]) (by kernel_rfl) ?_
  simp only [sL]
  go_wp2_with fail; refine (wname f.f f.m f.s _ HNM.out.1 HNM.out.2).mono ?_; rintro e u7 ⟨rfl, hb7⟩; have I7 : Hid (Below w5.heap.size w5 u7) := hid (by first | exact hb7 | exact ((Below.refl _ _).drew).trans hb7); clear hb7; go_wp2_with fail
  refine step_post (fun _ => I7.out) ?_
  refine stage_op 9 (by kernel_rfl) (L := #[true, true, true, true, true, true, true, true, true, true, false]) (by kernel_rfl) ?_
  simp only [sL]
  go_wp2_with fail; have L7 := hid (L5.out.below I7.out); refine (dapp_any db mb tb D (nameW f.f) _ (linesW (L.last + 1) (ml.map (·.1))) u7 L7.out.disk HG.out (BV5.out.below I7.out) HNS.out).mono ?_; rintro e w6 ⟨rfl, hd6, hk6⟩; have L6 : Hid (LogAt w6 lb db mb tb (.slice a0 L.es.length c0) (.slice (some ⟨g, 0, none⟩) k c) el (appendD D (nameW f.f) (linesW (L.last + 1) (ml.map (·.1)))).1 L) := hid (L7.out.disked hd6 hk6); have S6 : Hid (LStep lb db mb tb w (.slice a0 L.es.length c0) (.slice (some ⟨g, 0, none⟩) k c) w6 (.slice a0 L.es.length c0) (.slice (some ⟨g, 0, none⟩) k c)) := hid ((LStep.below B5.out).trans ((LStep.below I7.out).trans (LStep.disk hk6))); clear hd6 hk6; generalize (appendD D (nameW f.f) (linesW (L.last + 1) (ml.map (·.1)))).1 = D6 at *; generalize (appendD D (nameW f.f) (linesW (L.last + 1) (ml.map (·.1)))).2 = k6 at *; go_wp2_with fail
  refine step_post nofun ?_
  refine stage_heads [10] (by kernel_rfl) (L := #[true, true, true, true, true, true, true, true, true, true, true]) (by kernel_rfl) (f' := 0) rfl (fun _ _ _ _ h => h) (fun w o h => ST.alloc h o) (.inl (by kernel_rfl)) ?_
  simp only [sF, sL]
  iterate 1 (refine heads_pure _ (by rfl) (fun w' => by go_simp; try with_reducible rfl) ?_; simp only [Act.put, sA])
  refine heads_nil ?_
  refine stage_done (by kernel_rfl) ?_
  by_cases hk0 : k6 = 0
  . have hkb : ((k6 : Int) != 0) = false := by rw [hk0]; rfl
    have HK0 := hid hk0
    have y6 := (L6.out.cellL HF.out HMM.out).2.2
    obtain ⟨mA, hmA⟩ : ∃ mA : Nat, f.m + n = mA := ⟨_, rfl⟩
    obtain ⟨sB, hsB⟩ : ∃ sB : Nat, f.s + bn = sB := ⟨_, rfl⟩
    have HMA := hid hmA
    have HSB := hid hsB
    have am : (f.m : Int) + (n : Int) = (mA : Int) := by omega
    have asb : (f.s : Int) + (bn : Int) = (sB : Int) := by omega
    have wm : IntKind.i64.wrap (mA : Int) = (mA : Int) := by simp only [IntKind.wrap_i64]; omega
    have ws : IntKind.i64.wrap (sB : Int) = (sB : Int) := by simp only [IntKind.wrap_i64]; omega
    have ST6 := Stable.from w6
    clear hk0 q2 hmA hsB
    go_wp2_with fail
    refine region_start [0, 0, 0, 4, 12, 28, 0, 64, 252, 0, 512, 1536, 3584, 0, 8192, 32256, 8189, 73725, 204797, 524287, 1048575, 2097151] 0 (fun w' => Below w6.heap.size w6 w') (by kernel_rfl) ?_
    refine stage_heads [0, 1, 2, 3, 4, 5, 6, 7, 8, 9, 10, 11, 12, 13, 14, 15, 16, 17] (by kernel_rfl) (L := #[true, true, true, true, true, true, true, true, true, true, true, true, true, true, true, true, true, true, false, false, false, false]) (by kernel_rfl) (f' := 4) rfl (fun _ _ _ _ h => h) (fun w o h => ST6.alloc h o) (.inr (by first | exact Below.refl _ _ | exact (Below.refl _ _).drew)) ?_
    simp only [sF, sL]
    iterate 18 (first | (refine heads_load _ (by rfl) (fun w' hs => by have Y := L6.out.below hs; obtain ⟨q0, q1, q2⟩ := Y.cellL HF.out HMM.out; go_simp; try with_reducible rfl) rfl ?_; simp only [Act.put, sA]) | (refine heads_pure _ (by rfl) (fun w' => by go_simp; try with_reducible rfl) ?_; simp only [Act.put, sA]))
    refine heads_nil ?_
    refine stage_op 18 (by kernel_rfl) (L := #[true, true, true, true, true, true, true, true, true, true, true, true, true, true, true, true, true, true, true, false, false, false]) (by kernel_rfl) ?_
    simp only [sL]
    obtain ⟨y0, y1, y2⟩ := L6.out.cellL HF.out HMM.out; have z1 := OwnL.unfrozen L6.out.fr (m * 3 + 1); have z2 := OwnL.unfrozen L6.out.fr (m * 3 + 2); go_wp2_with fail
    refine step_post nofun ?_
    refine stage_heads [19, 20] (by kernel_rfl) (L := #[true, true, true, true, true, true, true, true, true, true, true, true, true, true, true, true, true, true, true, true, true, false]) (by kernel_rfl) (f' := 1) rfl (fun _ _ _ _ h => h) (fun w o h => ST6.alloc h o) (.inl (by kernel_rfl)) ?_
    simp only [sF, sL]
    iterate 2 (refine heads_pure _ (by rfl) (fun w' => by go_simp; try with_reducible rfl) ?_; simp only [Act.put, sA])
    refine heads_nil ?_
    refine stage_op 21 (by kernel_rfl) (L := #[true, true, true, true, true, true, true, true, true, true, true, true, true, true, true, true, true, true, true, true, true, true]) (by kernel_rfl) ?_
    simp only [sL]
    go_wp2_with fail
    refine step_post nofun ?_
    refine stage_done (by kernel_rfl) ?_
    clear y0 y1 y2 z1 z2 y6
    have L7x := hid (L6.out.stored2 HF.out HMM.out mA sB)
    have K7x : Hid (Kept w6 ((w6.setCell ⟨g, m * 3 + 1, none⟩ (.int .i64 (mA : Nat))).setCell ⟨g, m * 3 + 2, none⟩ (.int .i64 (sB : Nat))) (fun b => b = g)) := hid ((Kept.setCell w6 ⟨g, m * 3 + 1, none⟩ _).trans (Kept.setCell _ ⟨g, m * 3 + 2, none⟩ _))
    have L8' := hid (L7x.out.below ((Below.refl _ _).drew))
    have S8' : Hid (LStep lb db mb tb w6 (.slice a0 L.es.length c0) (.slice (some ⟨g, 0, none⟩) k c) ((w6.setCell ⟨g, m * 3 + 1, none⟩ (.int .i64 (mA : Nat))).setCell ⟨g, m * 3 + 2, none⟩ (.int .i64 (sB : Nat))).drew (.slice a0 L.es.length c0) (.slice (some ⟨g, 0, none⟩) k c)) := hid ⟨((K7x.out.trans (Kept.drew _ _))).mono fun b _ e => .inr (.inr (.inr (by rw [e]; rfl))), fun b hb => .inl hb, fun b hb => .inl hb⟩
    generalize hw8 : ((w6.setCell ⟨g, m * 3 + 1, none⟩ (.int .i64 (mA : Nat))).setCell ⟨g, m * 3 + 2, none⟩ (.int .i64 (sB : Nat))).drew = w8 at *
    have L8 := L8'
    have S8 := hid (S6.out.trans S8'.out)
    have M8 := hid (HM.out.kept S8.out.1)
    have ST8 := Stable.from w8
    clear hw8 L7x K7x L8' S8'
    go_wp2_with fail
    refine region_start [0, 0, 2, 6, 14, 0, 32, 126, 255, 511, 1023] 64 (fun w' => Below w8.heap.size w8 w') (by kernel_rfl) ?_
    refine stage_heads [0, 1, 2, 3, 4, 5] (by kernel_rfl) (L := #[true, true, true, true, true, true, false, false, false, false, false]) (by kernel_rfl) (f' := 5) rfl (fun _ _ _ _ h => h) (fun w o h => ST8.alloc h o) (.inr (by first | exact Below.refl _ _ | exact (Below.refl _ _).drew)) ?_
    simp only [sF, sL]
    iterate 6 (first | (refine heads_load _ (by rfl) (fun w' hs => by have Y := L8.out.below hs; have b2 := Y.c2; go_simp; try with_reducible rfl) rfl ?_; simp only [Act.put, sA]) | (refine heads_pure _ (by rfl) (fun w' => by go_simp; try with_reducible rfl) ?_; simp only [Act.put, sA]))
    refine heads_nil ?_
    refine stage_op 6 (by kernel_rfl) (L := #[true, true, true, true, true, true, true, false, false, false, false]) (by kernel_rfl) ?_
    simp only [sL]
    go_wp2_with fail; refine (gcopy_any _ ml _ (M8.out.row.below ((Below.refl w8.heap.size w8).drew)) ((ArgE.kept M8.out (Kept.drew w8 _)).loose) HMLN.out).mono ?_; rintro e w9 ⟨cv, rfl, cl, hoc, hcm, hcd, hcb, hbc⟩; have B9 : Hid (Below w8.heap.size w8 w9) := hid (((Below.refl w8.heap.size w8).drew).trans hbc); have OC := hid hoc; have CM := hid hcm; have L9 := hid (L8.out.below B9.out); have DC : Hid (Datas w9 (Own3 db mb tb) cl) := hid (hcd.mono fun p _ b _ hb => L8.out.disk.lt3 b hb); have H32 : Hid ((entRows el).length + (entRows cl).length <= 4294967296) := hid (by rw [entRows_length, entRows_length, L8.out.lenE, show cl.length = ml.length by rw [<- List.length_map (f := fun x : EntS × Value => x.1), hcm, List.length_map]]; exact HES.out); obtain ⟨ca, cn, cc, rfl⟩ := ownl_slice hoc; clear hoc hcm hcd hcb hbc; go_wp2_with fail
    refine step_post (fun _ => B9.out) ?_
    refine stage_op 7 (by kernel_rfl) (L := #[true, true, true, true, true, true, true, true, false, false, false]) (by kernel_rfl) ?_
    simp only [sL]
    go_wp2_with (at_builtin; refine wpList_append_ownl entry3 _ _ rfl (.slice a0 L.es.length c0) (.slice ca cn cc) (entRows el) (entRows cl) rfl rfl L9.out.er OC.out.srow (entRows_each cl) DC.out.oneCell (entRows_no8 DC.out) entry8 H32.out rfl ?_; intro v10 w10 ho10 hg10 ha10; obtain ⟨a10, n10, c10, rfl⟩ := ownl_slice ho10; have G10 := hid (L9.out.grownE (el' := el ++ cl) hg10 (by rw [entRows_app]; exact ho10) ha10 ((L9.out.dat.keptN (Kept.of_grown hg10) (noB_own L9.out.er)).app (DC.out.keptN (Kept.of_grown hg10) (noB_own L9.out.er)))); have A10 := hid ha10; have e2 := (L9.out.grown2 hg10).1; have e3 := (L9.out.grown2 hg10).2; clear ho10 hg10 ha10)
    refine step_post nofun ?_
    refine stage_heads [8, 9] (by kernel_rfl) (L := #[true, true, true, true, true, true, true, true, true, true, false]) (by kernel_rfl) (f' := 1) rfl (fun _ _ _ _ h => h) (fun w o h => ST8.alloc h o) (.inl (by kernel_rfl)) ?_
    simp only [sF, sL]
    iterate 2 (refine heads_pure _ (by rfl) (fun w' => by go_simp; try with_reducible rfl) ?_; simp only [Act.put, sA])
    refine heads_nil ?_
    refine stage_op 10 (by kernel_rfl) (L := #[true, true, true, true, true, true, true, true, true, true, true]) (by kernel_rfl) ?_
    simp only [sL]
    go_wp2_with fail
    refine step_post nofun ?_
    refine stage_done (by kernel_rfl) ?_
    go_wp2_with fail
    go_ret
    rw [HR.out, HADD.out, if_neg fun q => q HK0.out]
    have hfin := G10.out.1
    have eL : (⟨L.b, (el ++ cl).map (·.1), L.fs.dropLast ++ [⟨f.f, mA, sB⟩], L.safe⟩ : WalS) = ⟨L.b, L.es ++ ml.map (·.1), L.fs.dropLast ++ [⟨f.f, f.m + (ml.map (·.1)).length, f.s + (linesW (L.last + 1) (ml.map (·.1))).length⟩], L.safe⟩ := by
      have h1 : el.map (·.1) = L.es := L8.out.es
      rw [List.map_append, h1, CM.out, List.length_map, HN.out, HMA.out, HBN.out, HSB.out]
    have hL : LogAt (w10.setCell ⟨lb, 2, none⟩ (.slice a10 n10 c10)) lb db mb tb (.slice a10 n10 c10) (.slice (some ⟨g, 0, none⟩) k c) (el ++ cl) D6 ⟨L.b, L.es ++ ml.map (·.1), L.fs.dropLast ++ [⟨f.f, f.m + (ml.map (·.1)).length, f.s + (linesW (L.last + 1) (ml.map (·.1))).length⟩], L.safe⟩ := by
      rw [<- eL]
      exact hfin
    have sE : LStep lb db mb tb w9 (.slice a0 L.es.length c0) (.slice (some ⟨g, 0, none⟩) k c) (w10.setCell ⟨lb, 2, none⟩ (.slice a10 n10 c10)) (.slice a10 n10 c10) (.slice (some ⟨g, 0, none⟩) k c) := ⟨G10.out.2, own_ats A10.out, fun b hb => .inl hb⟩
    have sF := S8.out.trans ((LStep.below B9.out).trans sE)
    first
      | exact ⟨rfl, _, _, _, hL, sF.1, sF.2.1, sF.2.2⟩
      | (have sG := sF.trans (LStep.below ((Below.refl (w10.setCell ⟨lb, 2, none⟩ (.slice a10 n10 c10)).heap.size (w10.setCell ⟨lb, 2, none⟩ (.slice a10 n10 c10))).drew)); exact ⟨rfl, _, _, _, hL.below ((Below.refl _ _).drew), sG.1, sG.2.1, sG.2.2⟩)
  . have hkb : ((k6 : Int) != 0) = true := by simp; omega
    have HK0 := hid hk0
    clear hk0
    go_wp2_with fail
    go_ret
    rw [HR.out, HADD.out, if_pos HK0.out]
    exact ⟨rfl, _, _, _, L6.out, S6.out.1, S6.out.2.1, S6.out.2.2⟩
end Go.Proofs.YtjdglpcnkiioeaaGreat
