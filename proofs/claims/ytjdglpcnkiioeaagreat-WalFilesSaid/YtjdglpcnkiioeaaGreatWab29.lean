/- Several texts in one: Wyb, Sgs. What each proves stands ahead of it; together they serve wkeeps_law_holds,wfiles_law_holds,wnobody_law_holds. No conditions but those stated. -/
import Derived.Test.YtjdglpcnkiioeaaGreatWab28
import Derived.Test.YtjdglpcnkiioeaaGreatWab7
import Derived.Test.YtjdglpcnkiioeaaGreatWab27
/- The chapter's example of wal, computed; plain. -/
namespace Go.Proofs.YtjdglpcnkiioeaaGreat
open Go.RowKit Go.Maps Go.Proofs.Own Go.Shelf

def xE : EntS := ⟨1, 1, []⟩
def dX : DiskS := ⟨1000, [], false, -1, 0⟩
def lX : WalS := ⟨0, [], [], 0⟩
def rX1 : DiskS × WalS × Nat := appendW dX lX [xE, xE]
def rX2 : DiskS × WalS × Nat := syncW rX1.1 rX1.2.1
def rX3 : DiskS × WalS × Nat := appendW rX2.1 rX2.2.1 [xE]
def dX4 : DiskS := bootD (crashD rX3.1 [])
def rX4 : DiskS × Option WalS × Nat := openW dX4 0
set_option maxRecDepth 100000 in
theorem x_open : openW dX 0 = (dX, some lX, 0) := by kernel_rfl
set_option maxRecDepth 100000 in
theorem x_err : rX1.2.2 = 0 ∧ rX2.2.2 = 0 ∧ rX3.2.2 = 0 := by decide +kernel
set_option maxRecDepth 100000 in
theorem x_last : rX3.2.1.last = 3 := by decide +kernel
set_option maxRecDepth 100000 in
theorem x_end : rX4.2.2 = 0 ∧ rX4.2.1.map (fun L => (L.b, L.es.length)) = some (0, 2) := by decide +kernel
theorem x_good : DGood dX := ⟨⟨by decide, by decide, by decide, by decide, by decide, by decide, by decide, fun f h => by cases h⟩, by decide, by decide⟩
theorem x_inv : WInv dX lX [] := (open_none (D := dX) (b := 0) ⟨rfl, rfl⟩ (by decide) rfl).2
theorem x_rise : Rising dX.files := List.Pairwise.nil
theorem x1 : (∃ P, WInv rX1.1 rX1.2.1 P) ∧ Calm rX1.1 ∧ Rising rX1.1.files ∧ DGood rX1.1 ∧ rX1.1.steps ≤ 2 := by
  have hc : Calm dX := ⟨rfl, rfl⟩
  have hr := reach_append dX lX [xE, xE]
  have hg := hr.good x_good (by decide)
  refine ⟨?_, hr.calm hc, hr.rising x_rise, hg.1, hg.2⟩
  rcases append_law x_inv hc.1 x_rise [xE, xE] with ⟨_, _, P, h⟩ | ⟨h, _⟩
  · exact ⟨P, h⟩
  · rw [(hr.calm hc).1] at h
    cases h
theorem x2 : (∃ P, WInv rX2.1 rX2.2.1 P) ∧ Calm rX2.1 ∧ Rising rX2.1.files ∧ DGood rX2.1 ∧ rX2.1.steps ≤ 3 := by
  obtain ⟨⟨P, hi⟩, hc, hrs, hg0, hs⟩ := x1
  have hr := reach_sync rX1.1 rX1.2.1
  have hg := hr.good hg0 (by omega)
  refine ⟨?_, hr.calm hc, hr.rising hrs, hg.1, by have := hg.2; show (syncW rX1.1 rX1.2.1).1.steps ≤ 3; omega⟩
  rcases sync_up hi hc.1 hrs with ⟨_, _, P, h⟩ | ⟨h, _⟩
  · exact ⟨P, h⟩
  · rw [(hr.calm hc).1] at h
    cases h
theorem x3 : (∃ P, WInv rX3.1 rX3.2.1 P) ∧ Calm rX3.1 ∧ Rising rX3.1.files ∧ DGood rX3.1 ∧ rX3.1.steps ≤ 5 := by
  obtain ⟨⟨P, hi⟩, hc, hrs, hg0, hs⟩ := x2
  have hr := reach_append rX2.1 rX2.2.1 [xE]
  have hg := hr.good hg0 (by omega)
  refine ⟨?_, hr.calm hc, hr.rising hrs, hg.1, by have := hg.2; show (appendW rX2.1 rX2.2.1 [xE]).1.steps ≤ 5; omega⟩
  rcases append_law hi hc.1 hrs [xE] with ⟨_, _, P, h⟩ | ⟨h, _⟩
  · exact ⟨P, h⟩
  · rw [(hr.calm hc).1] at h
    cases h
end Go.Proofs.YtjdglpcnkiioeaaGreat

/- The contract of segment.Same; no conditions but the lengths. -/
namespace Go.Proofs.YtjdglpcnkiioeaaGreat
open Go.RowKit Go.Maps Go.Proofs.Own

def sameE (a b : EntS) : Bool := decide (a.t = b.t) && (decide (a.k = b.k) && decide (a.d = b.d))
theorem sameE_iff (a b : EntS) : sameE a b = true ↔ a = b := by
  unfold sameE
  obtain ⟨t, k, d⟩ := a
  obtain ⟨t', k', d'⟩ := b
  simp
set_option maxHeartbeats 2000000 in
set_option maxRecDepth 20000 in
theorem gsame1 (a b : EntS) (av bv : Value) (w : World) (ha : Bytes w av a.d) (hb : Bytes w bv b.d) :
    Calls Tryz.prog 78 #[.agg #[.int .u64 a.t, .int .i64 a.k, av], .agg #[.int .u64 b.t, .int .i64 b.k, bv]] w fun e w' => e = .returned (.bool (sameE a b)) ∧ Below w.heap.size w w' := by
  have HA := Lib.hid ha
  have HB := Lib.hid hb
  obtain ⟨t, k, d⟩ := a
  obtain ⟨t', k', d'⟩ := b
  simp only at HA HB ha hb ⊢
  obtain ⟨aa, ac, rfl, _⟩ := ha.shape
  obtain ⟨ba, bc, rfl, _⟩ := hb.shape
  have B2 : Hid (Below w.heap.size w ((w.alloc (.cells #[.int .u64 t, .int .i64 k, .slice aa d.length ac] 38)).alloc (.cells #[.int .u64 t', .int .i64 k', .slice ba d'.length bc] 38))) := Lib.hid (((Below.refl _ _).alloc (Nat.le_refl _) _).alloc (by simp) _)
  clear ha hb
  by_cases ht : t = t'
  · subst ht
    by_cases hk : k = k'
    · subst hk
      have HV : Hid (sameE ⟨t, k, d⟩ ⟨t, k, d'⟩ = decide (d = d')) := Lib.hid (by unfold sameE; simp)
      go_enter Tryz.func78, Tryz.ntmps78
      go_wp2_with fail
      refine (beq_any _ _ d d' _ (HA.out.below B2.out) (HB.out.below B2.out)).mono ?_
      rintro e w1 ⟨rfl, rfl⟩
      obtain ⟨r, hr⟩ : ∃ r, decide (d = d') = r := ⟨_, rfl⟩
      have HR := Lib.hid hr
      rw [hr]
      clear hr
      go_wp2_with fail
      go_ret
      rw [HV.out, HR.out]
      exact ⟨rfl, B2.out⟩
    · have hkb : (k == k') = false := beq_eq_false_iff_ne.2 hk
      have HV : Hid (sameE ⟨t, k, d⟩ ⟨t, k', d'⟩ = false) := Lib.hid (by unfold sameE; simp [hk])
      clear hk
      go_enter Tryz.func78, Tryz.ntmps78
      go_wp2_with fail
      go_ret
      rw [HV.out]
      exact ⟨rfl, B2.out⟩
  · have htb : (t == t') = false := beq_eq_false_iff_ne.2 ht
    have HV : Hid (sameE ⟨t, k, d⟩ ⟨t', k', d'⟩ = false) := Lib.hid (by unfold sameE; simp [ht])
    clear ht
    go_enter Tryz.func78, Tryz.ntmps78
    go_wp2_with fail
    go_ret
    rw [HV.out]
    exact ⟨rfl, B2.out⟩

/-- Are two rows of entries the same? -/
def SameP (l1 l2 : EntR) (w : World) : Ending → World → Prop := fun e w' => ∃ r, e = .returned (.bool r) ∧ (r = true ↔ l1.map (·.1) = l2.map (·.1)) ∧ Below w.heap.size w w'
set_option maxHeartbeats 4000000 in
set_option maxRecDepth 20000 in
theorem gequal {v1 v2 : Value} {l1 l2 : EntR} {w : World} (h1 : SRow w 3 v1 (entRows l1)) (d1 : Datas w (fun _ => False) l1) (h2 : SRow w 3 v2 (entRows l2)) (d2 : Datas w (fun _ => False) l2) (hn1 : l1.length ≤ 2147483648) (hn2 : l2.length ≤ 2147483648) :
    Calls Tryz.prog 77 #[v1, v2, .func (.func 78) #[] #[]] w (SameP l1 l2 w) := by
  have H1 := Lib.hid h1
  have H2 := Lib.hid h2
  have D1 := Lib.hid d1
  have D2 := Lib.hid d2
  obtain ⟨a1, c1, rfl, _⟩ := h1.shape
  obtain ⟨a2, c2, rfl, _⟩ := h2.shape
  obtain ⟨n, hn⟩ : ∃ n, l1.length = n := ⟨_, rfl⟩
  obtain ⟨m, hm⟩ : ∃ m, l2.length = m := ⟨_, rfl⟩
  have HN := Lib.hid hn
  have HM := Lib.hid hm
  rw [entRows_length, hn] at H1 ⊢
  rw [entRows_length, hm] at H2 ⊢
  have hn' : (n : Int) ≤ 2147483648 := by omega
  have hm' : (m : Int) ≤ 2147483648 := by omega
  clear h1 h2 d1 d2 hn1 hn2 hn hm
  by_cases hnm : n = m
  · have bq : ((n : Int) != (m : Int)) = false := by rw [hnm]; simp
    have HNM := Lib.hid hnm
    clear hnm
    go_enter Tryz.func77, Tryz.ntmps77
    go_wp2_with fail
    clear bq
    go_loopw [7, 8, 9, 17] (fun _ _ _ y wr => ∃ j : Nat, j ≤ n ∧ y = .int .i64 j ∧ (l1.map (·.1)).take j = (l2.map (·.1)).take j ∧ Below w.heap.size w wr) (fun _ _ _ y _ => n - (intOf y).toNat)
    case atStart => exact ⟨0, Nat.zero_le _, rfl, by simp, Below.refl _ _⟩
    case round =>
      obtain ⟨j, hj, rfl, htk, hb⟩ := hrel
      have HTK := Lib.hid htk
      have HB := Lib.hid hb
      clear htk hb
      by_cases hlt : j < n
      · have hj1 : j < l1.length := by rw [HN.out]; exact hlt
        have hj2 : j < l2.length := by rw [HM.out, ← HNM.out]; exact hlt
        obtain ⟨p, hp⟩ : ∃ p, l1[j] = p := ⟨_, rfl⟩
        obtain ⟨q, hq⟩ : ∃ q, l2[j] = q := ⟨_, rfl⟩
        have HPB := Lib.hid ((D1.out p (hp ▸ List.getElem_mem hj1)).1.below HB.out)
        have HQB := Lib.hid ((D2.out q (hq ▸ List.getElem_mem hj2)).1.below HB.out)
        have r1 : (entRows l1)[j]'(by rw [entRows_length]; exact hj1) = entRow p := by simp [entRows, hp]
        have r2 : (entRows l2)[j]'(by rw [entRows_length]; exact hj2) = entRow q := by simp [entRows, hq]
        obtain ⟨b1, o1, rfl, g1, hc1⟩ := H1.out.at (j := j) (by rw [entRows_length]; exact hj1)
        obtain ⟨b2, o2, rfl, g2, hc2⟩ := H2.out.at (j := j) (by rw [entRows_length]; exact hj2)
        rw [r1] at hc1
        rw [r2] at hc2
        have x0 : wr.cell? ⟨b1, o1 + j * 3, none⟩ = some (.int .u64 p.1.t) := Below.at HB.out (hc1 0 _ rfl) g1
        have x1 := Below.at HB.out (hc1 1 _ rfl) g1
        have x2 := Below.at HB.out (hc1 2 _ rfl) g1
        have y0 : wr.cell? ⟨b2, o2 + j * 3, none⟩ = some (.int .u64 q.1.t) := Below.at HB.out (hc2 0 _ rfl) g2
        have y1 := Below.at HB.out (hc2 1 _ rfl) g2
        have y2 := Below.at HB.out (hc2 2 _ rfl) g2
        have HT1 : Hid ((l1.map (·.1)).take (j + 1) = (l1.map (·.1)).take j ++ [p.1]) := Lib.hid (by rw [List.take_succ_eq_append_getElem (by rw [List.length_map]; exact hj1), List.getElem_map, hp])
        have HT2 : Hid ((l2.map (·.1)).take (j + 1) = (l2.map (·.1)).take j ++ [q.1]) := Lib.hid (by rw [List.take_succ_eq_append_getElem (by rw [List.length_map]; exact hj2), List.getElem_map, hq])
        obtain ⟨pe, pv⟩ := p
        obtain ⟨qe, qv⟩ := q
        simp only at x0 x1 x2 y0 y1 y2 HPB HQB HT1 HT2
        obtain ⟨pa, pc, rfl, _⟩ := HPB.out.shape
        obtain ⟨qa, qc, rfl, _⟩ := HQB.out.shape
        obtain ⟨r, hr⟩ : ∃ r, sameE pe qe = r := ⟨_, rfl⟩
        have HR := Lib.hid hr
        have j0 : (0 : Int) ≤ (j : Int) := by omega
        have j1 : (j : Int) < (n : Int) := by omega
        have j2 : (j : Int) < (m : Int) := by have := HNM.out; omega
        have hb1 : b1 < wr.heap.size := World.block_lt_of_cell? _ _ x0
        have hb2 : b2 < wr.heap.size := World.block_lt_of_cell? _ _ y0
        clear hp hq r1 r2 hc1 hc2 hr g1 g2 hj1 hj2
        go_wp2_with fail
        generalize hwa : World.alloc (World.alloc wr _) _ = wa
        have BA : Hid (Below wr.heap.size wr wa) := Lib.hid (by subst hwa; exact ((Below.refl _ _).alloc (Nat.le_refl _) _).alloc (by simp) _)
        clear hwa
        refine (gsame1 pe qe _ _ wa (HPB.out.below BA.out) (HQB.out.below BA.out)).mono ?_
        rintro e w1 ⟨rfl, hbb⟩
        rw [HR.out]
        have B1 : Hid (Below w.heap.size w w1) := Lib.hid (HB.out.trans ((BA.out.trans (hbb.mono BA.out.size)).mono HB.out.size))
        clear hbb x0 x1 x2 y0 y1 y2
        cases r with
        | true =>
          have HE : Hid (pe = qe) := Lib.hid ((sameE_iff pe qe).1 HR.out)
          go_wp2_with fail
          go_roundw
          case rel => exact ⟨j + 1, by omega, by go_num, by rw [HT1.out, HT2.out, HTK.out, HE.out], B1.out⟩
          case measure => simp [intOf]; omega
        | false =>
          have HNE : Hid (¬ l1.map (·.1) = l2.map (·.1)) := Lib.hid (fun h => by
            have h1 := HT1.out
            have h2 := HT2.out
            rw [h] at h1
            rw [h1] at h2
            have h3 := List.append_inj_right h2 rfl
            have h4 := (sameE_iff pe qe).2 (List.singleton_inj.1 h3)
            rw [HR.out] at h4
            cases h4)
          go_wp2_with fail
          go_ret
          exact ⟨false, rfl, ⟨fun h => (by cases h), fun h => absurd h HNE.out⟩, B1.out⟩
      · have hjn : j = n := by omega
        have HE : Hid (l1.map (·.1) = l2.map (·.1)) := Lib.hid (by
          have h := HTK.out
          rw [List.take_of_length_le (by rw [List.length_map, HN.out, hjn]; exact Nat.le_refl _), List.take_of_length_le (by rw [List.length_map, HM.out, hjn, HNM.out]; exact Nat.le_refl _)] at h
          exact h)
        have z0 : ¬ (j : Int) < (n : Int) := by omega
        clear hlt hjn
        go_wp2_with fail
        go_ret
        exact ⟨true, rfl, ⟨fun _ => HE.out, fun _ => rfl⟩, HB.out⟩
  · have bq : ((n : Int) != (m : Int)) = true := by simp; omega
    have HNE : Hid (¬ l1.map (·.1) = l2.map (·.1)) := Lib.hid (fun h => hnm (by rw [← HN.out, ← HM.out, ← List.length_map (f := fun x : EntS × Value => x.1), h, List.length_map]))
    clear hnm
    go_enter Tryz.func77, Tryz.ntmps77
    go_wp2_with fail
    go_ret
    exact ⟨false, rfl, ⟨fun h => (by cases h), fun h => absurd h HNE.out⟩, Below.refl _ _⟩
set_option maxHeartbeats 1000000 in
theorem gsame_any {v1 v2 : Value} {l1 l2 : EntR} {w : World} (h1 : SRow w 3 v1 (entRows l1)) (d1 : Datas w (fun _ => False) l1) (h2 : SRow w 3 v2 (entRows l2)) (d2 : Datas w (fun _ => False) l2) (hn1 : l1.length ≤ 2147483648) (hn2 : l2.length ≤ 2147483648) :
    Calls Tryz.prog 26 #[v1, v2] w (SameP l1 l2 w) := by
  have H := Lib.hid (gequal h1 d1 h2 d2 hn1 hn2)
  obtain ⟨a1, c1, rfl, _⟩ := h1.shape
  obtain ⟨a2, c2, rfl, _⟩ := h2.shape
  clear h1 h2 d1 d2 hn1 hn2
  generalize (entRows l1).length = n at *
  generalize (entRows l2).length = m at *
  go_enter Tryz.func26, Tryz.ntmps26
  go_wp2_with fail
  refine H.out.mono ?_
  rintro e w1 ⟨r, rfl, hr, hb⟩
  have HR := Lib.hid hr
  have HB := Lib.hid hb
  clear hr hb
  go_wp2_with fail
  go_ret
  exact ⟨r, rfl, HR.out, HB.out⟩
end Go.Proofs.YtjdglpcnkiioeaaGreat
