/- The law PartyOnce: its walk; no conditions but what a reading gives. -/
import Derived.Test.YtcccgcemgikkfaaLives
namespace Go.Proofs.Ytcccgcemgikkfaa
open Go.RowKit Go.Maps Go.Proofs.Own

/-- What a party that may hear all but 0 has heard of the first k. -/
def nz (l : List Int) (k : Nat) : List Int := (l.take k).filter fun x => !decide (x = 0)
theorem nz_succ (l : List Int) (k : Nat) (h : k < l.length) : nz l (k + 1) = heard 0 (nz l k) 0 l[k] := by
  unfold nz heard okB
  rw [List.take_succ_eq_append_getElem h, List.filter_append]
  by_cases h0 : l[k] = 0 <;> simp [h0]
theorem length_nz (l : List Int) (k : Nat) : (nz l k).length ≤ l.length := by
  have := List.length_filter_le (fun x : Int => !decide (x = 0)) (l.take k)
  have := List.length_take_le' k l
  unfold nz; omega
theorem mem_nz (l : List Int) (k : Nat) (h : k < l.length) (h0 : l[k] ≠ 0) : l[k] ∈ nz l l.length := by
  simp [nz, h0]
theorem dd_fst (l : List Int) (id : Int) (h : fstB 0 l 0 id = true) : dd (heard 0 l 0 id) = dd l ++ [id] := by
  simp only [fstB, Bool.and_eq_true, decide_eq_true_eq] at h
  have : (dd l).count id = 0 := List.count_eq_zero.2 fun hm => List.count_eq_zero.1 h.2 ((mem_dd l id).1 hm)
  rw [heard, if_pos h.1, dd_snoc, ddStep, if_pos this]
theorem dd_not (l : List Int) (id : Int) (h : fstB 0 l 0 id = false) : dd (heard 0 l 0 id) = dd l := by
  unfold heard
  split
  · rename_i ho
    have hc : l.count id ≠ 0 := by simpa [fstB, ho] using h
    have : (dd l).count id ≠ 0 := fun hz => hc (List.count_eq_zero.2 fun hm => List.count_eq_zero.1 hz ((mem_dd l id).2 hm))
    rw [dd_snoc, ddStep, if_neg this]
  · rfl
theorem nodup_foldl (l : List Int) : ∀ acc : List Int, acc.Nodup → (l.foldl ddStep acc).Nodup := by
  induction l with
  | nil => intro acc h; exact h
  | cons x l ih =>
    intro acc h
    refine ih _ ?_
    unfold ddStep
    split
    · rename_i hc
      rw [List.nodup_append]
      exact ⟨h, by simp, fun a ha b hb e => by
        obtain rfl : b = x := by simpa using hb
        exact List.count_eq_zero.1 hc (e ▸ ha)⟩
    · exact h
theorem nodup_dd (l : List Int) : (dd l).Nodup := nodup_foldl l [] List.nodup_nil
theorem count_dd (l : List Int) (x : Int) (h : x ∈ l) : (dd l).count x = 1 := by rw [List.Nodup.count (nodup_dd l), if_pos ((mem_dd l x).2 h)]
theorem ne_dd (l : List Int) (j k : Nat) (hk : k < (dd l).length) (hj : j < k) : (((dd l)[j]'(by omega)) == (dd l)[k]) = false := by
  have := (List.nodup_iff_pairwise_ne.1 (nodup_dd l))
  have h2 := List.pairwise_iff_getElem.1 this j k (by omega) hk hj
  simpa using h2

set_option maxHeartbeats 4000000 in
theorem once_walk (sv : Value) (l : List Int) (w : World) (hn : l.length ≤ 60) (hr : Reads w .u64 sv l) (hw : ∀ z ∈ l, (Lit.int .u64 z).wf = true) :
    Calls Try.prog 4 #[sv] w fun e w' => e = .returned (.bool true) ∧ Below w.heap.size w w' := by
  obtain ⟨a, c, rfl, hc⟩ := hr
  have HC := Lib.hid hc
  have HW := Lib.hid hw
  clear hc hw
  go_enter Try.func4, Try.ntmps4
  go_wp2_with fail
  refine (pnew 0 _ (by decide) (by decide)).mono ?_
  rintro e w1 ⟨b, rfl, hb, hp, hb1⟩
  have hcap := hp.cap
  have HP := Lib.hid hcap
  have HB1 := Lib.hid hb1
  have hs1 := hb1.size
  have hbs : b < w1.heap.size := by obtain ⟨_, _, _, _, q⟩ := hp; exact World.block_lt_of_cell? _ _ q.c0
  clear hp hb1 hcap
  go_wp2_with fail
  go_loopw [4, 22] (fun d i wr => ∃ (k : Nat) (F : Nat → Prop), k ≤ l.length ∧ i = .int .i64 k ∧ PartyIs wr b F 0 (nz l k) ∧ (∀ j, F j → w.heap.size ≤ j ∧ j < wr.heap.size) ∧ Owns wr w.heap.size 23 .u64 d (dd (nz l k)) ∧ (∀ g, d.ownBlock = some g → ¬ F g) ∧ Below w.heap.size w wr) (fun _ i _ => l.length - (intOf i).toNat)
  case atStart =>
    exact ⟨0, fun k => w.heap.size ≤ k ∧ k < w1.heap.size, Nat.zero_le _, rfl, HP.out, fun _ h => h, Owns.nil _ _ _ _, (fun g hg => by cases hg), HB1.out⟩
  case round =>
    obtain ⟨k, F, hk, rfl, hp, hF, hown, hdF, hbl⟩ := hrel
    obtain ⟨da, dc, rfl⟩ := hown.shape
    have HP2 := Lib.hid hp
    have HF := Lib.hid hF
    have HO := Lib.hid hown
    have HD := Lib.hid hdF
    have HB := Lib.hid hbl
    have hlz := length_nz l k
    have hld := length_dd (nz l k)
    clear hp hF hown hdF hbl
    by_cases hlt : k < l.length
    · obtain ⟨nb, no, rfl, hcell⟩ := HC.out k hlt
      have hnb := World.block_lt_of_cell? _ _ hcell
      have hnb' : nb < w.heap.size := hnb
      have hws := HB.out.size
      have hcell2 := Below.at HB.out hcell hnb'
      have hnb2 : nb < wr.heap.size := by omega
      have HS := Lib.hid (nz_succ l k hlt)
      have hwf : (Lit.int .u64 l[k]).wf = true := HW.out _ (List.getElem_mem hlt)
      have HWF := Lib.hid hwf
      clear hcell hnb hwf
      generalize hid : l[k] = x at hcell2 HS HWF
      have HX := Lib.hid hid
      clear hid
      go_wp2_with fail
      refine (phear b F 0 (nz l k) x 0 0 0 0 0 0 0 0 _ HP2.out HWF.out (by omega)).mono ?_
      rintro e w2 ⟨he, hp2, hk2⟩
      have hp3 := hp2.cap
      rw [← HS.out] at hp3
      have hkk : Kept wr w2 F := hk2
      have hs2 := hkk.size
      have HK := Lib.hid hkk
      have HP3 := Lib.hid hp3
      have hF2 : ∀ j, ((F j ∨ wr.heap.size ≤ j) ∧ j < w2.heap.size) → w.heap.size ≤ j ∧ j < w2.heap.size := fun j hj => by
        rcases hj.1 with h | h
        · exact ⟨(HF.out j h).1, hj.2⟩
        · exact ⟨by omega, hj.2⟩
      have HF2 := Lib.hid hF2
      have hB2 : Below w.heap.size w w2 := HB.out.trans (hkk.below hws fun j hj => (HF.out j hj).1)
      have HB2 := Lib.hid hB2
      have hO2 : Owns w2 w.heap.size 23 .u64 (.slice da (dd (nz l k)).length dc) (dd (nz l k)) := HO.out.kept hkk fun g hg => HD.out g hg
      have HO2 := Lib.hid hO2
      have hD2 : ∀ g, (Value.slice da (dd (nz l k)).length dc).ownBlock = some g → ¬ ((F g ∨ wr.heap.size ≤ g) ∧ g < w2.heap.size) := fun g hg hh => by
        have := (HO.out.lt g hg).2
        rcases hh.1 with h | h
        · exact HD.out g hg h
        · omega
      have HD2 := Lib.hid hD2
      clear hp2 hk2 hp3 hkk hF2 hB2 hO2 hD2
      by_cases h0 : x = 0
      · have hf : fstB 0 (nz l k) 0 x = false := by simp [fstB, okB, h0]
        have hee : errI 0 0 x = 2 := by simp [errI, okB, h0]
        rw [hf, hee] at he
        have HDN := Lib.hid (dd_not (nz l k) x hf)
        clear hf hee
        subst he
        have hx0 : (x != 0) = false := by simp [h0]
        have hx1 : (x == 0) = true := by simp [h0]
        have HX0 := Lib.hid h0
        clear h0
        go_wp2_with fail
        go_roundw
        case rel => exact ⟨k + 1, _, by omega, by go_num, HP3.out, HF2.out, by rw [HS.out, HDN.out]; exact HO2.out, HD2.out, HB2.out⟩
        case measure => simp [intOf]; omega
      · have hee : errI 0 0 x = 0 := by simp [errI, okB, h0]
        have hx0 : (x != 0) = true := by simp [h0]
        have hx1 : (x == 0) = false := by simp [h0]
        have HX0 := Lib.hid h0
        clear h0
        cases hf : fstB 0 (nz l k) 0 x with
        | false =>
          rw [hf, hee] at he
          have HDN := Lib.hid (dd_not (nz l k) x hf)
          clear hf hee
          subst he
          go_wp2_with fail
          go_roundw
          case rel => exact ⟨k + 1, _, by omega, by go_num, HP3.out, HF2.out, by rw [HS.out, HDN.out]; exact HO2.out, HD2.out, HB2.out⟩
          case measure => simp [intOf]; omega
        | true =>
          rw [hf, hee] at he
          have HDN := Lib.hid (dd_fst (nz l k) x hf)
          clear hf hee
          subst he
          go_wp2_with (at_builtin; refine wpList_append_ints Try.u64s _ _ rfl w.heap.size _ _ _ _ rfl rfl (HO2.out.alloc _) (Reads.one _ _ _ _) (by decide) (by simp; omega) (by simp; omega) rfl ?_; intro v' w3 hown3 hgr hat hnil hbel)
          have hk3 : Kept w2 w3 (fun g => (Value.slice da (dd (nz l k)).length dc).ownBlock = some g) := (Kept.alloc _ _ _).trans (Kept.of_grown hgr)
          have hs3 := hk3.size
          go_roundw
          case rel =>
            refine ⟨k + 1, _, by omega, by go_num, HP3.out.kept hk3 (fun j hj hh => HD2.out j hh hj), fun j hj => ⟨(HF2.out j hj).1, by have := (HF2.out j hj).2; omega⟩, by rw [HS.out, HDN.out]; exact hown3, fun g hg hh => ?_, ?_⟩
            · rcases hat with h | h
              · exact HD2.out g (h ▸ hg) hh
              · rw [h] at hg
                have : w2.heap.size + 1 = g := by simpa using hg
                omega
            · exact HB2.out.trans (((Below.refl _ _).alloc HB2.out.size _).trans hbel)
          case measure => simp [intOf]; omega
    · obtain rfl : k = l.length := by omega
      have HOR := Lib.hid HO.out.reads
      have hcap : (dd (nz l l.length)).length ≤ dc := by
        rcases HO.out.2 with ⟨h1, h2⟩ | ⟨g, cap, cur, h1, _, _, h2, _⟩
        · omega
        · obtain ⟨_, _, rfl⟩ : da = some ⟨g, 0, none⟩ ∧ True ∧ dc = cap := by simpa using h1
          exact h2
      generalize hm : dd (nz l l.length) = m at *
      go_wp2_with fail
      refine (pdid b F 0 (nz l l.length) _ HP2.out (by omega)).mono ?_
      rintro e w2 ⟨v, rfl, ho2, hb2⟩
      rw [hm] at ho2
      have hlm : m.length ≤ 60 := by omega
      have HR2 := Lib.hid (HOR.out.below hb2)
      go_wp2_with fail
      refine (same_any v _ m m _ ho2.reads HR2.out (by omega) (by omega)).mono ?_
      rintro e w3 ⟨rfl, hb3⟩
      have HR3 := Lib.hid (HR2.out.below hb3)
      have hb23 : Below w.heap.size w w3 := HB.out.trans ((hb2.mono HB.out.size).trans (hb3.mono (by have := HB.out.size; have := hb2.size; omega)))
      have HB3 := Lib.hid hb23
      have hsm : decide (m = m) = true := decide_eq_true rfl
      clear hb2 hb3 ho2 hb23
      have hm2 : m.Nodup := by rw [← hm]; exact nodup_dd _
      have HNE : Hid (∀ j i (hi : i < m.length) (hj : j < i), ((m[j]'(by omega)) == m[i]) = false) := Lib.hid (by subst hm; exact fun j i hi hj => ne_dd _ j i hi hj)
      have HCT : Hid (∀ i (hi : i < l.length), l[i] ≠ 0 → m.count l[i] = 1) := Lib.hid (by subst hm; exact fun i hi h0 => count_dd _ _ (mem_nz l i hi h0))
      clear hm hm2
      go_wp2_with fail
      go_loopw [51] (fun i wr2 => ∃ (q : Nat), q ≤ m.length ∧ i = .int .i64 q ∧ wr2 = w3) (fun i _ => m.length - (intOf i).toNat)
      case atStart => exact ⟨0, Nat.zero_le _, rfl, rfl⟩
      case round =>
        obtain ⟨q, hq, rfl, rfl⟩ := hrel
        by_cases hqt : q < m.length
        · obtain ⟨a0, c0, hsl, hcs⟩ := HR3.out
          obtain ⟨h1, h2⟩ : da = a0 ∧ dc = c0 := by simpa using hsl
          subst h1 h2
          obtain ⟨db, dof, rfl, hcq⟩ := hcs q hqt
          have hqc : q ≤ dc := by omega
          have HCS := Lib.hid hcs
          clear hcs
          have hdc : (dc : Int) ≠ 0 := by omega
          go_wp2_with fail
          go_loopw [60] (fun i wr3 => ∃ (r : Nat), r ≤ q ∧ i = .int .i64 r ∧ wr3 = wr) (fun i _ => q - (intOf i).toNat)
          case atStart => exact ⟨0, Nat.zero_le _, rfl, rfl⟩
          case round =>
            obtain ⟨r, hrq, rfl, rfl⟩ := hrel
            by_cases hrt : r < q
            · obtain ⟨b0, o0, hbo, hcr⟩ := HCS.out r (by omega)
              obtain ⟨rfl, rfl⟩ : db = b0 ∧ dof = o0 := by simpa using hbo
              have hne := HNE.out r q hqt hrt
              go_wp2_with fail
              go_roundw
              case rel => exact ⟨r + 1, by omega, by go_num, trivial⟩
              case measure => simp [intOf]; omega
            · obtain rfl : r = q := by omega
              go_wp2_with fail
              go_roundw
              case rel => exact ⟨r + 1, by omega, by go_num, trivial⟩
              case measure => simp [intOf]; omega
        · obtain rfl : q = m.length := by omega
          go_wp2_with fail
          go_loopw [71] (fun i wr3 => ∃ (q : Nat), q ≤ l.length ∧ i = .int .i64 q ∧ Reads wr3 .u64 (.slice da m.length dc) m ∧ Below w.heap.size w wr3) (fun i _ => l.length - (intOf i).toNat)
          case atStart => exact ⟨0, Nat.zero_le _, rfl, HR3.out, HB3.out⟩
          case round =>
            obtain ⟨q, hq, rfl, hr4, hb4⟩ := hrel
            have HR4 := Lib.hid hr4
            have HB4 := Lib.hid hb4
            clear hr4 hb4
            by_cases hqt : q < l.length
            · obtain ⟨nb, no, rfl, hcell⟩ := HC.out q hqt
              have hnb := World.block_lt_of_cell? _ _ hcell
              have hnb' : nb < w.heap.size := hnb
              have hcell2 := Below.at HB4.out hcell hnb'
              have hct := HCT.out q hqt
              have HWF : Hid ((Lit.int .u64 l[q]).wf = true) := Lib.hid (HW.out _ (List.getElem_mem hqt))
              clear hcell hnb
              generalize l[q] = x at hcell2 hct HWF
              by_cases h0 : x = 0
              · have hx0 : (x != 0) = false := by simp [h0]
                have HX0 := Lib.hid h0
                clear h0 hct
                go_wp2_with fail
                go_roundw
                case rel => exact ⟨q + 1, by omega, by go_num, HR4.out, HB4.out⟩
                case measure => simp [intOf]; omega
              · have hx0 : (x != 0) = true := by simp [h0]
                have hc1 : m.count x = 1 := hct h0
                have hc2 : (((m.count x : Nat) : Int) != 1) = false := by simp [hc1]
                have HX0 := Lib.hid h0
                clear h0 hct hc1
                go_wp2_with fail
                refine (times_any 0 x _ m _ HR4.out (by omega)).mono ?_
                rintro e w5 ⟨rfl, hb5⟩
                go_wp2_with fail
                go_roundw
                case rel => exact ⟨q + 1, by omega, by go_num, HR4.out.below hb5, HB4.out.trans (hb5.mono HB4.out.size)⟩
                case measure => simp [intOf]; omega
            · go_wp2_with fail
              refine (lives_any _).mono ?_
              rintro e w5 ⟨rfl, hb5⟩
              go_wp2_with fail
              go_ret
              exact ⟨rfl, HB4.out.trans (hb5.mono HB4.out.size)⟩

theorem once_long (a : Option Addr) (n c : Nat) (w : World) (hn : 60 < n) (hm : n ≤ 9223372036854775807) :
    Calls Try.prog 4 #[.slice a n c] w fun e w' => e = .returned (.bool true) ∧ Below w.heap.size w w' := by
  have hn' : (60 : Int) < (n : Int) := by omega
  go_enter Try.func4, Try.ntmps4
  go_wp2_with fail
  refine (lives_any _).mono ?_
  rintro e w2 ⟨rfl, hb2⟩
  go_wp2_with fail
  go_ret
  exact ⟨rfl, hb2⟩
end Go.Proofs.Ytcccgcemgikkfaa
