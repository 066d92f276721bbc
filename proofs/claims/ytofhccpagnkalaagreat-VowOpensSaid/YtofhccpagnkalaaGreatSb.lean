/- The contract of the program's Bytes of a snapshot; no conditions but the ranges. -/
import Derived.Test.YtofhccpagnkalaaGreatWr3
namespace Go.Proofs.YtofhccpagnkalaaGreat
open Go.RowKit Go.Maps Go.Proofs.Own

/-- A snapshot's bytes. -/
def snapW (s : SnapS) : List Nat := numsW [s.i.toNat, s.t.toNat, s.ms.length] ++ numsW (s.ms.map Int.toNat) ++ (numW s.d.length ++ s.d)
theorem numsW_lt (ns : List Nat) (h : ∀ n ∈ ns, (n : Int) < 18446744073709551616) : ∀ c ∈ numsW ns, c < 256 := by
  intro c hc
  obtain ⟨n, h1, h2⟩ := List.mem_flatMap.1 hc
  exact numW_lt (h n h1) c h2
theorem SBlk.box (w : World) (i t : Int) (mv dv : Value) : SBlk (w.alloc (.cells #[.int .u64 i, .int .u64 t, mv, dv] 40)) w.heap.size i t mv dv :=
  ⟨by go_cell, by go_cell, by go_cell, by go_cell, by simp, by simp, by simp, by simp⟩
theorem WrIs.new (w : World) : WrIs (w.alloc (.cells #[.slice none 0 0] 186)) w.heap.size (.slice none 0 0) [] :=
  ⟨by go_cell, Owns.nil _ _ _ _, by simp⟩
theorem Reads.three (w : World) (q : IntKind) (x y z : Int) (t : TypeId) : Reads (w.alloc (.cells #[.int q x, .int q y, .int q z] t)) q (.slice (some ⟨w.heap.size, 0, none⟩) 3 3) [x, y, z] :=
  (Owns.lit (zs := [x, y, z]) (base := 0) (heap_alloc_new _ _) (Nat.zero_le _) (by simp)).reads

theorem head_lt {n k : Nat} (hn : (n : Int) < 18446744073709551616) (hk : (k : Int) < 18446744073709551616) (ms : List Int) (h : ms.length ≤ 7) : ∀ x ∈ [n, k, ms.length], (x : Int) < 18446744073709551616 := by
  intro x hx
  simp only [List.mem_cons, List.not_mem_nil, or_false] at hx
  rcases hx with rfl | rfl | rfl
  · exact hn
  · exact hk
  · omega
theorem headW_len {n k : Nat} (hn : (n : Int) < 18446744073709551616) (hk : (k : Int) < 18446744073709551616) (ms : List Int) (h : ms.length ≤ 7) : (numsW [n, k, ms.length]).length ≤ 27 :=
  numsW_len [n, k, ms.length] (head_lt hn hk ms h)
theorem mems_lt {ms : List Int} (h : msOk ms) (j : Nat) : ∀ x ∈ (ms.take j).map Int.toNat, (x : Int) < 18446744073709551616 := by
  intro x hx
  obtain ⟨y, hy, rfl⟩ := List.mem_map.1 hx
  obtain ⟨q, hq, rfl⟩ := List.mem_iff_getElem.1 hy
  rw [List.length_take] at hq
  have := (h.2.2 q (by omega)).2
  rw [getDi (by omega)] at this
  rw [List.getElem_take]
  omega
theorem memsW_len {ms : List Int} (h : msOk ms) (j : Nat) : (numsW ((ms.take j).map Int.toNat)).length ≤ 63 := by
  have h2 := numsW_len _ (mems_lt h j)
  have := h.2.1
  rw [List.length_map, List.length_take] at h2
  omega

set_option maxHeartbeats 2000000 in
set_option maxRecDepth 20000 in
theorem sbytes_no (v : Value) (s : SnapS) (w : World) (h : SnapIs w v s) (hok : ¬ s.ok) :
    Calls Tryz.prog 72 #[v] w fun e w' => e = .returned (.tuple #[.slice none 0 0, .int .i64 2]) ∧ Below w.heap.size w w' := by
  have H := Lib.hid h
  have HOK : Hid (s.okB = false) := Lib.hid (decide_eq_false hok)
  obtain ⟨mv, dv, rfl, hm, hd⟩ := h
  obtain ⟨a, c, rfl, _⟩ := hd.shape
  obtain ⟨am, cm, rfl, _⟩ := hm.shape
  clear hm hd hok
  go_enter Tryz.func72, Tryz.ntmps72
  go_wp2_with fail
  refine (sound_any _ s _ (H.out.below ((Below.refl _ _).alloc (Nat.le_refl _) _))).mono ?_
  rintro e w1 ⟨rfl, hb1⟩
  rw [HOK.out]
  have B1 : Hid (Below w.heap.size w w1) := Lib.hid (((Below.refl _ _).alloc (Nat.le_refl _) _).trans (hb1.mono (by simp)))
  clear hb1
  go_wp2_with fail
  go_ret2
  exact ⟨rfl, B1.out⟩

set_option maxHeartbeats 4000000 in
set_option maxRecDepth 20000 in
theorem sbytes_yes (v : Value) (s : SnapS) (w : World) (h : SnapIs w v s) (hok : s.ok) :
    Calls Tryz.prog 72 #[v] w fun e w' => ∃ v', e = .returned (.tuple #[v', .int .i64 0]) ∧ Bytes w' v' (frP 4 (snapW s)) ∧ Below w.heap.size w w' ∧ ∀ g, v'.ownBlock = some g → w.heap.size ≤ g := by
  have H := Lib.hid h
  have HOK : Hid (s.okB = true) := Lib.hid (decide_eq_true hok)
  have HOO := Lib.hid hok
  obtain ⟨mv, dv, rfl, hm, hd⟩ := h
  obtain ⟨a, c, rfl, _⟩ := hd.shape
  obtain ⟨am, cm, rfl, _⟩ := hm.shape
  obtain ⟨i, t, ms, d⟩ := s
  have HM := Lib.hid hm
  have HD := Lib.hid hd
  obtain ⟨n, hn⟩ : ∃ n : Nat, i = n := ⟨i.toNat, by have := hok.1; simp only at this; omega⟩
  obtain ⟨k, hk⟩ : ∃ n : Nat, t = n := ⟨t.toNat, by have := hok.2.2.1; simp only at this; omega⟩
  obtain ⟨_, hi2, _, ht2, hmo, hdl⟩ := hok
  simp only at hi2 ht2 hmo hdl
  have HI : Hid ((n : Int) < 18446744073709551616) := Lib.hid (by rw [← hn]; exact Int.lt_trans hi2 (by decide))
  have HT : Hid ((k : Int) < 18446744073709551616) := Lib.hid (by rw [← hk]; exact Int.lt_of_le_of_lt ht2 (by decide))
  have HMO := Lib.hid hmo
  have hml : ms.length ≤ 7 := hmo.2.1
  have hdl' : (d.length : Int) ≤ 32768 := by omega
  have HN := Lib.hid hn
  have HK := Lib.hid hk
  clear hm hd hi2 ht2 hmo hn hk
  subst_vars
  go_enter Tryz.func72, Tryz.ntmps72
  go_wp2_with fail
  refine (sound_any _ _ _ (H.out.below ((Below.refl _ _).alloc (Nat.le_refl _) _))).mono ?_
  rintro e w1 ⟨rfl, hb1⟩
  rw [HOK.out]
  have SB : Hid (SBlk w1 w.heap.size n k (.slice am ms.length cm) (.slice a d.length c)) := Lib.hid ((SBlk.box w n k _ _).below hb1)
  have B1 : Hid (Below w.heap.size w w1) := Lib.hid (((Below.refl _ _).alloc (Nat.le_refl _) _).trans (hb1.mono (by simp)))
  have hlw := SB.out.lt
  clear hb1
  obtain ⟨r0, r1, r2, r3, _, _, _, _⟩ := SB.out
  go_wp2_with fail
  have HWN : Hid (∀ o : Obj, WrIs ((w1.alloc (.cells #[.slice none 0 0] 186)).alloc o) w1.heap.size (.slice none 0 0) []) := Lib.hid fun o =>
    (WrIs.new w1).below ((Below.refl _ _).alloc (Nat.le_refl _) o)
  have HX3 : Hid (∀ x y z : Int, Reads ((w1.alloc (.cells #[.slice none 0 0] 186)).alloc (.cells #[.int .u64 x, .int .u64 y, .int .u64 z] 27)) .u64 (.slice (some ⟨w1.heap.size + 1, 0, none⟩) 3 3) [x, y, z]) := Lib.hid fun x y z => by
    have h := Reads.three (w1.alloc (.cells #[.slice none 0 0] 186)) .u64 x y z 27
    simpa using h
  refine (wnum_any w1.heap.size _ _ [] [n, k, ms.length] _ (HWN.out _) (HX3.out _ _ _) (by
    intro x hx
    simp only [List.mem_cons, List.not_mem_nil, or_false] at hx
    rcases hx with rfl | rfl | rfl
    · exact HI.out
    · exact HT.out
    · omega) (by
    intro b hb
    simp only [Value.ownBlock] at hb
    obtain rfl := Option.some.inj hb
    exact ⟨by omega, by simp [Value.ownBlock]⟩) (by simp)).mono ?_
  rintro e w2 ⟨rfl, v2, hw2, hg2⟩
  generalize hA : w1.heap.size = A at *
  have hBA : Below A w1 w2 := by
    have h := hg2.below (HWN.out _)
    subst hA
    exact (((Below.refl _ _).alloc (Nat.le_refl _) _).alloc (by simp) _).trans h
  have B2 := Lib.hid hBA
  have W2 : Hid (WrIs w2 A v2 (numsW [n, k, ms.length])) := Lib.hid (by simpa using hw2)
  clear hw2 hg2 HWN HX3 hBA
  have hr2 : w2.cell? ⟨w.heap.size, 2, none⟩ = some (.slice am ms.length cm) := Below.at B2.out r2 hlw
  clear r0 r1 r2 r3
  go_wp2_with fail
  go_loopw [23] (fun x wr => ∃ (j : Nat) (v3 : Value), j ≤ ms.length ∧ x = .int .i64 j ∧ WrIs wr A v3 (numsW [n, k, ms.length] ++ numsW ((ms.take j).map Int.toNat)) ∧ Below A w1 wr) (fun x _ => ms.length - (intOf x).toNat)
  case atStart => exact ⟨0, v2, Nat.zero_le _, rfl, by simpa [numsW] using W2.out, B2.out⟩
  case round =>
    obtain ⟨j, v3, hj, rfl, hw3, hb3⟩ := hrel
    have W3 := Lib.hid hw3
    have B3 := Lib.hid hb3
    have hsz3 := hb3.size
    clear hw3 hb3 hr2
    by_cases hjk : j < ms.length
    · have BW : Hid (Below w.heap.size w wr) := Lib.hid (B1.out.trans (B3.out.mono (Nat.le_of_lt hlw)))
      have HCX : Hid (∃ b o, am = some ⟨b, o, none⟩ ∧ wr.cell? ⟨b, o + j, none⟩ = some (.int .i64 ms[j])) := Lib.hid ((HM.out.below BW.out).cells.2.2 j hjk)
      obtain ⟨b, o, rfl, hcell⟩ := HCX.out
      clear HCX
      have hz0 : 0 ≤ ms[j] := by have := ok_nonneg HMO.out.2.2 j hjk; rwa [getDi hjk] at this
      have hz7 : ms[j] < 7 := by have := (HMO.out.2.2 j hjk).2; rwa [getDi hjk] at this
      have HTK : Hid (numsW ((ms.take (j + 1)).map Int.toNat) = numsW ((ms.take j).map Int.toNat) ++ numsW [ms[j].toNat]) := Lib.hid (by
        rw [List.take_add_one, List.getElem?_eq_getElem hjk]
        unfold numsW
        simp only [Option.toList_some, List.map_append, List.flatMap_append, List.map_cons, List.map_nil])
      generalize ms[j] = z at hcell hz0 hz7 HTK
      have HLL : Hid ((numsW [n, k, ms.length] ++ numsW ((ms.take j).map Int.toNat)).length ≤ 200) := Lib.hid (by
        have h1 := headW_len HI.out HT.out ms hml
        have h2 := memsW_len HMO.out j
        rw [List.length_append]
        omega)
      go_wp2_with fail
      have HAL : Hid (Below wr.heap.size wr (wr.alloc (.cells #[.int .u64 z] 27))) := Lib.hid ((Below.refl _ _).alloc (Nat.le_refl _) _)
      have hzi : ints [z.toNat] = [z] := by simp [ints]; omega
      have hlA := W3.out.lt
      refine (wnum_any A v3 _ _ [z.toNat] _ (W3.out.below HAL.out) (by rw [hzi]; exact Reads.one _ _ _ _) (by simp; omega) (fun b hb => by
        simp only [Value.ownBlock] at hb
        obtain rfl := Option.some.inj hb
        exact ⟨by omega, fun e => by have := (W3.out.own.lt _ e).2; omega⟩) (by have := HLL.out; simp only [List.length_cons, List.length_nil]; omega)).mono ?_
      rintro e w4 ⟨rfl, v4, hw4, hg4⟩
      have W4 := Lib.hid hw4
      have B4 : Hid (Below A w1 w4) := Lib.hid (B3.out.trans ((Grew.of_below HAL.out hg4 W3.out).below W3.out))
      clear hw4 hg4 hcell hzi
      go_wp2_with fail
      go_roundw
      case rel => exact ⟨j + 1, v4, by omega, by first | rfl | go_num, by rw [HTK.out, ← List.append_assoc]; exact W4.out, B4.out⟩
      all_goals (show ms.length - ((j : Int) + 1).toNat < ms.length - ((j : Int)).toNat; omega)
    · have hje : j = ms.length := by omega
      subst hje
      rw [List.take_length] at W3
      have BW : Hid (Below w.heap.size w wr) := Lib.hid (B1.out.trans (B3.out.mono (Nat.le_of_lt hlw)))
      have HBD : Hid (Bytes wr (.slice a d.length c) d) := Lib.hid (HD.out.below BW.out)
      have r3 : wr.cell? ⟨w.heap.size, 3, none⟩ = some (.slice a d.length c) := Below.at B3.out SB.out.c3 hlw
      go_wp2_with (refine wpList_to_str rfl 22 9 5 _ rfl Tryz.underlying22 Tryz.underlying5 Tryz.underlying9 _ _ rfl HBD.out ?_)
      have hzS : (strN d).size = d.length := size_strN d
      have HNS : Hid (natsOf (strN d) = d) := Lib.hid (natsOf_strN HD.out.lt)
      have HLH := Lib.hid (headW_len HI.out HT.out ms hml)
      have HLM : Hid ((numsW (ms.map Int.toNat)).length ≤ 63) := Lib.hid (by have := memsW_len HMO.out ms.length; rwa [List.take_length] at this)
      refine (wtext_any A v3 _ (strN d) wr W3.out (by have := HLH.out; have := HLM.out; rw [hzS, List.length_append]; omega)).mono ?_
      rintro e w4 ⟨rfl, v4, hw4, hg4⟩
      rw [HNS.out, hzS] at hw4
      have HSW : Hid (numsW [n, k, ms.length] ++ numsW (ms.map Int.toNat) ++ (numW d.length ++ d) = snapW ⟨n, k, ms, d⟩) := Lib.hid rfl
      rw [HSW.out] at hw4
      have W4 := Lib.hid hw4
      have B4 : Hid (Below A w1 w4) := Lib.hid (B3.out.trans (hg4.below W3.out))
      clear hw4 hg4 r3
      have HLW : Hid ((snapW ⟨n, k, ms, d⟩).length ≤ 65536) := Lib.hid (by
        have := HLH.out
        have := HLM.out
        have := numW_len (n := d.length) (by omega)
        rw [← HSW.out, List.length_append, List.length_append, List.length_append]
        omega)
      have HWL : Hid (∀ c ∈ snapW ⟨n, k, ms, d⟩, c < 256) := Lib.hid (by
        rw [← HSW.out]
        intro c hc
        rcases List.mem_append.1 hc with hc | hc
        · rcases List.mem_append.1 hc with hc | hc
          · exact numsW_lt _ (head_lt HI.out HT.out ms hml) c hc
          · exact numsW_lt _ (by have := mems_lt HMO.out ms.length; rwa [List.take_length] at this) c hc
        · rcases List.mem_append.1 hc with hc | hc
          · exact numW_lt (n := d.length) (by omega) c hc
          · exact HD.out.lt c hc)
      generalize hL : snapW ⟨n, k, ms, d⟩ = L at W4 HLW HWL
      go_wp2_with fail
      refine (wbytes_any A v4 L w4 W4.out HLW.out HWL.out).mono ?_
      rintro e w5 ⟨v5, rfl, hB5, hb5⟩
      have HB5 := Lib.hid hB5
      have B5 : Hid (Below A w1 w5) := Lib.hid (B4.out.trans (hb5.mono (Nat.le_of_lt W4.out.lt)))
      clear hB5 hb5
      go_wp2_with fail
      refine (wrap_any 4 v5 L w5 HB5.out (by decide) (by decide) HLW.out).mono ?_
      rintro e w6 ⟨v6, rfl, hB6, hb6, ho6⟩
      have HO6 : Hid (∀ g, v6.ownBlock = some g → w.heap.size ≤ g) := Lib.hid fun g hg => by have := ho6 g hg; have := B1.out.size; have := B5.out.size; omega
      have HB6 := Lib.hid hB6
      have B6 : Hid (Below w.heap.size w w6) := Lib.hid (B1.out.trans ((B5.out.mono (Nat.le_of_lt hlw)).trans (hb6.mono (by have := B1.out.size; have := B5.out.size; omega))))
      clear hB6 hb6 ho6
      go_wp2_with fail
      go_ret2
      exact ⟨v6, rfl, by rw [hL]; exact HB6.out, B6.out, HO6.out⟩
end Go.Proofs.YtofhccpagnkalaaGreat
