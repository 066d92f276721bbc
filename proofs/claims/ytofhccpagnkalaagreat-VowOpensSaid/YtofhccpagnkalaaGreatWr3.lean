/- Contracts of the program's writer: its numbers, bytes, texts; no conditions but the ranges. -/
import Derived.Test.YtofhccpagnkalaaGreatWr2
namespace Go.Proofs.YtofhccpagnkalaaGreat
open Go.RowKit Go.Maps Go.Proofs.Own

/-- Numbers' bytes. -/
def numsW (ns : List Nat) : List Nat := ns.flatMap numW
theorem numsW_take (ns : List Nat) (j : Nat) (h : j < ns.length) : numsW (ns.take (j + 1)) = numsW (ns.take j) ++ numW ns[j] := by
  rw [List.take_add_one, List.getElem?_eq_getElem h]
  unfold numsW
  simp only [Option.toList_some, List.flatMap_append, List.flatMap_cons, List.flatMap_nil, List.append_nil]
theorem numsW_len (ns : List Nat) (h : ∀ n ∈ ns, (n : Int) < 18446744073709551616) : (numsW ns).length ≤ 9 * ns.length := by
  induction ns with
  | nil => simp [numsW]
  | cons n ns ih =>
    have h1 := ih fun x hx => h x (List.mem_cons_of_mem _ hx)
    have h2 := numW_len (h n (List.mem_cons_self ..))
    have e : numsW (n :: ns) = numW n ++ numsW ns := by simp [numsW]
    rw [e, List.length_append, List.length_cons]; omega

set_option maxHeartbeats 2000000 in
set_option maxRecDepth 20000 in
theorem wnum_any (a : Nat) (v xv : Value) (l : List Nat) (ns : List Nat) (w : World) (hw : WrIs w a v l) (hx : Reads w .u64 xv (ints ns)) (hns : ∀ n ∈ ns, (n : Int) < 18446744073709551616) (hno : ∀ b, xv.ownBlock = some b → b ≠ a ∧ v.ownBlock ≠ some b) (hl : l.length + 9 * ns.length ≤ 65536) :
    Calls Tryz.prog 111 #[.pointer (some ⟨a, 0, none⟩), xv] w fun e w' => e = .returned (.tuple #[]) ∧ ∃ v', WrIs w' a v' (l ++ numsW ns) ∧ Grew w w' a v v' := by
  have HW := Lib.hid hw
  have HX := Lib.hid hx
  have HNS := Lib.hid hns
  have HNO := Lib.hid hno
  obtain ⟨ad, c, rfl, hc⟩ := hx
  clear hw hns hno hc
  rw [length_ints]
  rw [length_ints] at HX HNO
  have hn63 : (ns.length : Int) ≤ 65536 := by omega
  go_enter Tryz.func111, Tryz.ntmps111
  go_wp2_with fail
  go_loopw [10] (fun i wr => ∃ (j : Nat) (v3 : Value), j ≤ ns.length ∧ i = .int .i64 j ∧ WrIs wr a v3 (l ++ numsW (ns.take j)) ∧ Grew w wr a v v3) (fun i _ => ns.length - (intOf i).toNat)
  case atStart => exact ⟨0, v, Nat.zero_le _, rfl, by simpa [numsW] using HW.out, Grew.refl _ _ _⟩
  case round =>
    obtain ⟨j, v3, hj, rfl, hw3, hg3⟩ := hrel
    have HW3 := Lib.hid hw3
    have HG3 := Lib.hid hg3
    clear hw3 hg3
    by_cases hjk : j < ns.length
    · have RX : Hid (Reads wr .u64 (.slice ad ns.length c) (ints ns)) := Lib.hid (HX.out.kept HG3.out.kept fun b hb hs => by
        rcases hs with hs | hs
        · exact (HNO.out b hb).1 hs
        · exact (HNO.out b hb).2 hs)
      have HCX : Hid (∃ b o, ad = some ⟨b, o, none⟩ ∧ wr.cell? ⟨b, o + j, none⟩ = some (.int .u64 (ns[j] : Nat))) := Lib.hid (by
        obtain ⟨_, _, e, h⟩ := RX.out
        obtain ⟨b, o, h1, h2⟩ := h j (by rw [length_ints]; exact hjk)
        injection e with e1 e2 e3
        subst e1
        exact ⟨b, o, h1, by rw [h2, ints_at]⟩)
      obtain ⟨b, o, rfl, hcell⟩ := HCX.out
      clear HCX
      have HTK := Lib.hid (numsW_take ns j hjk)
      have HNL : Hid (((ns[j] : Nat) : Int) < 18446744073709551616) := Lib.hid (HNS.out _ (List.getElem_mem hjk))
      generalize ns[j] = n at hcell HTK HNL
      have HLL : Hid ((l ++ numsW (ns.take j)).length ≤ 65536) := Lib.hid (by
        have := numsW_len (ns.take j) fun x hx => HNS.out x (List.mem_of_mem_take hx)
        rw [List.length_take] at this
        rw [List.length_append]
        omega)
      go_wp2_with fail
      refine (wnumber_any a v3 _ n 0 wr HW3.out HNL.out (by decide) HLL.out).mono ?_
      rintro e w4 ⟨rfl, v4, hw4, hg4⟩
      have HW4 := Lib.hid hw4
      have HG4 := Lib.hid hg4
      clear hw4 hg4 hcell
      go_wp2_with fail
      go_roundw
      case rel => exact ⟨j + 1, v4, by omega, by first | rfl | go_num, by rw [HTK.out, ← List.append_assoc]; have h := HW4.out; rw [Nat.zero_add] at h; exact h, HG3.out.trans HG4.out⟩
      all_goals (show ns.length - ((j : Int) + 1).toNat < ns.length - ((j : Int)).toNat; omega)
    · have hje : j = ns.length := by omega
      subst hje
      go_wp2_with fail
      refine bodyPost_end (v := .tuple #[]) (by simp [results, Tryz.results111, go_sem]) rfl ?_
      rw [List.take_length] at HW3
      exact ⟨rfl, _, HW3.out, HG3.out⟩

set_option maxHeartbeats 2000000 in
set_option maxRecDepth 20000 in
theorem wraw_any (a : Nat) (v xv : Value) (l b : List Nat) (w : World) (hw : WrIs w a v l) (hB : Bytes w xv b) (hl : l.length + b.length ≤ 65536) :
    Calls Tryz.prog 139 #[.pointer (some ⟨a, 0, none⟩), xv] w fun e w' => e = .returned (.tuple #[]) ∧ ∃ v', WrIs w' a v' (l ++ b) ∧ Grew w w' a v v' := by
  have HW := Lib.hid hw
  have HB := Lib.hid hB
  have hlt := hw.lt
  obtain ⟨ba, bc, rfl, _⟩ := hB.shape
  have hna : ¬ v.ownBlock = some a := fun e => by have := (hw.own.lt a e).1; omega
  have x0 := hw.c
  have f0 := hw.fr
  clear hw hB
  have HLN : Hid ((ints l).length + (ints b).length ≤ 4294967296) := Lib.hid (by rw [length_ints, length_ints]; omega)
  have HI : Hid (ints l ++ ints b = ints (l ++ b)) := Lib.hid (by simp [ints])
  go_enter Tryz.func139, Tryz.ntmps139
  go_wp2_with (at_builtin; go_loud (refine wpList_append_ints Tryz.u8s _ _ rfl (a + 1) v (.slice ba b.length bc) (ints l) (ints b) rfl rfl HW.out.own HB.out.rd (by decide) HLN.out (by omega) rfl ?_; intro v2 w2 hown2 hgr2 hat2 hnil2 hbel2; obtain ⟨a2, c2, rfl⟩ := hown2.shape; generalize (ints l ++ ints b).length = n2 at *; have HO2 := Lib.hid hown2; have G2 := Lib.hid hgr2; have A2 := Lib.hid hat2; have x2 := (Kept.of_grown hgr2).cell x0 hna; have f2 : w2.frozen? ⟨a, 0, none⟩ = false := (by rw [(Kept.of_grown hgr2).frozen (a := ⟨a, 0, none⟩) hlt hna]; exact f0); clear hown2 hgr2 hat2 hnil2 hbel2 x0 f0))
  refine bodyPost_end (v := .tuple #[]) (by simp [results, Tryz.results139, go_sem]) rfl ?_
  exact ⟨rfl, _, HW.out.put (Below.refl _ _) G2.out (HI.out ▸ HO2.out) A2.out⟩

set_option maxHeartbeats 1000000 in
theorem wbytes_any (a : Nat) (v : Value) (l : List Nat) (w : World) (hw : WrIs w a v l) (hl : l.length ≤ 65536) (hb : ∀ c ∈ l, c < 256) :
    Calls Tryz.prog 114 #[.pointer (some ⟨a, 0, none⟩)] w fun e w' => ∃ v', e = .returned v' ∧ Bytes w' v' l ∧ Below w.heap.size w w' := by
  have HW := Lib.hid hw
  have HB := Lib.hid hb
  have x0 := hw.c
  clear hw hb
  have HL : Hid ((ints l).length ≤ 2097152) := Lib.hid (by rw [length_ints]; omega)
  go_enter Tryz.func114, Tryz.ntmps114
  go_wp2_with fail
  refine (bclone _ _ _ HW.out.own.reads HL.out).mono ?_
  rintro e w1 ⟨v1, rfl, hown, hb1⟩
  have HO := Lib.hid hown
  have B1 := Lib.hid hb1
  clear hown hb1
  go_wp2_with fail
  go_ret
  exact ⟨v1, rfl, Bytes.of_owns HO.out HB.out (by omega), B1.out⟩

set_option maxHeartbeats 1000000 in
set_option maxRecDepth 20000 in
theorem wtext_any (a : Nat) (v : Value) (l : List Nat) (s : ByteArray) (w : World) (hw : WrIs w a v l) (hl : l.length + 9 + s.size ≤ 65536) :
    Calls Tryz.prog 112 #[.pointer (some ⟨a, 0, none⟩), .string s] w fun e w' => e = .returned (.tuple #[]) ∧ ∃ v', WrIs w' a v' (l ++ (numW s.size ++ natsOf s)) ∧ Grew w w' a v v' := by
  have HW := Lib.hid hw
  have hlt := hw.lt
  have HLL := Lib.hid hl
  have hs : (s.size : Int) ≤ 65536 := by omega
  clear hw hl
  go_enter Tryz.func112, Tryz.ntmps112
  go_wp2_with fail
  have W1 := Lib.hid (HW.out.below ((Below.refl _ _).alloc (Nat.le_refl _) (.cells #[.int .u64 (s.size : Int)] 27)))
  have B1 : Hid (Below w.heap.size w (w.alloc (.cells #[.int .u64 (s.size : Int)] 27))) := Lib.hid ((Below.refl _ _).alloc (Nat.le_refl _) _)
  refine (wnum_any a v _ l [s.size] _ W1.out (Reads.one _ _ _ _) (by simp; omega) (fun b hb => by
    simp only [Value.ownBlock] at hb
    obtain rfl := Option.some.inj hb
    exact ⟨by omega, fun e => by have := (HW.out.own.lt _ e).2; omega⟩) (by have := HLL.out; simp only [List.length_cons, List.length_nil]; omega)).mono ?_
  rintro e w2 ⟨rfl, v2, hw2, hg2⟩
  have W2 : Hid (WrIs w2 a v2 (l ++ numW s.size)) := Lib.hid (by simpa [numsW] using hw2)
  have G2 : Hid (Grew w w2 a v v2) := Lib.hid (Grew.of_below B1.out hg2 HW.out)
  clear hw2 hg2 W1 B1
  have TS : Hid (s.size ≤ 2097152) := Lib.hid (by have := HLL.out; omega)
  go_wp2_with (refine wpList_to_bytes rfl 9 22 5 _ rfl Tryz.underlying9 Tryz.underlying22 Tryz.underlying5 _ rfl TS.out ?_; intro dv w3 hB3 hb3 hob3; have HB3 := Lib.hid hB3; have B3 := Lib.hid hb3; clear hB3 hb3 hob3)
  refine (wraw_any a v2 dv _ _ w3 (W2.out.below B3.out) HB3.out (by have := HLL.out; have h9 := numW_len (n := s.size) (by omega); rw [List.length_append, length_natsOf]; omega)).mono ?_
  rintro e w4 ⟨rfl, v4, hw4, hg4⟩
  have W4 := Lib.hid hw4
  have G4 : Hid (Grew w w4 a v v4) := Lib.hid (G2.out.trans (Grew.of_below B3.out hg4 W2.out))
  clear hw4 hg4
  go_wp2_with fail
  refine bodyPost_end (v := .tuple #[]) (by simp [results, Tryz.results112, go_sem]) rfl ?_
  exact ⟨rfl, _, by rw [← List.append_assoc]; exact W4.out, G4.out⟩
end Go.Proofs.YtofhccpagnkalaaGreat
