/- The contract of the program's seal; no conditions but the ranges. -/
import Derived.Test.YtofhccpagnkalaaGreatSeal
namespace Go.Proofs.YtofhccpagnkalaaGreat
open Go.RowKit Go.Maps Go.Proofs.Own

set_option maxHeartbeats 1000000 in
set_option maxRecDepth 20000 in
theorem seal_any (sv : Value) (l : List Nat) (w : World) (hr : Reads w .u8 sv (ints l)) (hl : ∀ c ∈ l, c < 256) (hlen : l.length ≤ 2097152) :
    Calls Tryz.prog 140 #[sv] w fun e w' => ∃ v, e = .returned v ∧ Owns w' w.heap.size 5 .u8 v (ints (sealP l)) ∧ Below w.heap.size w w' := by
  obtain ⟨i5, hi5, hz5, hy5, hw5⟩ : ∃ i, Tryz.prog.info? 5 = some i ∧ i.zero = some (.int .u8 0) ∧ i.size = 1 ∧ i.bytes = 1 := by
    obtain ⟨i, hi, hzz⟩ := Option.map_eq_some_iff.1 Tryz.info5
    simp only [Prod.mk.injEq] at hzz
    exact ⟨i, hi, hzz.1, hzz.2.1, hzz.2.2⟩
  have HR := Lib.hid hr
  have HL := Lib.hid hl
  have hlt := sumP_lt l hl
  obtain ⟨a, c, rfl⟩ := hr.shape
  have hli : (ints l).length ≤ 2097152 := by rw [length_ints]; exact hlen
  clear hr hl
  have HS := Lib.hid (ints_seal l)
  have HI := Lib.hid (And.intro hi5 (And.intro hz5 (And.intro hy5 hw5)))
  clear hi5 hz5 hy5 hw5
  go_enter Tryz.func140, Tryz.ntmps140
  go_wp2_with fail
  refine (sum_one w.heap.size _ l _ (by go_cell) (HR.out.alloc _) HL.out hlen).mono ?_
  rintro e w1 ⟨rfl, hb1⟩
  have hb1' : Below w.heap.size w w1 := ((Below.refl _ _).alloc (Nat.le_refl _) _).trans (hb1.mono (by simp))
  have HB := Lib.hid hb1'
  have hs1 := hb1'.size
  clear hb1 hb1'
  generalize sumP l = n at hlt HS ⊢
  have HLN : Hid (([] : List Int).length + (ints l).length ≤ 4294967296) := Lib.hid (by simp only [List.length_nil]; omega)
  have H3 : Hid (∀ w2 : World, Reads (w2.alloc (.cells #[.int .u8 ((n : Int) / 65536), .int .u8 ((n : Int) / 256 % 256), .int .u8 ((n : Int) % 256)] 5)) .u8 (.slice (some ⟨w2.heap.size, 0, none⟩) 3 3) [(n : Int) / 65536, (n : Int) / 256 % 256, (n : Int) % 256]) := Lib.hid fun w2 => (Owns.lit (base := 0) (zs := [(n : Int) / 65536, (n : Int) / 256 % 256, (n : Int) % 256]) (heap_alloc_new _ _) (Nat.zero_le _) (by simp)).reads
  have HL3 : Hid (([] ++ ints l).length + [(n : Int) / 65536, (n : Int) / 256 % 256, (n : Int) % 256].length ≤ 4294967296) := Lib.hid (by simp only [List.nil_append, List.length_cons, List.length_nil]; omega)
  go_wp2_with (first
    | (refine wpList_make_own _ rfl _ _ 22 rfl w1.heap.size 5 i5 (.int .u8 0) 1 Tryz.underlying22 HI.out.1 HI.out.2.1 HI.out.2.2.1 .i64 .i64 _ ((ints l).length + 3) rfl rfl (by omega) (by rw [HI.out.2.2.2]; omega) (by unfold maxLen; omega) (Nat.le_refl _) ?_; intro w2 hown2 hgr2; have HO2 : Hid (Owns w2 w1.heap.size 5 .u8 (.slice (some ⟨w1.heap.size, 0, none⟩) 0 ((ints l).length + 3)) []) := Lib.hid hown2; have hk2 := Kept.of_grown hgr2; have HK2 := Lib.hid (hk2.below (Nat.le_refl _) (fun k h => by cases h)); have hs2 := HK2.out.size; clear hown2 hgr2 hk2)
    | (at_builtin; refine wpList_append_ints Tryz.u8s _ _ rfl w1.heap.size _ _ _ _ rfl rfl HO2.out ((HR.out.below HB.out).below HK2.out) (by decide) HLN.out (by omega) rfl ?_; intro v3 w3 hown3 hgr3 hat3 hnil3 hbel3; obtain ⟨a3, c3, rfl⟩ := hown3.shape; have HO3 := Lib.hid hown3; have hs3 := hbel3.size; clear hown3 hgr3 hat3 hnil3)
    | (at_builtin; refine wpList_append_ints Tryz.u8s _ _ rfl w1.heap.size _ _ _ [(n : Int) / 65536, (n : Int) / 256 % 256, (n : Int) % 256] rfl rfl (HO3.out.alloc _) (H3.out _) (by decide) HL3.out (by simp only [World.size_alloc]; omega) rfl ?_; intro v4 w4 hown4 hgr4 hat4 hnil4 hbel4))
  go_ret
  refine ⟨_, rfl, ?_, ?_⟩
  · rw [HS.out]
    exact (show Owns _ w1.heap.size 5 .u8 _ (ints l ++ [((n / 65536 : Nat) : Int), ((n / 256 % 256 : Nat) : Int), ((n % 256 : Nat) : Int)]) from hown4).lower fun b hb => by have := (hown4.lt b hb).1; omega
  · exact HB.out.trans (((HK2.out.trans hbel3).trans (((Below.refl _ _).alloc (by omega) _).trans hbel4)).mono hs1)
end Go.Proofs.YtofhccpagnkalaaGreat
