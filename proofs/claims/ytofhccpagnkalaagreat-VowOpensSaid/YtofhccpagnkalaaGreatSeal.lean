/- Contracts of the document's seal; no conditions but the ranges. -/
import Derived.Test.YtofhccpagnkalaaGreatSum3
namespace Go.Proofs.YtofhccpagnkalaaGreat
open Go.RowKit Go.Maps Go.Proofs.Own

theorem Tryz.info5 : (Tryz.prog.info? 5).map (fun i => (i.zero, i.size, i.bytes)) = some (some (.int .u8 0), 1, 1) := by kernel_rfl
theorem Tryz.u8s : IntSlice Tryz.prog 22 5 .u8 1 := ⟨Tryz.underlying22, Tryz.info5⟩

/-- Bytes and the seal behind them. -/
def sealP (l : List Nat) : List Nat := l ++ [sumP l / 65536, sumP l / 256 % 256, sumP l % 256]
theorem ints_append (l m : List Nat) : ints (l ++ m) = ints l ++ ints m := by simp [ints]

theorem ints_seal (l : List Nat) : ints (sealP l) = ints l ++ [((sumP l / 65536 : Nat) : Int), ((sumP l / 256 % 256 : Nat) : Int), ((sumP l % 256 : Nat) : Int)] := by
  simp only [sealP, ints, List.map_append, List.map_cons, List.map_nil]

set_option maxHeartbeats 1000000 in
set_option maxRecDepth 20000 in
theorem rseal_any (sv : Value) (l : List Nat) (w : World) (hr : Reads w .u8 sv (ints l)) (hl : ∀ c ∈ l, c < 256) (hlen : l.length ≤ 2097152) :
    Calls Tryz.prog 144 #[sv] w fun e w' => ∃ v, e = .returned v ∧ Owns w' w.heap.size 5 .u8 v (ints (sealP l)) ∧ Below w.heap.size w w' := by
  have HR := Lib.hid hr
  have HL := Lib.hid hl
  have hlt := sumP_lt l hl
  obtain ⟨a, c, rfl⟩ := hr.shape
  have hli : (ints l).length ≤ 2097152 := by rw [length_ints]; exact hlen
  clear hr hl
  have HS := Lib.hid (ints_seal l)
  go_enter Tryz.func144, Tryz.ntmps144
  go_wp2_with fail
  refine (rsum_any _ l _ HR.out HL.out hlen).mono ?_
  rintro e w1 ⟨rfl, hb1⟩
  have HB := Lib.hid hb1
  have hs1 := hb1.size
  clear hb1
  generalize sumP l = n at hlt HS ⊢
  have HE : Hid (Owns (w1.alloc (.cells #[] 5)) w1.heap.size 5 .u8 (.slice (some ⟨w1.heap.size, 0, none⟩) 0 0) []) := Lib.hid (Owns.empty (heap_alloc_new _ _) (Nat.le_refl _))
  have HLN : Hid (([] : List Int).length + (ints l).length ≤ 4294967296) := Lib.hid (by simp only [List.length_nil]; omega)
  have H3 : Hid (∀ w2 : World, Reads (w2.alloc (.cells #[.int .u8 ((n : Int) / 65536), .int .u8 ((n : Int) / 256 % 256), .int .u8 ((n : Int) % 256)] 5)) .u8 (.slice (some ⟨w2.heap.size, 0, none⟩) 3 3) [(n : Int) / 65536, (n : Int) / 256 % 256, (n : Int) % 256]) := Lib.hid fun w2 => (Owns.lit (base := 0) (zs := [(n : Int) / 65536, (n : Int) / 256 % 256, (n : Int) % 256]) (heap_alloc_new _ _) (Nat.zero_le _) (by simp)).reads
  have HL3 : Hid (([] ++ ints l).length + [(n : Int) / 65536, (n : Int) / 256 % 256, (n : Int) % 256].length ≤ 4294967296) := Lib.hid (by simp only [List.nil_append, List.length_cons, List.length_nil]; omega)
  go_wp2_with (at_builtin; first
    | (refine wpList_append_ints Tryz.u8s _ _ rfl w1.heap.size _ _ _ _ rfl rfl HE.out ((HR.out.below HB.out).alloc _) (by decide) HLN.out (by simp) rfl ?_; intro v2 w2 hown2 hgr2 hat2 hnil2 hbel2; obtain ⟨a2, c2, rfl⟩ := hown2.shape; have HO2 := Lib.hid hown2; have hs2 := hbel2.size; clear hown2 hgr2 hat2 hnil2)
    | (refine wpList_append_ints Tryz.u8s _ _ rfl w1.heap.size _ _ _ [(n : Int) / 65536, (n : Int) / 256 % 256, (n : Int) % 256] rfl rfl (HO2.out.alloc _) (H3.out _) (by decide) HL3.out (by simp only [World.size_alloc] at hs2 ⊢; omega) rfl ?_; intro v3 w3 hown3 hgr3 hat3 hnil3 hbel3))
  go_ret
  refine ⟨_, rfl, ?_, ?_⟩
  · rw [HS.out]
    exact (show Owns _ w1.heap.size 5 .u8 _ (ints l ++ [((n / 65536 : Nat) : Int), ((n / 256 % 256 : Nat) : Int), ((n % 256 : Nat) : Int)]) from hown3).lower fun b hb => by have := (hown3.lt b hb).1; omega
  · exact HB.out.trans (((((Below.refl _ _).alloc (Nat.le_refl _) _).trans hbel2).trans (((Below.refl _ _).alloc (by have := hs2; simp only [World.size_alloc] at this; omega) _).trans hbel3)).mono hs1)
end Go.Proofs.YtofhccpagnkalaaGreat
