/- The contract of the document's frame; no conditions but the ranges. -/
import Derived.Test.YtofhccpagnkalaaGreatByt
namespace Go.Proofs.YtofhccpagnkalaaGreat
open Go.RowKit Go.Maps Go.Proofs.Own

/-- A frame of a kind and a body. -/
def frP (k : Nat) (l : List Nat) : List Nat := sealP ([102, k, l.length / 65536, l.length / 256 % 256, l.length % 256] ++ l)
theorem length_sealP (l : List Nat) : (sealP l).length = l.length + 3 := by simp [sealP]
theorem sealP_lt {l : List Nat} (h : ∀ c ∈ l, c < 256) : ∀ c ∈ sealP l, c < 256 := by
  have := sumP_lt l h
  intro c hc
  simp only [sealP, List.mem_append, List.mem_cons, List.not_mem_nil, or_false] at hc
  rcases hc with hc | rfl | rfl | rfl
  · exact h c hc
  · omega
  · omega
  · omega
theorem headed_lt {k n : Nat} {l : List Nat} (hk : k < 256) (hn : n < 16777216) (h : ∀ c ∈ l, c < 256) : ∀ c ∈ [102, k, n / 65536, n / 256 % 256, n % 256] ++ l, c < 256 := by
  intro c hc
  simp only [List.mem_append, List.mem_cons, List.not_mem_nil, or_false] at hc
  rcases hc with (rfl | rfl | rfl | rfl | rfl) | hc
  · decide
  · exact hk
  · omega
  · omega
  · omega
  · exact h c hc

set_option maxHeartbeats 1000000 in
set_option maxRecDepth 20000 in
theorem rbytes_any (k : Nat) (v : Value) (l : List Nat) (w : World) (hB : Bytes w v l) (hk : k < 256) (hlen : l.length ≤ 100000) :
    Calls Tryz.prog 124 #[.int .u8 k, v] w fun e w' => ∃ v', e = .returned v' ∧ Bytes w' v' (frP k l) ∧ Below w.heap.size w w' := by
  have HB := Lib.hid hB
  have hli : (ints l).length ≤ 100000 := by rw [length_ints]; exact hlen
  obtain ⟨a, c, rfl, _⟩ := hB.shape
  clear hB
  have HLN : Hid (([102, (k : Int), (l.length : Int) / 65536, (l.length : Int) / 256 % 256, (l.length : Int) % 256] : List Int).length + (ints l).length ≤ 4294967296) := Lib.hid (by simp only [List.length_cons, List.length_nil]; omega)
  go_enter Tryz.func124, Tryz.ntmps124
  have HN : Hid (∃ n, n = l.length) := Lib.hid ⟨_, rfl⟩
  have H5 : Hid (∀ y0 y1 y2 y3 y4 : Int, Owns (w.alloc (.cells #[.int .u8 y0, .int .u8 y1, .int .u8 y2, .int .u8 y3, .int .u8 y4] 5)) w.heap.size 5 .u8 (.slice (some ⟨w.heap.size, 0, none⟩) 5 5) [y0, y1, y2, y3, y4]) :=
    Lib.hid fun y0 y1 y2 y3 y4 => Owns.lit (zs := [y0, y1, y2, y3, y4]) (heap_alloc_new _ _) (Nat.le_refl _) (by simp)
  go_wp2_with (at_builtin; refine wpList_append_ints Tryz.u8s _ _ rfl w.heap.size _ _ _ _ rfl rfl (H5.out _ _ _ _ _) (HB.out.rd.alloc _) (by decide) HLN.out (by simp) rfl ?_; intro v2 w2 hown2 hgr2 hat2 hnil2 hbel2; have HO2 := Lib.hid hown2; have B2 := Lib.hid hbel2; clear hown2 hgr2 hat2 hnil2 hbel2)
  have hlt := headed_lt (n := l.length) hk (by omega) HB.out.lt
  have hi : ints ([102, k, l.length / 65536, l.length / 256 % 256, l.length % 256] ++ l) = [102, (k : Int), (l.length : Int) / 65536, (l.length : Int) / 256 % 256, (l.length : Int) % 256] ++ ints l := by
    simp only [ints, List.map_append, List.map_cons, List.map_nil]; rfl
  refine (rseal_any v2 ([102, k, l.length / 65536, l.length / 256 % 256, l.length % 256] ++ l) w2 (by rw [hi]; exact HO2.out.reads) hlt (by simp; omega)).mono ?_
  rintro e w3 ⟨v3, rfl, hown3, hb3⟩
  clear hi
  have HO3 := Lib.hid hown3
  have B3 := Lib.hid hb3
  have HLT := Lib.hid hlt
  clear hown3 hb3 hlt
  go_wp2_with fail
  go_ret
  have B2' : Below w.heap.size w w2 := ((Below.refl _ _).alloc (Nat.le_refl _) _).trans B2.out
  exact ⟨v3, rfl, Bytes.of_owns HO3.out (sealP_lt HLT.out) (by rw [frP, length_sealP]; simp; omega), B2'.trans (B3.out.mono B2'.size)⟩

set_option maxHeartbeats 1000000 in
set_option maxRecDepth 20000 in
/-- The program's frame. -/
theorem wrap_any (k : Nat) (v : Value) (l : List Nat) (w : World) (hB : Bytes w v l) (hk : k < 256) (hk0 : k ≠ 0) (hlen : l.length ≤ 65536) :
    Calls Tryz.prog 113 #[.int .u8 k, v] w fun e w' => ∃ v', e = .returned (.tuple #[v', .int .i64 0]) ∧ Bytes w' v' (frP k l) ∧ Below w.heap.size w w' ∧ ∀ g, v'.ownBlock = some g → w.heap.size ≤ g := by
  have HB := Lib.hid hB
  have hli : (ints l).length ≤ 65536 := by rw [length_ints]; exact hlen
  have hkb : ((k : Int) == 0) = false := by simp; omega
  have HK0 := Lib.hid hk0
  clear hk0
  have hlen' : (l.length : Int) ≤ 65536 := by omega
  obtain ⟨a, c, rfl, _⟩ := hB.shape
  clear hB
  have HLN : Hid (([102, (k : Int), (l.length : Int) / 65536, (l.length : Int) / 256 % 256, (l.length : Int) % 256] : List Int).length + (ints l).length ≤ 4294967296) := Lib.hid (by simp only [List.length_cons, List.length_nil]; omega)
  go_enter Tryz.func113, Tryz.ntmps113
  have H5 : Hid (∀ y0 y1 y2 y3 y4 : Int, Owns (w.alloc (.cells #[.int .u8 y0, .int .u8 y1, .int .u8 y2, .int .u8 y3, .int .u8 y4] 5)) w.heap.size 5 .u8 (.slice (some ⟨w.heap.size, 0, none⟩) 5 5) [y0, y1, y2, y3, y4]) :=
    Lib.hid fun y0 y1 y2 y3 y4 => Owns.lit (zs := [y0, y1, y2, y3, y4]) (heap_alloc_new _ _) (Nat.le_refl _) (by simp)
  go_wp2_with (at_builtin; refine wpList_append_ints Tryz.u8s _ _ rfl w.heap.size _ _ _ _ rfl rfl (H5.out _ _ _ _ _) (HB.out.rd.alloc _) (by decide) HLN.out (by simp) rfl ?_; intro v2 w2 hown2 hgr2 hat2 hnil2 hbel2; have HO2 := Lib.hid hown2; have B2 := Lib.hid hbel2; clear hown2 hgr2 hat2 hnil2 hbel2)
  have hlt := headed_lt (n := l.length) hk (by omega) HB.out.lt
  have hi : ints ([102, k, l.length / 65536, l.length / 256 % 256, l.length % 256] ++ l) = [102, (k : Int), (l.length : Int) / 65536, (l.length : Int) / 256 % 256, (l.length : Int) % 256] ++ ints l := by
    simp only [ints, List.map_append, List.map_cons, List.map_nil]; rfl
  refine (seal_any v2 ([102, k, l.length / 65536, l.length / 256 % 256, l.length % 256] ++ l) w2 (by rw [hi]; exact HO2.out.reads) hlt (by simp; omega)).mono ?_
  rintro e w3 ⟨v3, rfl, hown3, hb3⟩
  clear hi
  have HO3 := Lib.hid hown3
  have B3 := Lib.hid hb3
  have HLT := Lib.hid hlt
  clear hown3 hb3 hlt
  go_wp2_with fail
  go_ret2
  have B2' : Below w.heap.size w w2 := ((Below.refl _ _).alloc (Nat.le_refl _) _).trans B2.out
  exact ⟨v3, rfl, Bytes.of_owns HO3.out (sealP_lt HLT.out) (by rw [frP, length_sealP]; simp; omega), B2'.trans (B3.out.mono B2'.size), fun g hg => Nat.le_trans B2'.size (HO3.out.lt g hg).1⟩
end Go.Proofs.YtofhccpagnkalaaGreat
