/- The law's plain snapshot; no conditions. -/
import Derived.Test.YtofhccpagnkalaaSave2
import Derived.Lib.SlBytesConst
namespace Go.Proofs.Ytofhccpagnkalaa
open Go.RowKit Go.Maps Go.Proofs.Own

def plainS (i : Int) : SnapS := ⟨i, 1, [0], [97]⟩
/-- The value v is the snapshot s, its rows in blocks from B on. -/
def SnapOff (w : World) (B : Nat) (v : Value) (s : SnapS) : Prop :=
  ∃ mv dv, v = .agg #[.int .u64 s.i, .int .u64 s.t, mv, dv] ∧ Ints w mv s.ms ∧ Bytes w dv s.d ∧ (∀ b, mv.ownBlock = some b → B ≤ b) ∧ (∀ b, dv.ownBlock = some b → B ≤ b)
theorem SnapOff.is {w : World} {B : Nat} {v : Value} {s : SnapS} (h : SnapOff w B v s) : SnapIs w v s := by
  obtain ⟨mv, dv, e, hm, hd, _⟩ := h
  exact ⟨mv, dv, e, hm, hd⟩
theorem SnapOff.kept {w w' : World} {B : Nat} {v : Value} {s : SnapS} {S : Nat → Prop} (h : SnapOff w B v s) (hk : Kept w w' S) (hs : ∀ k, B ≤ k → ¬ S k) : SnapOff w' B v s := by
  obtain ⟨mv, dv, e, hm, hd, h1, h2⟩ := h
  exact ⟨mv, dv, e, hm.kept hk fun b hb => hs b (h1 b hb), hd.kept hk fun b hb => hs b (h2 b hb), h1, h2⟩
theorem SnapOff.below {w w' : World} {B : Nat} {v : Value} {s : SnapS} (h : SnapOff w B v s) (hb : Below w.heap.size w w') : SnapOff w' B v s :=
  h.kept (Kept.of_below hb (S := fun _ => False) fun k h1 h2 => by omega) fun _ _ h => h

set_option maxHeartbeats 1000000 in
set_option maxRecDepth 20000 in
theorem plain_any (i : Int) (w : World) : Calls Try.prog 40 #[.int .u64 i] w fun e w' => ∃ v, e = .returned v ∧ SnapOff w' w.heap.size v (plainS i) ∧ Below w.heap.size w w' := by
  have kc := fun (w : World) (C : Array Value) (n c : Nat) => Lib.run_convert_bytes_const (P := Try.prog) w 22 5 C n c Try.underlying22 Try.underlying5
  have kc2 := kc ((w.alloc (.cells #[.int .u64 0, .int .u64 0, .slice none 0 0, .slice none 0 0] 27)).alloc (.cells #[.int .i64 0] 3)) #[.int .u8 97] 1 1
  simp at kc2
  clear kc
  go_enter Try.func40, Try.ntmps40
  go_wp2_with fail
  clear kc2
  have hb : Below w.heap.size w (((w.alloc (.cells #[.int .u64 i, .int .u64 1, .slice (some ⟨w.heap.size + 1, 0, none⟩) 1 1, .slice (some ⟨w.heap.size + 1 + 1, 0, none⟩) 1 1] 27)).alloc (.cells #[.int .i64 0] 3)).alloc (.cells #[.int .u8 97] 5 (1, 2))) :=
    (((Below.refl _ _).alloc (Nat.le_refl _) _).alloc (by simp) _).alloc (by simp; omega) _
  have hI : Ints (((w.alloc (.cells #[.int .u64 i, .int .u64 1, .slice (some ⟨w.heap.size + 1, 0, none⟩) 1 1, .slice (some ⟨w.heap.size + 1 + 1, 0, none⟩) 1 1] 27)).alloc (.cells #[.int .i64 0] 3)).alloc (.cells #[.int .u8 97] 5 (1, 2))) (.slice (some ⟨w.heap.size + 1, 0, none⟩) 1 1) [0] := by
    have h := (Reads.one (w.alloc (.cells #[.int .u64 i, .int .u64 1, .slice (some ⟨w.heap.size + 1, 0, none⟩) 1 1, .slice (some ⟨w.heap.size + 1 + 1, 0, none⟩) 1 1] 27)) .i64 0 3).alloc (.cells #[.int .u8 97] 5 (1, 2))
    exact ⟨⟨_, _, rfl, Nat.le_refl _⟩, by simpa using h, by simp⟩
  have hB : Bytes (((w.alloc (.cells #[.int .u64 i, .int .u64 1, .slice (some ⟨w.heap.size + 1, 0, none⟩) 1 1, .slice (some ⟨w.heap.size + 1 + 1, 0, none⟩) 1 1] 27)).alloc (.cells #[.int .i64 0] 3)).alloc (.cells #[.int .u8 97] 5 (1, 2))) (.slice (some ⟨w.heap.size + 1 + 1, 0, none⟩) 1 1) [97] := by
    have h := heap_alloc_new ((w.alloc (.cells #[.int .u64 i, .int .u64 1, .slice (some ⟨w.heap.size + 1, 0, none⟩) 1 1, .slice (some ⟨w.heap.size + 1 + 1, 0, none⟩) 1 1] 27)).alloc (.cells #[.int .i64 0] 3)) (.cells #[.int .u8 97] 5 (1, 2))
    have h2 : ((w.alloc (.cells #[.int .u64 i, .int .u64 1, .slice (some ⟨w.heap.size + 1, 0, none⟩) 1 1, .slice (some ⟨w.heap.size + 1 + 1, 0, none⟩) 1 1] 27)).alloc (.cells #[.int .i64 0] 3)).heap.size = w.heap.size + 1 + 1 := by simp
    rw [h2] at h
    exact Bytes.of_cells (l := [97]) (c := 1) h (fun j hj => by simp at hj; subst hj; rfl) (by simp) (by simp) (by simp)
  have hS := ((SBlk.box w i 1 (.slice (some ⟨w.heap.size + 1, 0, none⟩) 1 1) (.slice (some ⟨w.heap.size + 1 + 1, 0, none⟩) 1 1)).below ((Below.refl _ _).alloc (Nat.le_refl _) (.cells #[.int .i64 0] 3))).below ((Below.refl _ _).alloc (Nat.le_refl _) (.cells #[.int .u8 97] 5 (1, 2)))
  generalize World.alloc _ _ = wF at *
  obtain ⟨q0, q1, q2, q3, _, _, _, _⟩ := hS
  refine bodyPost_ret (v := .agg #[.int .u64 i, .int .u64 1, .slice (some ⟨w.heap.size + 1, 0, none⟩) 1 1, .slice (some ⟨w.heap.size + 1 + 1, 0, none⟩) 1 1]) (by simp [results, Try.results40, go_sem, q0, q1, q2, q3]) rfl ?_
  refine ⟨_, rfl, ⟨_, _, rfl, hI, hB, fun b e => ?_, fun b e => ?_⟩, hb⟩
  · simp only [Value.ownBlock] at e; obtain rfl := Option.some.inj e; omega
  · simp only [Value.ownBlock] at e; obtain rfl := Option.some.inj e; omega
end Go.Proofs.Ytofhccpagnkalaa
