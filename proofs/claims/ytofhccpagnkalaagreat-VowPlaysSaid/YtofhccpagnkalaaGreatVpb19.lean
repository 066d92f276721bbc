/- Several texts in one: Pla, Liv0. What each proves stands ahead of it; together they serve vplays_law_holds. No conditions but those stated. -/
import Derived.Lib.SlBytesConst
import Derived.Laws.EntriesVeiled
import Derived.Test.YtofhccpagnkalaaGreatVpb17
/- The law's plain snapshot; no conditions. -/
namespace Go.Proofs.YtofhccpagnkalaaGreat
open Go.RowKit Go.Maps Go.Proofs.Own

/-- The value v is the snapshot s, its rows in blocks from B on. -/
def SnapOff (w : World) (B : Nat) (v : Value) (s : SnapS) : Prop :=
  ∃ mv dv, v = .agg #[.int .u64 s.i, .int .u64 s.t, mv, dv] ∧ Ints w mv s.ms ∧ Bytes w dv s.d ∧ (∀ b, mv.ownBlock = some b → B ≤ b) ∧ (∀ b, dv.ownBlock = some b → B ≤ b)
theorem SnapOff.is {w : World} {B : Nat} {v : Value} {s : SnapS} (h : SnapOff w B v s) : SnapIs w v s := by
  obtain ⟨mv, dv, e, hm, hd, _⟩ := h
  exact ⟨mv, dv, e, hm, hd⟩
theorem SnapOff.kept {w w' : World} {B : Nat} {v : Value} {s : SnapS} {S : Nat → Prop} (h : SnapOff w B v s) (hk : Kept w w' S) (hs : ∀ k, B ≤ k → ¬ S k) : SnapOff w' B v s := by
  obtain ⟨mv, dv, e, hm, hd, h1, h2⟩ := h
  exact ⟨mv, dv, e, hm.kept hk fun b hb => hs b (h1 b hb), hd.kept hk fun b hb => hs b (h2 b hb), h1, h2⟩
theorem SnapOff.below {w w' : World} {B : Nat} {v : Value} {s : SnapS} (h : SnapOff w B v s) (hb : Below w.heap.size w w') : SnapOff w' B v s :=
  h.kept (Kept.of_below hb (S := fun _ => False) fun k h1 h2 => by omega) fun _ _ h => h

end Go.Proofs.YtofhccpagnkalaaGreat

/- The disks of the chapter's example; no conditions. -/
namespace Go.Proofs.YtofhccpagnkalaaGreat
open Go.RowKit Go.Maps Go.Proofs.Own

def lvD (f : List FileS) (n : Int) : DiskS := ⟨1000, f, false, -1, n⟩
theorem lv_step (f : List FileS) (n : Int) : stepD (lvD f n) = lvD f (n + 1) := rfl
theorem lv_good0 : DGood (lvD [] 0) := ⟨⟨by decide, by decide, by decide, by decide, by decide, by decide, by decide, fun f h => by cases h⟩, by decide, by decide⟩
theorem lv_find (n : ByteArray) (b : List Nat) (k : Nat) : findFile n [(⟨n, b, k⟩ : FileS)] = some ⟨n, b, k⟩ := by simp [findFile]
end Go.Proofs.YtofhccpagnkalaaGreat
