/- Facts of a world that new memory does not touch; no conditions. -/
import Derived.Test.YtofhccpagnkalaaGreatStr
namespace Go.Proofs.YtofhccpagnkalaaGreat
open Go.RowKit Go.Maps Go.Proofs.Own

/-- S stays true while nothing that was there changes. -/
structure Stable (S : World → Prop) : Prop where
  below : ∀ {w w' : World}, S w → Below w.heap.size w w' → S w'
theorem Stable.alloc {S : World → Prop} (h : Stable S) {w : World} (hs : S w) (o : Obj) : S (w.alloc o) := h.below hs ((Below.refl _ _).alloc (Nat.le_refl _) o)
theorem Stable.drew {S : World → Prop} (h : Stable S) {w : World} (hs : S w) : S w.drew := h.below hs ((Below.refl _ _).drew)
theorem Stable.drewN {S : World → Prop} (h : Stable S) {w : World} (hs : S w) (n : Nat) : S (w.drewN n) := h.below hs (Below.drewN w n)
theorem Stable.and {S T : World → Prop} (h : Stable S) (k : Stable T) : Stable fun w => S w ∧ T w := ⟨fun hs hb => ⟨h.below hs.1 hb, k.below hs.2 hb⟩⟩
theorem Stable.cell (p : Addr) (v : Value) : Stable fun w => w.cell? p = some v := ⟨fun hs hb => Below.at hb hs (World.block_lt_of_cell? _ _ hs)⟩
theorem Stable.bytes (v : Value) (l : List Nat) : Stable fun w => Bytes w v l := ⟨fun hs hb => hs.below hb⟩
theorem Stable.from (W : World) : Stable fun w => Below W.heap.size W w := ⟨fun hs hb => hs.trans (hb.mono hs.size)⟩
theorem Stable.const (p : Prop) : Stable fun _ => p := ⟨fun hs _ => hs⟩
theorem Stable.size (n : Nat) : Stable fun w => n < w.heap.size := ⟨fun hs hb => Nat.lt_of_lt_of_le hs hb.size⟩
theorem Stable.live (p : Addr) : Stable fun w => w.frozen? p = false ∧ p.block < w.heap.size := ⟨fun {w w'} hs hb => ⟨by rw [hb.frozen (p := p) hs.2]; exact hs.1, Nat.lt_of_lt_of_le hs.2 hb.size⟩⟩
end Go.Proofs.YtofhccpagnkalaaGreat
