/- A box copied whole into another one, and loaded whole, beside a frame; over any program; no conditions. -/
import Derived.Test.YtcdlhokeednjfaaGreatMac
import Derived.Laws.IdiomCopy
namespace Go.Proofs.Own
open Go Go.RowKit

def setL : List Value → Nat → List Value → List Value
  | c, _, [] => c
  | c, o, v :: r => setL (c.set o v) (o + 1) r
theorem setL_eq : ∀ (vs c : List Value) (o : Nat), o + vs.length = c.length → setL c o vs = c.take o ++ vs
  | [], c, o, h => by rw [setL, List.append_nil, List.take_of_length_le (by simp at h; omega)]
  | v :: r, c, o, h => by
    have hl : o < c.length := by simp at h; omega
    rw [setL, setL_eq r (c.set o v) (o + 1) (by rw [List.length_set]; simp at h; omega), List.take_add_one, List.take_set_of_le (Nat.le_refl o), List.getElem?_set_self hl]
    simp
theorem Box.setL {b : Nat} : ∀ (vs c : List Value) (o : Nat) (w : World), Box w (b, c) → Box (w.setCells b o vs) (b, Own.setL c o vs)
  | [], _, _, _, h => h
  | v :: r, c, o, w, h => by
    rw [World.setCells, Own.setL]
    exact Box.setL r _ (o + 1) _ (h.set o v)
theorem Kept.setCells (b : Nat) : ∀ (vs : List Value) (o : Nat) (w : World), Kept w (w.setCells b o vs) (fun i => i = b)
  | [], _, w => Kept.refl w _
  | v :: r, o, w => by
    rw [World.setCells]
    exact (Kept.setCell w ⟨b, o, none⟩ v).trans (Kept.setCells b r (o + 1) _)
theorem Fr.cp {P : Program} {S : Nat → Prop} {w0 w : World} {L : Bx} {R : World → Prop} (F : Fr S w0 w L R) (i : Nat) {b : Nat} {c c' : List Value} (hi : L[i]? = some (b, c)) (hl : c'.length = c.length) (h1 : c'.all (·.oneCell') = true) :
    ∃ w2, (storeCells ⟨b, 0, none⟩ c' 0).run P w = .ok () w2 ∧ Fr S w0 w2 (L.set i (b, c')) R := by
  have B := F.box i _ hi
  refine ⟨w.setCells b 0 c', ?_, F.turn i hi (Kept.setCells b c' 0 w) ?_⟩
  · have q := run_storeCells_cells (P := P) b 0 c' 0 w (fun j hj => by
      have z := (B.2 j _ (List.getElem?_eq_getElem (by simp only; omega))).1
      simp only [Nat.zero_add] at z ⊢
      rw [z]
      rfl) (fun j hj => by simpa using (B.2 j _ (List.getElem?_eq_getElem (by simp only; omega))).2) (fun v hv => List.all_eq_true.1 h1 v hv)
    simpa using q
  · have q := Box.setL c' c 0 w B
    rwa [setL_eq c' c 0 (by omega), List.take_zero, List.nil_append] at q
end Go.Proofs.Own
