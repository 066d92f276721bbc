/- Several texts in one: Rt, Snd, Snp, Same, Get, Read. What each proves stands ahead of it; together they serve wkeeps_law_holds,wfiles_law_holds,wnobody_law_holds. No conditions but those stated. -/
import Derived.Test.YtjdglpcnkiioeaaGreatWab6
import Derived.Test.YtjdglpcnkiioeaaGreatWab2
import Derived.Test.YtjdglpcnkiioeaaGreatWab7
/- The contract of the document's Take; no conditions but the ranges. -/
namespace Go.Proofs.YtjdglpcnkiioeaaGreat
open Go.RowKit Go.Maps Go.Proofs.Own

theorem frP_lt {k : Nat} {l : List Nat} (hk : k < 256) (hn : l.length < 16777216) (h : ∀ c ∈ l, c < 256) : ∀ c ∈ frP k l, c < 256 := sealP_lt (headed_lt hk hn h)
end Go.Proofs.YtjdglpcnkiioeaaGreat

/- Rows of ints; which members are sound; both ways; no conditions but the ranges. -/
namespace Go.Proofs.YtjdglpcnkiioeaaGreat
open Go.RowKit Go.Maps Go.Proofs.Own

/-- The member before. -/
def prevM (ms : List Int) (j : Nat) : Int := if j = 0 then -1 else ms.getD (j - 1) 0
/-- The member at j may be there. -/
def okAt (ms : List Int) (j : Nat) : Prop := prevM ms j < ms.getD j 0 ∧ ms.getD j 0 < 7
instance (ms : List Int) (j : Nat) : Decidable (okAt ms j) := inferInstanceAs (Decidable (_ ∧ _))
/-- They may be there. -/
def msOk (ms : List Int) : Prop := 1 ≤ ms.length ∧ ms.length ≤ 7 ∧ ∀ j, j < ms.length → okAt ms j
instance (ms : List Int) : Decidable (msOk ms) := inferInstanceAs (Decidable (_ ∧ _ ∧ _))
end Go.Proofs.YtjdglpcnkiioeaaGreat

/- Which snapshots are sound, both ways; no conditions but the ranges. -/
namespace Go.Proofs.YtjdglpcnkiioeaaGreat
open Go.RowKit Go.Maps Go.Proofs.Own

/-- A snapshot. -/
structure SnapS where
  i : Int
  t : Int
  ms : List Int
  d : List Nat
/-- It may be. -/
def SnapS.ok (s : SnapS) : Prop := 1 ≤ s.i ∧ s.i < 576460752303423488 ∧ 1 ≤ s.t ∧ s.t ≤ 1152921504606846976 ∧ msOk s.ms ∧ s.d.length ≤ 32768
instance (s : SnapS) : Decidable s.ok := inferInstanceAs (Decidable (_ ∧ _))
end Go.Proofs.YtjdglpcnkiioeaaGreat

/- The document's 'Same' of two snapshots; no conditions but the ranges. -/
namespace Go.Proofs.YtjdglpcnkiioeaaGreat
open Go.RowKit Go.Maps Go.Proofs.Own

def SnapS.same (s r : SnapS) : Prop := s.i = r.i ∧ s.t = r.t ∧ s.ms = r.ms ∧ s.d = r.d
instance (s r : SnapS) : Decidable (s.same r) := inferInstanceAs (Decidable (_ ∧ _))
end Go.Proofs.YtjdglpcnkiioeaaGreat

/- What a snapshot out of bytes is; the document's Get; no conditions but the ranges. -/
namespace Go.Proofs.YtjdglpcnkiioeaaGreat
open Go.RowKit Go.Maps Go.Proofs.Own
variable {rb : Nat}

def H59 : Nat := 576460752303423488
def H60 : Nat := 1152921504606846976
/-- k members: what is left, the members, whether one was bad. -/
def memL (m : Nat) : Nat → List Nat → List Nat
  | 0, l => l
  | k + 1, l => numL m (memL m k l)
def memV (m : Nat) : Nat → List Nat → List Int
  | 0, _ => []
  | k + 1, l => memV m k l ++ [(numV m (memL m k l) : Int)]
def memB (m : Nat) : Nat → List Nat → Bool
  | 0, _ => false
  | k + 1, l => memB m k l || numB m (memL m k l)
def rest1 (l : List Nat) : List Nat := numL H59 l
def rest2 (l : List Nat) : List Nat := numL H60 (rest1 l)
def memN (l : List Nat) : Nat := numV 7 (rest2 l)
def rest3 (l : List Nat) : List Nat := numL 7 (rest2 l)
def rest4 (m : Nat) (l : List Nat) : List Nat := memL m (memN l) (rest3 l)
/-- The snapshot that bytes tell (m: the greatest member that is read), what is left, whether it was bad. -/
def getS (m : Nat) (l : List Nat) : SnapS := ⟨numV H59 l, numV H60 (rest1 l), memV m (memN l) (rest3 l), textV 32768 (rest4 m l)⟩
def getL (m : Nat) (l : List Nat) : List Nat := textL 32768 (rest4 m l)
def getB (m : Nat) (l : List Nat) : Bool := (((numB H59 l || numB H60 (rest1 l)) || numB 7 (rest2 l)) || memB m (memN l) (rest3 l)) || textB 32768 (rest4 m l)
theorem numL_mem {m : Nat} {l : List Nat} : ∀ c ∈ numL m l, c ∈ l := by
  intro c hc
  unfold numL at hc
  split at hc
  · exact List.mem_of_mem_drop hc
  · cases hc
theorem textV_mem {m : Nat} {l : List Nat} : ∀ c ∈ textV m l, c ∈ l := by
  intro c hc
  unfold textV at hc
  split at hc
  · exact numL_mem c (List.mem_of_mem_take hc)
  · cases hc
theorem textV_len (m : Nat) (l : List Nat) : (textV m l).length ≤ m := by
  unfold textV
  split
  · rw [List.length_take]; have := numV_le m l; omega
  · exact Nat.zero_le _

/-- Block b has a snapshot's four cells. -/
structure SBlk (w : World) (b : Nat) (i t : Int) (mv dv : Value) : Prop where
  c0 : w.cell? ⟨b, 0, none⟩ = some (.int .u64 i)
  c1 : w.cell? ⟨b, 1, none⟩ = some (.int .u64 t)
  c2 : w.cell? ⟨b, 2, none⟩ = some mv
  c3 : w.cell? ⟨b, 3, none⟩ = some dv
  f0 : w.frozen? ⟨b, 0, none⟩ = false
  f1 : w.frozen? ⟨b, 1, none⟩ = false
  f2 : w.frozen? ⟨b, 2, none⟩ = false
  f3 : w.frozen? ⟨b, 3, none⟩ = false
theorem SBlk.lt {w : World} {b : Nat} {i t : Int} {mv dv : Value} (h : SBlk w b i t mv dv) : b < w.heap.size := World.block_lt_of_cell? _ _ h.c0
theorem SBlk.kept {w w' : World} {b : Nat} {i t : Int} {mv dv : Value} {S : Nat → Prop} (h : SBlk w b i t mv dv) (hk : Kept w w' S) (hs : ¬ S b) : SBlk w' b i t mv dv :=
  ⟨hk.cell h.c0 hs, hk.cell h.c1 hs, hk.cell h.c2 hs, hk.cell h.c3 hs, (hk.frozen (a := ⟨b, 0, none⟩) h.lt hs).trans h.f0, (hk.frozen (a := ⟨b, 1, none⟩) h.lt hs).trans h.f1,
   (hk.frozen (a := ⟨b, 2, none⟩) h.lt hs).trans h.f2, (hk.frozen (a := ⟨b, 3, none⟩) h.lt hs).trans h.f3⟩
theorem SBlk.below {w w' : World} {b : Nat} {i t : Int} {mv dv : Value} (h : SBlk w b i t mv dv) (hb : Below w.heap.size w w') : SBlk w' b i t mv dv :=
  h.kept (Kept.of_below hb (S := fun _ => False) fun k h1 h2 => by omega) fun h => h
theorem SBlk.set0 {w : World} {b : Nat} {i t : Int} {mv dv : Value} (h : SBlk w b i t mv dv) (x : Int) : SBlk (w.setCell ⟨b, 0, none⟩ (.int .u64 x)) b x t mv dv := by
  refine ⟨World.cell?_setCell_same _ _ _ h.c0, ?_, ?_, ?_, by rw [World.frozen?_setCell]; exact h.f0, by rw [World.frozen?_setCell]; exact h.f1, by rw [World.frozen?_setCell]; exact h.f2, by rw [World.frozen?_setCell]; exact h.f3⟩
  · rw [World.cell?_setCell_other _ _ _ _ (by simp)]; exact h.c1
  · rw [World.cell?_setCell_other _ _ _ _ (by simp)]; exact h.c2
  · rw [World.cell?_setCell_other _ _ _ _ (by simp)]; exact h.c3
theorem SBlk.set1 {w : World} {b : Nat} {i t : Int} {mv dv : Value} (h : SBlk w b i t mv dv) (x : Int) : SBlk (w.setCell ⟨b, 1, none⟩ (.int .u64 x)) b i x mv dv := by
  refine ⟨?_, World.cell?_setCell_same _ _ _ h.c1, ?_, ?_, by rw [World.frozen?_setCell]; exact h.f0, by rw [World.frozen?_setCell]; exact h.f1, by rw [World.frozen?_setCell]; exact h.f2, by rw [World.frozen?_setCell]; exact h.f3⟩
  · rw [World.cell?_setCell_other _ _ _ _ (by simp)]; exact h.c0
  · rw [World.cell?_setCell_other _ _ _ _ (by simp)]; exact h.c2
  · rw [World.cell?_setCell_other _ _ _ _ (by simp)]; exact h.c3
theorem SBlk.set2 {w : World} {b : Nat} {i t : Int} {mv dv : Value} (h : SBlk w b i t mv dv) (x : Value) : SBlk (w.setCell ⟨b, 2, none⟩ x) b i t x dv := by
  refine ⟨?_, ?_, World.cell?_setCell_same _ _ _ h.c2, ?_, by rw [World.frozen?_setCell]; exact h.f0, by rw [World.frozen?_setCell]; exact h.f1, by rw [World.frozen?_setCell]; exact h.f2, by rw [World.frozen?_setCell]; exact h.f3⟩
  · rw [World.cell?_setCell_other _ _ _ _ (by simp)]; exact h.c0
  · rw [World.cell?_setCell_other _ _ _ _ (by simp)]; exact h.c1
  · rw [World.cell?_setCell_other _ _ _ _ (by simp)]; exact h.c3
theorem SBlk.set3 {w : World} {b : Nat} {i t : Int} {mv dv : Value} (h : SBlk w b i t mv dv) (x : Value) : SBlk (w.setCell ⟨b, 3, none⟩ x) b i t mv x := by
  refine ⟨?_, ?_, ?_, World.cell?_setCell_same _ _ _ h.c3, by rw [World.frozen?_setCell]; exact h.f0, by rw [World.frozen?_setCell]; exact h.f1, by rw [World.frozen?_setCell]; exact h.f2, by rw [World.frozen?_setCell]; exact h.f3⟩
  · rw [World.cell?_setCell_other _ _ _ _ (by simp)]; exact h.c0
  · rw [World.cell?_setCell_other _ _ _ _ (by simp)]; exact h.c1
  · rw [World.cell?_setCell_other _ _ _ _ (by simp)]; exact h.c2

end Go.Proofs.YtjdglpcnkiioeaaGreat

/- The document's Read of a snapshot; no conditions but the ranges. -/
namespace Go.Proofs.YtjdglpcnkiioeaaGreat
open Go.RowKit Go.Maps Go.Proofs.Own

instance (l : List Nat) : Decidable (WholeOk l) := inferInstanceAs (Decidable (_ ∧ _))
/-- Bytes are those of a sound snapshot (m: the greatest member that is read). -/
def readOk (m : Nat) (l : List Nat) : Prop := WholeOk l ∧ l.getD 1 0 = 4 ∧ endE (getL m (frBody l)) (getB m (frBody l)) = 0 ∧ (getS m (frBody l)).ok
instance (m : Nat) (l : List Nat) : Decidable (readOk m l) := inferInstanceAs (Decidable (_ ∧ _))
/-- A snapshot's new block. -/
theorem SBlk.new (w : World) : SBlk (w.alloc (.cells #[.int .u64 0, .int .u64 0, .slice none 0 0, .slice none 0 0] 75)) w.heap.size 0 0 (.slice none 0 0) (.slice none 0 0) :=
  ⟨by go_cell, by go_cell, by go_cell, by go_cell, by simp, by simp, by simp, by simp⟩
theorem SBlk.set4 {w : World} {b : Nat} {i t : Int} {mv dv : Value} (h : SBlk w b i t mv dv) (i' t' : Int) (mv' dv' : Value) :
    SBlk ((((w.setCell ⟨b, 0, none⟩ (.int .u64 i')).setCell ⟨b, 1, none⟩ (.int .u64 t')).setCell ⟨b, 2, none⟩ mv').setCell ⟨b, 3, none⟩ dv') b i' t' mv' dv' := (((h.set0 i').set1 t').set2 mv').set3 dv'
theorem Reads.setNe {w : World} {k : IntKind} {v : Value} {zs : List Int} (h : Reads w k v zs) {a : Addr} (y : Value) (hne : ∀ x, w.cell? a ≠ some (.int k x)) : Reads (w.setCell a y) k v zs := by
  obtain ⟨ad, c, rfl, hc⟩ := h
  refine ⟨ad, c, rfl, fun j hj => ?_⟩
  obtain ⟨b, o, e, h1⟩ := hc j hj
  refine ⟨b, o, e, ?_⟩
  rw [World.cell?_setCell_other _ _ _ _ (fun e => hne _ (by rw [e]; exact h1))]
  exact h1
theorem Reads.set4 {w : World} {b : Nat} {i t : Int} {mv dv : Value} (S : SBlk w b i t mv dv) {k : IntKind} {v : Value} {zs : List Int} (h : Reads w k v zs) (hk : k ≠ .u64) (hm : ∀ x, mv ≠ .int k x) (hd : ∀ x, dv ≠ .int k x) (i' t' : Int) (mv' dv' : Value) :
    Reads ((((w.setCell ⟨b, 0, none⟩ (.int .u64 i')).setCell ⟨b, 1, none⟩ (.int .u64 t')).setCell ⟨b, 2, none⟩ mv').setCell ⟨b, 3, none⟩ dv') k v zs := by
  have S1 := S.set0 i'
  have S2 := S1.set1 t'
  have S3 := S2.set2 mv'
  refine Reads.setNe (Reads.setNe (Reads.setNe (Reads.setNe h _ fun x e => ?_) _ fun x e => ?_) _ fun x e => ?_) _ fun x e => ?_
  · rw [S.c0] at e; cases e; exact hk rfl
  · rw [S1.c1] at e; cases e; exact hk rfl
  · rw [S2.c2] at e; exact hm x (Option.some.inj e)
  · rw [S3.c3] at e; exact hd x (Option.some.inj e)
theorem Kept.set4 (w : World) (b : Nat) (i' t' : Int) (mv' dv' : Value) :
    Kept w ((((w.setCell ⟨b, 0, none⟩ (.int .u64 i')).setCell ⟨b, 1, none⟩ (.int .u64 t')).setCell ⟨b, 2, none⟩ mv').setCell ⟨b, 3, none⟩ dv') (fun k => k = b) :=
  (((Kept.setCell w ⟨b, 0, none⟩ _).trans (Kept.setCell _ ⟨b, 1, none⟩ _)).trans (Kept.setCell _ ⟨b, 2, none⟩ _)).trans (Kept.setCell _ ⟨b, 3, none⟩ _)

end Go.Proofs.YtjdglpcnkiioeaaGreat
