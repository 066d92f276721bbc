/- Several texts in one: Last. What each proves stands ahead of it; together they serve sopens_law_holds. No conditions but those stated. -/
import Derived.Test.YtofhccpagnkalaaGreatSob19
import Derived.Test.YtofhccpagnkalaaGreatSob10
import Derived.Test.YtofhccpagnkalaaGreatSob7
/- The contract of vow.last: the state that bytes have, and how many of them are good; no conditions but the ranges. -/
namespace Go.Proofs.YtofhccpagnkalaaGreat
open Go.RowKit Go.Maps Go.Proofs.Own Go.Shelf
attribute [local go_sem] Oper.semAt_some

def vT (l : List Nat) : Nat := numV H60 (frBody l)
def vV (l : List Nat) : Nat := numV 7 (numL H60 (frBody l))
def vE (l : List Nat) : Nat := endE (numL 7 (numL H60 (frBody l))) (numB H60 (frBody l) || numB 7 (numL H60 (frBody l)))
/-- A frame of a state follows. -/
def vGo (l : List Nat) : Prop := takeE l = 0 ∧ l.getD 1 0 = 3 ∧ vE l = 0
instance (l : List Nat) : Decidable (vGo l) := inferInstanceAs (Decidable (_ ∧ _))
/-- Term, vote, how many bytes are good. -/
structure LastS where
  t : Int
  v : Int
  g : Nat
def lastF : Nat → List Nat → LastS → LastS
  | 0, _, s => s
  | n + 1, l, s => if vGo l then lastF n (frNx l) ⟨vT l, (vV l : Int) - 1, s.g + (frBody l).length + 8⟩ else s
def lastR (l : List Nat) : LastS := lastF l.length l ⟨0, -1, 0⟩
theorem lastF_no {l : List Nat} (h : ¬ vGo l) (n : Nat) (s : LastS) : lastF n l s = s := by
  cases n with
  | zero => rfl
  | succ n => unfold lastF; rw [if_neg h]
/-- The two blocks from b on: a state, and how many bytes are good. -/
structure LSC (W : World) (b : Nat) (s : LastS) : Prop where
  c0 : W.cell? ⟨b, 0, none⟩ = some (.int .u64 s.t)
  c1 : W.cell? ⟨b, 1, none⟩ = some (.int .i64 s.v)
  c2 : W.cell? ⟨b + 1, 0, none⟩ = some (.int .i64 s.g)
  f0 : W.frozen? ⟨b, 0, none⟩ = false
  f1 : W.frozen? ⟨b, 1, none⟩ = false
  f2 : W.frozen? ⟨b + 1, 0, none⟩ = false
theorem LSC.kept {W W' : World} {b : Nat} {s : LastS} (h : LSC W b s) (hk : Kept W W' (fun k => b + 2 ≤ k)) : LSC W' b s := by
  have l0 : b < W.heap.size := World.block_lt_of_cell? _ _ h.c0
  have l1 : b + 1 < W.heap.size := World.block_lt_of_cell? _ _ h.c2
  have n0 : ¬ b + 2 ≤ b := by omega
  have n1 : ¬ b + 2 ≤ b + 1 := by omega
  exact ⟨hk.cell h.c0 n0, hk.cell h.c1 n0, hk.cell h.c2 n1, (hk.frozen (a := ⟨b, 0, none⟩) l0 n0).trans h.f0, (hk.frozen (a := ⟨b, 1, none⟩) l0 n0).trans h.f1, (hk.frozen (a := ⟨b + 1, 0, none⟩) l1 n1).trans h.f2⟩
theorem LSC.set3 {W : World} {b : Nat} {s : LastS} (h : LSC W b s) (t v : Int) (g : Nat) : LSC (((W.setCell ⟨b, 0, none⟩ (.int .u64 t)).setCell ⟨b, 1, none⟩ (.int .i64 v)).setCell ⟨b + 1, 0, none⟩ (.int .i64 (g : Int))).drew b ⟨t, v, g⟩ := by
  refine ⟨?_, ?_, ?_, ?_, ?_, ?_⟩
  · show World.cell? (World.setCell _ _ _) _ = _
    rw [World.cell?_setCell_other _ _ _ _ (by simp), World.cell?_setCell_other _ _ _ _ (by simp)]
    exact World.cell?_setCell_same _ _ _ h.c0
  · show World.cell? (World.setCell _ _ _) _ = _
    rw [World.cell?_setCell_other _ _ _ _ (by simp)]
    exact World.cell?_setCell_same _ _ _ (by rw [World.cell?_setCell_other _ _ _ _ (by simp)]; exact h.c1)
  · show World.cell? (World.setCell _ _ _) _ = _
    exact World.cell?_setCell_same _ _ _ (by rw [World.cell?_setCell_other _ _ _ _ (by simp), World.cell?_setCell_other _ _ _ _ (by simp)]; exact h.c2)
  · show World.frozen? (World.setCell _ _ _) _ = _
    rw [World.frozen?_setCell, World.frozen?_setCell, World.frozen?_setCell]; exact h.f0
  · show World.frozen? (World.setCell _ _ _) _ = _
    rw [World.frozen?_setCell, World.frozen?_setCell, World.frozen?_setCell]; exact h.f1
  · show World.frozen? (World.setCell _ _ _) _ = _
    rw [World.frozen?_setCell, World.frozen?_setCell, World.frozen?_setCell]; exact h.f2
/-- Between two rounds: what is left; what was found. -/
def LastI (w : World) (l0 γ : List Nat) (W : World) : Prop :=
  ∃ n s, γ.length ≤ n ∧ lastR l0 = lastF n γ s ∧ LSC W w.heap.size s ∧ Below w.heap.size w W ∧ s.g + γ.length ≤ l0.length
theorem LastI.kept {w A B : World} {l0 γ : List Nat} (h : LastI w l0 γ A) (hk : Kept A B (fun k => w.heap.size + 2 ≤ k)) : LastI w l0 γ B := by
  obtain ⟨n, s, h1, h2, h3, h4, h5⟩ := h
  exact ⟨n, s, h1, h2, h3.kept hk, h4.trans (hk.below h4.size (fun k e => by omega)), h5⟩

end Go.Proofs.YtofhccpagnkalaaGreat
