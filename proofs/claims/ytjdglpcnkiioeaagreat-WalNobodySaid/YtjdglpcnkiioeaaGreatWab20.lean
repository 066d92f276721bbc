/- Several texts in one: Last. What each proves stands ahead of it; together they serve wkeeps_law_holds,wfiles_law_holds,wnobody_law_holds. No conditions but those stated. -/
import Derived.Test.YtjdglpcnkiioeaaGreatWab19
import Derived.Test.YtjdglpcnkiioeaaGreatWab11
import Derived.Test.YtjdglpcnkiioeaaGreatWab7
/- The contract of vow.last: the state that bytes have, and how many of them are good; no conditions but the ranges. -/
namespace Go.Proofs.YtjdglpcnkiioeaaGreat
open Go.RowKit Go.Maps Go.Proofs.Own Go.Shelf
attribute [local go_sem] Oper.semAt_some

def vE (l : List Nat) : Nat := endE (numL 7 (numL H60 (frBody l))) (numB H60 (frBody l) || numB 7 (numL H60 (frBody l)))
/-- A frame of a state follows. -/
def vGo (l : List Nat) : Prop := takeE l = 0 ∧ l.getD 1 0 = 3 ∧ vE l = 0
instance (l : List Nat) : Decidable (vGo l) := inferInstanceAs (Decidable (_ ∧ _))
theorem frNx_len {l : List Nat} (h : takeE l = 0) : (frNx l).length + 8 ≤ l.length ∧ (frBody l).length + 8 ≤ l.length ∧ (frNx l).length + ((frBody l).length + 8) = l.length := by
  have hs : sizeE l = 0 := by
    false_or_by_contra
    rename_i h2
    unfold takeE at h
    rw [if_pos h2] at h
    exact h2 h
  have h1 := sizeE_len hs
  have h2 := length_frBody hs
  unfold frNx
  rw [List.length_drop, h2]
  omega

end Go.Proofs.YtjdglpcnkiioeaaGreat
