/- Several texts in one: Sgp. What each proves stands ahead of it; together they serve vbroken_law_holds. No conditions but those stated. -/
import Derived.Lib.Bytealg
import Derived.Test.YtjdglpcnkiioeaaGreatVbb25
namespace Go.Proofs.YtjdglpcnkiioeaaGreat
open Go.RowKit Go.Maps Go.Proofs.Own

theorem hexs_cons : ∀ k n, hexs (k + 1) n = hexC (n / 16 ^ k % 16) :: hexs k n
  | 0, n => by simp [hexs]
  | k + 1, n => by
    show hexs (k + 1) (n / 16) ++ [hexC (n % 16)] = _
    rw [hexs_cons k (n / 16)]
    show hexC (n / 16 / 16 ^ k % 16) :: (hexs k (n / 16) ++ [hexC (n % 16)]) = _
    rw [Nat.div_div_eq_div_mul, show 16 * 16 ^ k = 16 ^ (k + 1) by rw [Nat.pow_succ, Nat.mul_comm]]
    rfl
theorem set_mid (x : Nat) (H : List Nat) : ∀ j, (List.replicate (j + 1) 0 ++ H).set j x = List.replicate j 0 ++ x :: H
  | 0 => rfl
  | j + 1 => by
    show 0 :: (List.replicate (j + 1) 0 ++ H).set j x = _
    rw [set_mid x H j]
    rfl
def nameR (n i : Nat) : List Nat := 76 :: (List.replicate i 0 ++ hexs (15 - i) n)
theorem nameR_set (n i : Nat) (hi : i < 15) : (nameR n (i + 1)).set (i + 1) (hexC (n / 16 ^ (14 - i) % 16)) = nameR n i := by
  unfold nameR
  show 76 :: (List.replicate (i + 1) 0 ++ hexs (15 - (i + 1)) n).set i _ = _
  rw [set_mid, show 15 - (i + 1) = 14 - i by omega, show 15 - i = (14 - i) + 1 by omega, hexs_cons]
theorem nameR_len (n i : Nat) (hi : i <= 15) : (nameR n i).length = 16 := by
  unfold nameR
  simp [length_hexs]
  omega
def sixteenB : List UInt8 := [48, 49, 50, 51, 52, 53, 54, 55, 56, 57, 97, 98, 99, 100, 101, 102]
def hexI (c : Nat) : Int := match hexD c with
  | some d => (d : Int)
  | none => -1
set_option maxRecDepth 100000 in
theorem hexIdx_all : ∀ c : Fin 256, Lib.indexByte sixteenB (UInt8.ofNat c.val) = hexI c.val := by decide
theorem hexIdx (c : Nat) (h : c < 256) : Lib.indexByte sixteenB (UInt8.ofNat c) = hexI c := hexIdx_all ⟨c, h⟩
theorem hexD_lt {c d : Nat} (h : hexD c = some d) : d < 16 := by
  unfold hexD at h
  split at h
  . cases h; omega
  . split at h
    . cases h; omega
    . cases h
theorem hexC_tab (d : Nat) (h : d < 16) : [48, 49, 50, 51, 52, 53, 54, 55, 56, 57, 97, 98, 99, 100, 101, 102].getD d 0 = hexC d := by
  have : ∀ d : Fin 16, [48, 49, 50, 51, 52, 53, 54, 55, 56, 57, 97, 98, 99, 100, 101, 102].getD d.val 0 = hexC d.val := by decide
  exact this ⟨d, h⟩
theorem hexF_take {l : List Nat} {k n : Nat} (h : hexF (l.take k) 0 = some n) (hk : k < l.length) : hexF (l.take (k + 1)) 0 = match hexD l[k] with
    | none => none
    | some d => some (n * 16 + d) := by
  rw [List.take_succ_eq_append_getElem hk, hexF_app, h]
  show (match hexD l[k] with | none => none | some d => hexF [] (n * 16 + d)) = _
  cases hexD l[k] <;> rfl
theorem hexF_lt : ∀ {l : List Nat} {s n : Nat}, hexF l s = some n -> n < (s + 1) * 16 ^ l.length
  | [], s, n, h => by cases h; simp
  | c :: r, s, n, h => by
    have h' : (match hexD c with | none => none | some d => hexF r (s * 16 + d)) = some n := h
    cases e : hexD c with
    | none => rw [e] at h'; cases h'
    | some d =>
      rw [e] at h'
      have h1 := hexF_lt (l := r) h'
      have hd := hexD_lt e
      rw [List.length_cons, Nat.pow_succ]
      have : (s * 16 + d + 1) * 16 ^ r.length <= (s * 16 + 16) * 16 ^ r.length := Nat.mul_le_mul_right _ (by omega)
      have h3 : (s + 1) * (16 ^ r.length * 16) = (s * 16 + 16) * 16 ^ r.length := by
        rw [show s * 16 + 16 = (s + 1) * 16 by omega, Nat.mul_assoc, Nat.mul_comm 16]
      omega
theorem hexF_none {l : List Nat} {k : Nat} (h : hexF (l.take k) 0 = none) : hexF l 0 = none := by
  rw [<- List.take_append_drop k l, hexF_app, h]
  rfl
theorem firstN_no {l : List Nat} (h : ¬ (l.length = 16 /\ l.getD 0 0 = 76)) : firstN l = 0 := by
  unfold firstN
  rw [if_neg h]
end Go.Proofs.YtjdglpcnkiioeaaGreat
