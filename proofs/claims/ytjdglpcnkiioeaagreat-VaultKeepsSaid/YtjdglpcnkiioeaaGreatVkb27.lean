/- Several texts in one: Sgp for vltkeeps_law_holds. No conditions but those stated. -/
import Derived.Lib.Bytealg
import Derived.Test.YtjdglpcnkiioeaaGreatVkb25
namespace Go.Proofs.YtjdglpcnkiioeaaGreat
open Go.RowKit Go.Maps Go.Proofs.Own

theorem aAI:∀ k n,hexs (k + 1) n = lQ (n / 16 ^ k % 16) :: hexs k n
 | 0,n=>by simp [hexs]
 | k + 1,n=>by
  show hexs (k + 1) (n / 16) ++ [lQ (n % 16)] = _
  rw [aAI k (n / 16)]
  show lQ (n / 16 / 16 ^ k % 16) :: (hexs k (n / 16) ++ [lQ (n % 16)]) = _
  rw [Nat.div_div_eq_div_mul,show 16 * 16 ^ k = 16 ^ (k + 1) by rw [Nat.pow_succ,Nat.mul_comm]]
  rfl
theorem aFm (x:Nat) (H:List Nat):∀ j,(List.replicate (j + 1) 0 ++ H).set j x = List.replicate j 0 ++ x :: H
 | 0=>rfl
 | j + 1=>by
  show 0 :: (List.replicate (j + 1) 0 ++ H).set j x = _
  rw [aFm x H j]
  rfl
def kP (n i:Nat):List Nat:=76 :: (List.replicate i 0 ++ hexs (15 - i) n)
theorem aGp (n i:Nat) (hi:i < 15):(kP n (i + 1)).set (i + 1) (lQ (n / 16 ^ (14 - i) % 16)) = kP n i:=by
 unfold kP
 show 76 :: (List.replicate (i + 1) 0 ++ hexs (15 - (i + 1)) n).set i _ = _
 rw [aFm,show 15 - (i + 1) = 14 - i by omega,show 15 - i = (14 - i) + 1 by omega,aAI]
theorem uT (n i:Nat) (hi:i <= 15):(kP n i).length = 16:=by
 unfold kP
 simp [kM]
 omega
def aC3:List UInt8:=[48,49,50,51,52,53,54,55,56,57,97,98,99,100,101,102]
def aCz (c:Nat):Int:=match pP c with
 | some d=>(d:Int)
 | none=>-1
set_option maxRecDepth 100000 in
theorem aD1:∀ c:Fin 256,Lib.indexByte aC3 (UInt8.ofNat c.val) = aCz c.val:=by decide
theorem aJ8 (c:Nat) (h:c < 256):Lib.indexByte aC3 (UInt8.ofNat c) = aCz c:=aD1 ⟨c,h⟩
theorem aFb {c d:Nat} (h:pP c = some d):d < 16:=by
 unfold pP at h
 split at h
 ·cases h;omega
 ·split at h
  ·cases h;omega
  ·cases h
theorem aHN (d:Nat) (h:d < 16):[48,49,50,51,52,53,54,55,56,57,97,98,99,100,101,102].getD d 0 = lQ d:=by
 have:∀ d:Fin 16,[48,49,50,51,52,53,54,55,56,57,97,98,99,100,101,102].getD d.val 0 = lQ d.val:=by decide
 exact this ⟨d,h⟩
theorem aGe {l:List Nat} {k n:Nat} (h:hexF (l.take k) 0 = some n) (hk:k < l.length):hexF (l.take (k + 1)) 0 = match pP l[k] with
  | none=>none
  | some d=>some (n * 16 + d):=by
 rw [List.take_succ_eq_append_getElem hk,tF,h]
 show (match pP l[k] with | none=>none | some d=>hexF [] (n * 16 + d)) = _
 cases pP l[k] <;> rfl
theorem aBq:∀ {l:List Nat} {s n:Nat},hexF l s = some n -> n < (s + 1) * 16 ^ l.length
 | [],s,n,h=>by cases h;simp
 | c :: r,s,n,h=>by
  have h':(match pP c with | none=>none | some d=>hexF r (s * 16 + d)) = some n:=h
  cases e:pP c with
  | none=>rw [e] at h';cases h'
  | some d =>
   rw [e] at h'
   have h1:=aBq (l:=r) h'
   have hd:=aFb e
   rw [List.length_cons,Nat.pow_succ]
   have:(s * 16 + d + 1) * 16 ^ r.length <= (s * 16 + 16) * 16 ^ r.length:=Nat.mul_le_mul_right _ (by omega)
   have h3:(s + 1) * (16 ^ r.length * 16) = (s * 16 + 16) * 16 ^ r.length:=by
    rw [show s * 16 + 16 = (s + 1) * 16 by omega,Nat.mul_assoc,Nat.mul_comm 16]
   omega
theorem aGd {l:List Nat} {k:Nat} (h:hexF (l.take k) 0 = none):hexF l 0 = none:=by
 rw [<- List.take_append_drop k l,tF,h]
 rfl
theorem aF0 {l:List Nat} (h:¬ (l.length = 16 /\ l.getD 0 0 = 76)):bS l = 0:=by
 unfold bS
 rw [if_neg h]
end Go.Proofs.YtjdglpcnkiioeaaGreat
