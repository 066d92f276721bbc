/- For vltopens_law_holds. -/
import Derived.Lib.Bytealg
import Derived.Test.YtjdglpcnkiioeaaGreatVob32
set_option maxHeartbeats 16000000
set_option maxRecDepth 100000
namespace Go.Proofs.YtjdglpcnkiioeaaGreat
open Go.RowKit Go.Maps Go.Proofs.Own

theorem aAs:∀k n,hexs (k+1) n=gZ (n / 16 ^ k % 16)::hexs k n
 | 0,n=>by simp[hexs]
 | k+1,n=>by
  show hexs (k+1) (n / 16) ++ [gZ (n % 16)]=_;rw[aAs k (n / 16)];show gZ (n / 16 / 16 ^ k % 16)::(hexs k (n / 16) ++ [gZ (n % 16)])=_;rw[Nat.div_div_eq_div_mul,show 16*16 ^ k=16 ^ (k+1) by rw[Nat.pow_succ,Nat.mul_comm]];rfl
theorem aEY (x:Nat)(H:List Nat):∀j,(List.replicate (j+1) 0++H).set j x=List.replicate j 0++x::H
 | 0=>rfl
 | j+1=>by
  show 0::(List.replicate (j+1) 0++H).set j x=_;rw[aEY x H j];rfl
def eZ (n i:Nat):List Nat:=76::(List.replicate i 0++hexs (15-i) n)
theorem aAC (n i:Nat)(hi:i<15):(eZ n (i+1)).set (i+1) (gZ (n / 16 ^ (14-i) % 16))=eZ n i:=by
 unfold eZ;show 76::(List.replicate (i+1) 0++hexs (15-(i+1)) n).set i _=_;rw[aEY,show 15-(i+1)=14-i by omega,show 15-i=(14-i)+1 by omega,aAs]
theorem kL (n i:Nat)(hi:i<=15):(eZ n i).length=16:=by
 unfold eZ;simp[jM];omega
def aCS:List UInt8:=[48,49,50,51,52,53,54,55,56,57,97,98,99,100,101,102]
def aCf (c:Nat):Int:=match jX c with
 | some d=>(d:Int)
 | none=>-1
theorem aDH:∀c:Fin 256,Lib.indexByte aCS (UInt8.ofNat c.val)=aCf c.val:=by decide
theorem aJ4 (c:Nat)(h:c<256):Lib.indexByte aCS (UInt8.ofNat c)=aCf c:=aDH ⟨c,h⟩
theorem aEL {c d:Nat}(h:jX c=some d):d<16:=by
 unfold jX at h;split at h
 ·cases h;omega
 ·split at h
  ·cases h;omega
  ·cases h
theorem aHa (d:Nat)(h:d<16):[48,49,50,51,52,53,54,55,56,57,97,98,99,100,101,102].getD d 0=gZ d:=by
 have:∀d:Fin 16,[48,49,50,51,52,53,54,55,56,57,97,98,99,100,101,102].getD d.val 0=gZ d.val:=by decide
 exact this ⟨d,h⟩
theorem aAr {l:List Nat}{k n:Nat}(h:hexF (l.take k) 0=some n)(hk:k<l.length):hexF (l.take (k+1)) 0=match jX l[k] with
  | none=>none
  | some d=>some (n*16+d):=by
 rw[List.take_succ_eq_append_getElem hk,oV,h];show (match jX l[k] with|none=>none|some d=>hexF [] (n*16+d))=_;cases jX l[k]<;>rfl
theorem vQ:∀ {l:List Nat}{s n:Nat},hexF l s=some n->n<(s+1)*16 ^ l.length
 | [],s,n,h=>by cases h;simp
 | c::r,s,n,h=>by
  have h':(match jX c with|none=>none|some d=>hexF r (s*16+d))=some n:=h;cases e:jX c with
  | none=>rw[e]at h';cases h'
  | some d =>
   rw[e]at h';have h1:=vQ (l:=r) h';have hd:=aEL e;rw[List.length_cons,Nat.pow_succ];have:(s*16+d+1)*16 ^ r.length<=(s*16+16)*16 ^ r.length:=Nat.mul_le_mul_right _ (by omega);have h3:(s+1)*(16 ^ r.length*16)=(s*16+16)*16 ^ r.length:=by
    rw[show s*16+16=(s+1)*16 by omega,Nat.mul_assoc,Nat.mul_comm 16]
   omega
theorem aAq {l:List Nat}{k:Nat}(h:hexF (l.take k) 0=none):hexF l 0=none:=by
 rw[<- List.take_append_drop k l,oV,h];rfl
theorem aAj {l:List Nat}(h:¬(l.length=16/\l.getD 0 0=76)):bB l=0:=by
 unfold bB;rw[if_neg h]
