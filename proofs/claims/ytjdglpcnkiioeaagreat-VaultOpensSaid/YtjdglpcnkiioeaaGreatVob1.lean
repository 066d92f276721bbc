/- For vltopens_law_holds. -/
import Derived.WalkKit
namespace Go.Proofs.Own

def turns:Nat:=8801531
def qO (s:Nat):Nat:=(2*s % 16777216) ^^^ (if s / 8388608 % 2=1 then turns else 0)
def qP (s b:Nat):Nat:=(2*s % 16777216) ^^^ (if s / 8388608 % 2≠b then turns else 0)

theorem aC5:turns<2 ^ 24:=by decide
theorem aHY (s:Nat):qO s<16777216:=by
 unfold qO;refine Nat.xor_lt_two_pow (n:=24) (Nat.mod_lt _ (by decide)) ?_;split
 ·exact aC5
 ·decide
theorem aHZ (s b:Nat):qP s b<16777216:=by
 unfold qP;refine Nat.xor_lt_two_pow (n:=24) (Nat.mod_lt _ (by decide)) ?_;split
 ·exact aC5
 ·decide

theorem aC6 (x y:Nat):2*(x ^^^ y)=(2*x) ^^^ (2*y):=by
 have:=Nat.shiftLeft_xor_distrib (a:=x) (b:=y) (i:=1)
 simpa [Nat.shiftLeft_eq,Nat.mul_comm] using this
theorem aJk (x y:Nat):(x ^^^ y) / 8388608 % 2=(x / 8388608 % 2+y / 8388608 % 2) % 2:=by
 have h:=Nat.testBit_xor x y 23;simp only[Nat.testBit_eq_decide_div_mod_eq]at h;have h1:(2:Nat) ^ 23=8388608:=by decide
 rw[h1]at h;rcases Nat.mod_two_eq_zero_or_one (x / 8388608) with hx|hx<;>rcases Nat.mod_two_eq_zero_or_one (y / 8388608) with hy|hy <;>
  rcases Nat.mod_two_eq_zero_or_one ((x ^^^ y) / 8388608) with hz|hz<;>simp[hx,hy,hz]at h ⊢

theorem xlc (a b c:Nat):a ^^^ (b ^^^ c)=b ^^^ (a ^^^ c):=by rw[<- Nat.xor_assoc,Nat.xor_comm a b,Nat.xor_assoc]

theorem aGk (r d:Nat)(_hd:d<256):qO (r ^^^ (d*65536))=qP r (d / 128 % 2) ^^^ ((2*d % 256)*65536):=by
 unfold qO qP;have e1:2*(r ^^^ (d*65536)) % 16777216=(2*r % 16777216) ^^^ ((2*d % 256)*65536):=by
  rw[aC6,show (16777216:Nat)=2 ^ 24 from rfl,Nat.xor_mod_two_pow]
  congr 1
  omega
 have e2:(r ^^^ (d*65536)) / 8388608 % 2=(r / 8388608 % 2+d / 128 % 2) % 2:=by
  rw[aJk]
  congr 2
  omega
 rw[e1,e2];rcases Nat.mod_two_eq_zero_or_one (r / 8388608) with hx|hx<;>rcases Nat.mod_two_eq_zero_or_one (d / 128) with hy|hy <;>
  simp[hx,hy,Nat.xor_comm,xlc]

def turnP:Nat->Nat->Nat
 | 0,s=>s
 | i+1,s=>qO (turnP i s)
def qR (c:Nat):Nat->Nat->Nat
 | 0,s=>s
 | i+1,s=>qP (qR c i s) (c / 2 ^ (7-i) % 2)
theorem aAW (c s:Nat)(hc:c<256):∀i,i<=8->turnP i (s ^^^ (c*65536))=qR c i s ^^^ ((c*2 ^ i % 256)*65536)
 | 0,_=>by simp[turnP,qR,Nat.mod_eq_of_lt hc]
 | i+1,h=>by
  rw[turnP,qR,aAW c s hc i (by omega),aGk _ _ (Nat.mod_lt _ (by decide))];have hi:i=0\/i=1\/i=2\/i=3\/i=4\/i=5\/i=6\/i=7:=by omega
  have f1:c*2 ^ i % 256 / 128 % 2=c / 2 ^ (7-i) % 2:=by
   rcases hi with rfl|rfl|rfl|rfl|rfl|rfl|rfl|rfl<;>simp only[Nat.reducePow,Nat.reduceSub]<;>omega
  have f2:2*(c*2 ^ i % 256) % 256=c*2 ^ (i+1) % 256:=by
   rcases hi with rfl|rfl|rfl|rfl|rfl|rfl|rfl|rfl<;>simp only[Nat.reducePow,Nat.reduceAdd]<;>omega
  rw[f1,f2]
theorem aFb (c s:Nat)(hc:c<256):turnP 8 (s ^^^ (c*65536))=qR c 8 s:=by
 rw[aAW c s hc 8 (by omega)];have:c*2 ^ 8 % 256=0:=by omega
 rw[this];simp
end Go.Proofs.Own
