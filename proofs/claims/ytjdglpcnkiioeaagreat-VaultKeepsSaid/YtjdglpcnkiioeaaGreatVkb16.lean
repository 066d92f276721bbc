/- Several texts in one: Rb, Rnd for vltkeeps_law_holds. No conditions but those stated. -/
import Derived.Lib.AppendStr
import Derived.Test.YtjdglpcnkiioeaaGreatVkb15
import Derived.Test.YtjdglpcnkiioeaaGreatVkb11
namespace Go.Proofs.YtjdglpcnkiioeaaGreat
open Go.RowKit Go.Maps Go.Proofs.Own

theorem aKh {w:World} {base:Nat} {e:TypeId} {k:IntKind} {v:Value} {zs:List Int} (h:cL w base e k v zs):∃ a n c,v = .slice a n c:=let ⟨a,c,h⟩:=h.shape;⟨a,_,c,h⟩
theorem aHQ (l m:List Nat):ints l ++ ints m = ints (l ++ m):=by simp [ints]


theorem aHk (n:Nat):beN (eD n) = n:=by
 induction n using Nat.strongRecOn with
 | _ n ih =>
  by_cases h:n = 0
  ·subst h;rw [iY];rfl
  ·rw [hO h,aCc,ih _ (by omega)];omega
theorem aE6 {n:Nat} (h:n ≠ 0):eD n ≠ []:=by rw [hO h];simp
theorem aFV (n:Nat) (h:n ≠ 0):(eD n).getD 0 0 ≠ 0:=by
 induction n using Nat.strongRecOn with
 | _ n ih =>
  rw [hO h]
  by_cases h2:n / 256 = 0
  ·rw [h2,iY];simp;omega
  ·have h3:=ih _ (by omega) h2
   have:=aE6 h2
   cases hd:eD (n / 256) with
   | nil=>exact absurd hd this
   | cons x xs=>rw [hd] at h3;simpa using h3
theorem uV (n:Nat) (r:List Nat):cZ n ++ r = (eD n).length :: (eD n ++ r):=rfl
theorem yT (n:Nat) (r:List Nat):aCN (cZ n ++ r) = n:=by
 rw [uV]
 unfold aCN
 rw [List.drop_succ_cons,List.drop_zero,List.getD_cons_zero,List.take_left,aHk]
theorem mS {n most:Nat} (r:List Nat) (hn:(n:Int) < 18446744073709551616) (hm:n <= most):lA most (cZ n ++ r):=by
 refine ⟨?_,by rw [yT];exact hm⟩
 have h8:=tC hn
 rw [uV]
 unfold mR
 rw [List.getD_cons_zero,List.getD_cons_succ,List.length_cons,List.length_append]
 rintro (h | h | ⟨h1,h2⟩)
 ·omega
 ·omega
 ·have hz:n ≠ 0:=by rintro rfl;rw [iY] at h1;exact absurd h1 (by decide)
  have:=aFV n hz
  cases hd:eD n with
  | nil=>exact absurd hd (aE6 hz)
  | cons x xs=>rw [hd] at this h2;exact this (by simpa using h2)
theorem eZ {n most:Nat} (r:List Nat) (hn:(n:Int) < 18446744073709551616) (hm:n <= most):cY most (cZ n ++ r) = n:=by
 unfold cY;rw [if_pos (mS r hn hm),yT]
theorem eY {n most:Nat} (r:List Nat) (hn:(n:Int) < 18446744073709551616) (hm:n <= most):dR most (cZ n ++ r) = r:=by
 unfold dR;rw [if_pos (mS r hn hm),uV,List.getD_cons_zero,List.drop_succ_cons,List.drop_left]
theorem eX {n most:Nat} (r:List Nat) (hn:(n:Int) < 18446744073709551616) (hm:n <= most):dQ most (cZ n ++ r) = false:=by
 unfold dQ;rw [if_pos (mS r hn hm)]
theorem qD {most:Nat} (d r:List Nat) (hd:d.length <= most) (hm:most <= 1000000):cY most (cZ d.length ++ (d ++ r)) = d.length /\ dR most (cZ d.length ++ (d ++ r)) = d ++ r /\ jM most (cZ d.length ++ (d ++ r)):=by
 have h1:=eZ (most:=most) (d ++ r) (n:=d.length) (by omega) hd
 have h2:=eY (most:=most) (d ++ r) (n:=d.length) (by omega) hd
 refine ⟨h1,h2,?_⟩
 unfold jM
 rw [h1,h2,List.length_append];omega
theorem wT {most:Nat} (d r:List Nat) (hd:d.length <= most) (hm:most <= 1000000):fV most (cZ d.length ++ (d ++ r)) = d:=by
 obtain ⟨h1,h2,h3⟩:=qD d r hd hm
 unfold fV;rw [if_pos h3,h1,h2,List.take_left]
theorem wS {most:Nat} (d r:List Nat) (hd:d.length <= most) (hm:most <= 1000000):oX most (cZ d.length ++ (d ++ r)) = r:=by
 obtain ⟨h1,h2,h3⟩:=qD d r hd hm
 unfold oX;rw [if_pos h3,h1,h2,List.drop_left]
theorem wR {most:Nat} (d r:List Nat) (hd:d.length <= most) (hm:most <= 1000000):nO most (cZ d.length ++ (d ++ r)) = false:=by
 obtain ⟨h1,h2,h3⟩:=qD d r hd hm
 unfold nO;rw [if_pos h3,eX (d ++ r) (by omega) hd];rfl
theorem aGs (a b:List Nat):bV (a ++ b) = bV a ++ bV b:=by simp [bV]
theorem aGo {m:Nat} (hm:m <= 1000000):∀ (k:Nat) (ns:List Nat) (r:List Nat),ns.length = k -> (∀ n ∈ ns,n <= m) ->
  memL m k (bV ns ++ r) = r /\ oA m k (bV ns ++ r) = ns.map (fun n:Nat=>(n:Int)) /\ aBB m k (bV ns ++ r) = false:=by
 intro k
 induction k with
 | zero=>intro ns r h _;obtain rfl:ns = []:=List.eq_nil_of_length_eq_zero h;exact ⟨rfl,rfl,rfl⟩
 | succ k ih =>
  intro ns r h hle
  obtain ⟨ms,n,rfl⟩:∃ ms n,ns = ms ++ [n]:=⟨ns.dropLast,ns.getLast (by intro e;subst e;cases h),(List.dropLast_concat_getLast _).symm⟩
  have hk:ms.length = k:=by simpa using h
  have hn:n <= m:=hle n (by simp)
  have e:bV (ms ++ [n]) ++ r = bV ms ++ (cZ n ++ r):=by rw [aGs];simp [bV]
  obtain ⟨i1,i2,i3⟩:=ih ms (cZ n ++ r) hk fun x hx=>hle x (List.mem_append_left _ hx)
  rw [e]
  refine ⟨?_,?_,?_⟩
  ·rw [memL,i1];exact eY r (by omega) hn
  ·rw [oA,i1,i2,eZ r (by omega) hn];simp
  ·rw [aBB,i1,i3,eX r (by omega) hn];rfl

theorem aAu (n:Nat):be3 (n / 65536) (n / 256 % 256) (n % 256) = n:=by unfold be3;omega
theorem pM (k:Nat) (l r:List Nat):∃ s,s = jZ ([102,k,l.length / 65536,l.length / 256 % 256,l.length % 256] ++ l) /\
  frP k l ++ r = 102 :: k :: (l.length / 65536) :: (l.length / 256 % 256) :: (l.length % 256) :: (l ++ (s / 65536) :: (s / 256 % 256) :: (s % 256) :: r):=by
 refine ⟨_,rfl,?_⟩
 unfold frP tS
 simp
theorem lD (k:Nat) (l r:List Nat):frN (frP k l ++ r) = l.length:=by
 obtain ⟨s,_,e⟩:=pM k l r
 rw [e]
 exact aAu l.length
theorem nX (k:Nat) (l r:List Nat):(frP k l ++ r).getD 1 0 = k:=by
 obtain ⟨s,_,e⟩:=pM k l r
 rw [e];rfl
theorem aC4 {k:Nat} {l:List Nat} (r:List Nat) (hk:k ≠ 0) (hl:l.length <= 65536):eJ (frP k l ++ r) = 0:=by
 have hN:=lD k l r
 obtain ⟨s,_,e⟩:=pM k l r
 unfold eJ
 rw [hN,e,if_neg (by simp),if_neg (by simp),if_neg (by simp),if_neg (by simpa using hk),if_neg (by simp),if_neg (by omega),if_neg (by simp)]
theorem yJ (A B:List Nat) (j:Nat):(A ++ B).getD (A.length + j) 0 = B.getD j 0:=by
 rw [List.getD_eq_getElem?_getD,List.getD_eq_getElem?_getD,List.getElem?_append_right (by omega),Nat.add_sub_cancel_left]
theorem kR {k:Nat} {l:List Nat} (r:List Nat) (hk:k ≠ 0) (hl:l.length <= 65536):cP (frP k l ++ r) = 0:=by
 have hN:=lD k l r
 have hS:=aC4 (k:=k) (l:=l) r hk hl
 obtain ⟨s,hs,e⟩:=pM k l r
 unfold cP
 rw [if_neg (by simp [hS]),hN,if_pos]
 have e1:(frP k l ++ r).take (l.length + 8) = ([102,k,l.length / 65536,l.length / 256 % 256,l.length % 256] ++ l) ++ [s / 65536,s / 256 % 256,s % 256]:=by
  have:frP k l ++ r = (([102,k,l.length / 65536,l.length / 256 % 256,l.length % 256] ++ l) ++ [s / 65536,s / 256 % 256,s % 256]) ++ r:=by rw [e];simp
  rw [this]
  exact List.take_left' (by simp)
 have hlen:([102,k,l.length / 65536,l.length / 256 % 256,l.length % 256] ++ l).length = l.length + 5:=by simp
 rw [e1]
 unfold mE
 rw [List.take_left' hlen,<- hs]
 have g:∀ j,(([102,k,l.length / 65536,l.length / 256 % 256,l.length % 256] ++ l) ++ [s / 65536,s / 256 % 256,s % 256]).getD (l.length + 5 + j) 0 = [s / 65536,s / 256 % 256,s % 256].getD j 0:=by
  intro j
  rw [<- hlen]
  exact yJ _ _ j
 have g0:=g 0
 rw [Nat.add_zero] at g0
 rw [g0,g 1,g 2]
 exact (aAu s).symm
theorem gB (k:Nat) (l r:List Nat):aU (frP k l ++ r) = l:=by
 have hN:=lD k l r
 obtain ⟨s,_,e⟩:=pM k l r
 unfold aU
 rw [hN,e]
 have:102 :: k :: (l.length / 65536) :: (l.length / 256 % 256) :: (l.length % 256) :: (l ++ (s / 65536) :: (s / 256 % 256) :: (s % 256) :: r) = [102,k,l.length / 65536,l.length / 256 % 256,l.length % 256] ++ (l ++ ((s / 65536) :: (s / 256 % 256) :: (s % 256) :: r)):=rfl
 rw [this,<- List.append_assoc,List.take_left' (by simp)]
 rfl
theorem dE (k:Nat) (l:List Nat):(frP k l).length = l.length + 8:=by unfold frP;rw [tJ];simp
theorem aAj {k:Nat} {l:List Nat} (hk:k ≠ 0) (hl:l.length <= 65536):kY (frP k l):=by
 have h1:=kR (k:=k) (l:=l) [] hk hl
 have h2:=lD k l []
 rw [List.append_nil] at h1 h2
 exact ⟨h1,by rw [h2,dE]⟩
theorem aGI {s:aZ} (h:s.ok):(eC s).length <= 65536:=by
 obtain ⟨h1,h2,h3,h4,h5,h6⟩:=h
 have g1:=uM (n:=s.i.toNat) (k:=s.t.toNat) (by rw [Int.toNat_of_nonneg (by omega)];exact Int.lt_trans h2 (by decide)) (by rw [Int.toNat_of_nonneg (by omega)];exact Int.lt_of_le_of_lt h4 (by decide)) s.ms h5.2.1
 have g2:=uS h5 s.ms.length
 rw [List.take_length] at g2
 have g3:=gU (n:=s.d.length) (by omega)
 unfold eC
 simp only [List.length_append]
 omega
theorem aEa {ms:List Int} (h:aD9 ms):(ms.map Int.toNat).map (fun n:Nat=>(n:Int)) = ms /\ ∀ n ∈ ms.map Int.toNat,n <= 6:=by
 have hj:∀ x ∈ ms,0 <= x /\ x < 7:=by
  intro x hx
  obtain ⟨j,hj,rfl⟩:=List.mem_iff_getElem.1 hx
  have h1:=uW h.2.2 j hj
  have h2:=(h.2.2 j hj).2
  rw [aCv hj] at h1 h2
  exact ⟨h1,h2⟩
 refine ⟨?_,?_⟩
 ·rw [List.map_map]
  conv=>rhs;rw [<- List.map_id ms]
  exact List.map_congr_left fun x hx=>by have:=hj x hx;show ((x.toNat:Nat):Int) = x;omega
 ·intro n hn
  obtain ⟨x,hx,rfl⟩:=List.mem_map.1 hn
  have:=hj x hx
  omega
theorem aF3 {m:Nat} (h6:6 <= m) (hm:m <= 7) (s:aZ) (h:s.ok):xB m (eC s) = s /\ aHJ m (eC s) = [] /\ aF2 m (eC s) = false:=by
 obtain ⟨h1,h2,h3,h4,h5,hd⟩:=h
 obtain ⟨i,t,ms,d⟩:=s
 simp only at h1 h2 h3 h4 h5 hd
 obtain ⟨n,rfl⟩:∃ n:Nat,i = n:=⟨i.toNat,by omega⟩
 obtain ⟨k,rfl⟩:∃ n:Nat,t = n:=⟨t.toNat,by omega⟩
 obtain ⟨hmm,hml⟩:=aEa h5
 have e:eC ⟨n,k,ms,d⟩ = cZ n ++ (cZ k ++ (cZ ms.length ++ (bV (ms.map Int.toNat) ++ (cZ d.length ++ (d ++ []))))):=by
  unfold eC
  simp [bV]
 have hn:(n:Int) < 18446744073709551616:=Int.lt_trans h2 (by decide)
 have hk:(k:Int) < 18446744073709551616:=Int.lt_of_le_of_lt h4 (by decide)
 have hn':n <= H59:=by unfold H59;omega
 have hk':k <= H60:=by unfold H60;omega
 have hl7:ms.length <= 7:=h5.2.1
 rw [e]
 have r1:=eY (most:=H59) (n:=n) (cZ k ++ (cZ ms.length ++ (bV (ms.map Int.toNat) ++ (cZ d.length ++ (d ++ []))))) hn hn'
 have v1:=eZ (most:=H59) (n:=n) (cZ k ++ (cZ ms.length ++ (bV (ms.map Int.toNat) ++ (cZ d.length ++ (d ++ []))))) hn hn'
 have b1:=eX (most:=H59) (n:=n) (cZ k ++ (cZ ms.length ++ (bV (ms.map Int.toNat) ++ (cZ d.length ++ (d ++ []))))) hn hn'
 have r2:=eY (most:=H60) (n:=k) (cZ ms.length ++ (bV (ms.map Int.toNat) ++ (cZ d.length ++ (d ++ [])))) hk hk'
 have v2:=eZ (most:=H60) (n:=k) (cZ ms.length ++ (bV (ms.map Int.toNat) ++ (cZ d.length ++ (d ++ [])))) hk hk'
 have b2:=eX (most:=H60) (n:=k) (cZ ms.length ++ (bV (ms.map Int.toNat) ++ (cZ d.length ++ (d ++ [])))) hk hk'
 have r3:=eY (most:=7) (n:=ms.length) (bV (ms.map Int.toNat) ++ (cZ d.length ++ (d ++ []))) (by omega) hl7
 have v3:=eZ (most:=7) (n:=ms.length) (bV (ms.map Int.toNat) ++ (cZ d.length ++ (d ++ []))) (by omega) hl7
 have b3:=eX (most:=7) (n:=ms.length) (bV (ms.map Int.toNat) ++ (cZ d.length ++ (d ++ []))) (by omega) hl7
 obtain ⟨r4,v4,b4⟩:=aGo (m:=m) (by omega) ms.length (ms.map Int.toNat) (cZ d.length ++ (d ++ [])) (by simp) (fun x hx=>Nat.le_trans (hml x hx) h6)
 have v5:=wT (most:=32768) d [] hd (by decide)
 have r5:=wS (most:=32768) d [] hd (by decide)
 have b5:=wR (most:=32768) d [] hd (by decide)
 unfold xB aHJ aF2 mK fA nE tQ jL
 rw [r1,v1,b1,r2,v2,b2,r3,v3,b3,r4,v4,b4,v5,r5,b5,hmm]
 exact ⟨rfl,rfl,rfl⟩
theorem zA (m:Nat) (h6:6 <= m) (hm:m <= 7) (s:aZ) (h:s.ok):rH m (frP 4 (eC s)) = true /\ pX m (frP 4 (eC s)) = s:=by
 obtain ⟨g1,g2,g3⟩:=aF3 h6 hm s h
 have hb:=gB 4 (eC s) []
 have hk:=nX 4 (eC s) []
 rw [List.append_nil] at hb hk
 have hok:yZ m (frP 4 (eC s)):=by
  refine ⟨aAj (by decide) (aGI h),hk,?_,?_⟩
  ·rw [hb,g2,g3];rfl
  ·rw [hb,g1];exact h
 obtain ⟨e1,e2⟩:=aCU hok
 exact ⟨e1,by rw [e2,hb,g1]⟩
end Go.Proofs.YtjdglpcnkiioeaaGreat
