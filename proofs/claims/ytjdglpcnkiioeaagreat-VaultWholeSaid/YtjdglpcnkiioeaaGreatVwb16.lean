/- Several texts in one: Rb, Rnd for vwhole_law_holds. No conditions but those stated. -/
import Derived.Lib.AppendStr
import Derived.Test.YtjdglpcnkiioeaaGreatVwb15
import Derived.Test.YtjdglpcnkiioeaaGreatVwb11
namespace Go.Proofs.YtjdglpcnkiioeaaGreat
open Go.RowKit Go.Maps Go.Proofs.Own

theorem aJC {w:World} {base:Nat} {e:TypeId} {k:IntKind} {v:Value} {zs:List Int} (h:cO w base e k v zs):∃ a n c,v = .slice a n c:=let ⟨a,c,h⟩:=h.shape;⟨a,_,c,h⟩
theorem aHf (l m:List Nat):ints l ++ ints m = ints (l ++ m):=by simp [ints]


theorem aGN (n:Nat):beN (eC n) = n:=by
  induction n using Nat.strongRecOn with
  | _ n ih =>
    by_cases h:n = 0
    . subst h;rw [iN];rfl
    . rw [gS h,aBO,ih _ (by omega)];omega
theorem aEx {n:Nat} (h:n ≠ 0):eC n ≠ []:=by rw [gS h];simp
theorem aFm (n:Nat) (h:n ≠ 0):(eC n).getD 0 0 ≠ 0:=by
  induction n using Nat.strongRecOn with
  | _ n ih =>
    rw [gS h]
    by_cases h2:n / 256 = 0
    . rw [h2,iN];simp;omega
    . have h3:=ih _ (by omega) h2
      have:=aEx h2
      cases hd:eC (n / 256) with
      | nil=>exact absurd hd this
      | cons x xs=>rw [hd] at h3;simpa using h3
theorem uG (n:Nat) (r:List Nat):cX n ++ r = (eC n).length :: (eC n ++ r):=rfl
theorem xZ (n:Nat) (r:List Nat):aCn (cX n ++ r) = n:=by
  rw [uG]
  unfold aCn
  rw [List.drop_succ_cons,List.drop_zero,List.getD_cons_zero,List.take_left,aGN]
theorem mL {n most:Nat} (r:List Nat) (hn:(n:Int) < 18446744073709551616) (hm:n <= most):kR most (cX n ++ r):=by
  refine ⟨?_,by rw [xZ];exact hm⟩
  have h8:=sJ hn
  rw [uG]
  unfold mK
  rw [List.getD_cons_zero,List.getD_cons_succ,List.length_cons,List.length_append]
  rintro (h | h | ⟨h1,h2⟩)
  . omega
  . omega
  . have hz:n ≠ 0:=by rintro rfl;rw [iN] at h1;exact absurd h1 (by decide)
    have:=aFm n hz
    cases hd:eC n with
    | nil=>exact absurd hd (aEx hz)
    | cons x xs=>rw [hd] at this h2;exact this (by simpa using h2)
theorem fA {n most:Nat} (r:List Nat) (hn:(n:Int) < 18446744073709551616) (hm:n <= most):cW most (cX n ++ r) = n:=by
  unfold cW;rw [if_pos (mL r hn hm),xZ]
theorem eZ {n most:Nat} (r:List Nat) (hn:(n:Int) < 18446744073709551616) (hm:n <= most):dR most (cX n ++ r) = r:=by
  unfold dR;rw [if_pos (mL r hn hm),uG,List.getD_cons_zero,List.drop_succ_cons,List.drop_left]
theorem eY {n most:Nat} (r:List Nat) (hn:(n:Int) < 18446744073709551616) (hm:n <= most):dQ most (cX n ++ r) = false:=by
  unfold dQ;rw [if_pos (mL r hn hm)]
theorem pW {most:Nat} (d r:List Nat) (hd:d.length <= most) (hm:most <= 1000000):cW most (cX d.length ++ (d ++ r)) = d.length /\ dR most (cX d.length ++ (d ++ r)) = d ++ r /\ jB most (cX d.length ++ (d ++ r)):=by
  have h1:=fA (most:=most) (d ++ r) (n:=d.length) (by omega) hd
  have h2:=eZ (most:=most) (d ++ r) (n:=d.length) (by omega) hd
  refine ⟨h1,h2,?_⟩
  unfold jB
  rw [h1,h2,List.length_append];omega
theorem vZ {most:Nat} (d r:List Nat) (hd:d.length <= most) (hm:most <= 1000000):fT most (cX d.length ++ (d ++ r)) = d:=by
  obtain ⟨h1,h2,h3⟩:=pW d r hd hm
  unfold fT;rw [if_pos h3,h1,h2,List.take_left]
theorem vY {most:Nat} (d r:List Nat) (hd:d.length <= most) (hm:most <= 1000000):oQ most (cX d.length ++ (d ++ r)) = r:=by
  obtain ⟨h1,h2,h3⟩:=pW d r hd hm
  unfold oQ;rw [if_pos h3,h1,h2,List.drop_left]
theorem vW {most:Nat} (d r:List Nat) (hd:d.length <= most) (hm:most <= 1000000):nH most (cX d.length ++ (d ++ r)) = false:=by
  obtain ⟨h1,h2,h3⟩:=pW d r hd hm
  unfold nH;rw [if_pos h3,eY (d ++ r) (by omega) hd];rfl
theorem aFP (a b:List Nat):bS (a ++ b) = bS a ++ bS b:=by simp [bS]
theorem aFM {m:Nat} (hm:m <= 1000000):∀ (k:Nat) (ns:List Nat) (r:List Nat),ns.length = k -> (∀ n ∈ ns,n <= m) ->
    memL m k (bS ns ++ r) = r /\ nS m k (bS ns ++ r) = ns.map (fun n:Nat=>(n:Int)) /\ aBd m k (bS ns ++ r) = false:=by
  intro k
  induction k with
  | zero=>intro ns r h _;obtain rfl:ns = []:=List.eq_nil_of_length_eq_zero h;exact ⟨rfl,rfl,rfl⟩
  | succ k ih =>
    intro ns r h hle
    obtain ⟨ms,n,rfl⟩:∃ ms n,ns = ms ++ [n]:=⟨ns.dropLast,ns.getLast (by intro e;subst e;cases h),(List.dropLast_concat_getLast _).symm⟩
    have hk:ms.length = k:=by simpa using h
    have hn:n <= m:=hle n (by simp)
    have e:bS (ms ++ [n]) ++ r = bS ms ++ (cX n ++ r):=by rw [aFP];simp [bS]
    obtain ⟨i1,i2,i3⟩:=ih ms (cX n ++ r) hk fun x hx=>hle x (List.mem_append_left _ hx)
    rw [e]
    refine ⟨?_,?_,?_⟩
    . rw [memL,i1];exact eZ r (by omega) hn
    . rw [nS,i1,i2,fA r (by omega) hn];simp
    . rw [aBd,i1,i3,eY r (by omega) hn];rfl

theorem zX (n:Nat):be3 (n / 65536) (n / 256 % 256) (n % 256) = n:=by unfold be3;omega
theorem pG (k:Nat) (l r:List Nat):∃ s,s = jN ([102,k,l.length / 65536,l.length / 256 % 256,l.length % 256] ++ l) /\
    frP k l ++ r = 102 :: k :: (l.length / 65536) :: (l.length / 256 % 256) :: (l.length % 256) :: (l ++ (s / 65536) :: (s / 256 % 256) :: (s % 256) :: r):=by
  refine ⟨_,rfl,?_⟩
  unfold frP tB
  simp
theorem kV (k:Nat) (l r:List Nat):frN (frP k l ++ r) = l.length:=by
  obtain ⟨s,_,e⟩:=pG k l r
  rw [e]
  exact zX l.length
theorem nP (k:Nat) (l r:List Nat):(frP k l ++ r).getD 1 0 = k:=by
  obtain ⟨s,_,e⟩:=pG k l r
  rw [e];rfl
theorem aCC {k:Nat} {l:List Nat} (r:List Nat) (hk:k ≠ 0) (hl:l.length <= 65536):eG (frP k l ++ r) = 0:=by
  have hN:=kV k l r
  obtain ⟨s,_,e⟩:=pG k l r
  unfold eG
  rw [hN,e,if_neg (by simp),if_neg (by simp),if_neg (by simp),if_neg (by simpa using hk),if_neg (by simp),if_neg (by omega),if_neg (by simp)]
theorem xP (A B:List Nat) (j:Nat):(A ++ B).getD (A.length + j) 0 = B.getD j 0:=by
  rw [List.getD_eq_getElem?_getD,List.getD_eq_getElem?_getD,List.getElem?_append_right (by omega),Nat.add_sub_cancel_left]
theorem kI {k:Nat} {l:List Nat} (r:List Nat) (hk:k ≠ 0) (hl:l.length <= 65536):cK (frP k l ++ r) = 0:=by
  have hN:=kV k l r
  have hS:=aCC (k:=k) (l:=l) r hk hl
  obtain ⟨s,hs,e⟩:=pG k l r
  unfold cK
  rw [if_neg (by simp [hS]),hN,if_pos]
  have e1:(frP k l ++ r).take (l.length + 8) = ([102,k,l.length / 65536,l.length / 256 % 256,l.length % 256] ++ l) ++ [s / 65536,s / 256 % 256,s % 256]:=by
    have:frP k l ++ r = (([102,k,l.length / 65536,l.length / 256 % 256,l.length % 256] ++ l) ++ [s / 65536,s / 256 % 256,s % 256]) ++ r:=by rw [e];simp
    rw [this]
    exact List.take_left' (by simp)
  have hlen:([102,k,l.length / 65536,l.length / 256 % 256,l.length % 256] ++ l).length = l.length + 5:=by simp
  rw [e1]
  unfold lW
  rw [List.take_left' hlen,<- hs]
  have g:∀ j,(([102,k,l.length / 65536,l.length / 256 % 256,l.length % 256] ++ l) ++ [s / 65536,s / 256 % 256,s % 256]).getD (l.length + 5 + j) 0 = [s / 65536,s / 256 % 256,s % 256].getD j 0:=by
    intro j
    rw [<- hlen]
    exact xP _ _ j
  have g0:=g 0
  rw [Nat.add_zero] at g0
  rw [g0,g 1,g 2]
  exact (zX s).symm
theorem fY (k:Nat) (l r:List Nat):aT (frP k l ++ r) = l:=by
  have hN:=kV k l r
  obtain ⟨s,_,e⟩:=pG k l r
  unfold aT
  rw [hN,e]
  have:102 :: k :: (l.length / 65536) :: (l.length / 256 % 256) :: (l.length % 256) :: (l ++ (s / 65536) :: (s / 256 % 256) :: (s % 256) :: r) = [102,k,l.length / 65536,l.length / 256 % 256,l.length % 256] ++ (l ++ ((s / 65536) :: (s / 256 % 256) :: (s % 256) :: r)):=rfl
  rw [this,<- List.append_assoc,List.take_left' (by simp)]
  rfl
theorem dC (k:Nat) (l:List Nat):(frP k l).length = l.length + 8:=by unfold frP;rw [sT];simp
theorem zK {k:Nat} {l:List Nat} (hk:k ≠ 0) (hl:l.length <= 65536):kP (frP k l):=by
  have h1:=kI (k:=k) (l:=l) [] hk hl
  have h2:=kV k l []
  rw [List.append_nil] at h1 h2
  exact ⟨h1,by rw [h2,dC]⟩
theorem aF5 {s:bI} (h:s.ok):(eB s).length <= 65536:=by
  obtain ⟨h1,h2,h3,h4,h5,h6⟩:=h
  have g1:=tY (n:=s.i.toNat) (k:=s.t.toNat) (by rw [Int.toNat_of_nonneg (by omega)];exact Int.lt_trans h2 (by decide)) (by rw [Int.toNat_of_nonneg (by omega)];exact Int.lt_of_le_of_lt h4 (by decide)) s.ms h5.2.1
  have g2:=uD h5 s.ms.length
  rw [List.take_length] at g2
  have g3:=gL (n:=s.d.length) (by omega)
  unfold eB
  simp only [List.length_append]
  omega
theorem aDC {ms:List Int} (h:aDB ms):(ms.map Int.toNat).map (fun n:Nat=>(n:Int)) = ms /\ ∀ n ∈ ms.map Int.toNat,n <= 6:=by
  have hj:∀ x ∈ ms,0 <= x /\ x < 7:=by
    intro x hx
    obtain ⟨j,hj,rfl⟩:=List.mem_iff_getElem.1 hx
    have h1:=uH h.2.2 j hj
    have h2:=(h.2.2 j hj).2
    rw [aB8 hj] at h1 h2
    exact ⟨h1,h2⟩
  refine ⟨?_,?_⟩
  . rw [List.map_map]
    conv=>rhs;rw [<- List.map_id ms]
    exact List.map_congr_left fun x hx=>by have:=hj x hx;show ((x.toNat:Nat):Int) = x;omega
  . intro n hn
    obtain ⟨x,hx,rfl⟩:=List.mem_map.1 hn
    have:=hj x hx
    omega
theorem aFu {m:Nat} (h6:6 <= m) (hm:m <= 7) (s:bI) (h:s.ok):wI m (eB s) = s /\ aG8 m (eB s) = [] /\ aFt m (eB s) = false:=by
  obtain ⟨h1,h2,h3,h4,h5,hd⟩:=h
  obtain ⟨i,t,ms,d⟩:=s
  simp only at h1 h2 h3 h4 h5 hd
  obtain ⟨n,rfl⟩:∃ n:Nat,i = n:=⟨i.toNat,by omega⟩
  obtain ⟨k,rfl⟩:∃ n:Nat,t = n:=⟨t.toNat,by omega⟩
  obtain ⟨hmm,hml⟩:=aDC h5
  have e:eB ⟨n,k,ms,d⟩ = cX n ++ (cX k ++ (cX ms.length ++ (bS (ms.map Int.toNat) ++ (cX d.length ++ (d ++ []))))):=by
    unfold eB
    simp [bS]
  have hn:(n:Int) < 18446744073709551616:=Int.lt_trans h2 (by decide)
  have hk:(k:Int) < 18446744073709551616:=Int.lt_of_le_of_lt h4 (by decide)
  have hn':n <= H59:=by unfold H59;omega
  have hk':k <= H60:=by unfold H60;omega
  have hl7:ms.length <= 7:=h5.2.1
  rw [e]
  have r1:=eZ (most:=H59) (n:=n) (cX k ++ (cX ms.length ++ (bS (ms.map Int.toNat) ++ (cX d.length ++ (d ++ []))))) hn hn'
  have v1:=fA (most:=H59) (n:=n) (cX k ++ (cX ms.length ++ (bS (ms.map Int.toNat) ++ (cX d.length ++ (d ++ []))))) hn hn'
  have b1:=eY (most:=H59) (n:=n) (cX k ++ (cX ms.length ++ (bS (ms.map Int.toNat) ++ (cX d.length ++ (d ++ []))))) hn hn'
  have r2:=eZ (most:=H60) (n:=k) (cX ms.length ++ (bS (ms.map Int.toNat) ++ (cX d.length ++ (d ++ [])))) hk hk'
  have v2:=fA (most:=H60) (n:=k) (cX ms.length ++ (bS (ms.map Int.toNat) ++ (cX d.length ++ (d ++ [])))) hk hk'
  have b2:=eY (most:=H60) (n:=k) (cX ms.length ++ (bS (ms.map Int.toNat) ++ (cX d.length ++ (d ++ [])))) hk hk'
  have r3:=eZ (most:=7) (n:=ms.length) (bS (ms.map Int.toNat) ++ (cX d.length ++ (d ++ []))) (by omega) hl7
  have v3:=fA (most:=7) (n:=ms.length) (bS (ms.map Int.toNat) ++ (cX d.length ++ (d ++ []))) (by omega) hl7
  have b3:=eY (most:=7) (n:=ms.length) (bS (ms.map Int.toNat) ++ (cX d.length ++ (d ++ []))) (by omega) hl7
  obtain ⟨r4,v4,b4⟩:=aFM (m:=m) (by omega) ms.length (ms.map Int.toNat) (cX d.length ++ (d ++ [])) (by simp) (fun x hx=>Nat.le_trans (hml x hx) h6)
  have v5:=vZ (most:=32768) d [] hd (by decide)
  have r5:=vY (most:=32768) d [] hd (by decide)
  have b5:=vW (most:=32768) d [] hd (by decide)
  unfold wI aG8 aFt mE fB mX sZ jA
  rw [r1,v1,b1,r2,v2,b2,r3,v3,b3,r4,v4,b4,v5,r5,b5,hmm]
  exact ⟨rfl,rfl,rfl⟩
theorem yE (m:Nat) (h6:6 <= m) (hm:m <= 7) (s:bI) (h:s.ok):qZ m (frP 4 (eB s)) = true /\ pR m (frP 4 (eB s)) = s:=by
  obtain ⟨g1,g2,g3⟩:=aFu h6 hm s h
  have hb:=fY 4 (eB s) []
  have hk:=nP 4 (eB s) []
  rw [List.append_nil] at hb hk
  have hok:yD m (frP 4 (eB s)):=by
    refine ⟨zK (by decide) (aF5 h),hk,?_,?_⟩
    . rw [hb,g2,g3];rfl
    . rw [hb,g1];exact h
  obtain ⟨e1,e2⟩:=aCt hok
  exact ⟨e1,by rw [e2,hb,g1]⟩
end Go.Proofs.YtjdglpcnkiioeaaGreat
