/- Several texts in one: Vl0, Pg, Vq, Vr, Vt, Wm, Vu, Wi, Wj, Wk, Wn, Wo, Vy, Vz for vwhole_law_holds. No conditions but those stated. -/
import Derived.Test.YtjdglpcnkiioeaaGreatVwb25
import Derived.Test.YtjdglpcnkiioeaaGreatVwb21
import Derived.Test.YtjdglpcnkiioeaaGreatVwb16
import Derived.Test.YtjdglpcnkiioeaaGreatVwb26
namespace Go.Proofs.YtjdglpcnkiioeaaGreat
open Go.RowKit Go.Maps Go.Proofs.Own Go.Shelf

theorem rK (k:Nat) (l r:List Nat):nM (frP k l ++ r) = r:=by
  unfold nM
  rw [kV,<- dC k l,List.drop_left]
def jE (t m:Nat):List Nat:=frP 3 (bS [t,m])
theorem aET {t m:Nat} (ht:t <= 1152921504606846976) (hm:m <= 7):∀ x ∈ [t,m],(x:Int) < 18446744073709551616:=by
  intro x hx
  simp only [List.mem_cons,List.not_mem_nil,or_false] at hx
  rcases hx with rfl | rfl <;> omega
theorem tM {t m:Nat} (ht:t <= 1152921504606846976) (hm:m <= 7):(bS [t,m]).length <= 18:=by
  have:=iS [t,m] (aET ht hm)
  simpa using this
theorem zD {t m:Nat} (ht:t <= 1152921504606846976) (hm:m <= 7):(jE t m).length <= 26 /\ 8 <= (jE t m).length:=by
  have:=tM ht hm
  unfold jE
  rw [dC]
  omega
theorem aGv {t m:Nat} (r:List Nat) (ht:t <= 1152921504606846976) (hm:m <= 7) :
    vGo (jE t m ++ r) /\ vT (jE t m ++ r) = t /\ vV (jE t m ++ r) = m /\ nM (jE t m ++ r) = r /\ (aT (jE t m ++ r)).length + 8 = (jE t m).length:=by
  have hl:=tM ht hm
  have hb:aT (jE t m ++ r) = cX t ++ (cX m ++ []):=by
    unfold jE
    rw [fY]
    simp [bS]
  have ht':(t:Int) < 18446744073709551616:=by omega
  have hm':(m:Int) < 18446744073709551616:=by omega
  have h1:dR H60 (aT (jE t m ++ r)) = cX m ++ []:=by rw [hb];exact eZ _ ht' ht
  refine ⟨⟨kI r (by decide) (by omega),nP 3 _ r,?_⟩,?_,?_,rK _ _ _,?_⟩
  . unfold vE
    rw [h1,hb,eZ [] hm' hm,eY (most:=H60) _ ht' ht,eY [] hm' hm]
    rfl
  . unfold vT
    rw [hb]
    exact fA _ ht' ht
  . unfold vV
    rw [h1]
    exact fA _ hm' hm
  . unfold jE
    rw [fY,dC]
theorem aCg {t m:Nat} (r:List Nat) (n:Nat) (s:lU) (ht:t <= 1152921504606846976) (hm:m <= 7) :
    lastF (n + 1) (jE t m ++ r) s = lastF n r ⟨t,(m:Int) - 1,s.g + (jE t m).length⟩:=by
  obtain ⟨h1,h2,h3,h4,h5⟩:=aGv r ht hm
  rw [aCe h1,h2,h3,h4,Nat.add_assoc,h5]
theorem aAp (n:Nat) (s:lU):lastF n [] s = s:=sR (fun h=>by have:=h.1;revert this;decide) n s

structure bV where
  t:Int
  k:Int
  d:List Nat
def bV.ok (e:bV):Prop:=1 <= e.t /\ e.t <= 1152921504606846976 /\ 1 <= e.k /\ e.k <= 3 /\ e.d.length <= 4096
instance (e:bV):Decidable e.ok:=inferInstanceAs (Decidable (_ /\ _))
def M64:Nat:=18446744073709551615
def kE (i:Nat) (e:bV):List Nat:=bS [i,e.t.toNat,e.k.toNat] ++ (cX e.d.length ++ e.d)
def dZ (i:Nat) (e:bV):List Nat:=frP 2 (kE i e)
def dF (n:Nat):List Nat:=frP 1 (cX n)
def linesW (i:Nat):List bV -> List Nat
  | []=>[]
  | e :: es=>dZ i e ++ linesW (i + 1) es
def hdV (l:List Nat):Nat:=cW H60 (aT l)
def hdE (l:List Nat):Nat:=oV (dR H60 (aT l)) (dQ H60 (aT l))
def aB9 (l:List Nat):Prop:=cK l = 0 /\ l.getD 1 0 = 1 /\ hdE l = 0 /\ hdV l ≠ 0
instance (l:List Nat):Decidable (aB9 l):=inferInstanceAs (Decidable (_ /\ _))
def aHp (l:List Nat):List Nat:=dR M64 (aT l)
def aHq (l:List Nat):List Nat:=dR H60 (aHp l)
def aHr (l:List Nat):List Nat:=dR 3 (aHq l)
def lnI (l:List Nat):Nat:=cW M64 (aT l)
def lnX (l:List Nat):bV:=⟨cW H60 (aHp l),cW 3 (aHq l),fT 4096 (aHr l)⟩
def lnE (l:List Nat):Nat:=oV (oQ 4096 (aHr l)) (((dQ M64 (aT l) || dQ H60 (aHp l)) || dQ 3 (aHq l)) || nH 4096 (aHr l))
def zQ (i:Nat) (l:List Nat):Prop:=cK l = 0 /\ l.getD 1 0 = 2 /\ lnE l = 0 /\ lnI l = i /\ (lnX l).ok
instance (i:Nat) (l:List Nat):Decidable (zQ i l):=inferInstanceAs (Decidable (_ /\ _))
structure oU where
  f:Nat
  es:List bV
  g:Nat
def segF:Nat -> List Nat -> oU -> oU
  | 0,_,s=>s
  | n + 1,l,s =>
    if s.f = 0 then (if aB9 l then segF n (nM l) ⟨hdV l,s.es,s.g + (aT l).length + 8⟩ else s)
    else (if zQ (s.f + s.es.length) l then segF n (nM l) ⟨s.f,s.es ++ [lnX l],s.g + (aT l).length + 8⟩ else s)
def fL (l:List Nat):oU:=segF l.length l ⟨0,[],0⟩
theorem tC {l:List Nat} {s:oU} (h0:s.f = 0 -> ¬ aB9 l) (h1:s.f ≠ 0 -> ¬ zQ (s.f + s.es.length) l) (n:Nat):segF n l s = s:=by
  cases n with
  | zero=>rfl
  | succ n =>
    unfold segF
    by_cases h:s.f = 0
    . rw [if_pos h,if_neg (h0 h)]
    . rw [if_neg h,if_neg (h1 h)]
theorem uQ {l:List Nat} {s:oU} (h:cK l ≠ 0) (n:Nat):segF n l s = s:=tC (fun _ g=>h g.1) (fun _ g=>h g.1) n
theorem uO {l:List Nat} {s:oU} (h0:s.f = 0) (h:aB9 l) (n:Nat):segF (n + 1) l s = segF n (nM l) ⟨hdV l,s.es,s.g + (aT l).length + 8⟩:=by
  show (if s.f = 0 then _ else _) = _
  rw [if_pos h0,if_pos h]
theorem uP {l:List Nat} {s:oU} (h0:s.f ≠ 0) (h:zQ (s.f + s.es.length) l) (n:Nat):segF (n + 1) l s = segF n (nM l) ⟨s.f,s.es ++ [lnX l],s.g + (aT l).length + 8⟩:=by
  show (if s.f = 0 then _ else _) = _
  rw [if_neg h0,if_pos h]
theorem aJV {n:Nat} (h:n <= M64):(n:Int) < 18446744073709551616:=by unfold M64 at h;omega
theorem aDs {n:Nat} (r:List Nat) (h1:1 <= n) (h2:n <= 1152921504606846976):aB9 (dF n ++ r) /\ hdV (dF n ++ r) = n /\ nM (dF n ++ r) = r /\ (aT (dF n ++ r)).length + 8 = (dF n).length:=by
  have hn:(n:Int) < 18446744073709551616:=by omega
  have hb:aT (dF n ++ r) = cX n ++ []:=by unfold dF;rw [fY,List.append_nil]
  have hl:=gL hn
  have hv:hdV (dF n ++ r) = n:=by unfold hdV;rw [hb];exact fA _ hn h2
  refine ⟨⟨kI r (by decide) (by omega),nP 1 _ r,?_,by rw [hv];omega⟩,hv,rK _ _ _,by unfold dF;rw [fY,dC]⟩
  unfold hdE
  rw [hb,eZ (most:=H60) [] hn h2,eY (most:=H60) [] hn h2]
  rfl
theorem aAq {i:Nat} {e:bV} (hi:i <= M64) (h:e.ok):(kE i e).length <= 4132:=by
  obtain ⟨h1,h2,h3,h4,h5⟩:=h
  have a:=iS [i,e.t.toNat,e.k.toNat] (by
    intro x hx
    simp only [List.mem_cons,List.not_mem_nil,or_false] at hx
    rcases hx with rfl | rfl | rfl
    . exact aJV hi
    . omega
    . omega)
  have b:=gL (n:=e.d.length) (by omega)
  unfold kE
  rw [List.length_append,List.length_append]
  simp at a
  omega
theorem aFK {i:Nat} {e:bV} (hi:i <= M64) (h:e.ok):(dZ i e).length <= 4140 /\ 8 <= (dZ i e).length:=by
  have:=aAq hi h
  unfold dZ
  rw [dC]
  omega
theorem aDy {i:Nat} {e:bV} (r:List Nat) (hi:i <= M64) (h:e.ok):zQ i (dZ i e ++ r) /\ lnX (dZ i e ++ r) = e /\ nM (dZ i e ++ r) = r /\ (aT (dZ i e ++ r)).length + 8 = (dZ i e).length:=by
  have hl:=aAq hi h
  have hok:=h
  obtain ⟨h1,h2,h3,h4,h5⟩:=h
  have hb:aT (dZ i e ++ r) = cX i ++ (cX e.t.toNat ++ (cX e.k.toNat ++ (cX e.d.length ++ (e.d ++ [])))):=by
    unfold dZ
    rw [fY]
    simp [kE,bS]
  have i64:=aJV hi
  have t64:(e.t.toNat:Int) < 18446744073709551616:=by omega
  have k64:(e.k.toNat:Int) < 18446744073709551616:=by omega
  have t60:e.t.toNat <= H60:=by unfold H60;omega
  have k3:e.k.toNat <= 3:=by omega
  have r1:aHp (dZ i e ++ r) = cX e.t.toNat ++ (cX e.k.toNat ++ (cX e.d.length ++ (e.d ++ []))):=by unfold aHp;rw [hb];exact eZ _ i64 hi
  have r2:aHq (dZ i e ++ r) = cX e.k.toNat ++ (cX e.d.length ++ (e.d ++ [])):=by unfold aHq;rw [r1];exact eZ _ t64 t60
  have r3:aHr (dZ i e ++ r) = cX e.d.length ++ (e.d ++ []):=by unfold aHr;rw [r2];exact eZ _ k64 k3
  have hx:lnX (dZ i e ++ r) = e:=by
    unfold lnX
    rw [r1,r2,r3,fA _ t64 t60,fA _ k64 k3,vZ e.d [] h5 (by decide)]
    obtain ⟨t,k,d⟩:=e
    simp only at h1 h3 ⊢
    rw [show ((t.toNat:Nat):Int) = t by omega,show ((k.toNat:Nat):Int) = k by omega]
  refine ⟨⟨kI r (by decide) (by omega),nP 2 _ r,?_,?_,by rw [hx];exact hok⟩,hx,rK _ _ _,by unfold dZ;rw [fY,dC]⟩
  . unfold lnE
    rw [r1,r2,r3,hb,eY _ i64 hi,eY _ t64 t60,eY _ k64 k3,vW e.d [] h5 (by decide),vY e.d [] h5 (by decide)]
    rfl
  . unfold lnI
    rw [hb]
    exact fA _ i64 hi
theorem yL {f:Nat} (hf:f ≠ 0):∀ (ms es:List bV) (r:List Nat) (n g:Nat),(∀ e ∈ ms,e.ok) -> f + es.length + ms.length <= M64 -> (linesW (f + es.length) ms ++ r).length <= n ->
    ∃ m,r.length <= m /\ segF n (linesW (f + es.length) ms ++ r) ⟨f,es,g⟩ = segF m r ⟨f,es ++ ms,g + (linesW (f + es.length) ms).length⟩
  | [],es,r,n,g,_,_,hn=>⟨n,hn,by simp [linesW]⟩
  | e :: ms,es,r,n,g,hok,hb,hn=>by
    have he:=hok e (List.mem_cons_self ..)
    have hi:f + es.length <= M64:=by simp only [List.length_cons] at hb;omega
    obtain ⟨g1,g2,g3,g4⟩:=aDy (i:=f + es.length) (linesW (f + es.length + 1) ms ++ r) hi he
    have h8:=(aFK hi he).2
    have hcat:linesW (f + es.length) (e :: ms) ++ r = dZ (f + es.length) e ++ (linesW (f + es.length + 1) ms ++ r):=by
      show (dZ (f + es.length) e ++ linesW (f + es.length + 1) ms) ++ r = _
      rw [List.append_assoc]
    rw [hcat] at hn ⊢
    obtain ⟨j,hj⟩:∃ j,n = j + 1:=⟨n - 1,by rw [List.length_append] at hn;omega⟩
    subst hj
    have hl1:f + (es ++ [e]).length = f + es.length + 1:=by rw [List.length_append];rfl
    obtain ⟨m,h1,h2⟩:=yL hf ms (es ++ [e]) r j (g + (dZ (f + es.length) e).length) (fun x hx=>hok x (List.mem_cons_of_mem _ hx)) (by rw [hl1];simp only [List.length_cons] at hb;omega) (by rw [hl1];rw [List.length_append] at hn;omega)
    rw [hl1] at h2
    refine ⟨m,h1,?_⟩
    rw [uP (s:=⟨f,es,g⟩) hf g1 j,g2,g3]
    have hg:g + (aT (dZ (f + es.length) e ++ (linesW (f + es.length + 1) ms ++ r))).length + 8 = g + (dZ (f + es.length) e).length:=by omega
    simp only
    rw [hg,h2]
    have hlen:(linesW (f + es.length) (e :: ms)).length = (dZ (f + es.length) e).length + (linesW (f + es.length + 1) ms).length:=by
      show (dZ (f + es.length) e ++ linesW (f + es.length + 1) ms).length = _
      rw [List.length_append]
    rw [hlen,List.append_assoc,List.singleton_append,Nat.add_assoc]
def cF (f:Nat) (es:List bV):List Nat:=dF f ++ linesW f es
theorem aF4 {f:Nat} {es:List bV} (hf:1 <= f) (hf2:f <= 1152921504606846976) (hok:∀ e ∈ es,e.ok) (hb:f + es.length <= M64) (r:List Nat) :
    ∃ m,r.length <= m /\ fL (cF f es ++ r) = segF m r ⟨f,es,(cF f es).length⟩:=by
  obtain ⟨g1,g2,g3,g4⟩:=aDs (linesW f es ++ r) hf hf2
  have hcat:cF f es ++ r = dF f ++ (linesW f es ++ r):=by unfold cF;rw [List.append_assoc]
  have hl:8 <= (dF f).length:=by unfold dF;rw [dC];omega
  unfold fL
  rw [hcat]
  obtain ⟨j,hj⟩:∃ j,(dF f ++ (linesW f es ++ r)).length = j + 1:=⟨(dF f ++ (linesW f es ++ r)).length - 1,by rw [List.length_append];omega⟩
  rw [hj,uO (s:=⟨0,[],0⟩) rfl g1 j,g2,g3]
  have hg:0 + (aT (dF f ++ (linesW f es ++ r))).length + 8 = (dF f).length:=by omega
  simp only
  rw [hg]
  obtain ⟨m,h1,h2⟩:=yL (f:=f) (by omega) es [] r j (dF f).length hok (by simpa using hb) (by rw [List.length_append] at hj;simp only [List.length_nil,Nat.add_zero];omega)
  simp only [List.length_nil,Nat.add_zero,List.nil_append] at h2
  refine ⟨m,h1,?_⟩
  rw [h2]
  unfold cF
  rw [List.length_append]
theorem aF2 {f:Nat} {es:List bV} (hf:1 <= f) (hf2:f <= 1152921504606846976) (hok:∀ e ∈ es,e.ok) (hb:f + es.length <= M64) {R:List Nat} (hR:cK R ≠ 0):fL (cF f es ++ R) = ⟨f,es,(cF f es).length⟩:=by
  obtain ⟨m,_,h⟩:=aF4 hf hf2 hok hb R
  rw [h,uQ hR]
end Go.Proofs.YtjdglpcnkiioeaaGreat
namespace Go.Proofs.YtjdglpcnkiioeaaGreat
open Go.RowKit Go.Maps Go.Proofs.Own

def Good (l:List Nat) (t v:Int):Prop :=
  ∀ n r g0,(l ++ r).length <= n -> ∃ m,r.length <= m /\ lastF n (l ++ r) ⟨0,-1,g0⟩ = lastF m r ⟨t,v,g0 + l.length⟩
theorem Good.nil:Good [] 0 (-1):=fun n _ _ h=>⟨n,h,rfl⟩
theorem Good.snoc {l:List Nat} {t v:Int} (h:Good l t v) {a m:Nat} (ha:a <= 1152921504606846976) (hm:m <= 7):Good (l ++ jE a m) a ((m:Int) - 1):=by
  intro n r g0 hn
  have h8:=(zD ha hm).2
  obtain ⟨k,h1,h2⟩:=h n (jE a m ++ r) g0 (by rw [<- List.append_assoc];exact hn)
  rw [List.length_append] at h1
  obtain ⟨j,hj⟩:∃ j,k = j + 1:=⟨k - 1,by omega⟩
  refine ⟨j,by omega,?_⟩
  rw [List.append_assoc,h2,hj,aCg r j _ ha hm,List.length_append,Nat.add_assoc]
theorem Good.last {l:List Nat} {t v:Int} (h:Good l t v):fV l = ⟨t,v,l.length⟩:=by
  obtain ⟨m,_,h2⟩:=h l.length [] 0 (by rw [List.append_nil];exact Nat.le_refl _)
  rw [List.append_nil,aAp,Nat.zero_add] at h2
  exact h2
theorem Good.stop {l R:List Nat} {t v:Int} (h:Good l t v) (hR:cK R ≠ 0):fV (l ++ R) = ⟨t,v,l.length⟩:=by
  obtain ⟨m,_,h2⟩:=h (l ++ R).length R 0 (Nat.le_refl _)
  rw [sR (fun g=>hR g.1),Nat.zero_add] at h2
  exact h2
theorem Good.aKr {l:List Nat} {t v:Int} (h:Good l t v) {a m:Nat} (ha:a <= 1152921504606846976) (hm:m <= 7) (x:Nat × Nat) :
    cN (jE a m) x = jE a m \/ fV (l ++ cN (jE a m) x) = ⟨t,v,l.length⟩:=by
  by_cases he:cK (cN (jE a m) x) = 0
  . refine .inl (aD3 (by decide) (by have:=tM ha hm;omega) ?_ x he)
    intro c hc
    unfold frP at hc
    refine yJ ?_ c hc
    intro c hc
    have hl:=tM ha hm
    rcases List.mem_append.1 hc with hc | hc
    . simp only [List.mem_cons,List.not_mem_nil,or_false] at hc
      rcases hc with rfl | rfl | rfl | rfl | rfl <;> omega
    . exact pN [a,m] (aET ha hm) c hc
  . exact .inr (h.stop he)

theorem fH {n:ByteArray} {g:aJ} {L:List aJ} (h:g.name = n):aC n (g :: L) = some g:=by
  unfold aC
  rw [List.find?_cons_of_pos (by simpa using h)]
theorem eS {n:ByteArray} {g:aJ} {L:List aJ} (h:¬ g.name = n):aC n (g :: L) = aC n L:=by
  unfold aC
  rw [List.find?_cons_of_neg (by simpa using h)]
theorem vL {n:ByteArray} {f:aJ} (h:¬ f.name = n):∀ L,aC n (insFile f L) = aC n L
  | []=>eS h
  | g :: r=>by
    unfold insFile
    split
    . exact eS h
    . by_cases hg:g.name = n
      . rw [fH hg,fH hg]
      . rw [eS hg,eS hg,vL h r]
theorem vK {n:ByteArray} {f:aJ} (h:f.name = n):∀ L,(∀ g ∈ L,¬ g.name = n) -> aC n (insFile f L) = some f
  | [],_=>fH h
  | g :: r,hd=>by
    unfold insFile
    split
    . exact fH h
    . rw [eS (hd g List.mem_cons_self)]
      exact vK h r fun x hx=>hd x (List.mem_cons_of_mem _ hx)
theorem tV {n:ByteArray} {L:List aJ} (h:∀ g ∈ L,¬ g.name = n):aC n L = none:=by
  unfold aC
  rw [List.find?_eq_none]
  intro g hg
  simpa using h g hg
theorem vJ (n:ByteArray) (L:List aJ):aC n (bG n L) = none:=tV fun _g hg=>(mB.1 hg).2
theorem iP {n m:ByteArray} (h:¬ m = n):∀ L,aC n (bG m L) = aC n L
  | []=>rfl
  | g :: r=>by
    have ih:=iP h r
    unfold bG at ih ⊢
    by_cases hg:g.name = m
    . rw [List.filter_cons_of_neg (by simp [hg]),ih,eS (by rw [hg];exact h)]
    . rw [List.filter_cons_of_pos (by simp [hg])]
      by_cases hn:g.name = n
      . rw [fH hn,fH hn]
      . rw [eS hn,eS hn,ih]
theorem iQ (f:aJ) (L:List aJ):aC f.name (bL f L) = some f:=vK rfl _ fun _g hg=>(mB.1 hg).2
theorem iR {n:ByteArray} {f:aJ} (h:¬ f.name = n) (L:List aJ):aC n (bL f L) = aC n L:=(vL h _).trans (iP h L)

theorem iM {f g:aJ} {ts:List (Nat × Nat)} (h:g ∈ cP f ts):g.name = f.name:=by
  unfold cP at h
  split at h
  . split at h
    . cases h
    . obtain rfl:=List.mem_singleton.1 h;rfl
  . split at h
    . cases h
    . obtain rfl:=List.mem_singleton.1 h;rfl
theorem pC {g:aJ}:∀ {L:List aJ} {ts:List (Nat × Nat)},g ∈ crashL L ts -> ∃ f ∈ L,g.name = f.name
  | [],_,h=>by cases h
  | f :: r,ts,h=>by
    rcases List.mem_append.1 h with h | h
    . exact ⟨f,List.mem_cons_self,iM h⟩
    . obtain ⟨x,h1,h2⟩:=pC h
      exact ⟨x,List.mem_cons_of_mem _ h1,h2⟩
theorem zO {n:ByteArray} {A B:List aJ} (h:∀ g ∈ A,¬ g.name = n):aC n (A ++ B) = aC n B:=by
  unfold aC
  rw [List.find?_append,List.find?_eq_none.2 (fun g hg=>by simpa using h g hg)]
  rfl
theorem rJ (n:ByteArray):∀ (L:List aJ) (ts:List (Nat × Nat)),L.Pairwise (fun a b=>¬ b.name = a.name) -> ∃ us,aC n (crashL L ts) = (aC n L).bind fun f=>(cP f us).head?
  | [],ts,_=>⟨[],rfl⟩
  | f :: r,ts,hp=>by
    obtain ⟨h1,h2⟩:=List.pairwise_cons.1 hp
    by_cases hn:f.name = n
    . refine ⟨ts,?_⟩
      rw [fH hn]
      show aC n (cP f ts ++ crashL r (kN f ts)) = (cP f ts).head?
      match e:cP f ts with
      | [] =>
        rw [List.nil_append]
        refine tV fun g hg=>?_
        obtain ⟨x,hx,e2⟩:=pC hg
        rw [e2,<- hn]
        exact h1 x hx
      | g :: t =>
        have hg:g.name = n:=(iM (f:=f) (ts:=ts) (by rw [e];exact List.mem_cons_self)).trans hn
        exact fH hg
    . obtain ⟨us,hu⟩:=rJ n r (kN f ts) h2
      refine ⟨us,?_⟩
      rw [eS hn,<- hu]
      exact zO fun g hg=>by rw [iM hg];exact hn
theorem aZ.apart {L:List aJ} (h:aZ L):L.Pairwise (fun a b=>¬ b.name = a.name):=h.imp fun hl=>(mZ hl).symm
theorem xQ {D:aA} {n:ByteArray} {l F:List Nat} (ts:List (Nat × Nat)) (hr:aZ D.files) (hf:bR D n = ⟨n,l ++ F,l.length⟩) :
    ∃ x,bR (cE D ts) n = ⟨n,l ++ (if F = [] then [] else cN F x),(l ++ (if F = [] then [] else cN F x)).length⟩:=by
  obtain ⟨us,hu⟩:=rJ n D.files ts hr.apart
  refine ⟨us.headD (0,0),?_⟩
  have hu':aC n (cE D ts).files = (aC n D.files).bind fun f=>(cP f us).head?:=hu
  cases e:aC n D.files with
  | none =>
    rw [fF e] at hf
    have h1:l ++ F = []:=(aJ.mk.inj hf).2.1.symm
    obtain ⟨rfl,rfl⟩:=List.append_eq_nil_iff.1 h1
    rw [e] at hu'
    rw [fF hu']
    rfl
  | some f =>
    rw [dA e] at hf
    subst hf
    rw [e] at hu'
    have hu2:aC n (cE D ts).files = (cP ⟨n,l ++ F,l.length⟩ us).head?:=hu'
    by_cases hF:F = []
    . subst hF
      rw [if_pos rfl]
      rw [List.append_nil] at hu2 ⊢
      unfold cP at hu2
      rw [if_neg (Nat.lt_irrefl _)] at hu2
      by_cases hl:l = []
      . subst hl
        rw [if_pos rfl] at hu2
        rw [fF hu2]
        rfl
      . rw [if_neg hl] at hu2
        exact dA hu2
    . rw [if_neg hF]
      have hp:0 < F.length:=List.length_pos_iff.2 hF
      unfold cP at hu2
      simp only [List.length_append,List.take_left',List.drop_left'] at hu2
      rw [if_pos (by omega)] at hu2
      by_cases hn:l ++ cN F (us.headD (0,0)) = []
      . rw [if_pos hn] at hu2
        rw [fF hu2,hn]
        rfl
      . rw [if_neg hn] at hu2
        rw [dA hu2]
        simp

def Calm (D:aA):Prop:=D.down = false /\ D.armed = -1
theorem Calm.step {D:aA} (h:Calm D) (L:List aJ):Calm { bO D with files:=L }:=by
  unfold Calm bO
  rw [if_neg (by rw [h.2];decide),if_neg (by rw [h.2];decide)]
  exact h
theorem fI {D D':aA} {n:ByteArray} (h:aC n D'.files = aC n D.files):bR D' n = bR D n:=by unfold bR;rw [h]
theorem aBg:¬ bY = bN:=by decide
theorem aFy {D:aA} (h:Calm D):(bX D bY).2 = 0 /\ Calm (bX D bY).1 /\ bR (bX D bY).1 bN = bR D bN:=by
  cases e:aC bY D.files with
  | none =>
    have h31:bE D bY = 31:=by unfold bE;rw [if_neg (by rw [h.1];decide),if_pos e]
    have hr:removeD D bY = (D,31):=by unfold removeD;rw [e];simp only;rw [h31]
    unfold bX
    rw [hr]
    exact ⟨rfl,h,rfl⟩
  | some f =>
    have hr:removeD D bY = ({ bO D with files:=bG bY D.files },0):=by
      unfold removeD
      rw [e]
      simp only
      rw [if_neg (by rw [h.1];decide),if_neg (by rw [h.2];decide)]
    unfold bX
    rw [hr]
    exact ⟨rfl,h.step _,fI (iP aBg _)⟩
theorem aAD {D:aA} (h:Calm D) {n:ByteArray} {f:aJ} (hf:aC n D.files = some f):(syncD D n).2 = 0 /\ Calm (syncD D n).1 /\ bR (syncD D n).1 n = ⟨n,f.all,f.all.length⟩:=by
  obtain ⟨hn,_⟩:=cD hf
  subst hn
  have hr:syncD D f.name = ({ bO D with files:=bL { f with kept:=f.all.length } D.files },0):=by
    unfold syncD
    rw [hf]
    simp only
    rw [if_neg (by rw [h.1];decide),if_neg (by rw [h.2];decide)]
  rw [hr]
  exact ⟨rfl,h.step _,dA (iQ { f with kept:=f.all.length } D.files)⟩
theorem aGT {D:aA} (h:Calm D) {n:ByteArray} {f:aJ} (hf:aC n D.files = some f) (k:Nat) (hk:k <= f.all.length) :
    (cutD D n k).2 = 0 /\ Calm (cutD D n k).1 /\ aC n (cutD D n k).1.files = some ⟨n,f.all.take k,min f.kept k⟩:=by
  obtain ⟨hn,_⟩:=cD hf
  subst hn
  have hr:cutD D f.name k = ({ bO D with files:=bL ⟨f.name,f.all.take k,min f.kept k⟩ D.files },0):=by
    unfold cutD
    rw [hf]
    simp only
    rw [if_neg (by rw [h.1];decide),if_neg (by omega),if_neg (by rw [h.2];decide),Int.toNat_natCast]
  rw [hr]
  exact ⟨rfl,h.step _,iQ ⟨f.name,f.all.take k,min f.kept k⟩ D.files⟩

def iL (D:aA) (t v:Int):Prop:=∃ l,bR D bN = ⟨bN,l,l.length⟩ /\ Good l t v
theorem uI {D:aA} (h:Calm D) {l X:List Nat} {t v:Int} (hl:Good l t v) (hf:bR D bN = ⟨bN,l ++ X,(l ++ X).length⟩) (hX:fV (l ++ X) = ⟨t,v,l.length⟩) :
    (dH D).2 = 0 /\ (eA D).t = t /\ (eA D).v = v /\ Calm (dH D).1 /\ iL (dH D).1 t v:=by
  obtain ⟨g1,g2,g3⟩:=aFy h
  unfold dH eA
  rw [if_neg (by rw [g1];decide)]
  generalize (bX D bY).1 = E at *
  rw [hf] at g3
  cases e:aC bN E.files with
  | none =>
    have h31:bE E bN = 31:=by unfold bE;rw [if_neg (by rw [g2.1];decide),if_pos e]
    rw [fF e] at g3
    have h1:l ++ X = []:=(aJ.mk.inj g3).2.1.symm
    obtain ⟨rfl,rfl⟩:=List.append_eq_nil_iff.1 h1
    have h0:fV ([]:List Nat) = ⟨0,-1,0⟩:=aAp _ _
    rw [List.append_nil,h0] at hX
    obtain ⟨rfl,rfl,_⟩:=lU.mk.inj hX
    unfold eH gX
    rw [if_pos h31,if_pos h31]
    exact ⟨rfl,rfl,rfl,g2,[],fF e,Good.nil⟩
  | some f =>
    have hE0:bE E bN = 0:=by unfold bE;rw [if_neg (by rw [g2.1];decide),if_neg (by rw [e];simp)]
    have hG:=g3
    rw [dA e] at hG
    subst hG
    have hS:gX E = ⟨t,v,l.length⟩:=by
      unfold gX
      rw [hE0,if_neg (by decide),if_neg (by decide),g3]
      exact hX
    have hD:eH E = if (eD E).2 ≠ 0 then eD E else syncD (eD E).1 bN:=by
      unfold eH
      rw [hE0,if_neg (by decide),if_neg (by decide)]
    have hD1:eD E = if l.length < (l ++ X).length then cutD E bN l.length else (E,0):=by
      unfold eD
      rw [g3,hX]
    rw [hS]
    refine ⟨?_,rfl,rfl,?_⟩
    all_goals
      rw [hD,hD1]
      by_cases hlt:l.length < (l ++ X).length
      . rw [if_pos hlt]
        obtain ⟨c1,c2,c3⟩:=aGT g2 e l.length (Nat.le_of_lt hlt)
        rw [if_neg (by rw [c1];decide)]
        obtain ⟨s1,s2,s3⟩:=aAD c2 c3
        simp only [List.take_left'] at s3
        first | exact s1 | exact ⟨s2,l,s3,hl⟩
      . rw [if_neg hlt,if_neg (fun g=>g rfl)]
        have hX0:X = []:=by
          rw [List.length_append] at hlt
          exact List.length_eq_zero_iff.1 (by omega)
        subst hX0
        obtain ⟨s1,s2,s3⟩:=aAD g2 e
        rw [List.append_nil] at s3
        first | exact s1 | exact ⟨s2,l,s3,hl⟩
end Go.Proofs.YtjdglpcnkiioeaaGreat
namespace Go.Proofs.YtjdglpcnkiioeaaGreat
open Go.RowKit Go.Maps Go.Proofs.Own Go.Shelf

structure WF where
  f:Nat
  m:Nat
  s:Nat
structure aK where
  b:Nat
  es:List bV
  fs:List WF
  safe:Nat
def aK.last (L:aK):Nat:=L.b + L.es.length
def lZ (n:Nat):Nat:=(((H59:Int) - n) % 18446744073709551616).toNat
def popW (D:aA) (L:aK):aA × aK × Nat :=
  match L.fs.getLast? with
  | none=>(D,L,0)
  | some f=>if (removeD D (aH f.f)).2 ≠ 0 then ((removeD D (aH f.f)).1,L,(removeD D (aH f.f)).2)
    else ((removeD D (aH f.f)).1,⟨L.b,L.es.take (L.es.length - f.m),L.fs.dropLast,min L.safe (L.es.length - f.m)⟩,0)
def resetF (base:Nat):Nat -> aA -> aK -> aA × aK × Nat
  | 0,D,_=>(D,⟨base,[],[],0⟩,0)
  | n + 1,D,L=>if L.fs = [] then (D,⟨base,[],[],0⟩,0) else if (popW D L).2.2 ≠ 0 then popW D L else resetF base n (popW D L).1 (popW D L).2.1
def bH (D:aA) (L:aK) (base:Nat):aA × aK × Nat:=if H59 <= base then (D,L,2) else resetF base L.fs.length D L
def bJ (D:aA) (L:aK):aA × aK × Nat :=
  if L.safe = L.es.length then (D,L,0) else match L.fs.getLast? with
    | none=>(D,L,0)
    | some f=>if (syncD D (aH f.f)).2 ≠ 0 then ((syncD D (aH f.f)).1,L,(syncD D (aH f.f)).2) else ((syncD D (aH f.f)).1,{ L with safe:=L.es.length },0)
def zM (D:aA) (L:aK) (f:WF) (ms:List bV):aA × aK × Nat :=
  if (aW D (aH f.f) (linesW (L.last + 1) ms)).2 ≠ 0 then ((aW D (aH f.f) (linesW (L.last + 1) ms)).1,L,(aW D (aH f.f) (linesW (L.last + 1) ms)).2)
  else ((aW D (aH f.f) (linesW (L.last + 1) ms)).1,⟨L.b,L.es ++ ms,L.fs.dropLast ++ [⟨f.f,f.m + ms.length,f.s + (linesW (L.last + 1) ms).length⟩],L.safe⟩,0)
def nA (D:aA) (L:aK) (ms:List bV):aA × aK × Nat :=
  if (bJ D L).2.2 ≠ 0 then bJ D L
  else if (aW (bJ D L).1 (aH (L.last + 1)) (cF (L.last + 1) ms)).2 ≠ 0 then ((aW (bJ D L).1 (aH (L.last + 1)) (cF (L.last + 1) ms)).1,(bJ D L).2.1,(aW (bJ D L).1 (aH (L.last + 1)) (cF (L.last + 1) ms)).2)
  else ((aW (bJ D L).1 (aH (L.last + 1)) (cF (L.last + 1) ms)).1,⟨L.b,L.es ++ ms,L.fs ++ [⟨L.last + 1,ms.length,(cF (L.last + 1) ms).length⟩],(bJ D L).2.1.safe⟩,0)
def aP (D:aA) (L:aK) (ms:List bV):aA × aK × Nat :=
  if ¬ (∀ e ∈ ms,e.ok) then (D,L,2) else if lZ L.last < ms.length then (D,L,10) else if ms = [] then (D,L,0)
  else match L.fs.getLast? with
    | none=>nA D L ms
    | some f=>if f.s < 1024 then zM D L f ms else nA D L ms
def eR (frm:Nat):Nat -> aA -> aK -> aA × aK × Nat
  | 0,D,L=>(D,L,0)
  | n + 1,D,L=>match L.fs.getLast? with
    | none=>(D,L,0)
    | some f=>if f.f < frm then (D,L,0) else if (popW D L).2.2 ≠ 0 then popW D L else eR frm n (popW D L).1 (popW D L).2.1
def rI (D:aA) (L:aK) (frm:Nat):aA × aK × Nat :=
  match L.fs.getLast? with
  | none=>(D,L,0)
  | some f =>
    let size:=(dF f.f).length + (linesW f.f ((L.es.drop (f.f - L.b - 1)).take (frm - f.f))).length
    if (cutD D (aH f.f) size).2 ≠ 0 then ((cutD D (aH f.f) size).1,L,(cutD D (aH f.f) size).2)
    else ((cutD D (aH f.f) size).1,⟨L.b,L.es.take (frm - L.b - 1),L.fs.dropLast ++ [⟨f.f,frm - f.f,size⟩],min L.safe (frm - L.b - 1)⟩,0)
def fW (D:aA) (L:aK) (frm:Nat):aA × aK × Nat :=
  if frm <= L.b \/ L.last + 1 < frm then (D,L,2)
  else if (eR frm L.fs.length D L).2.2 ≠ 0 then eR frm L.fs.length D L
  else if (eR frm L.fs.length D L).2.1.last < frm then ((eR frm L.fs.length D L).1,(eR frm L.fs.length D L).2.1,0)
  else rI (eR frm L.fs.length D L).1 (eR frm L.fs.length D L).2.1 frm
def dropF (upto:Nat):Nat -> aA -> aK -> aA × aK × Nat
  | 0,D,L=>(D,L,0)
  | n + 1,D,L=>match L.fs with
    | f :: g :: r=>if g.f <= upto + 1 then
        (if (removeD D (aH f.f)).2 ≠ 0 then ((removeD D (aH f.f)).1,L,(removeD D (aH f.f)).2)
         else dropF upto n (removeD D (aH f.f)).1 ⟨L.b + f.m,L.es.drop f.m,g :: r,L.safe - f.m⟩)
      else (D,L,0)
    | _=>(D,L,0)
def eF (D:aA) (L:aK) (upto:Nat):aA × aK × Nat:=if L.last < upto then (D,L,2) else dropF upto L.fs.length D L
def eM (L:aK) (first:Nat) (b:List Nat) (last:Bool):Bool × aK × Nat :=
  if (fL b).f ≠ first /\ last = true then (false,L,0)
  else if (fL b).f ≠ first \/ (last = false /\ (fL b).g ≠ b.length) \/ (L.fs ≠ [] /\ first ≠ L.last + 1) then (true,L,20)
  else (true,⟨if L.fs = [] then first - 1 else L.b,L.es ++ (fL b).es,L.fs ++ [⟨first,(fL b).es.length,(fL b).g⟩],L.safe⟩,0)
def loadW:List ByteArray -> aA -> aK -> aA × aK × Nat
  | [],D,L=>(D,L,0)
  | n :: r,D,L =>
    if bE D n ≠ 0 then (D,L,bE D n)
    else if (eM L (bQ (bD n)) (bR D n).all (decide (r = []))).1 = false then
      (if (removeD D n).2 ≠ 0 then ((removeD D n).1,(eM L (bQ (bD n)) (bR D n).all (decide (r = []))).2.1,(removeD D n).2)
       else loadW r (removeD D n).1 (eM L (bQ (bD n)) (bR D n).all (decide (r = []))).2.1)
    else if (eM L (bQ (bD n)) (bR D n).all (decide (r = []))).2.2 ≠ 0 then (D,(eM L (bQ (bD n)) (bR D n).all (decide (r = []))).2.1,(eM L (bQ (bD n)) (bR D n).all (decide (r = []))).2.2)
    else loadW r D (eM L (bQ (bD n)) (bR D n).all (decide (r = []))).2.1
def bP (D:aA) (L:aK):aA × Nat :=
  match L.fs.getLast? with
  | none=>(D,0)
  | some f =>
    if bE D (aH f.f) ≠ 0 then (D,bE D (aH f.f))
    else if f.s < (bR D (aH f.f)).all.length then
      (if (cutD D (aH f.f) f.s).2 ≠ 0 then cutD D (aH f.f) f.s else syncD (cutD D (aH f.f) f.s).1 (aH f.f))
    else syncD D (aH f.f)
def isW (f:aJ):Bool:=decide (bQ (bD f.name) ≠ 0)
def dK (D:aA):List aJ:=D.files.filter isW
def dP (D:aA):List ByteArray:=(dK D).map (·.name)
def iG (D:aA) (L:aK) (base:Nat):aA × Option aK × Nat :=
  let r:=if L.fs = [] \/ L.last < base then bH D L base else (D,L,0)
  if r.2.2 ≠ 0 then (r.1,none,r.2.2) else if base < r.2.1.b then (r.1,none,20) else (r.1,some { r.2.1 with safe:=r.2.1.es.length },0)
def pO (D:aA) (L:aK) (base:Nat):aA × Option aK × Nat :=
  if (bP D L).2 ≠ 0 then ((bP D L).1,none,(bP D L).2) else iG (bP D L).1 L base
def fD (D:aA) (base:Nat):aA × Option aK × Nat :=
  if D.down = true then (D,none,50) else if H59 <= base then (D,none,2)
  else if (loadW (dP D) D ⟨0,[],[],0⟩).2.2 ≠ 0 then ((loadW (dP D) D ⟨0,[],[],0⟩).1,none,(loadW (dP D) D ⟨0,[],[],0⟩).2.2)
  else pO (loadW (dP D) D ⟨0,[],[],0⟩).1 (loadW (dP D) D ⟨0,[],[],0⟩).2.1 base
theorem lI (n:ByteArray) (L:List aJ):(bG n L).filter isW = bG n (L.filter isW):=by
  unfold bG
  rw [List.filter_filter,List.filter_filter]
  congr 1
  funext g
  exact Bool.and_comm _ _
theorem qR {f:aJ} (h:isW f = false):∀ L,(insFile f L).filter isW = L.filter isW
  | []=>by simp [insFile,h]
  | g :: r=>by
    unfold insFile
    split
    . simp [h]
    . simp [List.filter_cons,qR h r]
end Go.Proofs.YtjdglpcnkiioeaaGreat
namespace Go.Proofs.YtjdglpcnkiioeaaGreat
open Go.RowKit Go.Maps Go.Proofs.Own

theorem fZ {D:aA} (hd:D.down = false):(bO D).down = true ↔ D.armed = 0:=by
  unfold bO
  by_cases h:D.armed = 0
  . rw [if_pos h];simp [h]
  . rw [if_neg h]
    split <;> simp [h,hd]
theorem gO {D:aA} (hd:D.down = false) (ha:¬ D.armed = 0):(bO D).down = false:=by
  have:=(not_congr (fZ hd)).2 ha
  simpa using this
structure aJc (n:ByteArray) (r:aA × Nat) (l b:List Nat):Prop where
  ok:r.2 = 0 -> r.1.down = false /\ bR r.1 n = ⟨n,l ++ b,(l ++ b).length⟩
  no:r.2 ≠ 0 -> r.1.down = false -> bR r.1 n = ⟨n,l,l.length⟩
  gone:r.1.down = true -> bR r.1 n = ⟨n,l,l.length⟩ \/ bR r.1 n = ⟨n,l ++ b,l.length⟩
theorem zI {n:ByteArray} {D:aA} (hd:D.down = false) {l:List Nat} (hf:bR D n = ⟨n,l,l.length⟩) (b:List Nat):aJc n (eV D n b) l b:=by
  unfold eV aW
  by_cases ha:rG D n b ≠ 0
  . rw [if_pos ha,if_pos ha]
    refine ⟨fun h=>absurd h ha,fun _ _=>hf,fun h=>?_⟩
    simp only [hd] at h;cases h
  . rw [if_neg ha]
    have hdn:(hU D n b).down = false:=hd
    have har:(hU D n b).armed = D.armed:=rfl
    have hfd:aC n (bO (hU D n b)).files = some ⟨n,l ++ b,l.length⟩:=by
      rw [bB]
      unfold hU
      rw [hf]
      exact iQ ⟨n,l ++ b,l.length⟩ D.files
    by_cases h0:D.armed = 0
    . have he:fK D = 50:=if_pos h0
      have hdw:(bO (hU D n b)).down = true:=(fZ hdn).2 (har.trans h0)
      rw [he,if_pos (by simp)]
      refine ⟨fun h=>?_,fun _ h=>?_,fun _=>Or.inr (dA hfd)⟩
      . simp at h
      . simp only [hdw] at h;cases h
    . have he:fK D = 0:=if_neg h0
      rw [he,if_neg (by simp)]
      have hup:(bO (hU D n b)).down = false:=gO hdn (by rw [har];exact h0)
      generalize bO (hU D n b) = E at *
      unfold syncD
      simp only [hfd]
      rw [if_neg (by rw [hup];decide)]
      by_cases h1:E.armed = 0
      . rw [if_pos h1]
        have hdw:(bO E).down = true:=(fZ hup).2 h1
        have hg:bR (bO E) n = ⟨n,l ++ b,l.length⟩:=by unfold bR;rw [bB,hfd];rfl
        refine ⟨fun h=>?_,fun _ h=>?_,fun _=>Or.inr hg⟩
        . simp at h
        . simp only [hdw] at h;cases h
      . rw [if_neg h1]
        have hdw:(bO E).down = false:=gO hup h1
        refine ⟨fun _=>⟨hdw,dA (iQ ⟨n,l ++ b,(l ++ b).length⟩ E.files)⟩,fun h=>absurd rfl h,fun h=>?_⟩
        simp only [hdw] at h;cases h
theorem sO {D:aA} {n:ByteArray} {b:List Nat} {k:Nat} (h:bR D n = ⟨n,b,k⟩) (hb:b ≠ []):aC n D.files = some ⟨n,b,k⟩:=by
  cases e:aC n D.files with
  | none=>rw [fF e] at h;exact absurd (aJ.mk.inj h).2.1.symm hb
  | some f=>rw [dA e] at h;rw [h]
theorem aEm {D:aA} {n m:ByteArray} (b:List Nat) (h:¬ n = m):bR (eV D n b).1 m = bR D m:=by
  have ha:bR (aW D n b).1 m = bR D m:=by
    unfold aW
    split
    . rfl
    . refine fI ?_
      rw [bB]
      unfold hU
      exact iR (by simp only;rw [qH];exact h) D.files
  unfold eV
  split
  . exact ha
  . rw [<- ha]
    generalize (aW D n b).1 = E
    unfold syncD
    cases e:aC n E.files with
    | none=>rfl
    | some f =>
      simp only
      split
      . rfl
      . split
        . exact fI (by rw [bB])
        . refine fI (iR ?_ E.files)
          simp only
          rw [(cD e).1]
          exact h
structure aIc (r:aA × Nat) (l b:List Nat):Prop where
  ok:r.2 = 0 -> r.1.down = false /\ bR r.1 bN = ⟨bN,b,b.length⟩
  no:r.2 ≠ 0 -> bR r.1 bN = ⟨bN,l,l.length⟩
theorem aIV {D:aA} (hd:D.down = false) (hn:aC bY D.files = none) {l b:List Nat} (hf:bR D bN = ⟨bN,l,l.length⟩) (hb:b ≠ []):aIc (jC D b) l b:=by
  have hs:=zI (n:=bY) hd (l:=[]) (fF hn) b
  have hap:=aEm (n:=bY) (m:=bN) (D:=D) b aBg
  rw [hf] at hap
  unfold jC
  generalize eV D bY b = r at *
  obtain ⟨E,e⟩:=r
  by_cases he:e = 0
  . subst he
    rw [if_neg (by simp)]
    obtain ⟨h1,h2⟩:=hs.ok rfl
    simp only [List.nil_append] at h1 h2 hap ⊢
    have h3:=sO h2 hb
    unfold gF
    rw [h3]
    simp only
    rw [if_neg (by rw [h1];decide),if_neg (by decide)]
    by_cases ha:E.armed = 0
    . rw [if_pos ha]
      refine ⟨fun h=>?_,fun _=>?_⟩
      . simp at h
      . exact (fI (by rw [bB])).trans hap
    . rw [if_neg ha]
      exact ⟨fun _=>⟨gO h1 ha,dA (iQ ⟨bN,b,b.length⟩ _)⟩,fun h=>absurd rfl h⟩
  . rw [if_pos he]
    exact ⟨fun h=>absurd h he,fun _=>hap⟩
theorem aHb {D:aA} (hd:D.down = false):bR (bX D bY).1 bN = bR D bN /\ ((bX D bY).2 = 0 -> (bX D bY).1.down = false /\ aC bY (bX D bY).1.files = none):=by
  cases e:aC bY D.files with
  | none =>
    have h31:bE D bY = 31:=by unfold bE;rw [if_neg (by rw [hd];decide),if_pos e]
    have hr:removeD D bY = (D,31):=by unfold removeD;rw [e];simp only;rw [h31]
    unfold bX
    rw [hr]
    exact ⟨rfl,fun _=>⟨hd,e⟩⟩
  | some f =>
    by_cases ha:D.armed = 0
    . have hr:removeD D bY = (bO D,50):=by
        unfold removeD
        rw [e]
        simp only
        rw [if_neg (by rw [hd];decide),if_pos ha]
      unfold bX
      rw [hr]
      refine ⟨fI (by rw [bB]),fun h=>?_⟩
      simp at h
    . have hr:removeD D bY = ({ bO D with files:=bG bY D.files },0):=by
        unfold removeD
        rw [e]
        simp only
        rw [if_neg (by rw [hd];decide),if_neg ha]
      unfold bX
      rw [hr]
      exact ⟨fI (iP aBg _),fun _=>⟨gO hd ha,vJ _ _⟩⟩
structure aGI (r:aA × Nat) (l b:List Nat):Prop where
  ok:r.2 = 0 -> r.1.down = false /\ (bR r.1 bN = ⟨bN,l ++ b,(l ++ b).length⟩ \/ bR r.1 bN = ⟨bN,b,b.length⟩)
  no:r.2 ≠ 0 -> r.1.down = false -> bR r.1 bN = ⟨bN,l,l.length⟩
  gone:r.1.down = true -> bR r.1 bN = ⟨bN,l,l.length⟩ \/ bR r.1 bN = ⟨bN,l ++ b,l.length⟩
theorem aEe {D:aA} (hd:D.down = false) {l b:List Nat} (hf:bR D bN = ⟨bN,l,l.length⟩) (hb:b ≠ []):aGI (cR D b) l b:=by
  unfold cR
  rw [if_neg (by rw [hd];decide)]
  by_cases hl:(bR D bN).all.length < 256
  . rw [if_pos hl]
    have h:=zI hd hf b
    exact ⟨fun e=>⟨(h.ok e).1,.inl (h.ok e).2⟩,h.no,h.gone⟩
  . rw [if_neg hl]
    obtain ⟨g1,g2⟩:=aHb hd
    rw [hf] at g1
    generalize bX D bY = r at *
    by_cases he:r.2 = 0
    . rw [if_neg (fun h=>h he)]
      obtain ⟨h1,h2⟩:=g2 he
      have h:=aIV h1 h2 g1 hb
      refine ⟨fun e=>⟨(h.ok e).1,.inr (h.ok e).2⟩,fun e _=>h.no e,fun e=>.inl (h.no fun e0=>?_)⟩
      have h3:=(h.ok e0).1
      rw [h3] at e
      cases e
    . rw [if_pos he]
      exact ⟨fun h=>absurd h he,fun _ _=>g1,fun _=>.inl g1⟩
end Go.Proofs.YtjdglpcnkiioeaaGreat
namespace Go.Proofs.YtjdglpcnkiioeaaGreat
open Go.RowKit Go.Maps Go.Proofs.Own Go.Shelf

theorem nT {a b c:ByteArray} (h:eX a b = true) (g:eX b c = true):eX a c = true:=WideShapes.bytes_trans _ _ _ h g
theorem pE {f:aJ} (h:isW f = true):∀ {L:List aJ},aZ L -> (insFile f L).filter isW = insFile f (L.filter isW)
  | [],_=>by simp [insFile,h]
  | g :: r,hr=>by
    obtain ⟨h1,h2⟩:=List.pairwise_cons.1 hr
    have ih:=pE h h2
    by_cases hl:eX f.name g.name = true
    . have hi:∀ M:List aJ,(∀ x ∈ M,eX f.name x.name = true) -> insFile f M = f :: M:=fun M hM=>by
        cases M with
        | nil=>rfl
        | cons x s =>
          unfold insFile
          rw [if_pos (hM x (List.mem_cons_self ..))]
      rw [hi (g :: r) (fun x hx=>by
        rcases List.mem_cons.1 hx with rfl | hx
        . exact hl
        . exact nT hl (h1 x hx)),List.filter_cons_of_pos h,hi _ (fun x hx=>by
        rcases List.mem_cons.1 (List.mem_filter.1 hx).1 with rfl | hx
        . exact hl
        . exact nT hl (h1 x hx))]
    . have hi:∀ M:List aJ,insFile f (g :: M) = g :: insFile f M:=fun M=>by
        conv=>lhs;unfold insFile
        rw [if_neg hl]
      rw [hi]
      by_cases hg:isW g = true
      . rw [List.filter_cons_of_pos hg,List.filter_cons_of_pos hg,hi,ih]
      . rw [List.filter_cons_of_neg hg,List.filter_cons_of_neg hg,ih]
theorem lJ {f:aJ} (h:isW f = true) {L:List aJ} (hr:aZ L):(bL f L).filter isW = bL f (L.filter isW):=by
  unfold bL
  rw [pE (L:=bG f.name L) h (List.Pairwise.sublist (List.filter_sublist ..) hr),lI]
theorem jR {f:aJ} (h:isW f = false) (L:List aJ):(bL f L).filter isW = L.filter isW:=by
  unfold bL
  rw [qR h,lI]
  unfold bG
  refine List.filter_eq_self.2 fun g hg=>?_
  have hw:=(List.mem_filter.1 hg).2
  rw [Bool.not_eq_true',decide_eq_false_iff_not]
  intro e
  have:isW g = isW f:=by unfold isW;rw [e]
  rw [hw,h] at this
  cases this
theorem pF {n:ByteArray} (h:bQ (bD n) ≠ 0) (L:List aJ):aC n (L.filter isW) = aC n L:=by
  unfold aC
  rw [List.find?_filter]
  congr 1
  funext g
  by_cases e:g.name = n
  . have:isW g = true:=by unfold isW;rw [e];exact decide_eq_true h
    simp [this]
  . simp [e]
structure Pc where
  f:Nat
  es:List bV
  k:Nat
def Pc.w (p:Pc):List Nat:=cF p.f p.es
def Pc.file (p:Pc):aJ:=⟨aH p.f,p.w,p.k⟩
def Pc.wf (p:Pc):WF:=⟨p.f,p.es.length,p.w.length⟩
def cA (P:List Pc):List bV:=P.flatMap Pc.es
def Chain:Nat -> List Pc -> Prop
  | _,[]=>True
  | n,p :: r=>p.f = n /\ Chain (n + p.es.length) r
theorem cV (A B:List Pc):cA (A ++ B) = cA A ++ cA B:=List.flatMap_append
theorem dW (p:Pc):cA [p] = p.es:=List.append_nil _
theorem jJ (p:Pc) (r:List Pc):cA (p :: r) = p.es ++ cA r:=rfl
theorem Chain.app {A B:List Pc}:∀ {n:Nat},Chain n (A ++ B) ↔ Chain n A /\ Chain (n + (cA A).length) B:=by
  induction A with
  | nil=>intro n;simp [Chain,cA]
  | cons p r ih =>
    intro n
    simp only [List.cons_append,Chain,ih,jJ,List.length_append,Nat.add_assoc,and_assoc]
theorem Chain.range {P:List Pc}:∀ {n:Nat},Chain n P -> ∀ p ∈ P,n <= p.f /\ p.f + p.es.length <= n + (cA P).length:=by
  induction P with
  | nil=>intro n _ p hp;cases hp
  | cons q r ih =>
    intro n h p hp
    rw [jJ,List.length_append]
    rcases List.mem_cons.1 hp with rfl | hp
    . have:=h.1;omega
    . have:=ih h.2 p hp
      omega
structure dD (D:aA) (L:aK) (P:List Pc):Prop where
  fil:dK D = P.map Pc.file
  fs:L.fs = P.map Pc.wf
  es:L.es = cA P
  ch:Chain (L.b + 1) P
  ok:∀ e ∈ L.es,e.ok
  hi:L.b + L.es.length <= H59
  full:∀ p ∈ P.dropLast,p.k = p.w.length /\ 1024 <= p.w.length /\ p.es ≠ []
  safe:L.safe <= L.es.length
  kept:∀ A z,P = A ++ [z] -> (cA A).length <= L.safe /\ ((z.k = 0 /\ L.safe = (cA A).length /\ z.es ≠ []) \/ ∃ j,j <= z.es.length /\ L.safe <= (cA A).length + j /\ z.k = (cF z.f (z.es.take j)).length)
  lo:L.b < H59 /\ ∀ p ∈ P,p.f <= H59

theorem aBi {a b:ByteArray} (h:a ≠ b):eX a b = true \/ eX b a = true:=by
  refine WideAt.bytes_total _ _ fun e=>h ?_
  cases a with
  | mk x=>cases b with
    | mk y =>
      simp only at e
      rw [Array.toList_inj.1 e]
theorem aZ.del {L:List aJ} (h:aZ L) (n:ByteArray):aZ (bG n L):=List.Pairwise.sublist (List.filter_sublist ..) h
theorem aZ.ins {f:aJ}:∀ {L:List aJ},aZ L -> (∀ g ∈ L,¬ g.name = f.name) -> aZ (insFile f L)
  | [],_,_=>List.pairwise_singleton _ _
  | g :: r,h,hn=>by
    obtain ⟨h1,h2⟩:=List.pairwise_cons.1 h
    unfold insFile
    by_cases hl:eX f.name g.name = true
    . rw [if_pos hl]
      refine List.pairwise_cons.2 ⟨fun x hx=>?_,h⟩
      rcases List.mem_cons.1 hx with rfl | hx
      . exact hl
      . exact nT hl (h1 x hx)
    . rw [if_neg hl]
      refine List.pairwise_cons.2 ⟨fun x hx=>?_,aZ.ins h2 fun x hx=>hn x (List.mem_cons_of_mem _ hx)⟩
      rcases aBf.1 hx with rfl | hx
      . rcases aBi (hn g (List.mem_cons_self ..)) with e | e
        . exact e
        . exact absurd e hl
      . exact h1 x hx
theorem aZ.put {L:List aJ} (h:aZ L) (f:aJ):aZ (bL f L):=aZ.ins (h.del _) fun _g hg=>(mB.1 hg).2
theorem mF {D:aA} (h:aZ D.files):aZ (dK D):=List.Pairwise.sublist (List.filter_sublist ..) h
theorem oC {D:aA} {n:ByteArray} {f:aJ} (hd:D.down = false) (hf:aC n D.files = some f) :
    ((removeD D n).2 = 50 /\ (removeD D n).1.down = true /\ (removeD D n).1.files = D.files) \/ ((removeD D n).2 = 0 /\ (removeD D n).1.down = false /\ (removeD D n).1.files = bG n D.files):=by
  unfold removeD
  rw [hf]
  simp only
  rw [if_neg (by rw [hd];decide)]
  by_cases ha:D.armed = 0
  . rw [if_pos ha]
    exact .inl ⟨rfl,(fZ hd).2 ha,bB D⟩
  . rw [if_neg ha]
    exact .inr ⟨rfl,gO hd ha,rfl⟩
theorem aDW {D:aA} {n:ByteArray} {f:aJ} (hd:D.down = false) (hf:aC n D.files = some f) :
    ((syncD D n).2 = 50 /\ (syncD D n).1.down = true /\ (syncD D n).1.files = D.files) \/ ((syncD D n).2 = 0 /\ (syncD D n).1.down = false /\ (syncD D n).1.files = bL { f with kept:=f.all.length } D.files):=by
  unfold syncD
  rw [hf]
  simp only
  rw [if_neg (by rw [hd];decide)]
  by_cases ha:D.armed = 0
  . rw [if_pos ha]
    exact .inl ⟨rfl,(fZ hd).2 ha,bB D⟩
  . rw [if_neg ha]
    exact .inr ⟨rfl,gO hd ha,rfl⟩
theorem aFe {D:aA} {n:ByteArray} {f:aJ} {k:Nat} (hd:D.down = false) (hf:aC n D.files = some f) (hk:k <= f.all.length) :
    ((cutD D n k).2 = 50 /\ (cutD D n k).1.down = true /\ (cutD D n k).1.files = D.files) \/ ((cutD D n k).2 = 0 /\ (cutD D n k).1.down = false /\ (cutD D n k).1.files = bL ⟨f.name,f.all.take k,min f.kept k⟩ D.files):=by
  unfold cutD
  rw [hf]
  simp only
  rw [if_neg (by rw [hd];decide),if_neg (by omega),Int.toNat_natCast]
  by_cases ha:D.armed = 0
  . rw [if_pos ha]
    exact .inl ⟨rfl,(fZ hd).2 ha,bB D⟩
  . rw [if_neg ha]
    exact .inr ⟨rfl,gO hd ha,rfl⟩
theorem rW {D:aA} {n:ByteArray} {b:List Nat} (hd:D.down = false) :
    ((aW D n b).2 ≠ 0 /\ (aW D n b).1 = D) \/ (aW D n b).1.files = bL { bR D n with all:=(bR D n).all ++ b } D.files /\ (((aW D n b).2 = 50 /\ (aW D n b).1.down = true) \/ ((aW D n b).2 = 0 /\ (aW D n b).1.down = false)):=by
  unfold aW
  by_cases h:rG D n b ≠ 0
  . rw [if_pos h]
    exact .inl ⟨h,rfl⟩
  . rw [if_neg h]
    refine .inr ⟨bB _,?_⟩
    show (fK D = 50 /\ (bO (hU D n b)).down = true) \/ (fK D = 0 /\ (bO (hU D n b)).down = false)
    have h1:(hU D n b).down = false:=hd
    have h2:(hU D n b).armed = D.armed:=rfl
    unfold fK
    by_cases ha:D.armed = 0
    . rw [if_pos ha]
      exact .inl ⟨rfl,(fZ h1).2 (h2.trans ha)⟩
    . rw [if_neg ha]
      exact .inr ⟨rfl,gO h1 (fun e=>ha (h2.symm.trans e))⟩
theorem aAo {p:Pc} (h:1 <= p.f /\ p.f < 1152921504606846976):isW p.file = true:=by
  unfold isW
  show decide (bQ (bD (aH p.f)) ≠ 0) = true
  rw [kB h.1 h.2]
  exact decide_eq_true (by omega)
theorem mU {n:Nat} (h:1 <= n /\ n < 1152921504606846976):bQ (bD (aH n)) ≠ 0:=by
  rw [kB h.1 h.2]
  omega
theorem aBb {D:aA} {A B:List Pc} {z:Pc} (hr:aZ D.files) (hf:dK D = (A ++ z :: B).map Pc.file):aZ (A.map Pc.file ++ z.file :: B.map Pc.file):=by
  have:=mF hr
  rw [hf] at this
  simpa using this
theorem mV {D:aA} {A B:List Pc} {z:Pc} (hr:aZ D.files) (hf:dK D = (A ++ z :: B).map Pc.file) (hz:1 <= z.f /\ z.f < 1152921504606846976):aC (aH z.f) D.files = some z.file:=by
  rw [<- pF (mU hz)]
  show aC z.file.name (dK D) = _
  rw [hf]
  simpa using xO (aBb hr hf)
theorem aBa {D:aA} {A B:List Pc} {z:Pc} (hr:aZ D.files) (hf:dK D = (A ++ z :: B).map Pc.file):(bG (aH z.f) D.files).filter isW = (A ++ B).map Pc.file:=by
  rw [lI]
  show bG z.file.name (dK D) = _
  rw [hf]
  simpa using sH (aBb hr hf)
theorem aBc {D:aA} {A B:List Pc} {z z':Pc} (hr:aZ D.files) (hf:dK D = (A ++ z :: B).map Pc.file) (hz:1 <= z.f /\ z.f < 1152921504606846976) (he:z'.f = z.f):(bL z'.file D.files).filter isW = (A ++ z' :: B).map Pc.file:=by
  rw [lJ (aAo (by rw [he];exact hz)) hr]
  show bL z'.file (dK D) = _
  rw [hf]
  have:=aBn (f':=z'.file) (aBb hr hf) (by show aH z'.f = aH z.f;rw [he])
  simpa using this
theorem aIy {D:aA} {P:List Pc} {z:Pc} (hr:aZ D.files) (hf:dK D = P.map Pc.file) (hz:1 <= z.f /\ z.f < 1152921504606846976) (hl:∀ p ∈ P,1 <= p.f /\ p.f < z.f) :
    aC (aH z.f) D.files = none /\ (bL z.file D.files).filter isW = (P ++ [z]).map Pc.file:=by
  have hlt:∀ g ∈ P.map Pc.file,eX g.name z.file.name = true:=fun g hg=>by
    obtain ⟨p,hp,rfl⟩:=List.mem_map.1 hg
    have:=hl p hp
    exact aDD (by omega) (by omega) hz.2
  have hne:∀ g ∈ P.map Pc.file,¬ g.name = z.file.name:=fun g hg=>mZ (hlt g hg)
  refine ⟨?_,?_⟩
  . rw [<- pF (mU hz)]
    show aC z.file.name (dK D) = none
    rw [hf]
    exact tV hne
  . rw [lJ (aAo hz) hr]
    show insFile z.file (bG z.file.name (dK D)) = _
    rw [hf]
    have hd:bG z.file.name (P.map Pc.file) = P.map Pc.file:=by
      unfold bG
      exact List.filter_eq_self.2 fun g hg=>by simpa using hne g hg
    rw [hd]
    have:=aA5 (f:=z.file) (A:=P.map Pc.file) (B:=[]) hlt (by intro g hg;cases hg)
    simpa using this

theorem dD.same {D D':aA} {L:aK} {P:List Pc} (h:dD D L P) (hf:D'.files = D.files):dD D' L P :=
  ⟨by have:=h.fil;unfold dK at this ⊢;rw [hf];exact this,h.fs,h.es,h.ch,h.ok,h.hi,h.full,h.safe,h.kept,h.lo⟩
theorem aDA {b:Nat} {A:List Pc} {z z':Pc} (h:b < H59 /\ ∀ p ∈ A ++ [z],p.f <= H59) (e:z'.f = z.f):b < H59 /\ ∀ p ∈ A ++ [z'],p.f <= H59:=by
  refine ⟨h.1,fun p hp=>?_⟩
  rcases List.mem_append.1 hp with hp | hp
  . exact h.2 p (List.mem_append_left _ hp)
  . obtain rfl:=List.mem_singleton.1 hp
    rw [e]
    exact h.2 z (List.mem_append_right _ (List.mem_singleton_self z))
theorem dD.range {D:aA} {L:aK} {P:List Pc} (h:dD D L P):∀ p ∈ P,1 <= p.f /\ p.f < 1152921504606846976 /\ L.b + 1 <= p.f /\ p.f + p.es.length <= L.last + 1:=by
  intro p hp
  have h1:=h.ch.range p hp
  have h2:=h.hi
  have h3:=h.es
  rw [<- h3] at h1
  unfold H59 at h2
  unfold aK.last
  omega
theorem dD.lL {D:aA} {L:aK} {P:List Pc} (h:dD D L P) {p:Pc} (hp:p ∈ P):1 <= p.f /\ p.f < 1152921504606846976:=let ⟨a,b,_⟩:=h.range p hp;⟨a,b⟩
theorem lY {D:aA} {L:aK} {A:List Pc} {z:Pc} (h:dD D L (A ++ [z])):L.fs.getLast? = some z.wf /\ L.fs.dropLast = A.map Pc.wf:=by
  rw [h.fs,List.map_append]
  simp
theorem dD.aHJ {D:aA} {L:aK} {A:List Pc} {z:Pc} (h:dD D L (A ++ [z])):(cA A).length <= L.safe:=(h.kept A z rfl).1
theorem eP {P:List Pc} (h:P ≠ []):∃ A z,P = A ++ [z]:=⟨P.dropLast,P.getLast h,(List.dropLast_concat_getLast h).symm⟩
theorem aFH {A:List Pc} {n:Nat} (hfull:∀ p ∈ A,p.k = p.w.length /\ 1024 <= p.w.length /\ p.es ≠ []) (hn:n = (cA A).length) :
    ∀ B z,A = B ++ [z] -> (cA B).length <= n /\ ((z.k = 0 /\ n = (cA B).length /\ z.es ≠ []) \/ ∃ j,j <= z.es.length /\ n <= (cA B).length + j /\ z.k = (cF z.f (z.es.take j)).length):=by
  intro B z e
  subst e
  have h1:=hfull z (List.mem_append_right _ (List.mem_singleton_self z))
  rw [cV,dW,List.length_append] at hn
  refine ⟨by omega,.inr ⟨z.es.length,Nat.le_refl _,by omega,?_⟩⟩
  rw [List.take_length,h1.1]
  rfl
theorem wP {D:aA} {L:aK} {A:List Pc} {z:Pc} (h:dD D L (A ++ [z])) (hd:D.down = false) (hr:aZ D.files) :
    ((popW D L).2.2 = 50 /\ (popW D L).1.down = true /\ (popW D L).2.1 = L /\ dD (popW D L).1 L (A ++ [z])) \/
    ((popW D L).2.2 = 0 /\ (popW D L).1.down = false /\ aZ (popW D L).1.files /\ dD (popW D L).1 (popW D L).2.1 A /\ (popW D L).2.1.b = L.b /\ (popW D L).2.1.safe = (cA A).length):=by
  have hz:z ∈ A ++ [z]:=List.mem_append_right _ (List.mem_singleton_self z)
  have hf:=mV hr h.fil (h.lL hz)
  have hg:=lY h
  have hfull:∀ p ∈ A,p.k = p.w.length /\ 1024 <= p.w.length /\ p.es ≠ []:=by have:=h.full;rwa [List.dropLast_concat] at this
  unfold popW
  rw [hg.1]
  simp only
  rcases oC hd hf with ⟨h1,h2,h3⟩ | ⟨h1,h2,h3⟩
  . have h1':(removeD D (aH z.wf.f)).2 = 50:=h1
    rw [if_pos (by rw [h1'];decide)]
    exact .inl ⟨h1',h2,rfl,h.same h3⟩
  . have h1':(removeD D (aH z.wf.f)).2 = 0:=h1
    rw [if_neg (by rw [h1'];decide),hg.2]
    have hel:L.es.length - z.wf.m = (cA A).length:=by
      show L.es.length - z.es.length = _
      rw [h.es,cV,dW,List.length_append]
      omega
    have htk:L.es.take (L.es.length - z.wf.m) = cA A:=by
      rw [hel,h.es,cV]
      exact List.take_left' rfl
    have hsf:min L.safe (L.es.length - z.wf.m) = (cA A).length:=by
      rw [hel]
      have:=h.aHJ
      omega
    rw [htk,hsf]
    refine .inr ⟨rfl,h2,?_,⟨?_,rfl,rfl,(Chain.app.1 h.ch).1,?_,?_,?_,Nat.le_refl _,aFH hfull rfl,⟨h.lo.1,fun p hp=>h.lo.2 p (List.mem_append_left _ hp)⟩⟩,rfl,rfl⟩
    . show aZ (removeD D (aH z.f)).1.files
      rw [h3]
      exact hr.del _
    . show (removeD D (aH z.f)).1.files.filter isW = _
      rw [h3]
      have:=aBa hr h.fil
      rwa [List.append_nil] at this
    . intro e he
      refine h.ok e ?_
      rw [h.es,cV]
      exact List.mem_append_left _ he
    . have:=h.hi
      rw [h.es,cV,List.length_append] at this
      show L.b + (cA A).length <= H59
      omega
    . intro p hp
      exact hfull p ((List.dropLast_sublist A).subset hp)
theorem uM {base:Nat} (hb:base < H59):∀ (n:Nat) {D:aA} {L:aK} {P:List Pc},dD D L P -> D.down = false -> aZ D.files -> P.length <= n ->
    ((resetF base n D L).2.2 = 50 /\ (resetF base n D L).1.down = true /\ (∃ P',dD (resetF base n D L).1 (resetF base n D L).2.1 P')) \/
    ((resetF base n D L).2.2 = 0 /\ (resetF base n D L).1.down = false /\ aZ (resetF base n D L).1.files /\ dD (resetF base n D L).1 (resetF base n D L).2.1 [] /\ (resetF base n D L).2.1 = ⟨base,[],[],0⟩):=by
  have hend:∀ {D:aA} {L:aK},dD D L [] -> dD D ⟨base,[],[],0⟩ []:=fun {D L} h =>
    ⟨h.fil,rfl,rfl,trivial,(fun e he=>by cases he),(by show base + 0 <= H59;omega),(fun p hp=>by cases hp),Nat.le_refl _,(fun A z e=>by cases A <;> cases e),hb,(fun p hp=>by cases hp)⟩
  intro n
  induction n with
  | zero =>
    intro D L P h hd hr hn
    obtain rfl:=List.length_eq_zero_iff.1 (Nat.le_zero.1 hn)
    exact .inr ⟨rfl,hd,hr,hend h,rfl⟩
  | succ n ih =>
    intro D L P h hd hr hn
    unfold resetF
    by_cases hP:P = []
    . subst hP
      have hfs:L.fs = []:=h.fs
      rw [if_pos hfs]
      exact .inr ⟨rfl,hd,hr,hend h,rfl⟩
    . obtain ⟨A,z,rfl⟩:=eP hP
      have hfs:¬ L.fs = []:=by
        rw [h.fs]
        simp
      rw [if_neg hfs]
      rcases wP h hd hr with ⟨h1,h2,h3,h4⟩ | ⟨h1,h2,h3,h4,h5,_⟩
      . rw [if_pos (by rw [h1];decide)]
        refine .inl ⟨h1,h2,A ++ [z],?_⟩
        rw [h3]
        exact h4
      . rw [if_neg (by rw [h1];decide)]
        exact ih h4 h2 h3 (by rw [List.length_append] at hn;simpa using hn)
theorem yR {D:aA} {L:aK} {P:List Pc} (h:dD D L P) (hd:D.down = false) (hr:aZ D.files) :
    ((bJ D L).2.2 = 50 /\ (bJ D L).1.down = true /\ (bJ D L).2.1 = L /\ dD (bJ D L).1 L P) \/
    ((bJ D L).2.2 = 0 /\ (bJ D L).1.down = false /\ aZ (bJ D L).1.files /\ (bJ D L).2.1 = { L with safe:=L.es.length } /\
      ∃ P',dD (bJ D L).1 { L with safe:=L.es.length } P' /\ P'.map Pc.wf = P.map Pc.wf /\ ∀ p ∈ P',p.k = p.w.length):=by
  unfold bJ
  by_cases hs:L.safe = L.es.length
  . rw [if_pos hs]
    have hL:L = { L with safe:=L.es.length }:=by rw [<- hs]
    refine .inr ⟨rfl,hd,hr,hL,P,by rw [<- hL];exact h,rfl,?_⟩
    by_cases hP:P = []
    . subst hP
      intro p hp
      cases hp
    . obtain ⟨A,z,rfl⟩:=eP hP
      have hfull:∀ p ∈ A,p.k = p.w.length /\ 1024 <= p.w.length /\ p.es ≠ []:=by have:=h.full;rwa [List.dropLast_concat] at this
      have hel:L.es.length = (cA A).length + z.es.length:=by rw [h.es,cV,dW,List.length_append]
      intro p hp
      rcases List.mem_append.1 hp with hp | hp
      . exact (hfull p hp).1
      . obtain rfl:=List.mem_singleton.1 hp
        obtain ⟨_,⟨h1,h2,h3⟩ | ⟨j,h1,h2,h3⟩⟩:=h.kept A p rfl
        . exact absurd (List.length_eq_zero_iff.1 (by omega)) h3
        . have hj:j = p.es.length:=by omega
          rw [h3,hj,List.take_length]
          rfl
  . rw [if_neg hs]
    have hP:P ≠ []:=by
      rintro rfl
      have h1:=h.es
      have h2:=h.safe
      rw [h1] at h2 hs
      exact hs (Nat.le_antisymm h2 (Nat.zero_le _))
    obtain ⟨A,z,rfl⟩:=eP hP
    have hz:z ∈ A ++ [z]:=List.mem_append_right _ (List.mem_singleton_self z)
    have hf:=mV hr h.fil (h.lL hz)
    have hg:=lY h
    have hfull:∀ p ∈ A,p.k = p.w.length /\ 1024 <= p.w.length /\ p.es ≠ []:=by have:=h.full;rwa [List.dropLast_concat] at this
    rw [hg.1]
    simp only
    rcases aDW hd hf with ⟨h1,h2,h3⟩ | ⟨h1,h2,h3⟩
    . have h1':(syncD D (aH z.wf.f)).2 = 50:=h1
      rw [if_pos (by rw [h1'];decide)]
      exact .inl ⟨h1',h2,rfl,h.same h3⟩
    . have h1':(syncD D (aH z.wf.f)).2 = 0:=h1
      rw [if_neg (by rw [h1'];decide)]
      have hwf:(A ++ [(⟨z.f,z.es,z.w.length⟩:Pc)]).map Pc.wf = (A ++ [z]).map Pc.wf:=by
        rw [List.map_append,List.map_append]
        rfl
      have hes:cA (A ++ [(⟨z.f,z.es,z.w.length⟩:Pc)]) = cA (A ++ [z]):=by
        rw [cV,cV]
        rfl
      refine .inr ⟨rfl,h2,?_,rfl,A ++ [⟨z.f,z.es,z.w.length⟩],⟨?_,?_,?_,?_,h.ok,h.hi,?_,Nat.le_refl _,?_,aDA h.lo rfl⟩,hwf,?_⟩
      . show aZ (syncD D (aH z.f)).1.files
        rw [h3]
        exact hr.put _
      . show (syncD D (aH z.f)).1.files.filter isW = _
        rw [h3]
        exact aBc (z':=⟨z.f,z.es,z.w.length⟩) hr h.fil (h.lL hz) rfl
      . rw [hwf]
        exact h.fs
      . rw [hes]
        exact h.es
      . have:=Chain.app.1 h.ch
        exact Chain.app.2 ⟨this.1,this.2.1,trivial⟩
      . rw [List.dropLast_concat]
        exact hfull
      . intro B y e
        obtain ⟨rfl,e2⟩:=List.append_inj' e rfl
        obtain rfl:=List.singleton_inj.1 e2
        have hel:L.es.length = (cA A).length + z.es.length:=by rw [h.es,cV,dW,List.length_append]
        refine ⟨by show (cA A).length <= L.es.length;omega,.inr ⟨z.es.length,Nat.le_refl _,by show L.es.length <= (cA A).length + z.es.length;omega,?_⟩⟩
        show z.w.length = (cF z.f (z.es.take z.es.length)).length
        rw [List.take_length]
        rfl
      . intro p hp
        rcases List.mem_append.1 hp with hp | hp
        . exact (hfull p hp).1
        . obtain rfl:=List.mem_singleton.1 hp
          rfl

def mN (r:aA × aK × Nat):Prop:=r.1.down = false /\ aZ r.1.files /\ ∃ P,dD r.1 r.2.1 P
def wH (ms:List bV) (r:aA × aK × Nat):Prop:=r.1.down = true /\ r.2.2 = 50 /\ ∃ L P,dD r.1 L P /\ L.b = r.2.1.b /\ L.safe = r.2.1.safe /\ (L.es = r.2.1.es \/ L.es = r.2.1.es ++ ms)
theorem nR:∀ (a b:List bV) (i:Nat),linesW i (a ++ b) = linesW i a ++ linesW (i + a.length) b
  | [],b,i=>rfl
  | e :: a,b,i=>by
    show dZ i e ++ linesW (i + 1) (a ++ b) = (dZ i e ++ linesW (i + 1) a) ++ linesW (i + (a.length + 1)) b
    rw [nR a b (i + 1),List.append_assoc,show i + 1 + a.length = i + (a.length + 1) by omega]
theorem pS (f:Nat) (a b:List bV):cF f (a ++ b) = cF f a ++ linesW (f + a.length) b:=by
  unfold cF
  rw [nR,List.append_assoc]
theorem aCa {n:Nat} (h:n <= 1152921504606846976):(dF n).length <= 28 /\ 8 <= (dF n).length:=by
  have:=gL (n:=n) (by omega)
  unfold dF
  rw [dC]
  omega
theorem aHm {n m:Nat} (hn:n <= H59) (h:¬ lZ n < m):n + m <= H59:=by
  unfold lZ H59 at *
  omega
theorem aId {D:aA} {L:aK} {A:List Pc} {z:Pc} (h:dD D L (A ++ [z])) (hd:D.down = false) (hr:aZ D.files) {ms:List bV} (hok:∀ e ∈ ms,e.ok) (hi:L.last + ms.length <= H59) :
    mN (zM D L z.wf ms) \/ wH ms (zM D L z.wf ms):=by
  have hz:z ∈ A ++ [z]:=List.mem_append_right _ (List.mem_singleton_self z)
  have hf:=mV hr h.fil (h.lL hz)
  have hg:=lY h
  have hel:L.es.length = (cA A).length + z.es.length:=by rw [h.es,cV,dW,List.length_append]
  have hzf:z.f = L.b + 1 + (cA A).length:=(Chain.app.1 h.ch).2.1
  have hnx:z.f + z.es.length = L.last + 1:=by unfold aK.last;omega
  have hw:z.w ++ linesW (L.last + 1) ms = cF z.f (z.es ++ ms):=by
    rw [pS,hnx]
    rfl
  have hes:cA (A ++ [(⟨z.f,z.es ++ ms,z.k⟩:Pc)]) = L.es ++ ms:=by
    rw [cV,dW,h.es,cV,dW,List.append_assoc]
  have hnew:∀ {D':aA},D'.files = bL { bR D (aH z.f) with all:=(bR D (aH z.f)).all ++ linesW (L.last + 1) ms } D.files ->
      dD D' ⟨L.b,L.es ++ ms,L.fs.dropLast ++ [⟨z.f,z.es.length + ms.length,z.w.length + (linesW (L.last + 1) ms).length⟩],L.safe⟩ (A ++ [⟨z.f,z.es ++ ms,z.k⟩]):=by
    intro D' hD
    refine ⟨?_,?_,hes.symm,?_,?_,?_,?_,?_,?_,aDA h.lo rfl⟩
    . unfold dK
      rw [hD,dA hf]
      have:=aBc (z':=⟨z.f,z.es ++ ms,z.k⟩) hr h.fil (h.lL hz) rfl
      rw [<- this]
      congr 2
      show ({ name:=aH z.f,all:=z.w ++ linesW (L.last + 1) ms,kept:=z.k }:aJ) = ⟨aH z.f,cF z.f (z.es ++ ms),z.k⟩
      rw [hw]
    . show L.fs.dropLast ++ _ = _
      rw [hg.2,List.map_append]
      congr 1
      show [_] = [_]
      congr 1
      show (⟨z.f,z.es.length + ms.length,z.w.length + (linesW (L.last + 1) ms).length⟩:WF) = ⟨z.f,(z.es ++ ms).length,(cF z.f (z.es ++ ms)).length⟩
      rw [<- hw,List.length_append,List.length_append]
    . have:=Chain.app.1 h.ch
      exact Chain.app.2 ⟨this.1,this.2.1,trivial⟩
    . intro e he
      rcases List.mem_append.1 he with he | he
      . exact h.ok e he
      . exact hok e he
    . show L.b + (L.es ++ ms).length <= H59
      rw [List.length_append]
      unfold aK.last at hi
      omega
    . rw [List.dropLast_concat]
      have:=h.full
      rwa [List.dropLast_concat] at this
    . show L.safe <= (L.es ++ ms).length
      rw [List.length_append]
      have:=h.safe
      omega
    . intro B y e
      obtain ⟨rfl,e2⟩:=List.append_inj' e rfl
      obtain rfl:=List.singleton_inj.1 e2
      obtain ⟨h1,h2⟩:=h.kept A z rfl
      refine ⟨h1,?_⟩
      rcases h2 with ⟨k0,k1,k2⟩ | ⟨j,j1,j2,j3⟩
      . exact .inl ⟨k0,k1,fun e=>k2 (List.append_eq_nil_iff.1 e).1⟩
      . refine .inr ⟨j,?_,j2,?_⟩
        . show j <= (z.es ++ ms).length
          rw [List.length_append]
          omega
        . show z.k = (cF z.f ((z.es ++ ms).take j)).length
          rw [List.take_append_of_le_length j1]
          exact j3
  unfold zM
  rcases rW (n:=aH z.f) (b:=linesW (L.last + 1) ms) hd with ⟨h1,h2⟩ | ⟨h1,⟨h2,h3⟩ | ⟨h2,h3⟩⟩
  . rw [if_pos (show (aW D (aH z.wf.f) (linesW (L.last + 1) ms)).2 ≠ 0 from h1)]
    refine .inl ⟨?_,?_,A ++ [z],?_⟩
    . show (aW D (aH z.f) _).1.down = false
      rw [h2];exact hd
    . show aZ (aW D (aH z.f) _).1.files
      rw [h2];exact hr
    . show dD (aW D (aH z.f) _).1 L (A ++ [z])
      rw [h2];exact h
  . rw [if_pos (show (aW D (aH z.wf.f) (linesW (L.last + 1) ms)).2 ≠ 0 by rw [show (aW D (aH z.wf.f) (linesW (L.last + 1) ms)).2 = 50 from h2];decide)]
    exact .inr ⟨h3,h2,_,_,hnew h1,rfl,rfl,.inr rfl⟩
  . rw [if_neg (show ¬ (aW D (aH z.wf.f) (linesW (L.last + 1) ms)).2 ≠ 0 by rw [show (aW D (aH z.wf.f) (linesW (L.last + 1) ms)).2 = 0 from h2];decide)]
    refine .inl ⟨h3,?_,_,hnew h1⟩
    show aZ (aW D (aH z.f) _).1.files
    rw [h1]
    exact hr.put _
theorem aEG {D:aA} {L:aK} {P:List Pc} (h:dD D L P) (hd:D.down = false) (hr:aZ D.files) {ms:List bV} (hok:∀ e ∈ ms,e.ok) (hi:L.last + ms.length <= H59) (hne:ms ≠ []) (hP:∀ p ∈ P,1024 <= p.w.length /\ p.es ≠ []) :
    mN (nA D L ms) \/ wH ms (nA D L ms):=by
  unfold nA
  rcases yR h hd hr with ⟨h1,h2,h3,h4⟩ | ⟨h1,h2,h3,h4,P',h5,h6,h7⟩
  . rw [if_pos (by rw [h1];decide)]
    exact .inr ⟨h2,h1,L,P,h4,by rw [h3],by rw [h3],.inl (by rw [h3])⟩
  . rw [if_neg (by rw [h1];decide)]
    have hP':∀ p ∈ P',p.k = p.w.length /\ 1024 <= p.w.length /\ p.es ≠ []:=by
      intro p hp
      have hm:p.wf ∈ P.map Pc.wf:=by rw [<- h6];exact List.mem_map_of_mem hp
      obtain ⟨q,hq,e⟩:=List.mem_map.1 hm
      obtain ⟨q1,q2⟩:=hP q hq
      have e1:q.es.length = p.es.length:=congrArg WF.m e
      have e2:q.w.length = p.w.length:=congrArg WF.s e
      refine ⟨h7 p hp,by omega,fun e3=>q2 (List.length_eq_zero_iff.1 ?_)⟩
      rw [e1,e3]
      rfl
    have hlast:∀ p ∈ P',1 <= p.f /\ p.f < L.last + 1:=by
      intro p hp
      have a:=h5.range p hp
      have b:=List.length_pos_iff.2 (hP' p hp).2.2
      have c:p.f + p.es.length <= L.last + 1:=a.2.2.2
      omega
    have hn60:1 <= L.last + 1 /\ L.last + 1 < 1152921504606846976:=by unfold H59 at hi;omega
    obtain ⟨g1,g2⟩:=aIy (z:=⟨L.last + 1,ms,0⟩) h3 h5.fil hn60 hlast
    have hnew:∀ {D':aA},D'.files = bL { bR (bJ D L).1 (aH (L.last + 1)) with all:=(bR (bJ D L).1 (aH (L.last + 1))).all ++ cF (L.last + 1) ms } (bJ D L).1.files ->
        dD D' ⟨L.b,L.es ++ ms,L.fs ++ [⟨L.last + 1,ms.length,(cF (L.last + 1) ms).length⟩],(bJ D L).2.1.safe⟩ (P' ++ [⟨L.last + 1,ms,0⟩]):=by
      intro D' hD
      have hsafe:(bJ D L).2.1.safe = L.es.length:=by rw [h4]
      have hesP:L.es = cA P':=h5.es
      refine ⟨?_,?_,?_,?_,?_,?_,?_,?_,?_,h.lo.1,fun p hp=>?_⟩
      rotate_right
      . rcases List.mem_append.1 hp with hp | hp
        . exact h5.lo.2 p hp
        . obtain rfl:=List.mem_singleton.1 hp
          have:=List.length_pos_iff.2 hne
          show L.last + 1 <= H59
          omega
      . unfold dK
        rw [hD,fF g1]
        exact g2
      . show L.fs ++ _ = _
        rw [List.map_append,h6,h.fs]
        rfl
      . show L.es ++ ms = _
        rw [cV,dW,<- hesP]
      . refine Chain.app.2 ⟨h5.ch,?_,trivial⟩
        show L.last + 1 = L.b + 1 + (cA P').length
        rw [<- hesP]
        unfold aK.last
        omega
      . intro e he
        rcases List.mem_append.1 he with he | he
        . exact h.ok e he
        . exact hok e he
      . show L.b + (L.es ++ ms).length <= H59
        rw [List.length_append]
        unfold aK.last at hi
        omega
      . rw [List.dropLast_concat]
        exact hP'
      . show (bJ D L).2.1.safe <= (L.es ++ ms).length
        rw [hsafe,List.length_append]
        omega
      . intro B y e
        obtain ⟨rfl,e2⟩:=List.append_inj' e rfl
        obtain rfl:=List.singleton_inj.1 e2
        show (cA P').length <= (bJ D L).2.1.safe /\ _
        rw [hsafe]
        exact ⟨by rw [hesP];exact Nat.le_refl _,.inl ⟨rfl,by show L.es.length = _;rw [hesP],hne⟩⟩
    rcases rW (n:=aH (L.last + 1)) (b:=cF (L.last + 1) ms) h2 with ⟨k1,k2⟩ | ⟨k1,⟨k2,k3⟩ | ⟨k2,k3⟩⟩
    . rw [if_pos k1]
      refine .inl ⟨?_,?_,P',?_⟩
      . show (aW (bJ D L).1 _ _).1.down = false
        rw [k2];exact h2
      . show aZ (aW (bJ D L).1 _ _).1.files
        rw [k2];exact h3
      . show dD (aW (bJ D L).1 _ _).1 (bJ D L).2.1 P'
        rw [k2,h4];exact h5
    . rw [if_pos (by rw [k2];decide)]
      exact .inr ⟨k3,k2,_,_,hnew k1,by show L.b = (bJ D L).2.1.b;rw [h4],rfl,.inr (by show L.es ++ ms = (bJ D L).2.1.es ++ ms;rw [h4])⟩
    . rw [if_neg (by rw [k2];decide)]
      refine .inl ⟨k3,?_,_,hnew k1⟩
      show aZ (aW (bJ D L).1 _ _).1.files
      rw [k1]
      exact h3.put _
theorem rH {D:aA} {L:aK} {P:List Pc} (h:dD D L P) (hd:D.down = false) (hr:aZ D.files) (ms:List bV) :
    mN (aP D L ms) \/ wH ms (aP D L ms):=by
  have hsame:∀ e,mN (D,L,e):=fun e=>⟨hd,hr,P,h⟩
  unfold aP
  by_cases hok:∀ e ∈ ms,e.ok
  . rw [if_neg (by simpa using hok)]
    by_cases hl:lZ L.last < ms.length
    . rw [if_pos hl]
      exact .inl (hsame _)
    . rw [if_neg hl]
      have hi:L.last + ms.length <= H59:=aHm h.hi hl
      by_cases hne:ms = []
      . rw [if_pos hne]
        exact .inl (hsame _)
      . rw [if_neg hne]
        by_cases hP:P = []
        . subst hP
          have hfs:L.fs = []:=h.fs
          rw [hfs]
          exact aEG h hd hr hok hi hne fun p hp=>by cases hp
        . obtain ⟨A,z,rfl⟩:=eP hP
          rw [(lY h).1]
          simp only
          by_cases hs:z.wf.s < 1024
          . rw [if_pos hs]
            exact aId h hd hr hok hi
          . rw [if_neg hs]
            refine aEG h hd hr hok hi hne fun p hp=>?_
            have hfull:∀ p ∈ A,p.k = p.w.length /\ 1024 <= p.w.length /\ p.es ≠ []:=by have:=h.full;rwa [List.dropLast_concat] at this
            rcases List.mem_append.1 hp with hp | hp
            . exact (hfull p hp).2
            . obtain rfl:=List.mem_singleton.1 hp
              have hs':1024 <= p.w.length:=by
                show 1024 <= p.wf.s
                omega
              refine ⟨hs',fun e=>?_⟩
              have h1:=(h.lL (List.mem_append_right A (List.mem_singleton_self p))).2
              have h2:=aCa (n:=p.f) (by omega)
              have h3:p.w = dF p.f:=by
                unfold Pc.w cF
                rw [e]
                exact List.append_nil _
              rw [h3] at hs'
              omega
  . rw [if_pos (by simpa using hok)]
    exact .inl (hsame _)

theorem aGR (frm:Nat):∀ (n:Nat) {D:aA} {L:aK} {P:List Pc},dD D L P -> D.down = false -> aZ D.files -> P.length <= n ->
    ((eR frm n D L).2.2 = 50 /\ (eR frm n D L).1.down = true /\ ∃ P',dD (eR frm n D L).1 (eR frm n D L).2.1 P') \/
    ((eR frm n D L).2.2 = 0 /\ (eR frm n D L).1.down = false /\ aZ (eR frm n D L).1.files /\ (eR frm n D L).2.1.b = L.b /\ ∃ P',dD (eR frm n D L).1 (eR frm n D L).2.1 P' /\ ∀ A z,P' = A ++ [z] -> z.f < frm):=by
  intro n
  induction n with
  | zero =>
    intro D L P h hd hr hn
    obtain rfl:=List.length_eq_zero_iff.1 (Nat.le_zero.1 hn)
    exact .inr ⟨rfl,hd,hr,rfl,[],h,fun A z e=>by cases A <;> cases e⟩
  | succ n ih =>
    intro D L P h hd hr hn
    unfold eR
    by_cases hP:P = []
    . subst hP
      have hfs:L.fs = []:=h.fs
      rw [hfs]
      exact .inr ⟨rfl,hd,hr,rfl,[],h,fun A z e=>by cases A <;> cases e⟩
    . obtain ⟨A,z,rfl⟩:=eP hP
      rw [(lY h).1]
      simp only
      by_cases hz:z.wf.f < frm
      . rw [if_pos hz]
        refine .inr ⟨rfl,hd,hr,rfl,_,h,fun B y e=>?_⟩
        obtain ⟨_,e2⟩:=List.append_inj' e rfl
        obtain rfl:=List.singleton_inj.1 e2
        exact hz
      . rw [if_neg hz]
        rcases wP h hd hr with ⟨h1,h2,h3,h4⟩ | ⟨h1,h2,h3,h4,h5,_⟩
        . rw [if_pos (by rw [h1];decide)]
          refine .inl ⟨h1,h2,A ++ [z],?_⟩
          rw [h3]
          exact h4
        . rw [if_neg (by rw [h1];decide)]
          rw [<- h5]
          exact ih h4 h2 h3 (by rw [List.length_append] at hn;simpa using hn)
theorem kT (f:Nat) (es:List bV) {a b:Nat} (h:a <= b):(cF f (es.take a)).length <= (cF f (es.take b)).length:=by
  have:es.take b = es.take a ++ (es.drop a).take (b - a):=by
    conv=>lhs;rw [show b = a + (b - a) by omega,List.take_add]
  rw [this,pS,List.length_append]
  omega
theorem zS (f:Nat) (es:List bV) (a b:Nat):(cF f (es.take (min a b))).length = min (cF f (es.take a)).length (cF f (es.take b)).length:=by
  by_cases h:a <= b
  . have:=kT f es h
    rw [Nat.min_eq_left h]
    omega
  . have:=kT f es (show b <= a by omega)
    rw [Nat.min_eq_right (by omega)]
    omega
theorem aF3 (f:Nat) (es:List bV) (m:Nat):(cF f es).take (cF f (es.take m)).length = cF f (es.take m):=by
  conv=>lhs;arg 2;rw [<- List.take_append_drop m es,pS]
  exact List.take_left' rfl
theorem aGS {D:aA} {L:aK} {A:List Pc} {z:Pc} (h:dD D L (A ++ [z])) (hd:D.down = false) (hr:aZ D.files) {frm:Nat} (h1:z.f < frm) (h2:frm <= L.last) :
    mN (rI D L frm) \/ wH [] (rI D L frm):=by
  have hz:z ∈ A ++ [z]:=List.mem_append_right _ (List.mem_singleton_self z)
  have hf:=mV hr h.fil (h.lL hz)
  have hg:=lY h
  have hel:L.es.length = (cA A).length + z.es.length:=by rw [h.es,cV,dW,List.length_append]
  have hzf:z.f = L.b + 1 + (cA A).length:=(Chain.app.1 h.ch).2.1
  have hlast:L.last = L.b + L.es.length:=rfl
  have hat:z.f - L.b - 1 = (cA A).length:=by omega
  have hdrop:L.es.drop (z.f - L.b - 1) = z.es:=by
    rw [hat,h.es,cV,dW]
    exact List.drop_left' rfl
  have hsz:(dF z.f).length + (linesW z.f (z.es.take (frm - z.f))).length = (cF z.f (z.es.take (frm - z.f))).length:=by
    unfold cF
    rw [List.length_append]
  have hle:(cF z.f (z.es.take (frm - z.f))).length <= z.w.length:=by
    have:=kT z.f z.es (a:=frm - z.f) (b:=z.es.length) (by omega)
    rwa [List.take_length] at this
  have htk:L.es.take (frm - L.b - 1) = cA A ++ z.es.take (frm - z.f):=by
    rw [h.es,cV,dW,show frm - L.b - 1 = (cA A).length + (frm - z.f) by omega,List.take_length_add_append]
  unfold rI
  rw [hg.1]
  simp only
  show mN (if (cutD D (aH z.f) ((dF z.f).length + (linesW z.f ((L.es.drop (z.f - L.b - 1)).take (frm - z.f))).length:Nat)).2 ≠ 0 then _ else _) \/ wH [] (if (cutD D (aH z.f) ((dF z.f).length + (linesW z.f ((L.es.drop (z.f - L.b - 1)).take (frm - z.f))).length:Nat)).2 ≠ 0 then _ else _)
  have hwf:z.wf.f = z.f:=rfl
  rw [hwf,hdrop,hsz]
  rcases aFe (k:=(cF z.f (z.es.take (frm - z.f))).length) hd hf hle with ⟨k1,k2,k3⟩ | ⟨k1,k2,k3⟩
  . rw [if_pos (by rw [k1];decide)]
    exact .inr ⟨k2,k1,L,A ++ [z],h.same k3,rfl,rfl,.inl rfl⟩
  . rw [if_neg (by rw [k1];decide)]
    have hfile:(⟨z.file.name,z.file.all.take (cF z.f (z.es.take (frm - z.f))).length,min z.file.kept (cF z.f (z.es.take (frm - z.f))).length⟩:aJ) = (⟨z.f,z.es.take (frm - z.f),min z.k (cF z.f (z.es.take (frm - z.f))).length⟩:Pc).file:=by
      show (⟨aH z.f,(cF z.f z.es).take _,_⟩:aJ) = ⟨aH z.f,cF z.f (z.es.take (frm - z.f)),_⟩
      rw [aF3]
      rfl
    rw [hfile] at k3
    refine .inl ⟨k2,?_,A ++ [⟨z.f,z.es.take (frm - z.f),min z.k (cF z.f (z.es.take (frm - z.f))).length⟩],?_,?_,?_,?_,?_,?_,?_,?_,?_,aDA h.lo rfl⟩
    . show aZ (cutD D (aH z.f) _).1.files
      rw [k3]
      exact hr.put _
    . show (cutD D (aH z.f) _).1.files.filter isW = _
      rw [k3]
      exact aBc (z':=⟨z.f,z.es.take (frm - z.f),min z.k (cF z.f (z.es.take (frm - z.f))).length⟩) hr h.fil (h.lL hz) rfl
    . show L.fs.dropLast ++ [_] = _
      rw [hg.2,List.map_append]
      congr 1
      show [_] = [_]
      congr 1
      show (⟨z.f,frm - z.f,_⟩:WF) = ⟨z.f,(z.es.take (frm - z.f)).length,(cF z.f (z.es.take (frm - z.f))).length⟩
      rw [List.length_take,show min (frm - z.f) z.es.length = frm - z.f by omega]
    . show L.es.take (frm - L.b - 1) = _
      rw [htk,cV,dW]
    . have:=Chain.app.1 h.ch
      exact Chain.app.2 ⟨this.1,this.2.1,trivial⟩
    . intro e he
      exact h.ok e (List.mem_of_mem_take he)
    . show L.b + (L.es.take (frm - L.b - 1)).length <= H59
      have:=h.hi
      rw [List.length_take]
      omega
    . rw [List.dropLast_concat]
      have:=h.full
      rwa [List.dropLast_concat] at this
    . show min L.safe (frm - L.b - 1) <= (L.es.take (frm - L.b - 1)).length
      have:=h.safe
      rw [List.length_take]
      omega
    . intro B y e
      obtain ⟨rfl,e2⟩:=List.append_inj' e rfl
      obtain rfl:=List.singleton_inj.1 e2
      obtain ⟨s1,s2⟩:=h.kept A z rfl
      show (cA A).length <= min L.safe (frm - L.b - 1) /\ _
      refine ⟨by omega,?_⟩
      rcases s2 with ⟨p0,p1,p2⟩ | ⟨j,j1,j2,j3⟩
      . refine .inl ⟨?_,?_,?_⟩
        . show min z.k _ = 0
          rw [p0]
          exact Nat.zero_min _
        . show min L.safe (frm - L.b - 1) = _
          omega
        . show z.es.take (frm - z.f) ≠ []
          intro e
          have h3:=congrArg List.length e
          rw [List.length_take] at h3
          have h4:=List.length_pos_iff.2 p2
          simp only [List.length_nil] at h3
          omega
      . refine .inr ⟨min j (frm - z.f),?_,?_,?_⟩
        . show min j (frm - z.f) <= (z.es.take (frm - z.f)).length
          rw [List.length_take]
          omega
        . show min L.safe (frm - L.b - 1) <= (cA A).length + min j (frm - z.f)
          omega
        . show min z.k (cF z.f (z.es.take (frm - z.f))).length = (cF z.f ((z.es.take (frm - z.f)).take (min j (frm - z.f)))).length
          rw [List.take_take,show min (min j (frm - z.f)) (frm - z.f) = min j (frm - z.f) by omega,zS,j3]
theorem aIh {D:aA} {L:aK} {P:List Pc} (h:dD D L P) (hd:D.down = false) (hr:aZ D.files) (frm:Nat) :
    mN (fW D L frm) \/ wH [] (fW D L frm):=by
  unfold fW
  by_cases ha:frm <= L.b \/ L.last + 1 < frm
  . rw [if_pos ha]
    exact .inl ⟨hd,hr,P,h⟩
  . rw [if_neg ha]
    have hn:P.length = L.fs.length:=by rw [h.fs,List.length_map]
    rcases aGR frm L.fs.length h hd hr (by omega) with ⟨h1,h2,P',h3⟩ | ⟨h1,h2,h3,h4,P',h5,h6⟩
    . rw [if_pos (by rw [h1];decide)]
      exact .inr ⟨h2,h1,_,P',h3,rfl,rfl,.inl rfl⟩
    . rw [if_neg (by rw [h1];decide)]
      by_cases hl:(eR frm L.fs.length D L).2.1.last < frm
      . rw [if_pos hl]
        exact .inl ⟨h2,h3,P',h5⟩
      . rw [if_neg hl]
        have hP:P' ≠ []:=by
          rintro rfl
          have e:=h5.es
          unfold aK.last at hl
          rw [e,h4] at hl
          have:(cA []).length = 0:=rfl
          omega
        obtain ⟨A,z,rfl⟩:=eP hP
        exact aGS h5 h2 h3 (h6 A z rfl) (by omega)
theorem aFp (upto:Nat):∀ (n:Nat) {D:aA} {L:aK} {P:List Pc},dD D L P -> D.down = false -> aZ D.files ->
    mN (dropF upto n D L) \/ wH [] (dropF upto n D L):=by
  intro n
  induction n with
  | zero =>
    intro D L P h hd hr
    exact .inl ⟨hd,hr,P,h⟩
  | succ n ih =>
    intro D L P h hd hr
    match P,h with
    | [],h =>
      have hfs:L.fs = []:=h.fs
      unfold dropF
      rw [hfs]
      exact .inl ⟨hd,hr,[],h⟩
    | [p],h =>
      have hfs:L.fs = [p.wf]:=h.fs
      unfold dropF
      rw [hfs]
      exact .inl ⟨hd,hr,[p],h⟩
    | p :: q :: s,h =>
      have hfs:L.fs = p.wf :: q.wf :: s.map Pc.wf:=h.fs
      unfold dropF
      rw [hfs]
      simp only
      by_cases hu:q.wf.f <= upto + 1
      . rw [if_pos hu]
        have hf:=mV (A:=[]) hr h.fil (h.lL (List.mem_cons_self ..))
        have hel:L.es = p.es ++ cA (q :: s):=h.es
        rcases oC hd hf with ⟨k1,k2,k3⟩ | ⟨k1,k2,k3⟩
        . have k1':(removeD D (aH p.wf.f)).2 = 50:=k1
          rw [if_pos (by rw [k1'];decide)]
          exact .inr ⟨k2,k1',L,_,h.same k3,rfl,rfl,.inl rfl⟩
        . have k1':(removeD D (aH p.wf.f)).2 = 0:=k1
          rw [if_neg (by rw [k1'];decide)]
          have hes:L.es.drop p.wf.m = cA (q :: s):=by
            rw [hel]
            exact List.drop_left' rfl
          have hlen:L.es.length = p.es.length + (cA (q :: s)).length:=by rw [hel,List.length_append]
          have hqf:q.f = L.b + 1 + p.es.length:=h.ch.2.1
          have hq59:=h.lo.2 q (List.mem_cons_of_mem _ (List.mem_cons_self ..))
          refine ih (P:=q :: s) ⟨?_,rfl,hes,?_,?_,?_,?_,?_,?_,(by show L.b + p.es.length < H59;omega),fun x hx=>h.lo.2 x (List.mem_cons_of_mem _ hx)⟩ k2 ?_
          . show (removeD D (aH p.f)).1.files.filter isW = _
            rw [k3]
            exact aBa (A:=[]) hr h.fil
          . have:=h.ch.2
            rw [show L.b + 1 + p.es.length = L.b + p.wf.m + 1 by show _ = L.b + p.es.length + 1;omega] at this
            exact this
          . intro e he
            exact h.ok e (List.mem_of_mem_drop he)
          . show L.b + p.es.length + (L.es.drop p.wf.m).length <= H59
            have:=h.hi
            rw [hes]
            omega
          . intro x hx
            refine h.full x ?_
            show x ∈ p :: (q :: s).dropLast
            exact List.mem_cons_of_mem _ hx
          . show L.safe - p.es.length <= (L.es.drop p.wf.m).length
            have:=h.safe
            rw [hes]
            omega
          . intro B y e
            have hB:p :: q :: s = (p :: B) ++ [y]:=by rw [List.cons_append,<- e]
            obtain ⟨s1,s2⟩:=h.kept (p :: B) y hB
            rw [jJ,List.length_append] at s1 s2
            show (cA B).length <= L.safe - p.es.length /\ _
            refine ⟨by omega,?_⟩
            rcases s2 with ⟨p0,p1,p2⟩ | ⟨j,j1,j2,j3⟩
            . exact .inl ⟨p0,by show L.safe - p.es.length = _;omega,p2⟩
            . exact .inr ⟨j,j1,by show L.safe - p.es.length <= _;omega,j3⟩
          . rw [show (removeD D (aH p.wf.f)).1.files = _ from k3]
            exact hr.del _
      . rw [if_neg hu]
        exact .inl ⟨hd,hr,_,h⟩
theorem aG0 {D:aA} {L:aK} {P:List Pc} (h:dD D L P) (hd:D.down = false) (hr:aZ D.files) (upto:Nat) :
    mN (eF D L upto) \/ wH [] (eF D L upto):=by
  unfold eF
  by_cases hl:L.last < upto
  . rw [if_pos hl]
    exact .inl ⟨hd,hr,P,h⟩
  . rw [if_neg hl]
    exact aFp upto _ h hd hr
theorem aIO {D:aA} {L:aK} {P:List Pc} (h:dD D L P) (hd:D.down = false) (hr:aZ D.files):mN (bJ D L) \/ wH [] (bJ D L):=by
  rcases yR h hd hr with ⟨h1,h2,h3,h4⟩ | ⟨h1,h2,h3,h4,P',h5,_⟩
  . exact .inr ⟨h2,h1,L,P,h4,by rw [h3],by rw [h3],.inl (by rw [h3])⟩
  . exact .inl ⟨h2,h3,P',by rw [h4];exact h5⟩
end Go.Proofs.YtjdglpcnkiioeaaGreat
namespace Go.Proofs.YtjdglpcnkiioeaaGreat
open Go.RowKit Go.Maps Go.Proofs.Own

def aAQ (D:aA) (t v t' v':Int):Prop :=
  ∃ l,Good l t v /\ (bR D bN = ⟨bN,l,l.length⟩ \/ ∃ a m:Nat,a <= 1152921504606846976 /\ m <= 7 /\ t' = a /\ v' = (m:Int) - 1 /\ bR D bN = ⟨bN,l ++ jE a m,l.length⟩)
theorem aHg {D:aA} (hd:D.down = false) {t v:Int} (hf:iL D t v) (t' v':Int) (ht:0 <= t') :
    ((dE D t v t' v').2 = 0 -> (dE D t v t' v').1.down = false /\ iL (dE D t v t' v').1 t' v') /\
    ((dE D t v t' v').2 ≠ 0 -> (dE D t v t' v').1.down = false -> iL (dE D t v t' v').1 t v) /\
    ((dE D t v t' v').1.down = true -> aAQ (dE D t v t' v').1 t v t' v' /\ vMy t v t' v' = true):=by
  obtain ⟨l,h1,h2⟩:=hf
  unfold dE
  by_cases hs:pX t' v' = false
  . rw [if_pos hs]
    exact ⟨fun h=>by simp at h,fun _ _=>⟨l,h1,h2⟩,fun h=>by simp only [hd] at h;cases h⟩
  . rw [if_neg hs]
    by_cases hm:vMy t v t' v' = false
    . rw [if_pos hm]
      exact ⟨fun h=>by simp at h,fun _ _=>⟨l,h1,h2⟩,fun h=>by simp only [hd] at h;cases h⟩
    . rw [if_neg hm]
      by_cases he:t' = t /\ v' = v
      . rw [if_pos he]
        obtain ⟨rfl,rfl⟩:=he
        exact ⟨fun _=>⟨hd,l,h1,h2⟩,fun h=>absurd rfl h,fun h=>by simp only [hd] at h;cases h⟩
      . rw [if_neg he]
        have hs':pX t' v' = true:=by simpa using hs
        unfold pX at hs'
        simp only [Bool.and_eq_true,decide_eq_true_eq] at hs'
        have ha:t'.toNat <= 1152921504606846976:=by omega
        have hm7:(v' + 1).toNat <= 7:=by omega
        have e1:t' = (t'.toNat:Int):=by omega
        have e2:v' = ((v' + 1).toNat:Int) - 1:=by omega
        have hb:jE t'.toNat (v' + 1).toNat ≠ []:=fun h=>by have:=(zD ha hm7).2;rw [h] at this;simp at this
        have h:=aEe hd h1 hb
        show (_ /\ _ /\ _)
        change aGI (cR D (frP 3 (bS [t'.toNat,(v' + 1).toNat]))) l (jE t'.toNat (v' + 1).toNat) at h
        refine ⟨fun e=>⟨(h.ok e).1,?_⟩,fun e hd'=>⟨l,h.no e hd',h2⟩,fun hd'=>⟨⟨l,h2,?_⟩,by simpa using hm⟩⟩
        . rcases (h.ok e).2 with g | g
          . have:=h2.snoc ha hm7
            rw [<- e1,<- e2] at this
            exact ⟨_,g,this⟩
          . have:=Good.nil.snoc ha hm7
            rw [<- e1,<- e2,List.nil_append] at this
            exact ⟨_,g,this⟩
        . exact (h.gone hd').imp id fun g=>⟨_,_,ha,hm7,e1,e2,g⟩
theorem aE8 {D:aA} {t v t' v':Int} (hr:aZ D.files) (h:aAQ D t v t' v') (ts:List (Nat × Nat)) :
    (dH (eW (cE D ts))).2 = 0 /\ Calm (dH (eW (cE D ts))).1 /\ ∃ p q,((p = t /\ q = v) \/ (p = t' /\ q = v')) /\ (eA (eW (cE D ts))).t = p /\ (eA (eW (cE D ts))).v = q /\ iL (dH (eW (cE D ts))).1 p q:=by
  have hc:Calm (eW (cE D ts)):=⟨rfl,rfl⟩
  obtain ⟨l,hl,hk | ⟨a,m,ha,hm,rfl,rfl,hk⟩⟩:=h
  . obtain ⟨x,hx⟩:=xQ (F:=[]) ts hr (by rw [List.append_nil];exact hk)
    rw [if_pos rfl] at hx
    have hx':bR (eW (cE D ts)) bN = ⟨bN,l ++ [],(l ++ []).length⟩:=hx
    obtain ⟨o1,o2,o3,o4,o5⟩:=uI hc hl hx' (by rw [List.append_nil];exact hl.last)
    exact ⟨o1,o4,t,v,.inl ⟨rfl,rfl⟩,o2,o3,o5⟩
  . have hb:jE a m ≠ []:=fun h=>by have:=(zD ha hm).2;rw [h] at this;simp at this
    obtain ⟨x,hx⟩:=xQ (F:=jE a m) ts hr hk
    rw [if_neg hb] at hx
    have hx':bR (eW (cE D ts)) bN = ⟨bN,l ++ cN (jE a m) x,(l ++ cN (jE a m) x).length⟩:=hx
    rcases hl.aKr ha hm x with e | e
    . rw [e] at hx'
      have hg:=hl.snoc ha hm
      obtain ⟨o1,o2,o3,o4,o5⟩:=uI (X:=[]) hc hg (by rw [List.append_nil];exact hx') (by rw [List.append_nil];exact hg.last)
      exact ⟨o1,o4,_,_,.inr ⟨rfl,rfl⟩,o2,o3,o5⟩
    . obtain ⟨o1,o2,o3,o4,o5⟩:=uI hc hl hx' e
      exact ⟨o1,o4,t,v,.inl ⟨rfl,rfl⟩,o2,o3,o5⟩

theorem aGi (A B:List aJ):total (A ++ B) = total A + total B:=by simp [total]
theorem aBT {f:aJ} (ts:List (Nat × Nat)) (hf:f.kept <= f.all.length):total (cP f ts) <= f.all.length /\ ∀ g ∈ cP f ts,g.name = f.name /\ g.kept <= g.all.length:=by
  refine ⟨?_,fun g hg=>⟨iM hg,?_⟩⟩
  . unfold cP
    split
    . split
      . simp [total]
      . have:=sV (f.all.drop f.kept) (ts.headD (0,0))
        rw [List.length_drop] at this
        rw [dG]
        simp only [total,List.map_nil,List.sum_nil,List.length_append,List.length_take]
        omega
    . split
      . simp [total]
      . rw [dG]
        simp [total]
  . unfold cP at hg
    split at hg
    . split at hg
      . cases hg
      . obtain rfl:=List.mem_singleton.1 hg;exact Nat.le_refl _
    . split at hg
      . cases hg
      . obtain rfl:=List.mem_singleton.1 hg;exact hf
theorem vF:∀ (L:List aJ) (ts:List (Nat × Nat)),(∀ f ∈ L,f.name.size <= 16 /\ f.kept <= f.all.length) -> total (crashL L ts) <= total L /\ ∀ g ∈ crashL L ts,g.name.size <= 16 /\ g.kept <= g.all.length
  | [],_,_=>⟨Nat.le_refl _,nofun⟩
  | f :: r,ts,h=>by
    obtain ⟨h1,h2⟩:=aBT ts (h f List.mem_cons_self).2
    obtain ⟨h3,h4⟩:=vF r (kN f ts) fun g hg=>h g (List.mem_cons_of_mem _ hg)
    refine ⟨?_,fun g hg=>?_⟩
    . show total (cP f ts ++ crashL r (kN f ts)) <= _
      rw [aGi,dG]
      omega
    . rcases List.mem_append.1 hg with hg | hg
      . obtain ⟨e1,e2⟩:=h2 g hg
        exact ⟨by rw [e1];exact (h f List.mem_cons_self).1,e2⟩
      . exact h4 g hg
theorem aS.aEs {D:aA} (h:aS D) (ts:List (Nat × Nat)):aS (cE D ts):=by
  obtain ⟨h1,h2⟩:=vF D.files ts h.wf.each
  have h3:=mI D.files ts
  have h4:=h.tot
  have h5:=h.few
  exact ⟨⟨h.wf.room0,h.wf.room1,by show (-1:Int) <= -1;decide,by show (-1:Int) <= _;decide,h.wf.steps0,h.wf.steps1,by show (crashL D.files ts).length <= _;omega,h2⟩,by show total (crashL D.files ts) <= _;omega,by show (crashL D.files ts).length <= _;omega⟩
theorem aS.aKe {D:aA} (h:aS D):aS (eW D) :=
  ⟨⟨h.wf.room0,h.wf.room1,by show (-1:Int) <= -1;decide,by show (-1:Int) <= _;decide,h.wf.steps0,h.wf.steps1,h.wf.many,h.wf.each⟩,h.tot,h.few⟩
theorem aS.arm {D:aA} (h:aS D) (n:Int) (hn:n <= 9223372036854775807):aS (aAT D n).1:=by
  unfold aAT
  split
  . exact h
  . split
    . exact h
    . exact ⟨⟨h.wf.room0,h.wf.room1,by simp only;omega,hn,h.wf.steps0,h.wf.steps1,h.wf.many,h.wf.each⟩,h.tot,h.few⟩
theorem aS.resize {D:aA} (h:aS D) (n:Int):aS (kS D n).1:=by
  unfold kS
  split
  . exact h
  . split
    . exact h
    . exact ⟨⟨by simp only;omega,by simp only;omega,h.wf.armed0,h.wf.armed1,h.wf.steps0,h.wf.steps1,h.wf.many,h.wf.each⟩,h.tot,h.few⟩
theorem iL.loose {D:aA} {t v:Int} (h:iL D t v) (t' v':Int):aAQ D t v t' v':=let ⟨l,h1,h2⟩:=h;⟨l,h2,.inl h1⟩

def aBD (r:aA × Nat):Prop:=r.1.down = true -> r.2 = 50
theorem aBD.up {r:aA × Nat} (h:aBD r) (he:r.2 = 0):r.1.down = false:=by
  cases e:r.1.down with
  | false=>rfl
  | true=>have:=h e;omega
theorem aBD.same {D:aA} (hd:D.down = false) (e:Nat):aBD (D,e):=fun h=>by simp only [hd] at h;cases h
theorem aDm {D:aA} (hd:D.down = false) (ha:¬ D.armed = 0) (L:List aJ):aBD ({ bO D with files:=L },0):=fun h=>by
  have h':(bO D).down = true:=h
  rw [gO hd ha] at h'
  cases h'
theorem aB4 {D:aA} (hd:D.down = false) (n:ByteArray):aBD (removeD D n):=by
  unfold removeD
  split
  . rw [if_neg (by rw [hd];decide)]
    split
    . exact fun _=>rfl
    . rename_i ha;exact aDm hd ha _
  . exact aBD.same hd _
theorem aAf {D:aA} (hd:D.down = false) (n:ByteArray):aBD (bX D n):=fun h=>by
  have:=aB4 hd n h
  show (if (removeD D n).2 = 31 then 0 else (removeD D n).2) = 50
  rw [this]
  rfl
end Go.Proofs.YtjdglpcnkiioeaaGreat
