/- Several texts in one: Vl0, Pg, Vq, Vr, Vt, Wm, Vu, Wi, Wj, Wk, Wn, Wo, Vy, Vz for vltkeeps_law_holds. No conditions but those stated. -/
import Derived.Test.YtjdglpcnkiioeaaGreatVkb25
import Derived.Test.YtjdglpcnkiioeaaGreatVkb21
import Derived.Test.YtjdglpcnkiioeaaGreatVkb16
import Derived.Test.YtjdglpcnkiioeaaGreatVkb26
namespace Go.Proofs.YtjdglpcnkiioeaaGreat
open Go.RowKit Go.Maps Go.Proofs.Own Go.Shelf

theorem rW (k:Nat) (l r:List Nat):nU (frP k l ++ r) = r:=by
 unfold nU
 rw [lD,<- dE k l,List.drop_left]
def jP (t m:Nat):List Nat:=frP 3 (bV [t,m])
theorem aFs {t m:Nat} (ht:t <= 1152921504606846976) (hm:m <= 7):∀ x ∈ [t,m],(x:Int) < 18446744073709551616:=by
 intro x hx
 simp only [List.mem_cons,List.not_mem_nil,or_false] at hx
 rcases hx with rfl | rfl <;> omega
theorem uB {t m:Nat} (ht:t <= 1152921504606846976) (hm:m <= 7):(bV [t,m]).length <= 18:=by
 have:=jE [t,m] (aFs ht hm)
 simpa using this
theorem aAb {t m:Nat} (ht:t <= 1152921504606846976) (hm:m <= 7):(jP t m).length <= 26 /\ 8 <= (jP t m).length:=by
 have:=uB ht hm
 unfold jP
 rw [dE]
 omega
theorem aG7 {t m:Nat} (r:List Nat) (ht:t <= 1152921504606846976) (hm:m <= 7) :
  vGo (jP t m ++ r) /\ vT (jP t m ++ r) = t /\ vV (jP t m ++ r) = m /\ nU (jP t m ++ r) = r /\ (aU (jP t m ++ r)).length + 8 = (jP t m).length:=by
 have hl:=uB ht hm
 have hb:aU (jP t m ++ r) = cZ t ++ (cZ m ++ []):=by
  unfold jP
  rw [gB]
  simp [bV]
 have ht':(t:Int) < 18446744073709551616:=by omega
 have hm':(m:Int) < 18446744073709551616:=by omega
 have h1:dR H60 (aU (jP t m ++ r)) = cZ m ++ []:=by rw [hb];exact eY _ ht' ht
 refine ⟨⟨kR r (by decide) (by omega),nX 3 _ r,?_⟩,?_,?_,rW _ _ _,?_⟩
 ·unfold vE
  rw [h1,hb,eY [] hm' hm,eX (most:=H60) _ ht' ht,eX [] hm' hm]
  rfl
 ·unfold vT
  rw [hb]
  exact eZ _ ht' ht
 ·unfold vV
  rw [h1]
  exact eZ _ hm' hm
 ·unfold jP
  rw [gB,dE]
theorem aCF {t m:Nat} (r:List Nat) (n:Nat) (s:mC) (ht:t <= 1152921504606846976) (hm:m <= 7) :
  lastF (n + 1) (jP t m ++ r) s = lastF n r ⟨t,(m:Int) - 1,s.g + (jP t m).length⟩:=by
 obtain ⟨h1,h2,h3,h4,h5⟩:=aG7 r ht hm
 rw [aCD h1,h2,h3,h4,Nat.add_assoc,h5]
theorem aAM (n:Nat) (s:mC):lastF n [] s = s:=tH (fun h=>by have:=h.1;revert this;decide) n s

structure bR where
 t:Int
 k:Int
 d:List Nat
def bR.ok (e:bR):Prop:=1 <= e.t /\ e.t <= 1152921504606846976 /\ 1 <= e.k /\ e.k <= 3 /\ e.d.length <= 4096
instance (e:bR):Decidable e.ok:=inferInstanceAs (Decidable (_ /\ _))
def M64:Nat:=18446744073709551615
def kN (i:Nat) (e:bR):List Nat:=bV [i,e.t.toNat,e.k.toNat] ++ (cZ e.d.length ++ e.d)
def eA (i:Nat) (e:bR):List Nat:=frP 2 (kN i e)
def dH (n:Nat):List Nat:=frP 1 (cZ n)
def linesW (i:Nat):List bR -> List Nat
 | []=>[]
 | e :: es=>eA i e ++ linesW (i + 1) es
def hdV (l:List Nat):Nat:=cY H60 (aU l)
def hdE (l:List Nat):Nat:=pB (dR H60 (aU l)) (dQ H60 (aU l))
def aCw (l:List Nat):Prop:=cP l = 0 /\ l.getD 1 0 = 1 /\ hdE l = 0 /\ hdV l ≠ 0
instance (l:List Nat):Decidable (aCw l):=inferInstanceAs (Decidable (_ /\ _))
def aH1 (l:List Nat):List Nat:=dR M64 (aU l)
def aH2 (l:List Nat):List Nat:=dR H60 (aH1 l)
def aH3 (l:List Nat):List Nat:=dR 3 (aH2 l)
def lnI (l:List Nat):Nat:=cY M64 (aU l)
def lnX (l:List Nat):bR:=⟨cY H60 (aH1 l),cY 3 (aH2 l),fV 4096 (aH3 l)⟩
def lnE (l:List Nat):Nat:=pB (oX 4096 (aH3 l)) (((dQ M64 (aU l) || dQ H60 (aH1 l)) || dQ 3 (aH2 l)) || nO 4096 (aH3 l))
def aAp (i:Nat) (l:List Nat):Prop:=cP l = 0 /\ l.getD 1 0 = 2 /\ lnE l = 0 /\ lnI l = i /\ (lnX l).ok
instance (i:Nat) (l:List Nat):Decidable (aAp i l):=inferInstanceAs (Decidable (_ /\ _))
structure pA where
 f:Nat
 es:List bR
 g:Nat
def segF:Nat -> List Nat -> pA -> pA
 | 0,_,s=>s
 | n + 1,l,s =>
  if s.f = 0 then (if aCw l then segF n (nU l) ⟨hdV l,s.es,s.g + (aU l).length + 8⟩ else s)
  else (if aAp (s.f + s.es.length) l then segF n (nU l) ⟨s.f,s.es ++ [lnX l],s.g + (aU l).length + 8⟩ else s)
def fP (l:List Nat):pA:=segF l.length l ⟨0,[],0⟩
theorem tT {l:List Nat} {s:pA} (h0:s.f = 0 -> ¬ aCw l) (h1:s.f ≠ 0 -> ¬ aAp (s.f + s.es.length) l) (n:Nat):segF n l s = s:=by
 cases n with
 | zero=>rfl
 | succ n =>
  unfold segF
  by_cases h:s.f = 0
  ·rw [if_pos h,if_neg (h0 h)]
  ·rw [if_neg h,if_neg (h1 h)]
theorem vG {l:List Nat} {s:pA} (h:cP l ≠ 0) (n:Nat):segF n l s = s:=tT (fun _ g=>h g.1) (fun _ g=>h g.1) n
theorem vD {l:List Nat} {s:pA} (h0:s.f = 0) (h:aCw l) (n:Nat):segF (n + 1) l s = segF n (nU l) ⟨hdV l,s.es,s.g + (aU l).length + 8⟩:=by
 show (if s.f = 0 then _ else _) = _
 rw [if_pos h0,if_pos h]
theorem vF {l:List Nat} {s:pA} (h0:s.f ≠ 0) (h:aAp (s.f + s.es.length) l) (n:Nat):segF (n + 1) l s = segF n (nU l) ⟨s.f,s.es ++ [lnX l],s.g + (aU l).length + 8⟩:=by
 show (if s.f = 0 then _ else _) = _
 rw [if_neg h0,if_pos h]
theorem aKD {n:Nat} (h:n <= M64):(n:Int) < 18446744073709551616:=by unfold M64 at h;omega
theorem aD0 {n:Nat} (r:List Nat) (h1:1 <= n) (h2:n <= 1152921504606846976):aCw (dH n ++ r) /\ hdV (dH n ++ r) = n /\ nU (dH n ++ r) = r /\ (aU (dH n ++ r)).length + 8 = (dH n).length:=by
 have hn:(n:Int) < 18446744073709551616:=by omega
 have hb:aU (dH n ++ r) = cZ n ++ []:=by unfold dH;rw [gB,List.append_nil]
 have hl:=gU hn
 have hv:hdV (dH n ++ r) = n:=by unfold hdV;rw [hb];exact eZ _ hn h2
 refine ⟨⟨kR r (by decide) (by omega),nX 1 _ r,?_,by rw [hv];omega⟩,hv,rW _ _ _,by unfold dH;rw [gB,dE]⟩
 unfold hdE
 rw [hb,eY (most:=H60) [] hn h2,eX (most:=H60) [] hn h2]
 rfl
theorem aAN {i:Nat} {e:bR} (hi:i <= M64) (h:e.ok):(kN i e).length <= 4132:=by
 obtain ⟨h1,h2,h3,h4,h5⟩:=h
 have a:=jE [i,e.t.toNat,e.k.toNat] (by
  intro x hx
  simp only [List.mem_cons,List.not_mem_nil,or_false] at hx
  rcases hx with rfl | rfl | rfl
  ·exact aKD hi
  ·omega
  ·omega)
 have b:=gU (n:=e.d.length) (by omega)
 unfold kN
 rw [List.length_append,List.length_append]
 simp at a
 omega
theorem aGm {i:Nat} {e:bR} (hi:i <= M64) (h:e.ok):(eA i e).length <= 4140 /\ 8 <= (eA i e).length:=by
 have:=aAN hi h
 unfold eA
 rw [dE]
 omega
theorem aD6 {i:Nat} {e:bR} (r:List Nat) (hi:i <= M64) (h:e.ok):aAp i (eA i e ++ r) /\ lnX (eA i e ++ r) = e /\ nU (eA i e ++ r) = r /\ (aU (eA i e ++ r)).length + 8 = (eA i e).length:=by
 have hl:=aAN hi h
 have hok:=h
 obtain ⟨h1,h2,h3,h4,h5⟩:=h
 have hb:aU (eA i e ++ r) = cZ i ++ (cZ e.t.toNat ++ (cZ e.k.toNat ++ (cZ e.d.length ++ (e.d ++ [])))):=by
  unfold eA
  rw [gB]
  simp [kN,bV]
 have i64:=aKD hi
 have t64:(e.t.toNat:Int) < 18446744073709551616:=by omega
 have k64:(e.k.toNat:Int) < 18446744073709551616:=by omega
 have t60:e.t.toNat <= H60:=by unfold H60;omega
 have k3:e.k.toNat <= 3:=by omega
 have r1:aH1 (eA i e ++ r) = cZ e.t.toNat ++ (cZ e.k.toNat ++ (cZ e.d.length ++ (e.d ++ []))):=by unfold aH1;rw [hb];exact eY _ i64 hi
 have r2:aH2 (eA i e ++ r) = cZ e.k.toNat ++ (cZ e.d.length ++ (e.d ++ [])):=by unfold aH2;rw [r1];exact eY _ t64 t60
 have r3:aH3 (eA i e ++ r) = cZ e.d.length ++ (e.d ++ []):=by unfold aH3;rw [r2];exact eY _ k64 k3
 have hx:lnX (eA i e ++ r) = e:=by
  unfold lnX
  rw [r1,r2,r3,eZ _ t64 t60,eZ _ k64 k3,wT e.d [] h5 (by decide)]
  obtain ⟨t,k,d⟩:=e
  simp only at h1 h3 ⊢
  rw [show ((t.toNat:Nat):Int) = t by omega,show ((k.toNat:Nat):Int) = k by omega]
 refine ⟨⟨kR r (by decide) (by omega),nX 2 _ r,?_,?_,by rw [hx];exact hok⟩,hx,rW _ _ _,by unfold eA;rw [gB,dE]⟩
 ·unfold lnE
  rw [r1,r2,r3,hb,eX _ i64 hi,eX _ t64 t60,eX _ k64 k3,wR e.d [] h5 (by decide),wS e.d [] h5 (by decide)]
  rfl
 ·unfold lnI
  rw [hb]
  exact eZ _ i64 hi
theorem zI {f:Nat} (hf:f ≠ 0):∀ (ms es:List bR) (r:List Nat) (n g:Nat),(∀ e ∈ ms,e.ok) -> f + es.length + ms.length <= M64 -> (linesW (f + es.length) ms ++ r).length <= n ->
  ∃ m,r.length <= m /\ segF n (linesW (f + es.length) ms ++ r) ⟨f,es,g⟩ = segF m r ⟨f,es ++ ms,g + (linesW (f + es.length) ms).length⟩
 | [],es,r,n,g,_,_,hn=>⟨n,hn,by simp [linesW]⟩
 | e :: ms,es,r,n,g,hok,hb,hn=>by
  have he:=hok e (List.mem_cons_self ..)
  have hi:f + es.length <= M64:=by simp only [List.length_cons] at hb;omega
  obtain ⟨g1,g2,g3,g4⟩:=aD6 (i:=f + es.length) (linesW (f + es.length + 1) ms ++ r) hi he
  have h8:=(aGm hi he).2
  have hcat:linesW (f + es.length) (e :: ms) ++ r = eA (f + es.length) e ++ (linesW (f + es.length + 1) ms ++ r):=by
   show (eA (f + es.length) e ++ linesW (f + es.length + 1) ms) ++ r = _
   rw [List.append_assoc]
  rw [hcat] at hn ⊢
  obtain ⟨j,hj⟩:∃ j,n = j + 1:=⟨n - 1,by rw [List.length_append] at hn;omega⟩
  subst hj
  have hl1:f + (es ++ [e]).length = f + es.length + 1:=by rw [List.length_append];rfl
  obtain ⟨m,h1,h2⟩:=zI hf ms (es ++ [e]) r j (g + (eA (f + es.length) e).length) (fun x hx=>hok x (List.mem_cons_of_mem _ hx)) (by rw [hl1];simp only [List.length_cons] at hb;omega) (by rw [hl1];rw [List.length_append] at hn;omega)
  rw [hl1] at h2
  refine ⟨m,h1,?_⟩
  rw [vF (s:=⟨f,es,g⟩) hf g1 j,g2,g3]
  have hg:g + (aU (eA (f + es.length) e ++ (linesW (f + es.length + 1) ms ++ r))).length + 8 = g + (eA (f + es.length) e).length:=by omega
  simp only
  rw [hg,h2]
  have hlen:(linesW (f + es.length) (e :: ms)).length = (eA (f + es.length) e).length + (linesW (f + es.length + 1) ms).length:=by
   show (eA (f + es.length) e ++ linesW (f + es.length + 1) ms).length = _
   rw [List.length_append]
  rw [hlen,List.append_assoc,List.singleton_append,Nat.add_assoc]
def cH (f:Nat) (es:List bR):List Nat:=dH f ++ linesW f es
theorem aGH {f:Nat} {es:List bR} (hf:1 <= f) (hf2:f <= 1152921504606846976) (hok:∀ e ∈ es,e.ok) (hb:f + es.length <= M64) (r:List Nat) :
  ∃ m,r.length <= m /\ fP (cH f es ++ r) = segF m r ⟨f,es,(cH f es).length⟩:=by
 obtain ⟨g1,g2,g3,g4⟩:=aD0 (linesW f es ++ r) hf hf2
 have hcat:cH f es ++ r = dH f ++ (linesW f es ++ r):=by unfold cH;rw [List.append_assoc]
 have hl:8 <= (dH f).length:=by unfold dH;rw [dE];omega
 unfold fP
 rw [hcat]
 obtain ⟨j,hj⟩:∃ j,(dH f ++ (linesW f es ++ r)).length = j + 1:=⟨(dH f ++ (linesW f es ++ r)).length - 1,by rw [List.length_append];omega⟩
 rw [hj,vD (s:=⟨0,[],0⟩) rfl g1 j,g2,g3]
 have hg:0 + (aU (dH f ++ (linesW f es ++ r))).length + 8 = (dH f).length:=by omega
 simp only
 rw [hg]
 obtain ⟨m,h1,h2⟩:=zI (f:=f) (by omega) es [] r j (dH f).length hok (by simpa using hb) (by rw [List.length_append] at hj;simp only [List.length_nil,Nat.add_zero];omega)
 simp only [List.length_nil,Nat.add_zero,List.nil_append] at h2
 refine ⟨m,h1,?_⟩
 rw [h2]
 unfold cH
 rw [List.length_append]
theorem aGF {f:Nat} {es:List bR} (hf:1 <= f) (hf2:f <= 1152921504606846976) (hok:∀ e ∈ es,e.ok) (hb:f + es.length <= M64) {R:List Nat} (hR:cP R ≠ 0):fP (cH f es ++ R) = ⟨f,es,(cH f es).length⟩:=by
 obtain ⟨m,_,h⟩:=aGH hf hf2 hok hb R
 rw [h,vG hR]
end Go.Proofs.YtjdglpcnkiioeaaGreat
namespace Go.Proofs.YtjdglpcnkiioeaaGreat
open Go.RowKit Go.Maps Go.Proofs.Own

def Good (l:List Nat) (t v:Int):Prop :=
 ∀ n r g0,(l ++ r).length <= n -> ∃ m,r.length <= m /\ lastF n (l ++ r) ⟨0,-1,g0⟩ = lastF m r ⟨t,v,g0 + l.length⟩
theorem Good.nil:Good [] 0 (-1):=fun n _ _ h=>⟨n,h,rfl⟩
theorem Good.snoc {l:List Nat} {t v:Int} (h:Good l t v) {a m:Nat} (ha:a <= 1152921504606846976) (hm:m <= 7):Good (l ++ jP a m) a ((m:Int) - 1):=by
 intro n r g0 hn
 have h8:=(aAb ha hm).2
 obtain ⟨k,h1,h2⟩:=h n (jP a m ++ r) g0 (by rw [<- List.append_assoc];exact hn)
 rw [List.length_append] at h1
 obtain ⟨j,hj⟩:∃ j,k = j + 1:=⟨k - 1,by omega⟩
 refine ⟨j,by omega,?_⟩
 rw [List.append_assoc,h2,hj,aCF r j _ ha hm,List.length_append,Nat.add_assoc]
theorem Good.last {l:List Nat} {t v:Int} (h:Good l t v):fX l = ⟨t,v,l.length⟩:=by
 obtain ⟨m,_,h2⟩:=h l.length [] 0 (by rw [List.append_nil];exact Nat.le_refl _)
 rw [List.append_nil,aAM,Nat.zero_add] at h2
 exact h2
theorem Good.stop {l R:List Nat} {t v:Int} (h:Good l t v) (hR:cP R ≠ 0):fX (l ++ R) = ⟨t,v,l.length⟩:=by
 obtain ⟨m,_,h2⟩:=h (l ++ R).length R 0 (Nat.le_refl _)
 rw [tH (fun g=>hR g.1),Nat.zero_add] at h2
 exact h2
theorem Good.aLc {l:List Nat} {t v:Int} (h:Good l t v) {a m:Nat} (ha:a <= 1152921504606846976) (hm:m <= 7) (x:Nat × Nat) :
  cR (jP a m) x = jP a m \/ fX (l ++ cR (jP a m) x) = ⟨t,v,l.length⟩:=by
 by_cases he:cP (cR (jP a m) x) = 0
 ·refine .inl (aEE (by decide) (by have:=uB ha hm;omega) ?_ x he)
  intro c hc
  unfold frP at hc
  refine zG ?_ c hc
  intro c hc
  have hl:=uB ha hm
  rcases List.mem_append.1 hc with hc | hc
  ·simp only [List.mem_cons,List.not_mem_nil,or_false] at hc
   rcases hc with rfl | rfl | rfl | rfl | rfl <;> omega
  ·exact pT [a,m] (aFs ha hm) c hc
 ·exact .inr (h.stop he)

theorem fJ {n:ByteArray} {g:aO} {L:List aO} (h:g.name = n):aC n (g :: L) = some g:=by
 unfold aC
 rw [List.find?_cons_of_pos (by simpa using h)]
theorem eS {n:ByteArray} {g:aO} {L:List aO} (h:¬ g.name = n):aC n (g :: L) = aC n L:=by
 unfold aC
 rw [List.find?_cons_of_neg (by simpa using h)]
theorem wH {n:ByteArray} {f:aO} (h:¬ f.name = n):∀ L,aC n (insFile f L) = aC n L
 | []=>eS h
 | g :: r=>by
  unfold insFile
  split
  ·exact eS h
  ·by_cases hg:g.name = n
   ·rw [fJ hg,fJ hg]
   ·rw [eS hg,eS hg,wH h r]
theorem wG {n:ByteArray} {f:aO} (h:f.name = n):∀ L,(∀ g ∈ L,¬ g.name = n) -> aC n (insFile f L) = some f
 | [],_=>fJ h
 | g :: r,hd=>by
  unfold insFile
  split
  ·exact fJ h
  ·rw [eS (hd g List.mem_cons_self)]
   exact wG h r fun x hx=>hd x (List.mem_cons_of_mem _ hx)
theorem uJ {n:ByteArray} {L:List aO} (h:∀ g ∈ L,¬ g.name = n):aC n L = none:=by
 unfold aC
 rw [List.find?_eq_none]
 intro g hg
 simpa using h g hg
theorem wE (n:ByteArray) (L:List aO):aC n (bH n L) = none:=uJ fun _g hg=>(mH.1 hg).2
theorem jB {n m:ByteArray} (h:¬ m = n):∀ L,aC n (bH m L) = aC n L
 | []=>rfl
 | g :: r=>by
  have ih:=jB h r
  unfold bH at ih ⊢
  by_cases hg:g.name = m
  ·rw [List.filter_cons_of_neg (by simp [hg]),ih,eS (by rw [hg];exact h)]
  ·rw [List.filter_cons_of_pos (by simp [hg])]
   by_cases hn:g.name = n
   ·rw [fJ hn,fJ hn]
   ·rw [eS hn,eS hn,ih]
theorem jC (f:aO) (L:List aO):aC f.name (bL f L) = some f:=wG rfl _ fun _g hg=>(mH.1 hg).2
theorem jD {n:ByteArray} {f:aO} (h:¬ f.name = n) (L:List aO):aC n (bL f L) = aC n L:=(wH h _).trans (jB h L)

theorem iX {f g:aO} {ts:List (Nat × Nat)} (h:g ∈ dB f ts):g.name = f.name:=by
 unfold dB at h
 split at h
 ·split at h
  ·cases h
  ·obtain rfl:=List.mem_singleton.1 h;rfl
 ·split at h
  ·cases h
  ·obtain rfl:=List.mem_singleton.1 h;rfl
theorem pH {g:aO}:∀ {L:List aO} {ts:List (Nat × Nat)},g ∈ crashL L ts -> ∃ f ∈ L,g.name = f.name
 | [],_,h=>by cases h
 | f :: r,ts,h=>by
  rcases List.mem_append.1 h with h | h
  ·exact ⟨f,List.mem_cons_self,iX h⟩
  ·obtain ⟨x,h1,h2⟩:=pH h
   exact ⟨x,List.mem_cons_of_mem _ h1,h2⟩
theorem aAn {n:ByteArray} {A B:List aO} (h:∀ g ∈ A,¬ g.name = n):aC n (A ++ B) = aC n B:=by
 unfold aC
 rw [List.find?_append,List.find?_eq_none.2 (fun g hg=>by simpa using h g hg)]
 rfl
theorem rV (n:ByteArray):∀ (L:List aO) (ts:List (Nat × Nat)),L.Pairwise (fun a b=>¬ b.name = a.name) -> ∃ us,aC n (crashL L ts) = (aC n L).bind fun f=>(dB f us).head?
 | [],ts,_=>⟨[],rfl⟩
 | f :: r,ts,hp=>by
  obtain ⟨h1,h2⟩:=List.pairwise_cons.1 hp
  by_cases hn:f.name = n
  ·refine ⟨ts,?_⟩
   rw [fJ hn]
   show aC n (dB f ts ++ crashL r (lV f ts)) = (dB f ts).head?
   match e:dB f ts with
   | [] =>
    rw [List.nil_append]
    refine uJ fun g hg=>?_
    obtain ⟨x,hx,e2⟩:=pH hg
    rw [e2,<- hn]
    exact h1 x hx
   | g :: t =>
    have hg:g.name = n:=(iX (f:=f) (ts:=ts) (by rw [e];exact List.mem_cons_self)).trans hn
    exact fJ hg
  ·obtain ⟨us,hu⟩:=rV n r (lV f ts) h2
   refine ⟨us,?_⟩
   rw [eS hn,<- hu]
   exact aAn fun g hg=>by rw [iX hg];exact hn
theorem bA.apart {L:List aO} (h:bA L):L.Pairwise (fun a b=>¬ b.name = a.name):=h.imp fun hl=>(nG hl).symm
theorem yK {D:aA} {n:ByteArray} {l F:List Nat} (ts:List (Nat × Nat)) (hr:bA D.files) (hf:bT D n = ⟨n,l ++ F,l.length⟩) :
  ∃ x,bT (cW D ts) n = ⟨n,l ++ (if F = [] then [] else cR F x),(l ++ (if F = [] then [] else cR F x)).length⟩:=by
 obtain ⟨us,hu⟩:=rV n D.files ts hr.apart
 refine ⟨us.headD (0,0),?_⟩
 have hu':aC n (cW D ts).files = (aC n D.files).bind fun f=>(dB f us).head?:=hu
 cases e:aC n D.files with
 | none =>
  rw [fF e] at hf
  have h1:l ++ F = []:=(aO.mk.inj hf).2.1.symm
  obtain ⟨rfl,rfl⟩:=List.append_eq_nil_iff.1 h1
  rw [e] at hu'
  rw [fF hu']
  rfl
 | some f =>
  rw [dC e] at hf
  subst hf
  rw [e] at hu'
  have hu2:aC n (cW D ts).files = (dB ⟨n,l ++ F,l.length⟩ us).head?:=hu'
  by_cases hF:F = []
  ·subst hF
   rw [if_pos rfl]
   rw [List.append_nil] at hu2 ⊢
   unfold dB at hu2
   rw [if_neg (Nat.lt_irrefl _)] at hu2
   by_cases hl:l = []
   ·subst hl
    rw [if_pos rfl] at hu2
    rw [fF hu2]
    rfl
   ·rw [if_neg hl] at hu2
    exact dC hu2
  ·rw [if_neg hF]
   have hp:0 < F.length:=List.length_pos_iff.2 hF
   unfold dB at hu2
   simp only [List.length_append,List.take_left',List.drop_left'] at hu2
   rw [if_pos (by omega)] at hu2
   by_cases hn:l ++ cR F (us.headD (0,0)) = []
   ·rw [if_pos hn] at hu2
    rw [fF hu2,hn]
    rfl
   ·rw [if_neg hn] at hu2
    rw [dC hu2]
    simp

def Calm (D:aA):Prop:=D.down = false /\ D.armed = -1
theorem Calm.step {D:aA} (h:Calm D) (L:List aO):Calm { bP D with files:=L }:=by
 unfold Calm bP
 rw [if_neg (by rw [h.2];decide),if_neg (by rw [h.2];decide)]
 exact h
theorem fK {D D':aA} {n:ByteArray} (h:aC n D'.files = aC n D.files):bT D' n = bT D n:=by unfold bT;rw [h]
theorem aBE:¬ cD = bO:=by decide
theorem aF7 {D:aA} (h:Calm D):(cC D cD).2 = 0 /\ Calm (cC D cD).1 /\ bT (cC D cD).1 bO = bT D bO:=by
 cases e:aC cD D.files with
 | none =>
  have h31:bG D cD = 31:=by unfold bG;rw [if_neg (by rw [h.1];decide),if_pos e]
  have hr:removeD D cD = (D,31):=by unfold removeD;rw [e];simp only;rw [h31]
  unfold cC
  rw [hr]
  exact ⟨rfl,h,rfl⟩
 | some f =>
  have hr:removeD D cD = ({ bP D with files:=bH cD D.files },0):=by
   unfold removeD
   rw [e]
   simp only
   rw [if_neg (by rw [h.1];decide),if_neg (by rw [h.2];decide)]
  unfold cC
  rw [hr]
  exact ⟨rfl,h.step _,fK (jB aBE _)⟩
theorem aA3 {D:aA} (h:Calm D) {n:ByteArray} {f:aO} (hf:aC n D.files = some f):(syncD D n).2 = 0 /\ Calm (syncD D n).1 /\ bT (syncD D n).1 n = ⟨n,f.all,f.all.length⟩:=by
 obtain ⟨hn,_⟩:=cF hf
 subst hn
 have hr:syncD D f.name = ({ bP D with files:=bL { f with kept:=f.all.length } D.files },0):=by
  unfold syncD
  rw [hf]
  simp only
  rw [if_neg (by rw [h.1];decide),if_neg (by rw [h.2];decide)]
 rw [hr]
 exact ⟨rfl,h.step _,dC (jC { f with kept:=f.all.length } D.files)⟩
theorem aHr {D:aA} (h:Calm D) {n:ByteArray} {f:aO} (hf:aC n D.files = some f) (k:Nat) (hk:k <= f.all.length) :
  (cutD D n k).2 = 0 /\ Calm (cutD D n k).1 /\ aC n (cutD D n k).1.files = some ⟨n,f.all.take k,min f.kept k⟩:=by
 obtain ⟨hn,_⟩:=cF hf
 subst hn
 have hr:cutD D f.name k = ({ bP D with files:=bL ⟨f.name,f.all.take k,min f.kept k⟩ D.files },0):=by
  unfold cutD
  rw [hf]
  simp only
  rw [if_neg (by rw [h.1];decide),if_neg (by omega),if_neg (by rw [h.2];decide),Int.toNat_natCast]
 rw [hr]
 exact ⟨rfl,h.step _,jC ⟨f.name,f.all.take k,min f.kept k⟩ D.files⟩

def iW (D:aA) (t v:Int):Prop:=∃ l,bT D bO = ⟨bO,l,l.length⟩ /\ Good l t v
theorem uX {D:aA} (h:Calm D) {l X:List Nat} {t v:Int} (hl:Good l t v) (hf:bT D bO = ⟨bO,l ++ X,(l ++ X).length⟩) (hX:fX (l ++ X) = ⟨t,v,l.length⟩) :
  (dJ D).2 = 0 /\ (eB D).t = t /\ (eB D).v = v /\ Calm (dJ D).1 /\ iW (dJ D).1 t v:=by
 obtain ⟨g1,g2,g3⟩:=aF7 h
 unfold dJ eB
 rw [if_neg (by rw [g1];decide)]
 generalize (cC D cD).1 = E at *
 rw [hf] at g3
 cases e:aC bO E.files with
 | none =>
  have h31:bG E bO = 31:=by unfold bG;rw [if_neg (by rw [g2.1];decide),if_pos e]
  rw [fF e] at g3
  have h1:l ++ X = []:=(aO.mk.inj g3).2.1.symm
  obtain ⟨rfl,rfl⟩:=List.append_eq_nil_iff.1 h1
  have h0:fX ([]:List Nat) = ⟨0,-1,0⟩:=aAM _ _
  rw [List.append_nil,h0] at hX
  obtain ⟨rfl,rfl,_⟩:=mC.mk.inj hX
  unfold eK iF
  rw [if_pos h31,if_pos h31]
  exact ⟨rfl,rfl,rfl,g2,[],fF e,Good.nil⟩
 | some f =>
  have hE0:bG E bO = 0:=by unfold bG;rw [if_neg (by rw [g2.1];decide),if_neg (by rw [e];simp)]
  have hG:=g3
  rw [dC e] at hG
  subst hG
  have hS:iF E = ⟨t,v,l.length⟩:=by
   unfold iF
   rw [hE0,if_neg (by decide),if_neg (by decide),g3]
   exact hX
  have hD:eK E = if (eF E).2 ≠ 0 then eF E else syncD (eF E).1 bO:=by
   unfold eK
   rw [hE0,if_neg (by decide),if_neg (by decide)]
  have hD1:eF E = if l.length < (l ++ X).length then cutD E bO l.length else (E,0):=by
   unfold eF
   rw [g3,hX]
  rw [hS]
  refine ⟨?_,rfl,rfl,?_⟩
  all_goals
   rw [hD,hD1]
   by_cases hlt:l.length < (l ++ X).length
   ·rw [if_pos hlt]
    obtain ⟨c1,c2,c3⟩:=aHr g2 e l.length (Nat.le_of_lt hlt)
    rw [if_neg (by rw [c1];decide)]
    obtain ⟨s1,s2,s3⟩:=aA3 c2 c3
    simp only [List.take_left'] at s3
    first | exact s1 | exact ⟨s2,l,s3,hl⟩
   ·rw [if_neg hlt,if_neg (fun g=>g rfl)]
    have hX0:X = []:=by
     rw [List.length_append] at hlt
     exact List.length_eq_zero_iff.1 (by omega)
    subst hX0
    obtain ⟨s1,s2,s3⟩:=aA3 g2 e
    rw [List.append_nil] at s3
    first | exact s1 | exact ⟨s2,l,s3,hl⟩
end Go.Proofs.YtjdglpcnkiioeaaGreat
namespace Go.Proofs.YtjdglpcnkiioeaaGreat
open Go.RowKit Go.Maps Go.Proofs.Own Go.Shelf

structure WF where
 f:Nat
 m:Nat
 s:Nat
structure aM where
 b:Nat
 es:List bR
 fs:List WF
 safe:Nat
def aM.last (L:aM):Nat:=L.b + L.es.length
def mG (n:Nat):Nat:=(((H59:Int) - n) % 18446744073709551616).toNat
def popW (D:aA) (L:aM):aA × aM × Nat :=
 match L.fs.getLast? with
 | none=>(D,L,0)
 | some f=>if (removeD D (aH f.f)).2 ≠ 0 then ((removeD D (aH f.f)).1,L,(removeD D (aH f.f)).2)
  else ((removeD D (aH f.f)).1,⟨L.b,L.es.take (L.es.length - f.m),L.fs.dropLast,min L.safe (L.es.length - f.m)⟩,0)
def resetF (base:Nat):Nat -> aA -> aM -> aA × aM × Nat
 | 0,D,_=>(D,⟨base,[],[],0⟩,0)
 | n + 1,D,L=>if L.fs = [] then (D,⟨base,[],[],0⟩,0) else if (popW D L).2.2 ≠ 0 then popW D L else resetF base n (popW D L).1 (popW D L).2.1
def bI (D:aA) (L:aM) (base:Nat):aA × aM × Nat:=if H59 <= base then (D,L,2) else resetF base L.fs.length D L
def bJ (D:aA) (L:aM):aA × aM × Nat :=
 if L.safe = L.es.length then (D,L,0) else match L.fs.getLast? with
  | none=>(D,L,0)
  | some f=>if (syncD D (aH f.f)).2 ≠ 0 then ((syncD D (aH f.f)).1,L,(syncD D (aH f.f)).2) else ((syncD D (aH f.f)).1,{ L with safe:=L.es.length },0)
def aAl (D:aA) (L:aM) (f:WF) (ms:List bR):aA × aM × Nat :=
 if (aY D (aH f.f) (linesW (L.last + 1) ms)).2 ≠ 0 then ((aY D (aH f.f) (linesW (L.last + 1) ms)).1,L,(aY D (aH f.f) (linesW (L.last + 1) ms)).2)
 else ((aY D (aH f.f) (linesW (L.last + 1) ms)).1,⟨L.b,L.es ++ ms,L.fs.dropLast ++ [⟨f.f,f.m + ms.length,f.s + (linesW (L.last + 1) ms).length⟩],L.safe⟩,0)
def nH (D:aA) (L:aM) (ms:List bR):aA × aM × Nat :=
 if (bJ D L).2.2 ≠ 0 then bJ D L
 else if (aY (bJ D L).1 (aH (L.last + 1)) (cH (L.last + 1) ms)).2 ≠ 0 then ((aY (bJ D L).1 (aH (L.last + 1)) (cH (L.last + 1) ms)).1,(bJ D L).2.1,(aY (bJ D L).1 (aH (L.last + 1)) (cH (L.last + 1) ms)).2)
 else ((aY (bJ D L).1 (aH (L.last + 1)) (cH (L.last + 1) ms)).1,⟨L.b,L.es ++ ms,L.fs ++ [⟨L.last + 1,ms.length,(cH (L.last + 1) ms).length⟩],(bJ D L).2.1.safe⟩,0)
def aR (D:aA) (L:aM) (ms:List bR):aA × aM × Nat :=
 if ¬ (∀ e ∈ ms,e.ok) then (D,L,2) else if mG L.last < ms.length then (D,L,10) else if ms = [] then (D,L,0)
 else match L.fs.getLast? with
  | none=>nH D L ms
  | some f=>if f.s < 1024 then aAl D L f ms else nH D L ms
def eR (frm:Nat):Nat -> aA -> aM -> aA × aM × Nat
 | 0,D,L=>(D,L,0)
 | n + 1,D,L=>match L.fs.getLast? with
  | none=>(D,L,0)
  | some f=>if f.f < frm then (D,L,0) else if (popW D L).2.2 ≠ 0 then popW D L else eR frm n (popW D L).1 (popW D L).2.1
def rS (D:aA) (L:aM) (frm:Nat):aA × aM × Nat :=
 match L.fs.getLast? with
 | none=>(D,L,0)
 | some f =>
  let size:=(dH f.f).length + (linesW f.f ((L.es.drop (f.f - L.b - 1)).take (frm - f.f))).length
  if (cutD D (aH f.f) size).2 ≠ 0 then ((cutD D (aH f.f) size).1,L,(cutD D (aH f.f) size).2)
  else ((cutD D (aH f.f) size).1,⟨L.b,L.es.take (frm - L.b - 1),L.fs.dropLast ++ [⟨f.f,frm - f.f,size⟩],min L.safe (frm - L.b - 1)⟩,0)
def fY (D:aA) (L:aM) (frm:Nat):aA × aM × Nat :=
 if frm <= L.b \/ L.last + 1 < frm then (D,L,2)
 else if (eR frm L.fs.length D L).2.2 ≠ 0 then eR frm L.fs.length D L
 else if (eR frm L.fs.length D L).2.1.last < frm then ((eR frm L.fs.length D L).1,(eR frm L.fs.length D L).2.1,0)
 else rS (eR frm L.fs.length D L).1 (eR frm L.fs.length D L).2.1 frm
def dropF (upto:Nat):Nat -> aA -> aM -> aA × aM × Nat
 | 0,D,L=>(D,L,0)
 | n + 1,D,L=>match L.fs with
  | f :: g :: r=>if g.f <= upto + 1 then
    (if (removeD D (aH f.f)).2 ≠ 0 then ((removeD D (aH f.f)).1,L,(removeD D (aH f.f)).2)
     else dropF upto n (removeD D (aH f.f)).1 ⟨L.b + f.m,L.es.drop f.m,g :: r,L.safe - f.m⟩)
   else (D,L,0)
  | _=>(D,L,0)
def eI (D:aA) (L:aM) (upto:Nat):aA × aM × Nat:=if L.last < upto then (D,L,2) else dropF upto L.fs.length D L
def eO (L:aM) (first:Nat) (b:List Nat) (last:Bool):Bool × aM × Nat :=
 if (fP b).f ≠ first /\ last = true then (false,L,0)
 else if (fP b).f ≠ first \/ (last = false /\ (fP b).g ≠ b.length) \/ (L.fs ≠ [] /\ first ≠ L.last + 1) then (true,L,20)
 else (true,⟨if L.fs = [] then first - 1 else L.b,L.es ++ (fP b).es,L.fs ++ [⟨first,(fP b).es.length,(fP b).g⟩],L.safe⟩,0)
def loadW:List ByteArray -> aA -> aM -> aA × aM × Nat
 | [],D,L=>(D,L,0)
 | n :: r,D,L =>
  if bG D n ≠ 0 then (D,L,bG D n)
  else if (eO L (bS (bF n)) (bT D n).all (decide (r = []))).1 = false then
   (if (removeD D n).2 ≠ 0 then ((removeD D n).1,(eO L (bS (bF n)) (bT D n).all (decide (r = []))).2.1,(removeD D n).2)
    else loadW r (removeD D n).1 (eO L (bS (bF n)) (bT D n).all (decide (r = []))).2.1)
  else if (eO L (bS (bF n)) (bT D n).all (decide (r = []))).2.2 ≠ 0 then (D,(eO L (bS (bF n)) (bT D n).all (decide (r = []))).2.1,(eO L (bS (bF n)) (bT D n).all (decide (r = []))).2.2)
  else loadW r D (eO L (bS (bF n)) (bT D n).all (decide (r = []))).2.1
def bQ (D:aA) (L:aM):aA × Nat :=
 match L.fs.getLast? with
 | none=>(D,0)
 | some f =>
  if bG D (aH f.f) ≠ 0 then (D,bG D (aH f.f))
  else if f.s < (bT D (aH f.f)).all.length then
   (if (cutD D (aH f.f) f.s).2 ≠ 0 then cutD D (aH f.f) f.s else syncD (cutD D (aH f.f) f.s).1 (aH f.f))
  else syncD D (aH f.f)
def isW (f:aO):Bool:=decide (bS (bF f.name) ≠ 0)
def dO (D:aA):List aO:=D.files.filter isW
def dP (D:aA):List ByteArray:=(dO D).map (·.name)
def iS (D:aA) (L:aM) (base:Nat):aA × Option aM × Nat :=
 let r:=if L.fs = [] \/ L.last < base then bI D L base else (D,L,0)
 if r.2.2 ≠ 0 then (r.1,none,r.2.2) else if base < r.2.1.b then (r.1,none,20) else (r.1,some { r.2.1 with safe:=r.2.1.es.length },0)
def pU (D:aA) (L:aM) (base:Nat):aA × Option aM × Nat :=
 if (bQ D L).2 ≠ 0 then ((bQ D L).1,none,(bQ D L).2) else iS (bQ D L).1 L base
def fD (D:aA) (base:Nat):aA × Option aM × Nat :=
 if D.down = true then (D,none,50) else if H59 <= base then (D,none,2)
 else if (loadW (dP D) D ⟨0,[],[],0⟩).2.2 ≠ 0 then ((loadW (dP D) D ⟨0,[],[],0⟩).1,none,(loadW (dP D) D ⟨0,[],[],0⟩).2.2)
 else pU (loadW (dP D) D ⟨0,[],[],0⟩).1 (loadW (dP D) D ⟨0,[],[],0⟩).2.1 base
theorem lO (n:ByteArray) (L:List aO):(bH n L).filter isW = bH n (L.filter isW):=by
 unfold bH
 rw [List.filter_filter,List.filter_filter]
 congr 1
 funext g
 exact Bool.and_comm _ _
theorem qZ {f:aO} (h:isW f = false):∀ L,(insFile f L).filter isW = L.filter isW
 | []=>by simp [insFile,h]
 | g :: r=>by
  unfold insFile
  split
  ·simp [h]
  ·simp [List.filter_cons,qZ h r]
end Go.Proofs.YtjdglpcnkiioeaaGreat
namespace Go.Proofs.YtjdglpcnkiioeaaGreat
open Go.RowKit Go.Maps Go.Proofs.Own

theorem gD {D:aA} (hd:D.down = false):(bP D).down = true ↔ D.armed = 0:=by
 unfold bP
 by_cases h:D.armed = 0
 ·rw [if_pos h];simp [h]
 ·rw [if_neg h]
  split <;> simp [h,hd]
theorem gX {D:aA} (hd:D.down = false) (ha:¬ D.armed = 0):(bP D).down = false:=by
 have:=(not_congr (gD hd)).2 ha
 simpa using this
structure aJS (n:ByteArray) (r:aA × Nat) (l b:List Nat):Prop where
 ok:r.2 = 0 -> r.1.down = false /\ bT r.1 n = ⟨n,l ++ b,(l ++ b).length⟩
 no:r.2 ≠ 0 -> r.1.down = false -> bT r.1 n = ⟨n,l,l.length⟩
 gone:r.1.down = true -> bT r.1 n = ⟨n,l,l.length⟩ \/ bT r.1 n = ⟨n,l ++ b,l.length⟩
theorem aAg {n:ByteArray} {D:aA} (hd:D.down = false) {l:List Nat} (hf:bT D n = ⟨n,l,l.length⟩) (b:List Nat):aJS n (eV D n b) l b:=by
 unfold eV aY
 by_cases ha:rQ D n b ≠ 0
 ·rw [if_pos ha,if_pos ha]
  refine ⟨fun h=>absurd h ha,fun _ _=>hf,fun h=>?_⟩
  simp only [hd] at h;cases h
 ·rw [if_neg ha]
  have hdn:(iK D n b).down = false:=hd
  have har:(iK D n b).armed = D.armed:=rfl
  have hfd:aC n (bP (iK D n b)).files = some ⟨n,l ++ b,l.length⟩:=by
   rw [bC]
   unfold iK
   rw [hf]
   exact jC ⟨n,l ++ b,l.length⟩ D.files
  by_cases h0:D.armed = 0
  ·have he:fO D = 50:=if_pos h0
   have hdw:(bP (iK D n b)).down = true:=(gD hdn).2 (har.trans h0)
   rw [he,if_pos (by simp)]
   refine ⟨fun h=>?_,fun _ h=>?_,fun _=>Or.inr (dC hfd)⟩
   ·simp at h
   ·simp only [hdw] at h;cases h
  ·have he:fO D = 0:=if_neg h0
   rw [he,if_neg (by simp)]
   have hup:(bP (iK D n b)).down = false:=gX hdn (by rw [har];exact h0)
   generalize bP (iK D n b) = E at *
   unfold syncD
   simp only [hfd]
   rw [if_neg (by rw [hup];decide)]
   by_cases h1:E.armed = 0
   ·rw [if_pos h1]
    have hdw:(bP E).down = true:=(gD hup).2 h1
    have hg:bT (bP E) n = ⟨n,l ++ b,l.length⟩:=by unfold bT;rw [bC,hfd];rfl
    refine ⟨fun h=>?_,fun _ h=>?_,fun _=>Or.inr hg⟩
    ·simp at h
    ·simp only [hdw] at h;cases h
   ·rw [if_neg h1]
    have hdw:(bP E).down = false:=gX hup h1
    refine ⟨fun _=>⟨hdw,dC (jC ⟨n,l ++ b,(l ++ b).length⟩ E.files)⟩,fun h=>absurd rfl h,fun h=>?_⟩
    simp only [hdw] at h;cases h
theorem tE {D:aA} {n:ByteArray} {b:List Nat} {k:Nat} (h:bT D n = ⟨n,b,k⟩) (hb:b ≠ []):aC n D.files = some ⟨n,b,k⟩:=by
 cases e:aC n D.files with
 | none=>rw [fF e] at h;exact absurd (aO.mk.inj h).2.1.symm hb
 | some f=>rw [dC e] at h;rw [h]
theorem aEW {D:aA} {n m:ByteArray} (b:List Nat) (h:¬ n = m):bT (eV D n b).1 m = bT D m:=by
 have ha:bT (aY D n b).1 m = bT D m:=by
  unfold aY
  split
  ·rfl
  ·refine fK ?_
   rw [bC]
   unfold iK
   exact jD (by simp only;rw [qN];exact h) D.files
 unfold eV
 split
 ·exact ha
 ·rw [<- ha]
  generalize (aY D n b).1 = E
  unfold syncD
  cases e:aC n E.files with
  | none=>rfl
  | some f =>
   simp only
   split
   ·rfl
   ·split
    ·exact fK (by rw [bC])
    ·refine fK (jD ?_ E.files)
     simp only
     rw [(cF e).1]
     exact h
structure aIT (r:aA × Nat) (l b:List Nat):Prop where
 ok:r.2 = 0 -> r.1.down = false /\ bT r.1 bO = ⟨bO,b,b.length⟩
 no:r.2 ≠ 0 -> bT r.1 bO = ⟨bO,l,l.length⟩
theorem aJA {D:aA} (hd:D.down = false) (hn:aC cD D.files = none) {l b:List Nat} (hf:bT D bO = ⟨bO,l,l.length⟩) (hb:b ≠ []):aIT (jN D b) l b:=by
 have hs:=aAg (n:=cD) hd (l:=[]) (fF hn) b
 have hap:=aEW (n:=cD) (m:=bO) (D:=D) b aBE
 rw [hf] at hap
 unfold jN
 generalize eV D cD b = r at *
 obtain ⟨E,e⟩:=r
 by_cases he:e = 0
 ·subst he
  rw [if_neg (by simp)]
  obtain ⟨h1,h2⟩:=hs.ok rfl
  simp only [List.nil_append] at h1 h2 hap ⊢
  have h3:=tE h2 hb
  unfold gK
  rw [h3]
  simp only
  rw [if_neg (by rw [h1];decide),if_neg (by decide)]
  by_cases ha:E.armed = 0
  ·rw [if_pos ha]
   refine ⟨fun h=>?_,fun _=>?_⟩
   ·simp at h
   ·exact (fK (by rw [bC])).trans hap
  ·rw [if_neg ha]
   exact ⟨fun _=>⟨gX h1 ha,dC (jC ⟨bO,b,b.length⟩ _)⟩,fun h=>absurd rfl h⟩
 ·rw [if_pos he]
  exact ⟨fun h=>absurd h he,fun _=>hap⟩
theorem aHM {D:aA} (hd:D.down = false):bT (cC D cD).1 bO = bT D bO /\ ((cC D cD).2 = 0 -> (cC D cD).1.down = false /\ aC cD (cC D cD).1.files = none):=by
 cases e:aC cD D.files with
 | none =>
  have h31:bG D cD = 31:=by unfold bG;rw [if_neg (by rw [hd];decide),if_pos e]
  have hr:removeD D cD = (D,31):=by unfold removeD;rw [e];simp only;rw [h31]
  unfold cC
  rw [hr]
  exact ⟨rfl,fun _=>⟨hd,e⟩⟩
 | some f =>
  by_cases ha:D.armed = 0
  ·have hr:removeD D cD = (bP D,50):=by
    unfold removeD
    rw [e]
    simp only
    rw [if_neg (by rw [hd];decide),if_pos ha]
   unfold cC
   rw [hr]
   refine ⟨fK (by rw [bC]),fun h=>?_⟩
   simp at h
  ·have hr:removeD D cD = ({ bP D with files:=bH cD D.files },0):=by
    unfold removeD
    rw [e]
    simp only
    rw [if_neg (by rw [hd];decide),if_neg ha]
   unfold cC
   rw [hr]
   exact ⟨fK (jB aBE _),fun _=>⟨gX hd ha,wE _ _⟩⟩
structure aHh (r:aA × Nat) (l b:List Nat):Prop where
 ok:r.2 = 0 -> r.1.down = false /\ (bT r.1 bO = ⟨bO,l ++ b,(l ++ b).length⟩ \/ bT r.1 bO = ⟨bO,b,b.length⟩)
 no:r.2 ≠ 0 -> r.1.down = false -> bT r.1 bO = ⟨bO,l,l.length⟩
 gone:r.1.down = true -> bT r.1 bO = ⟨bO,l,l.length⟩ \/ bT r.1 bO = ⟨bO,l ++ b,l.length⟩
theorem aEQ {D:aA} (hd:D.down = false) {l b:List Nat} (hf:bT D bO = ⟨bO,l,l.length⟩) (hb:b ≠ []):aHh (cU D b) l b:=by
 unfold cU
 rw [if_neg (by rw [hd];decide)]
 by_cases hl:(bT D bO).all.length < 256
 ·rw [if_pos hl]
  have h:=aAg hd hf b
  exact ⟨fun e=>⟨(h.ok e).1,.inl (h.ok e).2⟩,h.no,h.gone⟩
 ·rw [if_neg hl]
  obtain ⟨g1,g2⟩:=aHM hd
  rw [hf] at g1
  generalize cC D cD = r at *
  by_cases he:r.2 = 0
  ·rw [if_neg (fun h=>h he)]
   obtain ⟨h1,h2⟩:=g2 he
   have h:=aJA h1 h2 g1 hb
   refine ⟨fun e=>⟨(h.ok e).1,.inr (h.ok e).2⟩,fun e _=>h.no e,fun e=>.inl (h.no fun e0=>?_)⟩
   have h3:=(h.ok e0).1
   rw [h3] at e
   cases e
  ·rw [if_pos he]
   exact ⟨fun h=>absurd h he,fun _ _=>g1,fun _=>.inl g1⟩
end Go.Proofs.YtjdglpcnkiioeaaGreat
namespace Go.Proofs.YtjdglpcnkiioeaaGreat
open Go.RowKit Go.Maps Go.Proofs.Own Go.Shelf

theorem oB {a b c:ByteArray} (h:eW a b = true) (g:eW b c = true):eW a c = true:=WideShapes.bytes_trans _ _ _ h g
theorem pK {f:aO} (h:isW f = true):∀ {L:List aO},bA L -> (insFile f L).filter isW = insFile f (L.filter isW)
 | [],_=>by simp [insFile,h]
 | g :: r,hr=>by
  obtain ⟨h1,h2⟩:=List.pairwise_cons.1 hr
  have ih:=pK h h2
  by_cases hl:eW f.name g.name = true
  ·have hi:∀ M:List aO,(∀ x ∈ M,eW f.name x.name = true) -> insFile f M = f :: M:=fun M hM=>by
    cases M with
    | nil=>rfl
    | cons x s =>
     unfold insFile
     rw [if_pos (hM x (List.mem_cons_self ..))]
   rw [hi (g :: r) (fun x hx=>by
    rcases List.mem_cons.1 hx with rfl | hx
    ·exact hl
    ·exact oB hl (h1 x hx)),List.filter_cons_of_pos h,hi _ (fun x hx=>by
    rcases List.mem_cons.1 (List.mem_filter.1 hx).1 with rfl | hx
    ·exact hl
    ·exact oB hl (h1 x hx))]
  ·have hi:∀ M:List aO,insFile f (g :: M) = g :: insFile f M:=fun M=>by
    conv=>lhs;unfold insFile
    rw [if_neg hl]
   rw [hi]
   by_cases hg:isW g = true
   ·rw [List.filter_cons_of_pos hg,List.filter_cons_of_pos hg,hi,ih]
   ·rw [List.filter_cons_of_neg hg,List.filter_cons_of_neg hg,ih]
theorem lP {f:aO} (h:isW f = true) {L:List aO} (hr:bA L):(bL f L).filter isW = bL f (L.filter isW):=by
 unfold bL
 rw [pK (L:=bH f.name L) h (List.Pairwise.sublist (List.filter_sublist ..) hr),lO]
theorem kD {f:aO} (h:isW f = false) (L:List aO):(bL f L).filter isW = L.filter isW:=by
 unfold bL
 rw [qZ h,lO]
 unfold bH
 refine List.filter_eq_self.2 fun g hg=>?_
 have hw:=(List.mem_filter.1 hg).2
 rw [Bool.not_eq_true',decide_eq_false_iff_not]
 intro e
 have:isW g = isW f:=by unfold isW;rw [e]
 rw [hw,h] at this
 cases this
theorem pL {n:ByteArray} (h:bS (bF n) ≠ 0) (L:List aO):aC n (L.filter isW) = aC n L:=by
 unfold aC
 rw [List.find?_filter]
 congr 1
 funext g
 by_cases e:g.name = n
 ·have:isW g = true:=by unfold isW;rw [e];exact decide_eq_true h
  simp [this]
 ·simp [e]
structure Pc where
 f:Nat
 es:List bR
 k:Nat
def Pc.w (p:Pc):List Nat:=cH p.f p.es
def Pc.file (p:Pc):aO:=⟨aH p.f,p.w,p.k⟩
def Pc.wf (p:Pc):WF:=⟨p.f,p.es.length,p.w.length⟩
def cE (P:List Pc):List bR:=P.flatMap Pc.es
def Chain:Nat -> List Pc -> Prop
 | _,[]=>True
 | n,p :: r=>p.f = n /\ Chain (n + p.es.length) r
theorem cX (A B:List Pc):cE (A ++ B) = cE A ++ cE B:=List.flatMap_append
theorem dY (p:Pc):cE [p] = p.es:=List.append_nil _
theorem jU (p:Pc) (r:List Pc):cE (p :: r) = p.es ++ cE r:=rfl
theorem Chain.app {A B:List Pc}:∀ {n:Nat},Chain n (A ++ B) ↔ Chain n A /\ Chain (n + (cE A).length) B:=by
 induction A with
 | nil=>intro n;simp [Chain,cE]
 | cons p r ih =>
  intro n
  simp only [List.cons_append,Chain,ih,jU,List.length_append,Nat.add_assoc,and_assoc]
theorem Chain.range {P:List Pc}:∀ {n:Nat},Chain n P -> ∀ p ∈ P,n <= p.f /\ p.f + p.es.length <= n + (cE P).length:=by
 induction P with
 | nil=>intro n _ p hp;cases hp
 | cons q r ih =>
  intro n h p hp
  rw [jU,List.length_append]
  rcases List.mem_cons.1 hp with rfl | hp
  ·have:=h.1;omega
  ·have:=ih h.2 p hp
   omega
structure dF (D:aA) (L:aM) (P:List Pc):Prop where
 fil:dO D = P.map Pc.file
 fs:L.fs = P.map Pc.wf
 es:L.es = cE P
 ch:Chain (L.b + 1) P
 ok:∀ e ∈ L.es,e.ok
 hi:L.b + L.es.length <= H59
 full:∀ p ∈ P.dropLast,p.k = p.w.length /\ 1024 <= p.w.length /\ p.es ≠ []
 safe:L.safe <= L.es.length
 kept:∀ A z,P = A ++ [z] -> (cE A).length <= L.safe /\ ((z.k = 0 /\ L.safe = (cE A).length /\ z.es ≠ []) \/ ∃ j,j <= z.es.length /\ L.safe <= (cE A).length + j /\ z.k = (cH z.f (z.es.take j)).length)
 lo:L.b < H59 /\ ∀ p ∈ P,p.f <= H59

theorem aBG {a b:ByteArray} (h:a ≠ b):eW a b = true \/ eW b a = true:=by
 refine WideAt.bytes_total _ _ fun e=>h ?_
 cases a with
 | mk x=>cases b with
  | mk y =>
   simp only at e
   rw [Array.toList_inj.1 e]
theorem bA.del {L:List aO} (h:bA L) (n:ByteArray):bA (bH n L):=List.Pairwise.sublist (List.filter_sublist ..) h
theorem bA.ins {f:aO}:∀ {L:List aO},bA L -> (∀ g ∈ L,¬ g.name = f.name) -> bA (insFile f L)
 | [],_,_=>List.pairwise_singleton _ _
 | g :: r,h,hn=>by
  obtain ⟨h1,h2⟩:=List.pairwise_cons.1 h
  unfold insFile
  by_cases hl:eW f.name g.name = true
  ·rw [if_pos hl]
   refine List.pairwise_cons.2 ⟨fun x hx=>?_,h⟩
   rcases List.mem_cons.1 hx with rfl | hx
   ·exact hl
   ·exact oB hl (h1 x hx)
  ·rw [if_neg hl]
   refine List.pairwise_cons.2 ⟨fun x hx=>?_,bA.ins h2 fun x hx=>hn x (List.mem_cons_of_mem _ hx)⟩
   rcases aBD.1 hx with rfl | hx
   ·rcases aBG (hn g (List.mem_cons_self ..)) with e | e
    ·exact e
    ·exact absurd e hl
   ·exact h1 x hx
theorem bA.put {L:List aO} (h:bA L) (f:aO):bA (bL f L):=bA.ins (h.del _) fun _g hg=>(mH.1 hg).2
theorem mL {D:aA} (h:bA D.files):bA (dO D):=List.Pairwise.sublist (List.filter_sublist ..) h
theorem oJ {D:aA} {n:ByteArray} {f:aO} (hd:D.down = false) (hf:aC n D.files = some f) :
  ((removeD D n).2 = 50 /\ (removeD D n).1.down = true /\ (removeD D n).1.files = D.files) \/ ((removeD D n).2 = 0 /\ (removeD D n).1.down = false /\ (removeD D n).1.files = bH n D.files):=by
 unfold removeD
 rw [hf]
 simp only
 rw [if_neg (by rw [hd];decide)]
 by_cases ha:D.armed = 0
 ·rw [if_pos ha]
  exact .inl ⟨rfl,(gD hd).2 ha,bC D⟩
 ·rw [if_neg ha]
  exact .inr ⟨rfl,gX hd ha,rfl⟩
theorem aEt {D:aA} {n:ByteArray} {f:aO} (hd:D.down = false) (hf:aC n D.files = some f) :
  ((syncD D n).2 = 50 /\ (syncD D n).1.down = true /\ (syncD D n).1.files = D.files) \/ ((syncD D n).2 = 0 /\ (syncD D n).1.down = false /\ (syncD D n).1.files = bL { f with kept:=f.all.length } D.files):=by
 unfold syncD
 rw [hf]
 simp only
 rw [if_neg (by rw [hd];decide)]
 by_cases ha:D.armed = 0
 ·rw [if_pos ha]
  exact .inl ⟨rfl,(gD hd).2 ha,bC D⟩
 ·rw [if_neg ha]
  exact .inr ⟨rfl,gX hd ha,rfl⟩
theorem aFN {D:aA} {n:ByteArray} {f:aO} {k:Nat} (hd:D.down = false) (hf:aC n D.files = some f) (hk:k <= f.all.length) :
  ((cutD D n k).2 = 50 /\ (cutD D n k).1.down = true /\ (cutD D n k).1.files = D.files) \/ ((cutD D n k).2 = 0 /\ (cutD D n k).1.down = false /\ (cutD D n k).1.files = bL ⟨f.name,f.all.take k,min f.kept k⟩ D.files):=by
 unfold cutD
 rw [hf]
 simp only
 rw [if_neg (by rw [hd];decide),if_neg (by omega),Int.toNat_natCast]
 by_cases ha:D.armed = 0
 ·rw [if_pos ha]
  exact .inl ⟨rfl,(gD hd).2 ha,bC D⟩
 ·rw [if_neg ha]
  exact .inr ⟨rfl,gX hd ha,rfl⟩
theorem sU {D:aA} {n:ByteArray} {b:List Nat} (hd:D.down = false) :
  ((aY D n b).2 ≠ 0 /\ (aY D n b).1 = D) \/ (aY D n b).1.files = bL { bT D n with all:=(bT D n).all ++ b } D.files /\ (((aY D n b).2 = 50 /\ (aY D n b).1.down = true) \/ ((aY D n b).2 = 0 /\ (aY D n b).1.down = false)):=by
 unfold aY
 by_cases h:rQ D n b ≠ 0
 ·rw [if_pos h]
  exact .inl ⟨h,rfl⟩
 ·rw [if_neg h]
  refine .inr ⟨bC _,?_⟩
  show (fO D = 50 /\ (bP (iK D n b)).down = true) \/ (fO D = 0 /\ (bP (iK D n b)).down = false)
  have h1:(iK D n b).down = false:=hd
  have h2:(iK D n b).armed = D.armed:=rfl
  unfold fO
  by_cases ha:D.armed = 0
  ·rw [if_pos ha]
   exact .inl ⟨rfl,(gD h1).2 (h2.trans ha)⟩
  ·rw [if_neg ha]
   exact .inr ⟨rfl,gX h1 (fun e=>ha (h2.symm.trans e))⟩
theorem aAL {p:Pc} (h:1 <= p.f /\ p.f < 1152921504606846976):isW p.file = true:=by
 unfold isW
 show decide (bS (bF (aH p.f)) ≠ 0) = true
 rw [kK h.1 h.2]
 exact decide_eq_true (by omega)
theorem nB {n:Nat} (h:1 <= n /\ n < 1152921504606846976):bS (bF (aH n)) ≠ 0:=by
 rw [kK h.1 h.2]
 omega
theorem aBz {D:aA} {A B:List Pc} {z:Pc} (hr:bA D.files) (hf:dO D = (A ++ z :: B).map Pc.file):bA (A.map Pc.file ++ z.file :: B.map Pc.file):=by
 have:=mL hr
 rw [hf] at this
 simpa using this
theorem nC {D:aA} {A B:List Pc} {z:Pc} (hr:bA D.files) (hf:dO D = (A ++ z :: B).map Pc.file) (hz:1 <= z.f /\ z.f < 1152921504606846976):aC (aH z.f) D.files = some z.file:=by
 rw [<- pL (nB hz)]
 show aC z.file.name (dO D) = _
 rw [hf]
 simpa using yH (aBz hr hf)
theorem aBy {D:aA} {A B:List Pc} {z:Pc} (hr:bA D.files) (hf:dO D = (A ++ z :: B).map Pc.file):(bH (aH z.f) D.files).filter isW = (A ++ B).map Pc.file:=by
 rw [lO]
 show bH z.file.name (dO D) = _
 rw [hf]
 simpa using tA (aBz hr hf)
theorem aBA {D:aA} {A B:List Pc} {z z':Pc} (hr:bA D.files) (hf:dO D = (A ++ z :: B).map Pc.file) (hz:1 <= z.f /\ z.f < 1152921504606846976) (he:z'.f = z.f):(bL z'.file D.files).filter isW = (A ++ z' :: B).map Pc.file:=by
 rw [lP (aAL (by rw [he];exact hz)) hr]
 show bL z'.file (dO D) = _
 rw [hf]
 have:=aBL (f':=z'.file) (aBz hr hf) (by show aH z'.f = aH z.f;rw [he])
 simpa using this
theorem aJh {D:aA} {P:List Pc} {z:Pc} (hr:bA D.files) (hf:dO D = P.map Pc.file) (hz:1 <= z.f /\ z.f < 1152921504606846976) (hl:∀ p ∈ P,1 <= p.f /\ p.f < z.f) :
  aC (aH z.f) D.files = none /\ (bL z.file D.files).filter isW = (P ++ [z]).map Pc.file:=by
 have hlt:∀ g ∈ P.map Pc.file,eW g.name z.file.name = true:=fun g hg=>by
  obtain ⟨p,hp,rfl⟩:=List.mem_map.1 hg
  have:=hl p hp
  exact aEb (by omega) (by omega) hz.2
 have hne:∀ g ∈ P.map Pc.file,¬ g.name = z.file.name:=fun g hg=>nG (hlt g hg)
 refine ⟨?_,?_⟩
 ·rw [<- pL (nB hz)]
  show aC z.file.name (dO D) = none
  rw [hf]
  exact uJ hne
 ·rw [lP (aAL hz) hr]
  show insFile z.file (bH z.file.name (dO D)) = _
  rw [hf]
  have hd:bH z.file.name (P.map Pc.file) = P.map Pc.file:=by
   unfold bH
   exact List.filter_eq_self.2 fun g hg=>by simpa using hne g hg
  rw [hd]
  have:=aBt (f:=z.file) (A:=P.map Pc.file) (B:=[]) hlt (by intro g hg;cases hg)
  simpa using this

theorem dF.same {D D':aA} {L:aM} {P:List Pc} (h:dF D L P) (hf:D'.files = D.files):dF D' L P :=
 ⟨by have:=h.fil;unfold dO at this ⊢;rw [hf];exact this,h.fs,h.es,h.ch,h.ok,h.hi,h.full,h.safe,h.kept,h.lo⟩
theorem aD8 {b:Nat} {A:List Pc} {z z':Pc} (h:b < H59 /\ ∀ p ∈ A ++ [z],p.f <= H59) (e:z'.f = z.f):b < H59 /\ ∀ p ∈ A ++ [z'],p.f <= H59:=by
 refine ⟨h.1,fun p hp=>?_⟩
 rcases List.mem_append.1 hp with hp | hp
 ·exact h.2 p (List.mem_append_left _ hp)
 ·obtain rfl:=List.mem_singleton.1 hp
  rw [e]
  exact h.2 z (List.mem_append_right _ (List.mem_singleton_self z))
theorem dF.range {D:aA} {L:aM} {P:List Pc} (h:dF D L P):∀ p ∈ P,1 <= p.f /\ p.f < 1152921504606846976 /\ L.b + 1 <= p.f /\ p.f + p.es.length <= L.last + 1:=by
 intro p hp
 have h1:=h.ch.range p hp
 have h2:=h.hi
 have h3:=h.es
 rw [<- h3] at h1
 unfold H59 at h2
 unfold aM.last
 omega
theorem dF.lR {D:aA} {L:aM} {P:List Pc} (h:dF D L P) {p:Pc} (hp:p ∈ P):1 <= p.f /\ p.f < 1152921504606846976:=let ⟨a,b,_⟩:=h.range p hp;⟨a,b⟩
theorem mF {D:aA} {L:aM} {A:List Pc} {z:Pc} (h:dF D L (A ++ [z])):L.fs.getLast? = some z.wf /\ L.fs.dropLast = A.map Pc.wf:=by
 rw [h.fs,List.map_append]
 simp
theorem dF.aIl {D:aA} {L:aM} {A:List Pc} {z:Pc} (h:dF D L (A ++ [z])):(cE A).length <= L.safe:=(h.kept A z rfl).1
theorem eP {P:List Pc} (h:P ≠ []):∃ A z,P = A ++ [z]:=⟨P.dropLast,P.getLast h,(List.dropLast_concat_getLast h).symm⟩
theorem aGh {A:List Pc} {n:Nat} (hfull:∀ p ∈ A,p.k = p.w.length /\ 1024 <= p.w.length /\ p.es ≠ []) (hn:n = (cE A).length) :
  ∀ B z,A = B ++ [z] -> (cE B).length <= n /\ ((z.k = 0 /\ n = (cE B).length /\ z.es ≠ []) \/ ∃ j,j <= z.es.length /\ n <= (cE B).length + j /\ z.k = (cH z.f (z.es.take j)).length):=by
 intro B z e
 subst e
 have h1:=hfull z (List.mem_append_right _ (List.mem_singleton_self z))
 rw [cX,dY,List.length_append] at hn
 refine ⟨by omega,.inr ⟨z.es.length,Nat.le_refl _,by omega,?_⟩⟩
 rw [List.take_length,h1.1]
 rfl
theorem xJ {D:aA} {L:aM} {A:List Pc} {z:Pc} (h:dF D L (A ++ [z])) (hd:D.down = false) (hr:bA D.files) :
  ((popW D L).2.2 = 50 /\ (popW D L).1.down = true /\ (popW D L).2.1 = L /\ dF (popW D L).1 L (A ++ [z])) \/
  ((popW D L).2.2 = 0 /\ (popW D L).1.down = false /\ bA (popW D L).1.files /\ dF (popW D L).1 (popW D L).2.1 A /\ (popW D L).2.1.b = L.b /\ (popW D L).2.1.safe = (cE A).length):=by
 have hz:z ∈ A ++ [z]:=List.mem_append_right _ (List.mem_singleton_self z)
 have hf:=nC hr h.fil (h.lR hz)
 have hg:=mF h
 have hfull:∀ p ∈ A,p.k = p.w.length /\ 1024 <= p.w.length /\ p.es ≠ []:=by have:=h.full;rwa [List.dropLast_concat] at this
 unfold popW
 rw [hg.1]
 simp only
 rcases oJ hd hf with ⟨h1,h2,h3⟩ | ⟨h1,h2,h3⟩
 ·have h1':(removeD D (aH z.wf.f)).2 = 50:=h1
  rw [if_pos (by rw [h1'];decide)]
  exact .inl ⟨h1',h2,rfl,h.same h3⟩
 ·have h1':(removeD D (aH z.wf.f)).2 = 0:=h1
  rw [if_neg (by rw [h1'];decide),hg.2]
  have hel:L.es.length - z.wf.m = (cE A).length:=by
   show L.es.length - z.es.length = _
   rw [h.es,cX,dY,List.length_append]
   omega
  have htk:L.es.take (L.es.length - z.wf.m) = cE A:=by
   rw [hel,h.es,cX]
   exact List.take_left' rfl
  have hsf:min L.safe (L.es.length - z.wf.m) = (cE A).length:=by
   rw [hel]
   have:=h.aIl
   omega
  rw [htk,hsf]
  refine .inr ⟨rfl,h2,?_,⟨?_,rfl,rfl,(Chain.app.1 h.ch).1,?_,?_,?_,Nat.le_refl _,aGh hfull rfl,⟨h.lo.1,fun p hp=>h.lo.2 p (List.mem_append_left _ hp)⟩⟩,rfl,rfl⟩
  ·show bA (removeD D (aH z.f)).1.files
   rw [h3]
   exact hr.del _
  ·show (removeD D (aH z.f)).1.files.filter isW = _
   rw [h3]
   have:=aBy hr h.fil
   rwa [List.append_nil] at this
  ·intro e he
   refine h.ok e ?_
   rw [h.es,cX]
   exact List.mem_append_left _ he
  ·have:=h.hi
   rw [h.es,cX,List.length_append] at this
   show L.b + (cE A).length <= H59
   omega
  ·intro p hp
   exact hfull p ((List.dropLast_sublist A).subset hp)
theorem vB {base:Nat} (hb:base < H59):∀ (n:Nat) {D:aA} {L:aM} {P:List Pc},dF D L P -> D.down = false -> bA D.files -> P.length <= n ->
  ((resetF base n D L).2.2 = 50 /\ (resetF base n D L).1.down = true /\ (∃ P',dF (resetF base n D L).1 (resetF base n D L).2.1 P')) \/
  ((resetF base n D L).2.2 = 0 /\ (resetF base n D L).1.down = false /\ bA (resetF base n D L).1.files /\ dF (resetF base n D L).1 (resetF base n D L).2.1 [] /\ (resetF base n D L).2.1 = ⟨base,[],[],0⟩):=by
 have hend:∀ {D:aA} {L:aM},dF D L [] -> dF D ⟨base,[],[],0⟩ []:=fun {D L} h =>
  ⟨h.fil,rfl,rfl,trivial,(fun e he=>by cases he),(by show base + 0 <= H59;omega),(fun p hp=>by cases hp),Nat.le_refl _,(fun A z e=>by cases A <;> cases e),hb,(fun p hp=>by cases hp)⟩
 intro n
 induction n with
 | zero =>
  intro D L P h hd hr hn
  obtain rfl:=List.length_eq_zero_iff.1 (Nat.le_zero.1 hn)
  exact .inr ⟨rfl,hd,hr,hend h,rfl⟩
 | succ n ih =>
  intro D L P h hd hr hn
  unfold resetF
  by_cases hP:P = []
  ·subst hP
   have hfs:L.fs = []:=h.fs
   rw [if_pos hfs]
   exact .inr ⟨rfl,hd,hr,hend h,rfl⟩
  ·obtain ⟨A,z,rfl⟩:=eP hP
   have hfs:¬ L.fs = []:=by
    rw [h.fs]
    simp
   rw [if_neg hfs]
   rcases xJ h hd hr with ⟨h1,h2,h3,h4⟩ | ⟨h1,h2,h3,h4,h5,_⟩
   ·rw [if_pos (by rw [h1];decide)]
    refine .inl ⟨h1,h2,A ++ [z],?_⟩
    rw [h3]
    exact h4
   ·rw [if_neg (by rw [h1];decide)]
    exact ih h4 h2 h3 (by rw [List.length_append] at hn;simpa using hn)
theorem zP {D:aA} {L:aM} {P:List Pc} (h:dF D L P) (hd:D.down = false) (hr:bA D.files) :
  ((bJ D L).2.2 = 50 /\ (bJ D L).1.down = true /\ (bJ D L).2.1 = L /\ dF (bJ D L).1 L P) \/
  ((bJ D L).2.2 = 0 /\ (bJ D L).1.down = false /\ bA (bJ D L).1.files /\ (bJ D L).2.1 = { L with safe:=L.es.length } /\
   ∃ P',dF (bJ D L).1 { L with safe:=L.es.length } P' /\ P'.map Pc.wf = P.map Pc.wf /\ ∀ p ∈ P',p.k = p.w.length):=by
 unfold bJ
 by_cases hs:L.safe = L.es.length
 ·rw [if_pos hs]
  have hL:L = { L with safe:=L.es.length }:=by rw [<- hs]
  refine .inr ⟨rfl,hd,hr,hL,P,by rw [<- hL];exact h,rfl,?_⟩
  by_cases hP:P = []
  ·subst hP
   intro p hp
   cases hp
  ·obtain ⟨A,z,rfl⟩:=eP hP
   have hfull:∀ p ∈ A,p.k = p.w.length /\ 1024 <= p.w.length /\ p.es ≠ []:=by have:=h.full;rwa [List.dropLast_concat] at this
   have hel:L.es.length = (cE A).length + z.es.length:=by rw [h.es,cX,dY,List.length_append]
   intro p hp
   rcases List.mem_append.1 hp with hp | hp
   ·exact (hfull p hp).1
   ·obtain rfl:=List.mem_singleton.1 hp
    obtain ⟨_,⟨h1,h2,h3⟩ | ⟨j,h1,h2,h3⟩⟩:=h.kept A p rfl
    ·exact absurd (List.length_eq_zero_iff.1 (by omega)) h3
    ·have hj:j = p.es.length:=by omega
     rw [h3,hj,List.take_length]
     rfl
 ·rw [if_neg hs]
  have hP:P ≠ []:=by
   rintro rfl
   have h1:=h.es
   have h2:=h.safe
   rw [h1] at h2 hs
   exact hs (Nat.le_antisymm h2 (Nat.zero_le _))
  obtain ⟨A,z,rfl⟩:=eP hP
  have hz:z ∈ A ++ [z]:=List.mem_append_right _ (List.mem_singleton_self z)
  have hf:=nC hr h.fil (h.lR hz)
  have hg:=mF h
  have hfull:∀ p ∈ A,p.k = p.w.length /\ 1024 <= p.w.length /\ p.es ≠ []:=by have:=h.full;rwa [List.dropLast_concat] at this
  rw [hg.1]
  simp only
  rcases aEt hd hf with ⟨h1,h2,h3⟩ | ⟨h1,h2,h3⟩
  ·have h1':(syncD D (aH z.wf.f)).2 = 50:=h1
   rw [if_pos (by rw [h1'];decide)]
   exact .inl ⟨h1',h2,rfl,h.same h3⟩
  ·have h1':(syncD D (aH z.wf.f)).2 = 0:=h1
   rw [if_neg (by rw [h1'];decide)]
   have hwf:(A ++ [(⟨z.f,z.es,z.w.length⟩:Pc)]).map Pc.wf = (A ++ [z]).map Pc.wf:=by
    rw [List.map_append,List.map_append]
    rfl
   have hes:cE (A ++ [(⟨z.f,z.es,z.w.length⟩:Pc)]) = cE (A ++ [z]):=by
    rw [cX,cX]
    rfl
   refine .inr ⟨rfl,h2,?_,rfl,A ++ [⟨z.f,z.es,z.w.length⟩],⟨?_,?_,?_,?_,h.ok,h.hi,?_,Nat.le_refl _,?_,aD8 h.lo rfl⟩,hwf,?_⟩
   ·show bA (syncD D (aH z.f)).1.files
    rw [h3]
    exact hr.put _
   ·show (syncD D (aH z.f)).1.files.filter isW = _
    rw [h3]
    exact aBA (z':=⟨z.f,z.es,z.w.length⟩) hr h.fil (h.lR hz) rfl
   ·rw [hwf]
    exact h.fs
   ·rw [hes]
    exact h.es
   ·have:=Chain.app.1 h.ch
    exact Chain.app.2 ⟨this.1,this.2.1,trivial⟩
   ·rw [List.dropLast_concat]
    exact hfull
   ·intro B y e
    obtain ⟨rfl,e2⟩:=List.append_inj' e rfl
    obtain rfl:=List.singleton_inj.1 e2
    have hel:L.es.length = (cE A).length + z.es.length:=by rw [h.es,cX,dY,List.length_append]
    refine ⟨by show (cE A).length <= L.es.length;omega,.inr ⟨z.es.length,Nat.le_refl _,by show L.es.length <= (cE A).length + z.es.length;omega,?_⟩⟩
    show z.w.length = (cH z.f (z.es.take z.es.length)).length
    rw [List.take_length]
    rfl
   ·intro p hp
    rcases List.mem_append.1 hp with hp | hp
    ·exact (hfull p hp).1
    ·obtain rfl:=List.mem_singleton.1 hp
     rfl

def mU (r:aA × aM × Nat):Prop:=r.1.down = false /\ bA r.1.files /\ ∃ P,dF r.1 r.2.1 P
def xA (ms:List bR) (r:aA × aM × Nat):Prop:=r.1.down = true /\ r.2.2 = 50 /\ ∃ L P,dF r.1 L P /\ L.b = r.2.1.b /\ L.safe = r.2.1.safe /\ (L.es = r.2.1.es \/ L.es = r.2.1.es ++ ms)
theorem nZ:∀ (a b:List bR) (i:Nat),linesW i (a ++ b) = linesW i a ++ linesW (i + a.length) b
 | [],b,i=>rfl
 | e :: a,b,i=>by
  show eA i e ++ linesW (i + 1) (a ++ b) = (eA i e ++ linesW (i + 1) a) ++ linesW (i + (a.length + 1)) b
  rw [nZ a b (i + 1),List.append_assoc,show i + 1 + a.length = i + (a.length + 1) by omega]
theorem pY (f:Nat) (a b:List bR):cH f (a ++ b) = cH f a ++ linesW (f + a.length) b:=by
 unfold cH
 rw [nZ,List.append_assoc]
theorem aCx {n:Nat} (h:n <= 1152921504606846976):(dH n).length <= 28 /\ 8 <= (dH n).length:=by
 have:=gU (n:=n) (by omega)
 unfold dH
 rw [dE]
 omega
theorem aHY {n m:Nat} (hn:n <= H59) (h:¬ mG n < m):n + m <= H59:=by
 unfold mG H59 at *
 omega
theorem aIU {D:aA} {L:aM} {A:List Pc} {z:Pc} (h:dF D L (A ++ [z])) (hd:D.down = false) (hr:bA D.files) {ms:List bR} (hok:∀ e ∈ ms,e.ok) (hi:L.last + ms.length <= H59) :
  mU (aAl D L z.wf ms) \/ xA ms (aAl D L z.wf ms):=by
 have hz:z ∈ A ++ [z]:=List.mem_append_right _ (List.mem_singleton_self z)
 have hf:=nC hr h.fil (h.lR hz)
 have hg:=mF h
 have hel:L.es.length = (cE A).length + z.es.length:=by rw [h.es,cX,dY,List.length_append]
 have hzf:z.f = L.b + 1 + (cE A).length:=(Chain.app.1 h.ch).2.1
 have hnx:z.f + z.es.length = L.last + 1:=by unfold aM.last;omega
 have hw:z.w ++ linesW (L.last + 1) ms = cH z.f (z.es ++ ms):=by
  rw [pY,hnx]
  rfl
 have hes:cE (A ++ [(⟨z.f,z.es ++ ms,z.k⟩:Pc)]) = L.es ++ ms:=by
  rw [cX,dY,h.es,cX,dY,List.append_assoc]
 have hnew:∀ {D':aA},D'.files = bL { bT D (aH z.f) with all:=(bT D (aH z.f)).all ++ linesW (L.last + 1) ms } D.files ->
   dF D' ⟨L.b,L.es ++ ms,L.fs.dropLast ++ [⟨z.f,z.es.length + ms.length,z.w.length + (linesW (L.last + 1) ms).length⟩],L.safe⟩ (A ++ [⟨z.f,z.es ++ ms,z.k⟩]):=by
  intro D' hD
  refine ⟨?_,?_,hes.symm,?_,?_,?_,?_,?_,?_,aD8 h.lo rfl⟩
  ·unfold dO
   rw [hD,dC hf]
   have:=aBA (z':=⟨z.f,z.es ++ ms,z.k⟩) hr h.fil (h.lR hz) rfl
   rw [<- this]
   congr 2
   show ({ name:=aH z.f,all:=z.w ++ linesW (L.last + 1) ms,kept:=z.k }:aO) = ⟨aH z.f,cH z.f (z.es ++ ms),z.k⟩
   rw [hw]
  ·show L.fs.dropLast ++ _ = _
   rw [hg.2,List.map_append]
   congr 1
   show [_] = [_]
   congr 1
   show (⟨z.f,z.es.length + ms.length,z.w.length + (linesW (L.last + 1) ms).length⟩:WF) = ⟨z.f,(z.es ++ ms).length,(cH z.f (z.es ++ ms)).length⟩
   rw [<- hw,List.length_append,List.length_append]
  ·have:=Chain.app.1 h.ch
   exact Chain.app.2 ⟨this.1,this.2.1,trivial⟩
  ·intro e he
   rcases List.mem_append.1 he with he | he
   ·exact h.ok e he
   ·exact hok e he
  ·show L.b + (L.es ++ ms).length <= H59
   rw [List.length_append]
   unfold aM.last at hi
   omega
  ·rw [List.dropLast_concat]
   have:=h.full
   rwa [List.dropLast_concat] at this
  ·show L.safe <= (L.es ++ ms).length
   rw [List.length_append]
   have:=h.safe
   omega
  ·intro B y e
   obtain ⟨rfl,e2⟩:=List.append_inj' e rfl
   obtain rfl:=List.singleton_inj.1 e2
   obtain ⟨h1,h2⟩:=h.kept A z rfl
   refine ⟨h1,?_⟩
   rcases h2 with ⟨k0,k1,k2⟩ | ⟨j,j1,j2,j3⟩
   ·exact .inl ⟨k0,k1,fun e=>k2 (List.append_eq_nil_iff.1 e).1⟩
   ·refine .inr ⟨j,?_,j2,?_⟩
    ·show j <= (z.es ++ ms).length
     rw [List.length_append]
     omega
    ·show z.k = (cH z.f ((z.es ++ ms).take j)).length
     rw [List.take_append_of_le_length j1]
     exact j3
 unfold aAl
 rcases sU (n:=aH z.f) (b:=linesW (L.last + 1) ms) hd with ⟨h1,h2⟩ | ⟨h1,⟨h2,h3⟩ | ⟨h2,h3⟩⟩
 ·rw [if_pos (show (aY D (aH z.wf.f) (linesW (L.last + 1) ms)).2 ≠ 0 from h1)]
  refine .inl ⟨?_,?_,A ++ [z],?_⟩
  ·show (aY D (aH z.f) _).1.down = false
   rw [h2];exact hd
  ·show bA (aY D (aH z.f) _).1.files
   rw [h2];exact hr
  ·show dF (aY D (aH z.f) _).1 L (A ++ [z])
   rw [h2];exact h
 ·rw [if_pos (show (aY D (aH z.wf.f) (linesW (L.last + 1) ms)).2 ≠ 0 by rw [show (aY D (aH z.wf.f) (linesW (L.last + 1) ms)).2 = 50 from h2];decide)]
  exact .inr ⟨h3,h2,_,_,hnew h1,rfl,rfl,.inr rfl⟩
 ·rw [if_neg (show ¬ (aY D (aH z.wf.f) (linesW (L.last + 1) ms)).2 ≠ 0 by rw [show (aY D (aH z.wf.f) (linesW (L.last + 1) ms)).2 = 0 from h2];decide)]
  refine .inl ⟨h3,?_,_,hnew h1⟩
  show bA (aY D (aH z.f) _).1.files
  rw [h1]
  exact hr.put _
theorem aFf {D:aA} {L:aM} {P:List Pc} (h:dF D L P) (hd:D.down = false) (hr:bA D.files) {ms:List bR} (hok:∀ e ∈ ms,e.ok) (hi:L.last + ms.length <= H59) (hne:ms ≠ []) (hP:∀ p ∈ P,1024 <= p.w.length /\ p.es ≠ []) :
  mU (nH D L ms) \/ xA ms (nH D L ms):=by
 unfold nH
 rcases zP h hd hr with ⟨h1,h2,h3,h4⟩ | ⟨h1,h2,h3,h4,P',h5,h6,h7⟩
 ·rw [if_pos (by rw [h1];decide)]
  exact .inr ⟨h2,h1,L,P,h4,by rw [h3],by rw [h3],.inl (by rw [h3])⟩
 ·rw [if_neg (by rw [h1];decide)]
  have hP':∀ p ∈ P',p.k = p.w.length /\ 1024 <= p.w.length /\ p.es ≠ []:=by
   intro p hp
   have hm:p.wf ∈ P.map Pc.wf:=by rw [<- h6];exact List.mem_map_of_mem hp
   obtain ⟨q,hq,e⟩:=List.mem_map.1 hm
   obtain ⟨q1,q2⟩:=hP q hq
   have e1:q.es.length = p.es.length:=congrArg WF.m e
   have e2:q.w.length = p.w.length:=congrArg WF.s e
   refine ⟨h7 p hp,by omega,fun e3=>q2 (List.length_eq_zero_iff.1 ?_)⟩
   rw [e1,e3]
   rfl
  have hlast:∀ p ∈ P',1 <= p.f /\ p.f < L.last + 1:=by
   intro p hp
   have a:=h5.range p hp
   have b:=List.length_pos_iff.2 (hP' p hp).2.2
   have c:p.f + p.es.length <= L.last + 1:=a.2.2.2
   omega
  have hn60:1 <= L.last + 1 /\ L.last + 1 < 1152921504606846976:=by unfold H59 at hi;omega
  obtain ⟨g1,g2⟩:=aJh (z:=⟨L.last + 1,ms,0⟩) h3 h5.fil hn60 hlast
  have hnew:∀ {D':aA},D'.files = bL { bT (bJ D L).1 (aH (L.last + 1)) with all:=(bT (bJ D L).1 (aH (L.last + 1))).all ++ cH (L.last + 1) ms } (bJ D L).1.files ->
    dF D' ⟨L.b,L.es ++ ms,L.fs ++ [⟨L.last + 1,ms.length,(cH (L.last + 1) ms).length⟩],(bJ D L).2.1.safe⟩ (P' ++ [⟨L.last + 1,ms,0⟩]):=by
   intro D' hD
   have hsafe:(bJ D L).2.1.safe = L.es.length:=by rw [h4]
   have hesP:L.es = cE P':=h5.es
   refine ⟨?_,?_,?_,?_,?_,?_,?_,?_,?_,h.lo.1,fun p hp=>?_⟩
   rotate_right
   ·rcases List.mem_append.1 hp with hp | hp
    ·exact h5.lo.2 p hp
    ·obtain rfl:=List.mem_singleton.1 hp
     have:=List.length_pos_iff.2 hne
     show L.last + 1 <= H59
     omega
   ·unfold dO
    rw [hD,fF g1]
    exact g2
   ·show L.fs ++ _ = _
    rw [List.map_append,h6,h.fs]
    rfl
   ·show L.es ++ ms = _
    rw [cX,dY,<- hesP]
   ·refine Chain.app.2 ⟨h5.ch,?_,trivial⟩
    show L.last + 1 = L.b + 1 + (cE P').length
    rw [<- hesP]
    unfold aM.last
    omega
   ·intro e he
    rcases List.mem_append.1 he with he | he
    ·exact h.ok e he
    ·exact hok e he
   ·show L.b + (L.es ++ ms).length <= H59
    rw [List.length_append]
    unfold aM.last at hi
    omega
   ·rw [List.dropLast_concat]
    exact hP'
   ·show (bJ D L).2.1.safe <= (L.es ++ ms).length
    rw [hsafe,List.length_append]
    omega
   ·intro B y e
    obtain ⟨rfl,e2⟩:=List.append_inj' e rfl
    obtain rfl:=List.singleton_inj.1 e2
    show (cE P').length <= (bJ D L).2.1.safe /\ _
    rw [hsafe]
    exact ⟨by rw [hesP];exact Nat.le_refl _,.inl ⟨rfl,by show L.es.length = _;rw [hesP],hne⟩⟩
  rcases sU (n:=aH (L.last + 1)) (b:=cH (L.last + 1) ms) h2 with ⟨k1,k2⟩ | ⟨k1,⟨k2,k3⟩ | ⟨k2,k3⟩⟩
  ·rw [if_pos k1]
   refine .inl ⟨?_,?_,P',?_⟩
   ·show (aY (bJ D L).1 _ _).1.down = false
    rw [k2];exact h2
   ·show bA (aY (bJ D L).1 _ _).1.files
    rw [k2];exact h3
   ·show dF (aY (bJ D L).1 _ _).1 (bJ D L).2.1 P'
    rw [k2,h4];exact h5
  ·rw [if_pos (by rw [k2];decide)]
   exact .inr ⟨k3,k2,_,_,hnew k1,by show L.b = (bJ D L).2.1.b;rw [h4],rfl,.inr (by show L.es ++ ms = (bJ D L).2.1.es ++ ms;rw [h4])⟩
  ·rw [if_neg (by rw [k2];decide)]
   refine .inl ⟨k3,?_,_,hnew k1⟩
   show bA (aY (bJ D L).1 _ _).1.files
   rw [k1]
   exact h3.put _
theorem rR {D:aA} {L:aM} {P:List Pc} (h:dF D L P) (hd:D.down = false) (hr:bA D.files) (ms:List bR) :
  mU (aR D L ms) \/ xA ms (aR D L ms):=by
 have hsame:∀ e,mU (D,L,e):=fun e=>⟨hd,hr,P,h⟩
 unfold aR
 by_cases hok:∀ e ∈ ms,e.ok
 ·rw [if_neg (by simpa using hok)]
  by_cases hl:mG L.last < ms.length
  ·rw [if_pos hl]
   exact .inl (hsame _)
  ·rw [if_neg hl]
   have hi:L.last + ms.length <= H59:=aHY h.hi hl
   by_cases hne:ms = []
   ·rw [if_pos hne]
    exact .inl (hsame _)
   ·rw [if_neg hne]
    by_cases hP:P = []
    ·subst hP
     have hfs:L.fs = []:=h.fs
     rw [hfs]
     exact aFf h hd hr hok hi hne fun p hp=>by cases hp
    ·obtain ⟨A,z,rfl⟩:=eP hP
     rw [(mF h).1]
     simp only
     by_cases hs:z.wf.s < 1024
     ·rw [if_pos hs]
      exact aIU h hd hr hok hi
     ·rw [if_neg hs]
      refine aFf h hd hr hok hi hne fun p hp=>?_
      have hfull:∀ p ∈ A,p.k = p.w.length /\ 1024 <= p.w.length /\ p.es ≠ []:=by have:=h.full;rwa [List.dropLast_concat] at this
      rcases List.mem_append.1 hp with hp | hp
      ·exact (hfull p hp).2
      ·obtain rfl:=List.mem_singleton.1 hp
       have hs':1024 <= p.w.length:=by
        show 1024 <= p.wf.s
        omega
       refine ⟨hs',fun e=>?_⟩
       have h1:=(h.lR (List.mem_append_right A (List.mem_singleton_self p))).2
       have h2:=aCx (n:=p.f) (by omega)
       have h3:p.w = dH p.f:=by
        unfold Pc.w cH
        rw [e]
        exact List.append_nil _
       rw [h3] at hs'
       omega
 ·rw [if_pos (by simpa using hok)]
  exact .inl (hsame _)

theorem aHp (frm:Nat):∀ (n:Nat) {D:aA} {L:aM} {P:List Pc},dF D L P -> D.down = false -> bA D.files -> P.length <= n ->
  ((eR frm n D L).2.2 = 50 /\ (eR frm n D L).1.down = true /\ ∃ P',dF (eR frm n D L).1 (eR frm n D L).2.1 P') \/
  ((eR frm n D L).2.2 = 0 /\ (eR frm n D L).1.down = false /\ bA (eR frm n D L).1.files /\ (eR frm n D L).2.1.b = L.b /\ ∃ P',dF (eR frm n D L).1 (eR frm n D L).2.1 P' /\ ∀ A z,P' = A ++ [z] -> z.f < frm):=by
 intro n
 induction n with
 | zero =>
  intro D L P h hd hr hn
  obtain rfl:=List.length_eq_zero_iff.1 (Nat.le_zero.1 hn)
  exact .inr ⟨rfl,hd,hr,rfl,[],h,fun A z e=>by cases A <;> cases e⟩
 | succ n ih =>
  intro D L P h hd hr hn
  unfold eR
  by_cases hP:P = []
  ·subst hP
   have hfs:L.fs = []:=h.fs
   rw [hfs]
   exact .inr ⟨rfl,hd,hr,rfl,[],h,fun A z e=>by cases A <;> cases e⟩
  ·obtain ⟨A,z,rfl⟩:=eP hP
   rw [(mF h).1]
   simp only
   by_cases hz:z.wf.f < frm
   ·rw [if_pos hz]
    refine .inr ⟨rfl,hd,hr,rfl,_,h,fun B y e=>?_⟩
    obtain ⟨_,e2⟩:=List.append_inj' e rfl
    obtain rfl:=List.singleton_inj.1 e2
    exact hz
   ·rw [if_neg hz]
    rcases xJ h hd hr with ⟨h1,h2,h3,h4⟩ | ⟨h1,h2,h3,h4,h5,_⟩
    ·rw [if_pos (by rw [h1];decide)]
     refine .inl ⟨h1,h2,A ++ [z],?_⟩
     rw [h3]
     exact h4
    ·rw [if_neg (by rw [h1];decide)]
     rw [<- h5]
     exact ih h4 h2 h3 (by rw [List.length_append] at hn;simpa using hn)
theorem lB (f:Nat) (es:List bR) {a b:Nat} (h:a <= b):(cH f (es.take a)).length <= (cH f (es.take b)).length:=by
 have:es.take b = es.take a ++ (es.drop a).take (b - a):=by
  conv=>lhs;rw [show b = a + (b - a) by omega,List.take_add]
 rw [this,pY,List.length_append]
 omega
theorem aAr (f:Nat) (es:List bR) (a b:Nat):(cH f (es.take (min a b))).length = min (cH f (es.take a)).length (cH f (es.take b)).length:=by
 by_cases h:a <= b
 ·have:=lB f es h
  rw [Nat.min_eq_left h]
  omega
 ·have:=lB f es (show b <= a by omega)
  rw [Nat.min_eq_right (by omega)]
  omega
theorem aGG (f:Nat) (es:List bR) (m:Nat):(cH f es).take (cH f (es.take m)).length = cH f (es.take m):=by
 conv=>lhs;arg 2;rw [<- List.take_append_drop m es,pY]
 exact List.take_left' rfl
theorem aHq {D:aA} {L:aM} {A:List Pc} {z:Pc} (h:dF D L (A ++ [z])) (hd:D.down = false) (hr:bA D.files) {frm:Nat} (h1:z.f < frm) (h2:frm <= L.last) :
  mU (rS D L frm) \/ xA [] (rS D L frm):=by
 have hz:z ∈ A ++ [z]:=List.mem_append_right _ (List.mem_singleton_self z)
 have hf:=nC hr h.fil (h.lR hz)
 have hg:=mF h
 have hel:L.es.length = (cE A).length + z.es.length:=by rw [h.es,cX,dY,List.length_append]
 have hzf:z.f = L.b + 1 + (cE A).length:=(Chain.app.1 h.ch).2.1
 have hlast:L.last = L.b + L.es.length:=rfl
 have hat:z.f - L.b - 1 = (cE A).length:=by omega
 have hdrop:L.es.drop (z.f - L.b - 1) = z.es:=by
  rw [hat,h.es,cX,dY]
  exact List.drop_left' rfl
 have hsz:(dH z.f).length + (linesW z.f (z.es.take (frm - z.f))).length = (cH z.f (z.es.take (frm - z.f))).length:=by
  unfold cH
  rw [List.length_append]
 have hle:(cH z.f (z.es.take (frm - z.f))).length <= z.w.length:=by
  have:=lB z.f z.es (a:=frm - z.f) (b:=z.es.length) (by omega)
  rwa [List.take_length] at this
 have htk:L.es.take (frm - L.b - 1) = cE A ++ z.es.take (frm - z.f):=by
  rw [h.es,cX,dY,show frm - L.b - 1 = (cE A).length + (frm - z.f) by omega,List.take_length_add_append]
 unfold rS
 rw [hg.1]
 simp only
 show mU (if (cutD D (aH z.f) ((dH z.f).length + (linesW z.f ((L.es.drop (z.f - L.b - 1)).take (frm - z.f))).length:Nat)).2 ≠ 0 then _ else _) \/ xA [] (if (cutD D (aH z.f) ((dH z.f).length + (linesW z.f ((L.es.drop (z.f - L.b - 1)).take (frm - z.f))).length:Nat)).2 ≠ 0 then _ else _)
 have hwf:z.wf.f = z.f:=rfl
 rw [hwf,hdrop,hsz]
 rcases aFN (k:=(cH z.f (z.es.take (frm - z.f))).length) hd hf hle with ⟨k1,k2,k3⟩ | ⟨k1,k2,k3⟩
 ·rw [if_pos (by rw [k1];decide)]
  exact .inr ⟨k2,k1,L,A ++ [z],h.same k3,rfl,rfl,.inl rfl⟩
 ·rw [if_neg (by rw [k1];decide)]
  have hfile:(⟨z.file.name,z.file.all.take (cH z.f (z.es.take (frm - z.f))).length,min z.file.kept (cH z.f (z.es.take (frm - z.f))).length⟩:aO) = (⟨z.f,z.es.take (frm - z.f),min z.k (cH z.f (z.es.take (frm - z.f))).length⟩:Pc).file:=by
   show (⟨aH z.f,(cH z.f z.es).take _,_⟩:aO) = ⟨aH z.f,cH z.f (z.es.take (frm - z.f)),_⟩
   rw [aGG]
   rfl
  rw [hfile] at k3
  refine .inl ⟨k2,?_,A ++ [⟨z.f,z.es.take (frm - z.f),min z.k (cH z.f (z.es.take (frm - z.f))).length⟩],?_,?_,?_,?_,?_,?_,?_,?_,?_,aD8 h.lo rfl⟩
  ·show bA (cutD D (aH z.f) _).1.files
   rw [k3]
   exact hr.put _
  ·show (cutD D (aH z.f) _).1.files.filter isW = _
   rw [k3]
   exact aBA (z':=⟨z.f,z.es.take (frm - z.f),min z.k (cH z.f (z.es.take (frm - z.f))).length⟩) hr h.fil (h.lR hz) rfl
  ·show L.fs.dropLast ++ [_] = _
   rw [hg.2,List.map_append]
   congr 1
   show [_] = [_]
   congr 1
   show (⟨z.f,frm - z.f,_⟩:WF) = ⟨z.f,(z.es.take (frm - z.f)).length,(cH z.f (z.es.take (frm - z.f))).length⟩
   rw [List.length_take,show min (frm - z.f) z.es.length = frm - z.f by omega]
  ·show L.es.take (frm - L.b - 1) = _
   rw [htk,cX,dY]
  ·have:=Chain.app.1 h.ch
   exact Chain.app.2 ⟨this.1,this.2.1,trivial⟩
  ·intro e he
   exact h.ok e (List.mem_of_mem_take he)
  ·show L.b + (L.es.take (frm - L.b - 1)).length <= H59
   have:=h.hi
   rw [List.length_take]
   omega
  ·rw [List.dropLast_concat]
   have:=h.full
   rwa [List.dropLast_concat] at this
  ·show min L.safe (frm - L.b - 1) <= (L.es.take (frm - L.b - 1)).length
   have:=h.safe
   rw [List.length_take]
   omega
  ·intro B y e
   obtain ⟨rfl,e2⟩:=List.append_inj' e rfl
   obtain rfl:=List.singleton_inj.1 e2
   obtain ⟨s1,s2⟩:=h.kept A z rfl
   show (cE A).length <= min L.safe (frm - L.b - 1) /\ _
   refine ⟨by omega,?_⟩
   rcases s2 with ⟨p0,p1,p2⟩ | ⟨j,j1,j2,j3⟩
   ·refine .inl ⟨?_,?_,?_⟩
    ·show min z.k _ = 0
     rw [p0]
     exact Nat.zero_min _
    ·show min L.safe (frm - L.b - 1) = _
     omega
    ·show z.es.take (frm - z.f) ≠ []
     intro e
     have h3:=congrArg List.length e
     rw [List.length_take] at h3
     have h4:=List.length_pos_iff.2 p2
     simp only [List.length_nil] at h3
     omega
   ·refine .inr ⟨min j (frm - z.f),?_,?_,?_⟩
    ·show min j (frm - z.f) <= (z.es.take (frm - z.f)).length
     rw [List.length_take]
     omega
    ·show min L.safe (frm - L.b - 1) <= (cE A).length + min j (frm - z.f)
     omega
    ·show min z.k (cH z.f (z.es.take (frm - z.f))).length = (cH z.f ((z.es.take (frm - z.f)).take (min j (frm - z.f)))).length
     rw [List.take_take,show min (min j (frm - z.f)) (frm - z.f) = min j (frm - z.f) by omega,aAr,j3]
theorem aIZ {D:aA} {L:aM} {P:List Pc} (h:dF D L P) (hd:D.down = false) (hr:bA D.files) (frm:Nat) :
  mU (fY D L frm) \/ xA [] (fY D L frm):=by
 unfold fY
 by_cases ha:frm <= L.b \/ L.last + 1 < frm
 ·rw [if_pos ha]
  exact .inl ⟨hd,hr,P,h⟩
 ·rw [if_neg ha]
  have hn:P.length = L.fs.length:=by rw [h.fs,List.length_map]
  rcases aHp frm L.fs.length h hd hr (by omega) with ⟨h1,h2,P',h3⟩ | ⟨h1,h2,h3,h4,P',h5,h6⟩
  ·rw [if_pos (by rw [h1];decide)]
   exact .inr ⟨h2,h1,_,P',h3,rfl,rfl,.inl rfl⟩
  ·rw [if_neg (by rw [h1];decide)]
   by_cases hl:(eR frm L.fs.length D L).2.1.last < frm
   ·rw [if_pos hl]
    exact .inl ⟨h2,h3,P',h5⟩
   ·rw [if_neg hl]
    have hP:P' ≠ []:=by
     rintro rfl
     have e:=h5.es
     unfold aM.last at hl
     rw [e,h4] at hl
     have:(cE []).length = 0:=rfl
     omega
    obtain ⟨A,z,rfl⟩:=eP hP
    exact aHq h5 h2 h3 (h6 A z rfl) (by omega)
theorem aFY (upto:Nat):∀ (n:Nat) {D:aA} {L:aM} {P:List Pc},dF D L P -> D.down = false -> bA D.files ->
  mU (dropF upto n D L) \/ xA [] (dropF upto n D L):=by
 intro n
 induction n with
 | zero =>
  intro D L P h hd hr
  exact .inl ⟨hd,hr,P,h⟩
 | succ n ih =>
  intro D L P h hd hr
  match P,h with
  | [],h =>
   have hfs:L.fs = []:=h.fs
   unfold dropF
   rw [hfs]
   exact .inl ⟨hd,hr,[],h⟩
  | [p],h =>
   have hfs:L.fs = [p.wf]:=h.fs
   unfold dropF
   rw [hfs]
   exact .inl ⟨hd,hr,[p],h⟩
  | p :: q :: s,h =>
   have hfs:L.fs = p.wf :: q.wf :: s.map Pc.wf:=h.fs
   unfold dropF
   rw [hfs]
   simp only
   by_cases hu:q.wf.f <= upto + 1
   ·rw [if_pos hu]
    have hf:=nC (A:=[]) hr h.fil (h.lR (List.mem_cons_self ..))
    have hel:L.es = p.es ++ cE (q :: s):=h.es
    rcases oJ hd hf with ⟨k1,k2,k3⟩ | ⟨k1,k2,k3⟩
    ·have k1':(removeD D (aH p.wf.f)).2 = 50:=k1
     rw [if_pos (by rw [k1'];decide)]
     exact .inr ⟨k2,k1',L,_,h.same k3,rfl,rfl,.inl rfl⟩
    ·have k1':(removeD D (aH p.wf.f)).2 = 0:=k1
     rw [if_neg (by rw [k1'];decide)]
     have hes:L.es.drop p.wf.m = cE (q :: s):=by
      rw [hel]
      exact List.drop_left' rfl
     have hlen:L.es.length = p.es.length + (cE (q :: s)).length:=by rw [hel,List.length_append]
     have hqf:q.f = L.b + 1 + p.es.length:=h.ch.2.1
     have hq59:=h.lo.2 q (List.mem_cons_of_mem _ (List.mem_cons_self ..))
     refine ih (P:=q :: s) ⟨?_,rfl,hes,?_,?_,?_,?_,?_,?_,(by show L.b + p.es.length < H59;omega),fun x hx=>h.lo.2 x (List.mem_cons_of_mem _ hx)⟩ k2 ?_
     ·show (removeD D (aH p.f)).1.files.filter isW = _
      rw [k3]
      exact aBy (A:=[]) hr h.fil
     ·have:=h.ch.2
      rw [show L.b + 1 + p.es.length = L.b + p.wf.m + 1 by show _ = L.b + p.es.length + 1;omega] at this
      exact this
     ·intro e he
      exact h.ok e (List.mem_of_mem_drop he)
     ·show L.b + p.es.length + (L.es.drop p.wf.m).length <= H59
      have:=h.hi
      rw [hes]
      omega
     ·intro x hx
      refine h.full x ?_
      show x ∈ p :: (q :: s).dropLast
      exact List.mem_cons_of_mem _ hx
     ·show L.safe - p.es.length <= (L.es.drop p.wf.m).length
      have:=h.safe
      rw [hes]
      omega
     ·intro B y e
      have hB:p :: q :: s = (p :: B) ++ [y]:=by rw [List.cons_append,<- e]
      obtain ⟨s1,s2⟩:=h.kept (p :: B) y hB
      rw [jU,List.length_append] at s1 s2
      show (cE B).length <= L.safe - p.es.length /\ _
      refine ⟨by omega,?_⟩
      rcases s2 with ⟨p0,p1,p2⟩ | ⟨j,j1,j2,j3⟩
      ·exact .inl ⟨p0,by show L.safe - p.es.length = _;omega,p2⟩
      ·exact .inr ⟨j,j1,by show L.safe - p.es.length <= _;omega,j3⟩
     ·rw [show (removeD D (aH p.wf.f)).1.files = _ from k3]
      exact hr.del _
   ·rw [if_neg hu]
    exact .inl ⟨hd,hr,_,h⟩
theorem aHB {D:aA} {L:aM} {P:List Pc} (h:dF D L P) (hd:D.down = false) (hr:bA D.files) (upto:Nat) :
  mU (eI D L upto) \/ xA [] (eI D L upto):=by
 unfold eI
 by_cases hl:L.last < upto
 ·rw [if_pos hl]
  exact .inl ⟨hd,hr,P,h⟩
 ·rw [if_neg hl]
  exact aFY upto _ h hd hr
theorem aJt {D:aA} {L:aM} {P:List Pc} (h:dF D L P) (hd:D.down = false) (hr:bA D.files):mU (bJ D L) \/ xA [] (bJ D L):=by
 rcases zP h hd hr with ⟨h1,h2,h3,h4⟩ | ⟨h1,h2,h3,h4,P',h5,_⟩
 ·exact .inr ⟨h2,h1,L,P,h4,by rw [h3],by rw [h3],.inl (by rw [h3])⟩
 ·exact .inl ⟨h2,h3,P',by rw [h4];exact h5⟩
end Go.Proofs.YtjdglpcnkiioeaaGreat
namespace Go.Proofs.YtjdglpcnkiioeaaGreat
open Go.RowKit Go.Maps Go.Proofs.Own

def aBf (D:aA) (t v t' v':Int):Prop :=
 ∃ l,Good l t v /\ (bT D bO = ⟨bO,l,l.length⟩ \/ ∃ a m:Nat,a <= 1152921504606846976 /\ m <= 7 /\ t' = a /\ v' = (m:Int) - 1 /\ bT D bO = ⟨bO,l ++ jP a m,l.length⟩)
theorem aHS {D:aA} (hd:D.down = false) {t v:Int} (hf:iW D t v) (t' v':Int) (ht:0 <= t') :
  ((dG D t v t' v').2 = 0 -> (dG D t v t' v').1.down = false /\ iW (dG D t v t' v').1 t' v') /\
  ((dG D t v t' v').2 ≠ 0 -> (dG D t v t' v').1.down = false -> iW (dG D t v t' v').1 t v) /\
  ((dG D t v t' v').1.down = true -> aBf (dG D t v t' v').1 t v t' v' /\ vMy t v t' v' = true):=by
 obtain ⟨l,h1,h2⟩:=hf
 unfold dG
 by_cases hs:qE t' v' = false
 ·rw [if_pos hs]
  exact ⟨fun h=>by simp at h,fun _ _=>⟨l,h1,h2⟩,fun h=>by simp only [hd] at h;cases h⟩
 ·rw [if_neg hs]
  by_cases hm:vMy t v t' v' = false
  ·rw [if_pos hm]
   exact ⟨fun h=>by simp at h,fun _ _=>⟨l,h1,h2⟩,fun h=>by simp only [hd] at h;cases h⟩
  ·rw [if_neg hm]
   by_cases he:t' = t /\ v' = v
   ·rw [if_pos he]
    obtain ⟨rfl,rfl⟩:=he
    exact ⟨fun _=>⟨hd,l,h1,h2⟩,fun h=>absurd rfl h,fun h=>by simp only [hd] at h;cases h⟩
   ·rw [if_neg he]
    have hs':qE t' v' = true:=by simpa using hs
    unfold qE at hs'
    simp only [Bool.and_eq_true,decide_eq_true_eq] at hs'
    have ha:t'.toNat <= 1152921504606846976:=by omega
    have hm7:(v' + 1).toNat <= 7:=by omega
    have e1:t' = (t'.toNat:Int):=by omega
    have e2:v' = ((v' + 1).toNat:Int) - 1:=by omega
    have hb:jP t'.toNat (v' + 1).toNat ≠ []:=fun h=>by have:=(aAb ha hm7).2;rw [h] at this;simp at this
    have h:=aEQ hd h1 hb
    show (_ /\ _ /\ _)
    change aHh (cU D (frP 3 (bV [t'.toNat,(v' + 1).toNat]))) l (jP t'.toNat (v' + 1).toNat) at h
    refine ⟨fun e=>⟨(h.ok e).1,?_⟩,fun e hd'=>⟨l,h.no e hd',h2⟩,fun hd'=>⟨⟨l,h2,?_⟩,by simpa using hm⟩⟩
    ·rcases (h.ok e).2 with g | g
     ·have:=h2.snoc ha hm7
      rw [<- e1,<- e2] at this
      exact ⟨_,g,this⟩
     ·have:=Good.nil.snoc ha hm7
      rw [<- e1,<- e2,List.nil_append] at this
      exact ⟨_,g,this⟩
    ·exact (h.gone hd').imp id fun g=>⟨_,_,ha,hm7,e1,e2,g⟩
theorem aFH {D:aA} {t v t' v':Int} (hr:bA D.files) (h:aBf D t v t' v') (ts:List (Nat × Nat)) :
  (dJ (fI (cW D ts))).2 = 0 /\ Calm (dJ (fI (cW D ts))).1 /\ ∃ p q,((p = t /\ q = v) \/ (p = t' /\ q = v')) /\ (eB (fI (cW D ts))).t = p /\ (eB (fI (cW D ts))).v = q /\ iW (dJ (fI (cW D ts))).1 p q:=by
 have hc:Calm (fI (cW D ts)):=⟨rfl,rfl⟩
 obtain ⟨l,hl,hk | ⟨a,m,ha,hm,rfl,rfl,hk⟩⟩:=h
 ·obtain ⟨x,hx⟩:=yK (F:=[]) ts hr (by rw [List.append_nil];exact hk)
  rw [if_pos rfl] at hx
  have hx':bT (fI (cW D ts)) bO = ⟨bO,l ++ [],(l ++ []).length⟩:=hx
  obtain ⟨o1,o2,o3,o4,o5⟩:=uX hc hl hx' (by rw [List.append_nil];exact hl.last)
  exact ⟨o1,o4,t,v,.inl ⟨rfl,rfl⟩,o2,o3,o5⟩
 ·have hb:jP a m ≠ []:=fun h=>by have:=(aAb ha hm).2;rw [h] at this;simp at this
  obtain ⟨x,hx⟩:=yK (F:=jP a m) ts hr hk
  rw [if_neg hb] at hx
  have hx':bT (fI (cW D ts)) bO = ⟨bO,l ++ cR (jP a m) x,(l ++ cR (jP a m) x).length⟩:=hx
  rcases hl.aLc ha hm x with e | e
  ·rw [e] at hx'
   have hg:=hl.snoc ha hm
   obtain ⟨o1,o2,o3,o4,o5⟩:=uX (X:=[]) hc hg (by rw [List.append_nil];exact hx') (by rw [List.append_nil];exact hg.last)
   exact ⟨o1,o4,_,_,.inr ⟨rfl,rfl⟩,o2,o3,o5⟩
  ·obtain ⟨o1,o2,o3,o4,o5⟩:=uX hc hl hx' e
   exact ⟨o1,o4,t,v,.inl ⟨rfl,rfl⟩,o2,o3,o5⟩

theorem aGV (A B:List aO):total (A ++ B) = total A + total B:=by simp [total]
theorem aCh {f:aO} (ts:List (Nat × Nat)) (hf:f.kept <= f.all.length):total (dB f ts) <= f.all.length /\ ∀ g ∈ dB f ts,g.name = f.name /\ g.kept <= g.all.length:=by
 refine ⟨?_,fun g hg=>⟨iX hg,?_⟩⟩
 ·unfold dB
  split
  ·split
   ·simp [total]
   ·have:=tL (f.all.drop f.kept) (ts.headD (0,0))
    rw [List.length_drop] at this
    rw [dI]
    simp only [total,List.map_nil,List.sum_nil,List.length_append,List.length_take]
    omega
  ·split
   ·simp [total]
   ·rw [dI]
    simp [total]
 ·unfold dB at hg
  split at hg
  ·split at hg
   ·cases hg
   ·obtain rfl:=List.mem_singleton.1 hg;exact Nat.le_refl _
  ·split at hg
   ·cases hg
   ·obtain rfl:=List.mem_singleton.1 hg;exact hf
theorem vY:∀ (L:List aO) (ts:List (Nat × Nat)),(∀ f ∈ L,f.name.size <= 16 /\ f.kept <= f.all.length) -> total (crashL L ts) <= total L /\ ∀ g ∈ crashL L ts,g.name.size <= 16 /\ g.kept <= g.all.length
 | [],_,_=>⟨Nat.le_refl _,nofun⟩
 | f :: r,ts,h=>by
  obtain ⟨h1,h2⟩:=aCh ts (h f List.mem_cons_self).2
  obtain ⟨h3,h4⟩:=vY r (lV f ts) fun g hg=>h g (List.mem_cons_of_mem _ hg)
  refine ⟨?_,fun g hg=>?_⟩
  ·show total (dB f ts ++ crashL r (lV f ts)) <= _
   rw [aGV,dI]
   omega
  ·rcases List.mem_append.1 hg with hg | hg
   ·obtain ⟨e1,e2⟩:=h2 g hg
    exact ⟨by rw [e1];exact (h f List.mem_cons_self).1,e2⟩
   ·exact h4 g hg
theorem aW.aHo {D:aA} (h:aW D) (ts:List (Nat × Nat)):aW (cW D ts):=by
 obtain ⟨h1,h2⟩:=vY D.files ts h.wf.each
 have h3:=mP D.files ts
 have h4:=h.tot
 have h5:=h.few
 exact ⟨⟨h.wf.room0,h.wf.room1,by show (-1:Int) <= -1;decide,by show (-1:Int) <= _;decide,h.wf.steps0,h.wf.steps1,by show (crashL D.files ts).length <= _;omega,h2⟩,by show total (crashL D.files ts) <= _;omega,by show (crashL D.files ts).length <= _;omega⟩
theorem aW.aKZ {D:aA} (h:aW D):aW (fI D) :=
 ⟨⟨h.wf.room0,h.wf.room1,by show (-1:Int) <= -1;decide,by show (-1:Int) <= _;decide,h.wf.steps0,h.wf.steps1,h.wf.many,h.wf.each⟩,h.tot,h.few⟩
theorem aW.arm {D:aA} (h:aW D) (n:Int) (hn:n <= 9223372036854775807):aW (uH D n).1:=by
 unfold uH
 split
 ·exact h
 ·split
  ·exact h
  ·exact ⟨⟨h.wf.room0,h.wf.room1,by simp only;omega,hn,h.wf.steps0,h.wf.steps1,h.wf.many,h.wf.each⟩,h.tot,h.few⟩
theorem iW.loose {D:aA} {t v:Int} (h:iW D t v) (t' v':Int):aBf D t v t' v':=let ⟨l,h1,h2⟩:=h;⟨l,h2,.inl h1⟩

def aB1 (r:aA × Nat):Prop:=r.1.down = true -> r.2 = 50
theorem aB1.up {r:aA × Nat} (h:aB1 r) (he:r.2 = 0):r.1.down = false:=by
 cases e:r.1.down with
 | false=>rfl
 | true=>have:=h e;omega
theorem aB1.same {D:aA} (hd:D.down = false) (e:Nat):aB1 (D,e):=fun h=>by simp only [hd] at h;cases h
theorem aDU {D:aA} (hd:D.down = false) (ha:¬ D.armed = 0) (L:List aO):aB1 ({ bP D with files:=L },0):=fun h=>by
 have h':(bP D).down = true:=h
 rw [gX hd ha] at h'
 cases h'
theorem aCr {D:aA} (hd:D.down = false) (n:ByteArray):aB1 (removeD D n):=by
 unfold removeD
 split
 ·rw [if_neg (by rw [hd];decide)]
  split
  ·exact fun _=>rfl
  ·rename_i ha;exact aDU hd ha _
 ·exact aB1.same hd _
theorem aAC {D:aA} (hd:D.down = false) (n:ByteArray):aB1 (cC D n):=fun h=>by
 have:=aCr hd n h
 show (if (removeD D n).2 = 31 then 0 else (removeD D n).2) = 50
 rw [this]
 rfl
end Go.Proofs.YtjdglpcnkiioeaaGreat
