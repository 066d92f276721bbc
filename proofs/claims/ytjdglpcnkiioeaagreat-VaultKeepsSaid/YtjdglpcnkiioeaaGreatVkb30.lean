/- Several texts in one: Wc, Wp, Wq, Adc, Ws, Wu, Sk, Vtp, Vtq, Wyb, Sop, Sgt for vltkeeps_law_holds. No conditions but those stated. -/
import Derived.Test.YtjdglpcnkiioeaaGreatVkb29
import Derived.Test.YtjdglpcnkiioeaaGreatVkb18
import Derived.Test.YtjdglpcnkiioeaaGreatVkb20
import Derived.Test.YtjdglpcnkiioeaaGreatVkb26
set_option maxHeartbeats 16000000
namespace Go.Proofs.YtjdglpcnkiioeaaGreat
open Go.RowKit Go.Maps Go.Proofs.Own Go.Shelf

def jG:List aO -> List aO -> Prop
 | [],M=>M = []
 | f :: r,M=>∃ us M',M = dB f us ++ M' /\ jG r M'
theorem lN:∀ (L:List aO) (ts:List (Nat × Nat)),jG L (crashL L ts)
 | [],_=>rfl
 | f :: r,ts=>⟨ts,crashL r (lV f ts),rfl,lN r _⟩
theorem jG.filter:∀ {L M:List aO},jG L M -> jG (L.filter isW) (M.filter isW)
 | [],M,h=>by
  have:M = []:=h
  subst this
  rfl
 | f :: r,M,h=>by
  obtain ⟨us,M',rfl,h2⟩:=h
  have ih:=jG.filter h2
  have hn:∀ g ∈ dB f us,isW g = isW f:=fun g hg=>by
   unfold isW
   rw [iX hg]
  rw [List.filter_append]
  by_cases hf:isW f = true
  ·rw [List.filter_cons_of_pos hf,List.filter_eq_self.2 fun g hg=>(hn g hg).trans hf]
   exact ⟨us,_,rfl,ih⟩
  ·have he:(dB f us).filter isW = []:=List.filter_eq_nil_iff.2 fun g hg=>by rw [hn g hg];exact hf
   rw [List.filter_cons_of_neg hf,he]
   exact ih
theorem aCi {f:aO} (h:f.kept = f.all.length) (hne:f.all ≠ []) (us:List (Nat × Nat)):dB f us = [f]:=by
 unfold dB
 rw [if_neg (by omega),if_neg hne]
theorem jG.full:∀ {A B M:List aO},(∀ f ∈ A,f.kept = f.all.length /\ f.all ≠ []) -> jG (A ++ B) M -> ∃ M',M = A ++ M' /\ jG B M'
 | [],B,M,_,h=>⟨M,rfl,h⟩
 | f :: A,B,M,hA,h=>by
  obtain ⟨us,M',rfl,h2⟩:=h
  obtain ⟨M2,rfl,h3⟩:=jG.full (A:=A) (fun g hg=>hA g (List.mem_cons_of_mem _ hg)) h2
  obtain ⟨h4,h5⟩:=hA f (List.mem_cons_self ..)
  rw [aCi h4 h5]
  exact ⟨M2,rfl,h3⟩
def kS:Nat -> List bR -> List (Nat × List Nat)
 | _,[]=>[]
 | i,e :: es=>(2,kN i e) :: kS (i + 1) es
theorem iL:∀ (es:List bR) (i:Nat),framesW (kS i es) = linesW i es
 | [],_=>rfl
 | e :: es,i=>by
  show frP 2 (kN i e) ++ framesW (kS (i + 1) es) = frP 2 (kN i e) ++ linesW (i + 1) es
  rw [iL es (i + 1)]
theorem pQ:∀ (j:Nat) (es:List bR) (i:Nat),(kS i es).take j = kS i (es.take j)
 | 0,_,_=>rfl
 | _ + 1,[],_=>rfl
 | j + 1,e :: es,i=>by
  show (2,kN i e) :: (kS (i + 1) es).take j = (2,kN i e) :: kS (i + 1) (es.take j)
  rw [pQ j es (i + 1)]
theorem aEF (es:List bR) (i:Nat) (x:Nat × Nat):∃ j R,cR (linesW i es) x = linesW i (es.take j) ++ R /\ cP R ≠ 0:=by
 obtain ⟨j,R,_,h2,h3⟩:=wU (kS i es) x
 rw [iL,pQ,iL] at h2
 exact ⟨j,R,h2,h3⟩
theorem aIB (es:List bR) (f:Nat) (x:Nat × Nat):cP (cR (cH f es) x) ≠ 0 \/ ∃ j R,cR (cH f es) x = cH f (es.take j) ++ R /\ cP R ≠ 0:=by
 obtain ⟨j,R,_,h2,h3⟩:=wU ((1,cZ f) :: kS f es) x
 have e:framesW ((1,cZ f) :: kS f es) = cH f es:=by
  show frP 1 (cZ f) ++ framesW (kS f es) = _
  rw [iL]
  rfl
 rw [e] at h2
 match j with
 | 0 =>
  left
  rw [h2]
  exact h3
 | j + 1 =>
  right
  refine ⟨j,R,?_,h3⟩
  rw [h2]
  show (frP 1 (cZ f) ++ framesW ((kS f es).take j)) ++ R = (dH f ++ linesW f (es.take j)) ++ R
  rw [pQ,iL]
  rfl
theorem xK (f:Nat) (es:List bR):cH f es ≠ []:=fun h=>by
 have:=(List.append_eq_nil_iff.1 h).1
 have h2:=dE 1 (cZ f)
 unfold dH at this
 rw [this] at h2
 simp at h2
def Rest (f:Nat) (es:List bR) (m:Nat) (M:List aO):Prop :=
 (m = 0 /\ M = []) \/ ∃ R,M = [⟨aH f,R,R.length⟩] /\ ((m = 0 /\ cP R ≠ 0) \/ ∃ j R',m <= j /\ j <= es.length /\ R = cH f (es.take j) ++ R' /\ cP R' ≠ 0)
theorem aCj {z:Pc} {m:Nat} (h:(z.k = 0 /\ m = 0) \/ ∃ j,j <= z.es.length /\ m <= j /\ z.k = (cH z.f (z.es.take j)).length) (us:List (Nat × Nat)):Rest z.f z.es m (dB z.file us):=by
 have hcut:∀ {j R},m <= j -> cP R ≠ 0 -> ∃ j' R',m <= j' /\ j' <= z.es.length /\ cH z.f (z.es.take j) ++ R = cH z.f (z.es.take j') ++ R' /\ cP R' ≠ 0:=by
  intro j R hm hR
  by_cases hj:j <= z.es.length
  ·exact ⟨j,R,hm,hj,rfl,hR⟩
  ·by_cases hm2:m <= z.es.length
   ·refine ⟨z.es.length,R,hm2,Nat.le_refl _,?_,hR⟩
    rw [List.take_of_length_le (by omega),List.take_length]
   ·exfalso
    rcases h with ⟨_,h2⟩ | ⟨j',h1,h2,_⟩ <;> omega
 unfold dB
 by_cases hk:z.file.kept < z.file.all.length
 ·rw [if_pos hk]
  have hR:∃ R,z.file.all.take z.file.kept ++ cR (z.file.all.drop z.file.kept) (us.headD (0,0)) = R /\ ((m = 0 /\ cP R ≠ 0) \/ ∃ j R',m <= j /\ j <= z.es.length /\ R = cH z.f (z.es.take j) ++ R' /\ cP R' ≠ 0):=by
   refine ⟨_,rfl,?_⟩
   rcases h with ⟨h0,h1⟩ | ⟨j,h1,h2,h3⟩
   ·have e:z.file.all.take z.file.kept ++ cR (z.file.all.drop z.file.kept) (us.headD (0,0)) = cR (cH z.f z.es) (us.headD (0,0)):=by
     show z.w.take z.k ++ cR (z.w.drop z.k) _ = _
     rw [h0]
     rfl
    rw [e]
    rcases aIB z.es z.f (us.headD (0,0)) with hx | ⟨j,R,hx,hR⟩
    ·exact .inl ⟨h1,hx⟩
    ·rw [hx]
     exact .inr (hcut (by omega) hR)
   ·obtain ⟨j',R,hx,hR⟩:=aEF (z.es.drop j) (z.f + (z.es.take j).length) (us.headD (0,0))
    have hw:z.w = cH z.f (z.es.take j) ++ linesW (z.f + (z.es.take j).length) (z.es.drop j):=by
     rw [<- pY,List.take_append_drop]
     rfl
    have e:z.file.all.take z.file.kept ++ cR (z.file.all.drop z.file.kept) (us.headD (0,0)) = cH z.f (z.es.take (j + j')) ++ R:=by
     show z.w.take z.k ++ cR (z.w.drop z.k) _ = _
     rw [hw,h3,List.take_left' rfl,List.drop_left' rfl,hx,<- List.append_assoc,List.take_add,pY]
    rw [e]
    exact .inr (hcut (by omega) hR)
  obtain ⟨R,e,hR⟩:=hR
  rw [e]
  by_cases hn:R = []
  ·rw [if_pos hn]
   subst hn
   rcases hR with ⟨h1,_⟩ | ⟨j,R',_,_,h3,_⟩
   ·exact .inl ⟨h1,rfl⟩
   ·exact absurd (List.append_eq_nil_iff.1 h3.symm).1 (xK _ _)
  ·rw [if_neg hn]
   exact .inr ⟨R,rfl,hR⟩
 ·rw [if_neg hk,if_neg (show ¬ z.file.all = [] from xK _ _)]
  have hk':z.w.length <= z.k:=by
   have:¬ z.k < z.w.length:=hk
   omega
  have hl:z.k = z.w.length:=by
   rcases h with ⟨h0,_⟩ | ⟨j,h1,h2,h3⟩
   ·have:0 < z.w.length:=List.length_pos_iff.2 (xK _ _)
    omega
   ·have:=lB z.f z.es h1
    rw [List.take_length] at this
    have h4:z.w.length = (cH z.f z.es).length:=rfl
    omega
  refine .inr ⟨z.w,?_,.inr ⟨z.es.length,[],?_,Nat.le_refl _,?_,by decide⟩⟩
  ·show [(⟨aH z.f,z.w,z.k⟩:aO)] = _
   rw [hl]
  ·rcases h with ⟨_,h1⟩ | ⟨j,h1,h2,_⟩ <;> omega
  ·rw [List.take_length,List.append_nil]
   rfl
theorem aFI {D:aA} {L:aM} {A:List Pc} {z:Pc} (h:dF D L (A ++ [z])) (ts:List (Nat × Nat)):∃ M,dO (cW D ts) = A.map Pc.file ++ M /\ Rest z.f z.es (L.safe - (cE A).length) M:=by
 have hc:=(lN D.files ts).filter
 have hf:D.files.filter isW = A.map Pc.file ++ [z.file]:=by
  have:=h.fil
  rw [List.map_append] at this
  exact this
 rw [hf] at hc
 have hfull:∀ p ∈ A,p.k = p.w.length /\ 1024 <= p.w.length /\ p.es ≠ []:=by have:=h.full;rwa [List.dropLast_concat] at this
 obtain ⟨M,h1,us,M',h2,h3⟩:=jG.full (fun f hf=>by
  obtain ⟨p,hp,rfl⟩:=List.mem_map.1 hf
  exact ⟨(hfull p hp).1,xK _ _⟩) hc
 have h3':M' = []:=h3
 refine ⟨M,h1,?_⟩
 rw [h2,h3',List.append_nil]
 refine aCj ?_ us
 obtain ⟨s1,s2⟩:=h.kept A z rfl
 rcases s2 with ⟨p0,p1,_⟩ | ⟨j,j1,j2,j3⟩
 ·exact .inl ⟨p0,by omega⟩
 ·exact .inr ⟨j,j1,by omega,j3⟩
theorem aDH {D:aA} {L:aM} (h:dF D L []) (ts:List (Nat × Nat)):dO (cW D ts) = []:=by
 have hc:=(lN D.files ts).filter
 have hf:D.files.filter isW = []:=h.fil
 rw [hf] at hc
 exact hc
theorem tR:∀ {L:List aO} (ts:List (Nat × Nat)),bA L -> bA (crashL L ts)
 | [],_,_=>List.Pairwise.nil
 | f :: r,ts,h=>by
  obtain ⟨h1,h2⟩:=List.pairwise_cons.1 h
  refine List.pairwise_append.2 ⟨?_,tR _ h2,fun x hx y hy=>?_⟩
  ·have:=rC f ts
   match e:dB f ts,this with
   | [],_=>exact List.Pairwise.nil
   | [x],_=>exact List.pairwise_singleton _ _
   | _ :: _ :: _,hl=>simp at hl
  ·obtain ⟨g,hg,e⟩:=pH hy
   rw [iX hx,e]
   exact h1 g hg

def LB (b:Nat) (B:List Pc):aM:=⟨if B = [] then 0 else b,cE B,B.map Pc.wf,0⟩
def LO (b:Nat) (B:List Pc):aM:=⟨b,cE B,B.map Pc.wf,(cE B).length⟩
def sR (p:Pc):Prop:=1 <= p.f /\ p.f <= H59 /\ (∀ e ∈ p.es,e.ok) /\ p.f + p.es.length <= H59 + 1
theorem sR.lR {p:Pc} (h:sR p):1 <= p.f /\ p.f < 1152921504606846976:=by
 have:=h.2.1
 unfold H59 at this
 exact ⟨h.1,by omega⟩
theorem sR.reads {p:Pc} (h:sR p) {R:List Nat} (hR:cP R ≠ 0):fP (p.w ++ R) = ⟨p.f,p.es,p.w.length⟩:=by
 have h1:=h.lR
 have h2:=h.2.2.2
 unfold H59 at h2
 exact aGF h1.1 (by omega) h.2.2.1 (by unfold M64;omega) hR
theorem aIn {R:List Nat} (h:cP R ≠ 0):fP R = ⟨0,[],0⟩:=by
 unfold fP
 exact vG h _
theorem aEY (b:Nat) (B:List Pc) (h:B ≠ []):(LB b B).last = b + (cE B).length:=by
 unfold aM.last LB
 rw [if_neg h]
theorem zQ {b:Nat} {B:List Pc} {a:Pc} (ha:sR a) (hf:a.f = b + 1 + (cE B).length) {R:List Nat} (hR:cP R ≠ 0) {last:Bool} (hl:last = true \/ R = []) :
  eO (LB b B) a.f (a.w ++ R) last = (true,LB b (B ++ [a]),0):=by
 unfold eO
 rw [ha.reads hR]
 simp only
 rw [if_neg (by simp),if_neg ?_]
 ·congr 1
  congr 1
  unfold LB
  have h1:¬ B ++ [a] = []:=by simp
  rw [if_neg h1,cX,dY,List.map_append]
  by_cases hB:B = []
  ·subst hB
   simp only [List.map_nil,if_true]
   have:a.f - 1 = b:=by
    have e:(cE ([]:List Pc)).length = 0:=rfl
    omega
   rw [this]
   rfl
  ·have hm:¬ B.map Pc.wf = []:=fun e=>hB (List.map_eq_nil_iff.1 e)
   simp only [if_neg hB,if_neg hm]
   rfl
 ·rintro (h | ⟨h1,h2⟩ | ⟨h1,h2⟩)
  ·exact h rfl
  ·rcases hl with rfl | rfl
   ·cases h1
   ·rw [List.append_nil] at h2
    exact h2 rfl
  ·have hB:B ≠ []:=by
    rintro rfl
    exact h1 rfl
   rw [aEY b B hB] at h2
   omega
theorem aGS {L:aM} {f:Nat} (hf:1 <= f) {R:List Nat} (hR:cP R ≠ 0):eO L f R true = (false,L,0):=by
 unfold eO
 rw [aIn hR]
 rw [if_pos ⟨by show 0 ≠ f;omega,rfl⟩]
theorem tD {D:aA} {n:ByteArray} {f:aO} (hd:D.down = false) (hf:aC n D.files = some f):bG D n = 0:=by
 rw [gA hf,if_neg (by rw [hd];decide)]
theorem aAQ {D:aA} (hd:D.down = false) (b:Nat):∀ (A B:List Pc) (r:List ByteArray),Chain (b + 1) (B ++ A) -> (∀ a ∈ A,sR a /\ aC (aH a.f) D.files = some a.file) ->
  loadW (A.map (fun a=>aH a.f) ++ r) D (LB b B) = loadW r D (LB b (B ++ A))
 | [],B,r,_,_=>by rw [List.append_nil];rfl
 | a :: A,B,r,hc,h=>by
  obtain ⟨h1,h2⟩:=h a (List.mem_cons_self ..)
  have hfirst:a.f = b + 1 + (cE B).length:=(Chain.app.1 hc).2.1
  have ih:=aAQ hd b A (B ++ [a]) r (by rw [List.append_assoc];exact hc) (fun x hx=>h x (List.mem_cons_of_mem _ hx))
  rw [List.append_assoc] at ih
  show loadW (aH a.f :: (A.map (fun a=>aH a.f) ++ r)) D (LB b B) = _
  conv=>lhs;unfold loadW
  have ht:∀ last,eO (LB b B) (bS (bF (aH a.f))) (bT D (aH a.f)).all last = (true,LB b (B ++ [a]),0):=by
   intro last
   rw [kK h1.lR.1 h1.lR.2,dC h2]
   have:=zQ h1 hfirst (R:=[]) (by decide) (last:=last) (.inr rfl)
   rw [List.append_nil] at this
   exact this
  rw [if_neg (by rw [tD hd h2];decide),ht]
  exact ih
theorem tO {D:aA} {X Y:List aO} {g:aO} (hr:bA D.files) (hf:dO D = X ++ g :: Y) (hn:bS (bF g.name) ≠ 0):aC g.name D.files = some g:=by
 rw [<- pL hn]
 show aC g.name (dO D) = _
 have:=mL hr
 rw [hf] at this ⊢
 exact yH this
theorem aJr {D:aA} {X Y:List aO} {g:aO} (hr:bA D.files) (hf:dO D = X ++ g :: Y):(bH g.name D.files).filter isW = X ++ Y:=by
 rw [lO]
 show bH g.name (dO D) = _
 have:=mL hr
 rw [hf] at this ⊢
 exact tA this
theorem aFk {D:aA} {X Y:List aO} {g g':aO} (hr:bA D.files) (hf:dO D = X ++ g :: Y) (hn:bS (bF g.name) ≠ 0) (he:g'.name = g.name):(bL g' D.files).filter isW = X ++ g' :: Y:=by
 rw [lP (by unfold isW;rw [he];exact decide_eq_true hn) hr]
 show bL g' (dO D) = _
 have:=mL hr
 rw [hf] at this ⊢
 exact aBL this he
theorem aCV {D:aA} (h:Calm D) {n:ByteArray} {f:aO} (hf:aC n D.files = some f):(removeD D n).2 = 0 /\ Calm (removeD D n).1 /\ (removeD D n).1.files = bH n D.files:=by
 have hr:removeD D n = ({ bP D with files:=bH n D.files },0):=by
  unfold removeD
  rw [hf]
  simp only
  rw [if_neg (by rw [h.1];decide),if_neg (by rw [h.2];decide)]
 rw [hr]
 exact ⟨rfl,h.step _,rfl⟩
theorem aEs {D:aA} (h:Calm D) {n:ByteArray} {f:aO} (hf:aC n D.files = some f):(syncD D n).2 = 0 /\ Calm (syncD D n).1 /\ (syncD D n).1.files = bL { f with kept:=f.all.length } D.files:=by
 have hr:syncD D n = ({ bP D with files:=bL { f with kept:=f.all.length } D.files },0):=by
  unfold syncD
  rw [hf]
  simp only
  rw [if_neg (by rw [h.1];decide),if_neg (by rw [h.2];decide)]
 rw [hr]
 exact ⟨rfl,h.step _,rfl⟩
theorem aFM {D:aA} (h:Calm D) {n:ByteArray} {f:aO} (hf:aC n D.files = some f) {k:Nat} (hk:k <= f.all.length):(cutD D n k).2 = 0 /\ Calm (cutD D n k).1 /\ (cutD D n k).1.files = bL ⟨f.name,f.all.take k,min f.kept k⟩ D.files:=by
 have hr:cutD D n k = ({ bP D with files:=bL ⟨f.name,f.all.take k,min f.kept k⟩ D.files },0):=by
  unfold cutD
  rw [hf]
  simp only
  rw [if_neg (by rw [h.1];decide),if_neg (by omega),if_neg (by rw [h.2];decide),Int.toNat_natCast]
 rw [hr]
 exact ⟨rfl,h.step _,rfl⟩
theorem zK {D:aA} (hc:Calm D) (hr:bA D.files) {X:List aO} {z:Pc} (hz:sR z) {R:List Nat} {k:Nat} (hf:dO D = X ++ [⟨aH z.f,z.w ++ R,k⟩]) {L:aM} (hL:L.fs.getLast? = some z.wf) :
  (bQ D L).2 = 0 /\ Calm (bQ D L).1 /\ bA (bQ D L).1.files /\ dO (bQ D L).1 = X ++ [⟨aH z.f,z.w,z.w.length⟩]:=by
 have hn:bS (bF (aH z.f)) ≠ 0:=nB hz.lR
 have hfd:=tO hr hf hn
 have hsync:∀ {D':aA} {k':Nat},Calm D' -> bA D'.files -> dO D' = X ++ [⟨aH z.f,z.w,k'⟩] ->
   (syncD D' (aH z.f)).2 = 0 /\ Calm (syncD D' (aH z.f)).1 /\ bA (syncD D' (aH z.f)).1.files /\ dO (syncD D' (aH z.f)).1 = X ++ [⟨aH z.f,z.w,z.w.length⟩]:=by
  intro D' k' c1 c2 c3
  obtain ⟨s1,s2,s3⟩:=aEs c1 (tO c2 c3 hn)
  refine ⟨s1,s2,?_,?_⟩
  ·rw [s3]
   exact c2.put _
  ·unfold dO
   rw [s3]
   exact aFk c2 c3 hn rfl
 unfold bQ
 rw [hL]
 simp only
 have hwf:z.wf.f = z.f:=rfl
 rw [hwf,if_neg (by rw [tD hc.1 hfd];decide),dC hfd]
 have hlen:(z.w ++ R).length = z.w.length + R.length:=List.length_append
 by_cases hs:z.wf.s < (z.w ++ R).length
 ·rw [if_pos hs]
  obtain ⟨c1,c2,c3⟩:=aFM hc hfd (k:=z.w.length) (by show z.w.length <= (z.w ++ R).length;omega)
  have hs2:z.wf.s = z.w.length:=rfl
  rw [hs2,if_neg (by rw [c1];decide)]
  refine hsync (k':=min k z.w.length) c2 (by rw [c3];exact hr.put _) ?_
  unfold dO
  rw [c3]
  have:=aFk (g':=⟨aH z.f,(z.w ++ R).take z.w.length,min k z.w.length⟩) hr hf hn rfl
  rw [List.take_left' rfl] at this
  show (bL ⟨aH z.f,(z.w ++ R).take z.w.length,min k z.w.length⟩ D.files).filter isW = _
  rw [List.take_left' rfl]
  exact this
 ·rw [if_neg hs]
  have hR:R = []:=by
   have:¬ z.w.length < (z.w ++ R).length:=hs
   exact List.length_eq_zero_iff.1 (by omega)
  subst hR
  rw [List.append_nil] at hf
  exact hsync hc hr hf
theorem qL (D:aA) {b:Nat} (hb:b < H59) (P:List Pc):iS D (LB b P) b = (D,some (LO b P),0):=by
 unfold iS
 by_cases hP:P = []
 ·subst hP
  have h1:(LB b []).fs = []:=rfl
  have hr:bI D (LB b []) b = (D,⟨b,[],[],0⟩,0):=by
   unfold bI
   rw [if_neg (by omega)]
   rfl
  simp only [h1,true_or,if_true,hr]
  rw [if_neg (by decide),if_neg (by omega)]
  rfl
 ·have h1:¬ (LB b P).fs = []:=fun e=>hP (List.map_eq_nil_iff.1 e)
  have h2:¬ (LB b P).last < b:=by
   rw [aEY b P hP]
   omega
  have h3:(LB b P).b = b:=if_neg hP
  have h4:¬ ((LB b P).fs = [] \/ (LB b P).last < b):=fun h=>h.elim h1 h2
  simp only [if_neg h4]
  rw [if_neg (by decide),h3,if_neg (by omega)]
  unfold LO LB
  rw [if_neg hP]
theorem vO {D:aA} {b:Nat} {P:List Pc} (hb:b < H59) (hf:dO D = P.map Pc.file) (hch:Chain (b + 1) P) (hok:∀ p ∈ P,sR p) (hk:∀ p ∈ P,p.k = p.w.length) (hfull:∀ p ∈ P.dropLast,1024 <= p.w.length /\ p.es ≠ []) (hhi:b + (cE P).length <= H59) :
  dF D (LO b P) P:=by
 refine ⟨hf,rfl,rfl,hch,?_,hhi,?_,Nat.le_refl _,?_,hb,fun p hp=>(hok p hp).2.1⟩
 ·intro e he
  obtain ⟨p,hp,h⟩:=List.mem_flatMap.1 he
  exact (hok p hp).2.2.1 e h
 ·intro p hp
  exact ⟨hk p ((List.dropLast_sublist P).subset hp),hfull p hp⟩
 ·intro A z e
  subst e
  show (cE A).length <= (cE (A ++ [z])).length /\ _
  rw [cX,dY,List.length_append]
  refine ⟨by omega,.inr ⟨z.es.length,Nat.le_refl _,?_,?_⟩⟩
  ·show (cE (A ++ [z])).length <= _
   rw [cX,dY,List.length_append]
   exact Nat.le_refl _
  ·rw [List.take_length,hk z (List.mem_append_right _ (List.mem_singleton_self z))]
   rfl
def xO (D:aA) (b:Nat) (es:List bR) (m n:Nat):Prop :=
 ∃ D2 L2 P2,fD D b = (D2,some L2,0) /\ Calm D2 /\ bA D2.files /\ dF D2 L2 P2 /\ L2.b = b /\ L2.safe = L2.es.length /\ ∃ j,m <= j /\ j <= n /\ L2.es = es.take j
theorem oE {D:aA} (hc:Calm D) {b:Nat} (hb:b < H59) {D1:aA} {L1:aM} (hl:loadW (dP D) D (LB b []) = (D1,L1,0)):fD D b = pU D1 L1 b:=by
 have hl':loadW (dP D) D ⟨0,[],[],0⟩ = (D1,L1,0):=hl
 unfold fD
 rw [if_neg (by rw [hc.1];decide),if_neg (by omega),hl',if_neg (fun h=>h rfl)]
theorem aIa {D:aA} (hc:Calm D) (hr:bA D.files) {b:Nat} (hb:b < H59) {A:List Pc} {z:Pc} {m:Nat} {M:List aO}
  (hlog:dO D = A.map Pc.file ++ M) (hM:Rest z.f z.es m M) (hch:Chain (b + 1) (A ++ [z])) (hok:∀ p ∈ A ++ [z],sR p) (hfull:∀ p ∈ A,p.k = p.w.length /\ 1024 <= p.w.length /\ p.es ≠ []) (hhi:b + (cE (A ++ [z])).length <= H59) :
  xO D b (cE (A ++ [z])) ((cE A).length + m) (cE (A ++ [z])).length:=by
 have hokA:∀ p ∈ A,sR p:=fun p hp=>hok p (List.mem_append_left _ hp)
 have hokz:sR z:=hok z (List.mem_append_right _ (List.mem_singleton_self z))
 have hchA:=(Chain.app.1 hch).1
 have hzf:z.f = b + 1 + (cE A).length:=(Chain.app.1 hch).2.1
 have hel:(cE (A ++ [z])).length = (cE A).length + z.es.length:=by rw [cX,dY,List.length_append]
 have hfind:∀ {D':aA} {Y:List aO},bA D'.files -> dO D' = A.map Pc.file ++ Y -> ∀ a ∈ A,sR a /\ aC (aH a.f) D'.files = some a.file:=by
  intro D' Y r1 r2 a ha
  obtain ⟨A1,A2,rfl⟩:=List.append_of_mem ha
  refine ⟨hokA a ha,?_⟩
  rw [List.map_append,List.map_cons,List.append_assoc,List.cons_append] at r2
  exact tO (g:=a.file) r1 r2 (nB (hokA a ha).lR)
 have hnames:dP D = A.map (fun a=>aH a.f) ++ M.map (·.name):=by
  unfold dP
  rw [hlog,List.map_append,List.map_map]
  rfl
 have hload:loadW (dP D) D (LB b []) = loadW (M.map (·.name)) D (LB b A):=by
  rw [hnames]
  exact aAQ hc.1 b A [] _ hchA (hfind hr hlog)
 have hall:∀ {D':aA},Calm D' -> bA D'.files -> dO D' = A.map Pc.file -> m = 0 -> fD D b = pU D' (LB b A) b -> xO D b (cE (A ++ [z])) ((cE A).length + m) (cE (A ++ [z])).length:=by
  intro D' c1 c2 c3 hm he
  have htake:(cE (A ++ [z])).take (cE A).length = cE A:=by
   rw [cX]
   exact List.take_left' rfl
  have hw:∀ {D2:aA},dO D2 = A.map Pc.file -> dF D2 (LO b A) A:=fun hf =>
   vO hb hf hchA hokA (fun p hp=>(hfull p hp).1) (fun p hp=>(hfull p ((List.dropLast_sublist A).subset hp)).2) (by omega)
  have hend:∀ {D2:aA},Calm D2 -> bA D2.files -> dO D2 = A.map Pc.file -> fD D b = (D2,some (LO b A),0) -> xO D b (cE (A ++ [z])) ((cE A).length + m) (cE (A ++ [z])).length:=fun d1 d2 d3 d4 =>
   ⟨_,LO b A,A,d4,d1,d2,hw d3,rfl,rfl,(cE A).length,by omega,by omega,htake.symm⟩
  by_cases hA:A = []
  ·subst hA
   have hs:bQ D' (LB b []) = (D',0):=rfl
   refine hend c1 c2 c3 ?_
   rw [he]
   unfold pU
   rw [hs,if_neg (fun h=>h rfl)]
   exact qL D' hb []
  ·obtain ⟨A',y,rfl⟩:=eP hA
   have hy:=hfull y (List.mem_append_right _ (List.mem_singleton_self y))
   have hL:(LB b (A' ++ [y])).fs.getLast? = some y.wf:=by
    show ((A' ++ [y]).map Pc.wf).getLast? = _
    rw [List.map_append]
    simp
   have c3':dO D' = A'.map Pc.file ++ [⟨aH y.f,y.w ++ [],y.k⟩]:=by
    rw [c3,List.map_append,List.append_nil]
    rfl
   obtain ⟨s1,s2,s3,s4⟩:=zK c1 c2 (hokA y (List.mem_append_right _ (List.mem_singleton_self y))) c3' hL
   refine hend s2 s3 ?_ ?_
   ·rw [s4,List.map_append]
    show _ = A'.map Pc.file ++ [(⟨aH y.f,y.w,y.k⟩:aO)]
    rw [hy.1]
   ·rw [he]
    unfold pU
    rw [if_neg (by rw [s1];decide)]
    exact qL _ hb _
 rcases hM with ⟨h1,rfl⟩ | ⟨R,rfl,h⟩
 ·refine hall hc hr (by rw [hlog,List.append_nil]) h1 (oE hc hb ?_)
  rw [hload]
  rfl
 ·have hn:bS (bF (aH z.f)) = z.f:=kK hokz.lR.1 hokz.lR.2
  have hfd:=tO (g:=⟨aH z.f,R,R.length⟩) hr hlog (nB hokz.lR)
  rcases h with ⟨h1,h2⟩ | ⟨j,R',j1,j2,rfl,h2⟩
  ·-- no piece: it goes
   obtain ⟨r1,r2,r3⟩:=aCV hc hfd
   have hrm:loadW [aH z.f] D (LB b A) = ((removeD D (aH z.f)).1,LB b A,0):=by
    unfold loadW
    rw [if_neg (by rw [tD hc.1 hfd];decide),hn,dC hfd]
    have ht:=aGS (L:=LB b A) hokz.1 h2
    rw [show (decide (([]:List ByteArray) = [])) = true from rfl,ht,if_pos rfl]
    rw [if_neg (by rw [r1];decide)]
    rfl
   refine hall (D':=(removeD D (aH z.f)).1) r2 (by rw [r3];exact hr.del _) ?_ h1 (oE hc hb (by rw [hload];exact hrm))
   unfold dO
   rw [r3]
   have:=aJr hr hlog
   rwa [List.append_nil] at this
  ·-- the piece,with the first entries
   have hz':sR ⟨z.f,z.es.take j,(cH z.f (z.es.take j)).length⟩:=by
    refine ⟨hokz.1,hokz.2.1,fun e he=>hokz.2.2.1 e (List.mem_of_mem_take he),?_⟩
    have:=hokz.2.2.2
    show z.f + (z.es.take j).length <= H59 + 1
    rw [List.length_take]
    omega
   generalize hzz:(⟨z.f,z.es.take j,(cH z.f (z.es.take j)).length⟩:Pc) = z' at hz'
   have ef:z'.f = z.f:=by rw [<- hzz]
   have ees:z'.es = z.es.take j:=by rw [<- hzz]
   have ew:z'.w = cH z.f (z.es.take j):=by rw [<- hzz];rfl
   have ek:z'.k = z'.w.length:=by rw [ew,<- hzz]
   rw [<- ew] at hfd hlog hload
   rw [<- ef] at hfd hlog hload
   have hrm:loadW [aH z'.f] D (LB b A) = (D,LB b (A ++ [z']),0):=by
    unfold loadW
    rw [if_neg (by rw [tD hc.1 hfd];decide),kK hz'.lR.1 hz'.lR.2,dC hfd]
    have ht:=zQ (b:=b) (B:=A) hz' (by rw [ef,hzf]) h2 (last:=true) (.inl rfl)
    rw [show (decide (([]:List ByteArray) = [])) = true from rfl]
    show (if (eO (LB b A) z'.f (z'.w ++ R') true).1 = false then _ else _) = _
    rw [ht,if_neg (fun h=>by cases h),if_neg (fun h=>h rfl)]
    rfl
   have hL:(LB b (A ++ [z'])).fs.getLast? = some z'.wf:=by
    show ((A ++ [z']).map Pc.wf).getLast? = _
    rw [List.map_append]
    simp
   obtain ⟨s1,s2,s3,s4⟩:=zK hc hr hz' hlog hL
   have he:fD D b = ((bQ D (LB b (A ++ [z']))).1,some (LO b (A ++ [z'])),0):=by
    rw [oE hc hb (by rw [hload];exact hrm)]
    unfold pU
    rw [if_neg (by rw [s1];decide)]
    exact qL _ hb _
   have hes:cE (A ++ [z']) = (cE (A ++ [z])).take ((cE A).length + j):=by
    rw [cX,cX,dY,dY,ees,List.take_length_add_append]
   refine ⟨_,LO b (A ++ [z']),A ++ [z'],he,s2,s3,vO hb ?_ ?_ ?_ ?_ ?_ ?_,rfl,rfl,(cE A).length + j,by omega,by omega,hes⟩
   ·rw [s4,List.map_append]
    show _ = A.map Pc.file ++ [(⟨aH z'.f,z'.w,z'.k⟩:aO)]
    rw [ek]
   ·exact Chain.app.2 ⟨hchA,by rw [ef];exact hzf,trivial⟩
   ·intro p hp
    rcases List.mem_append.1 hp with hp | hp
    ·exact hokA p hp
    ·obtain rfl:=List.mem_singleton.1 hp
     exact hz'
   ·intro p hp
    rcases List.mem_append.1 hp with hp | hp
    ·exact (hfull p hp).1
    ·obtain rfl:=List.mem_singleton.1 hp
     exact ek
   ·rw [List.dropLast_concat]
    intro p hp
    exact (hfull p hp).2
   ·rw [hes,List.length_take]
    omega

theorem aFj {D:aA} {L:aM} {P:List Pc} (h:dF D L P) {p:Pc} (hp:p ∈ P):sR p:=by
 obtain ⟨h1,_,_,h4⟩:=h.range p hp
 refine ⟨h1,h.lo.2 p hp,fun e he=>h.ok e ?_,?_⟩
 ·rw [h.es]
  exact List.mem_flatMap.2 ⟨p,hp,he⟩
 ·have:=h.hi
  unfold aM.last at h4
  omega
theorem uY {D:aA} (hc:Calm D) {b:Nat} (hb:b < H59) (hl:dO D = []):fD D b = (D,some (LO b []),0) /\ dF D (LO b []) []:=by
 refine ⟨?_,vO hb hl trivial (fun p hp=>by cases hp) (fun p hp=>by cases hp) (fun p hp=>by cases hp) (by show b + 0 <= H59;omega)⟩
 have hn:dP D = []:=by
  unfold dP
  rw [hl]
  rfl
 rw [oE hc hb (D1:=D) (L1:=LB b []) (by rw [hn];rfl)]
 unfold pU
 have hs:bQ D (LB b []) = (D,0):=rfl
 rw [hs,if_neg (fun h=>h rfl)]
 exact qL D hb []
theorem cQ (n:Nat):bS (bF (aH n)) ≠ 0 \/ (aH n).size = 0:=by
 by_cases h:n < 1 \/ 1152921504606846976 <= n
 ·right
  unfold aH rE
  rw [if_pos h]
  rfl
 ·left
  exact nB (by omega)
inductive oS:aA -> aA -> Prop
 | remove (D:aA) (n:ByteArray):oS D (removeD D n).1
 | sync (D:aA) (n:ByteArray):oS D (syncD D n).1
 | cut (D:aA) (n:ByteArray) (k:Nat):oS D (cutD D n k).1
 | append (D:aA) (n:ByteArray) (b:List Nat) (h:bS (bF n) ≠ 0 \/ n.size = 0):oS D (aY D n b).1
inductive Reach:Nat -> aA -> aA -> Prop
 | refl (n:Nat) (D:aA):Reach n D D
 | step {n:Nat} {D D1 D2:aA} (h:oS D D1) (g:Reach n D1 D2):Reach (n + 1) D D2
theorem Reach.mono {n m:Nat} {D D':aA} (h:Reach n D D') (hm:n <= m):Reach m D D':=by
 induction h generalizing m with
 | refl=>exact .refl _ _
 | step h _ ih =>
  obtain ⟨k,rfl⟩:∃ k,m = k + 1:=⟨m - 1,by omega⟩
  exact .step h (ih (by omega))
theorem Reach.trans {n m:Nat} {D D1 D2:aA} (h:Reach n D D1) (g:Reach m D1 D2):Reach (n + m) D D2:=by
 induction h with
 | refl=>exact g.mono (by omega)
 | @step k _ _ _ h _ ih =>
  rw [show k + 1 + m = k + m + 1 by omega]
  exact .step h (ih g)
theorem Reach.one {D D1:aA} (h:oS D D1):Reach 1 D D1:=.step h (.refl _ _)
theorem nK (D:aA) (L:aM):Reach 1 D (popW D L).1:=by
 unfold popW
 split
 ·exact .refl _ _
 ·split
  ·exact .one (.remove _ _)
  ·exact .one (.remove _ _)
theorem pW (base:Nat):∀ (n:Nat) (D:aA) (L:aM),Reach n D (resetF base n D L).1
 | 0,D,L=>.refl _ _
 | n + 1,D,L=>by
  unfold resetF
  split
  ·exact .refl _ _
  ·split
   ·exact (nK D L).mono (by omega)
   ·have:=(nK D L).trans (pW base n (popW D L).1 (popW D L).2.1)
    rwa [Nat.add_comm] at this
theorem oI (D:aA) (L:aM) (base:Nat):Reach L.fs.length D (bI D L base).1:=by
 unfold bI
 split
 ·exact .refl _ _
 ·exact pW _ _ _ _
theorem jX (D:aA) (L:aM):Reach 1 D (bJ D L).1:=by
 unfold bJ
 split
 ·exact .refl _ _
 ·split
  ·exact .refl _ _
  ·split
   ·exact .one (.sync _ _)
   ·exact .one (.sync _ _)
theorem oG (D:aA) (L:aM) (ms:List bR):Reach 2 D (aR D L ms).1:=by
 have hnew:Reach 2 D (nH D L ms).1:=by
  unfold nH
  split
  ·exact (jX D L).mono (by omega)
  ·split
   ·exact (jX D L).trans (.one (.append _ _ _ (cQ _)))
   ·exact (jX D L).trans (.one (.append _ _ _ (cQ _)))
 unfold aR
 split
 ·exact .refl _ _
 ·split
  ·exact .refl _ _
  ·split
   ·exact .refl _ _
   ·split
    ·exact hnew
    ·split
     ·unfold aAl
      split
      ·exact (Reach.one (.append _ _ _ (cQ _))).mono (by omega)
      ·exact (Reach.one (.append _ _ _ (cQ _))).mono (by omega)
     ·exact hnew
theorem oH (frm:Nat):∀ (n:Nat) (D:aA) (L:aM),Reach n D (eR frm n D L).1
 | 0,D,L=>.refl _ _
 | n + 1,D,L=>by
  unfold eR
  split
  ·exact .refl _ _
  ·split
   ·exact .refl _ _
   ·split
    ·exact (nK D L).mono (by omega)
    ·have:=(nK D L).trans (oH frm n (popW D L).1 (popW D L).2.1)
     rwa [Nat.add_comm] at this
theorem aEi (D:aA) (L:aM) (frm:Nat):Reach 1 D (rS D L frm).1:=by
 unfold rS
 split
 ·exact .refl _ _
 ·simp only
  split
  ·exact .one (.cut _ _ _)
  ·exact .one (.cut _ _ _)
theorem aGA (D:aA) (L:aM) (frm:Nat):Reach (L.fs.length + 1) D (fY D L frm).1:=by
 unfold fY
 split
 ·exact .refl _ _
 ·split
  ·exact (oH frm _ D L).mono (by omega)
  ·split
   ·exact (oH frm _ D L).mono (by omega)
   ·exact (oH frm _ D L).trans (aEi _ _ _)
theorem wO (upto:Nat):∀ (n:Nat) (D:aA) (L:aM),Reach n D (dropF upto n D L).1
 | 0,D,L=>.refl _ _
 | n + 1,D,L=>by
  unfold dropF
  split
  ·split
   ·split
    ·exact (Reach.one (.remove _ _)).mono (by omega)
    ·exact .step (.remove _ _) (wO upto n _ _)
   ·exact .refl _ _
  ·exact .refl _ _
theorem aEj (D:aA) (L:aM) (upto:Nat):Reach L.fs.length D (eI D L upto).1:=by
 unfold eI
 split
 ·exact .refl _ _
 ·exact wO _ _ _ _
end Go.Proofs.YtjdglpcnkiioeaaGreat
namespace Go.Proofs.YtjdglpcnkiioeaaGreat
open Go.RowKit Go.Maps Go.Proofs.Own

theorem aBh {D:aA} (h:Calm D) (n:ByteArray) (b:List Nat):Calm (aY D n b).1:=by
 unfold aY
 split
 ·exact h
 ·unfold Calm bP
  rw [if_neg (by show ¬ (iK D n b).armed = 0;rw [show (iK D n b).armed = D.armed from rfl,h.2];decide),if_neg (by rw [show (iK D n b).armed = D.armed from rfl,h.2];decide)]
  exact h
end Go.Proofs.YtjdglpcnkiioeaaGreat
namespace Go.Proofs.YtjdglpcnkiioeaaGreat
open Go.RowKit Go.Maps Go.Proofs.Own Go.Shelf

theorem Calm.aIw {D D':aA} (h:Calm D) (hs:oS D D'):Calm D':=by
 cases hs with
 | remove n =>
  unfold removeD
  split
  ·rw [if_neg (by rw [h.1];decide),if_neg (by rw [h.2];decide)]
   exact h.step _
  ·exact h
 | sync n =>
  unfold syncD
  split
  ·rw [if_neg (by rw [h.1];decide),if_neg (by rw [h.2];decide)]
   exact h.step _
  ·exact h
 | cut n k =>
  unfold cutD
  split
  ·split
   ·exact h
   ·split
    ·exact h
    ·rw [if_neg (by rw [h.2];decide)]
     exact h.step _
  ·exact h
 | append n b _=>exact aBh h n b
theorem aW.aIw {D D':aA} (h:aW D) (hs:oS D D') (hn:D.steps + 1 <= 1000000000):aW D' /\ D'.steps <= D.steps + 1:=by
 cases hs with
 | remove n=>exact h.remove n hn
 | sync n=>exact h.sync n hn
 | cut n k=>exact h.cut n k hn
 | append n b _=>exact h.append n b hn
theorem Reach.calm {n:Nat} {D D':aA} (hr:Reach n D D') (h:Calm D):Calm D':=by
 induction hr with
 | refl=>exact h
 | step hs _ ih=>exact ih (h.aIw hs)
theorem Reach.fB {n:Nat} {D D':aA} (hr:Reach n D D') (h:aW D) (hn:D.steps + n <= 1000000000):aW D' /\ D'.steps <= D.steps + n:=by
 induction hr with
 | refl=>exact ⟨h,by omega⟩
 | step hs _ ih =>
  obtain ⟨h1,h2⟩:=h.aIw hs (by omega)
  obtain ⟨h3,h4⟩:=ih h1 (by omega)
  exact ⟨h3,by omega⟩
theorem oS.rising {D D':aA} (hs:oS D D') (h:bA D.files):bA D'.files:=by
 cases hs with
 | remove n =>
  unfold removeD
  split
  ·split
   ·exact h
   ·split
    ·rw [show (bP D,50).1.files = D.files from bC D];exact h
    ·exact h.del n
  ·exact h
 | sync n =>
  unfold syncD
  split
  ·rename_i f _
   split
   ·exact h
   ·split
    ·rw [show (bP D,50).1.files = D.files from bC D];exact h
    ·exact h.put { f with kept:=f.all.length }
  ·exact h
 | cut n k =>
  unfold cutD
  split
  ·rename_i f _
   split
   ·exact h
   ·split
    ·exact h
    ·split
     ·rw [show (bP D,50).1.files = D.files from bC D];exact h
     ·exact h.put ⟨f.name,f.all.take (k:Int).toNat,min f.kept (k:Int).toNat⟩
  ·exact h
 | append n b _ =>
  unfold aY
  split
  ·exact h
  ·rw [show (bP (iK D n b),fO D).1.files = (iK D n b).files from bC _]
   exact h.put { bT D n with all:=(bT D n).all ++ b }
theorem Reach.rising {n:Nat} {D D':aA} (hr:Reach n D D') (h:bA D.files):bA D'.files:=by
 induction hr with
 | refl=>exact h
 | step hs _ ih=>exact ih (hs.rising h)
theorem dF.few {D:aA} {L:aM} {P:List Pc} (h:dF D L P) (hg:aW D):L.fs.length <= 128:=by
 have h1:L.fs.length = (dO D).length:=by rw [h.fs,h.fil,List.length_map,List.length_map]
 have h2:(dO D).length <= D.files.length:=List.length_filter_le ..
 have h3:=hg.few
 omega

theorem aJu (L:aM) (f:Nat) (b:List Nat) (last:Bool):(eO L f b last).2.1.fs.length <= L.fs.length + 1:=by
 unfold eO
 split
 ·exact Nat.le_succ _
 ·split
  ·exact Nat.le_succ _
  ·show (L.fs ++ [_]).length <= _
   rw [List.length_append]
   exact Nat.le_refl _
theorem rY:∀ (ns:List ByteArray) (D:aA) (L:aM),Reach ns.length D (loadW ns D L).1 /\ (loadW ns D L).2.1.fs.length <= L.fs.length + ns.length
 | [],D,L=>⟨.refl _ _,Nat.le_refl _⟩
 | n :: r,D,L=>by
  have ht:=aJu L (bS (bF n)) (bT D n).all (decide (r = []))
  unfold loadW
  split
  ·exact ⟨.refl _ _,Nat.le_add_right _ _⟩
  ·split
   ·split
    ·refine ⟨(Reach.one (.remove _ _)).mono (by simp),?_⟩
     show (eO L _ _ _).2.1.fs.length <= _
     rw [List.length_cons]
     omega
    ·obtain ⟨h1,h2⟩:=rY r (removeD D n).1 (eO L (bS (bF n)) (bT D n).all (decide (r = []))).2.1
     refine ⟨.step (.remove _ _) h1,?_⟩
     rw [List.length_cons]
     omega
   ·split
    ·refine ⟨.refl _ _,?_⟩
     show (eO L _ _ _).2.1.fs.length <= _
     rw [List.length_cons]
     omega
    ·obtain ⟨h1,h2⟩:=rY r D (eO L (bS (bF n)) (bT D n).all (decide (r = []))).2.1
     refine ⟨h1.mono (by simp),?_⟩
     rw [List.length_cons]
     omega
theorem tP (D:aA) (L:aM):Reach 2 D (bQ D L).1:=by
 unfold bQ
 split
 ·exact .refl _ _
 ·split
  ·exact .refl _ _
  ·split
   ·split
    ·exact (Reach.one (.cut _ _ _)).mono (by omega)
    ·exact (Reach.one (.cut _ _ _)).trans (.one (.sync _ _))
   ·exact (Reach.one (.sync _ _)).mono (by omega)
theorem aCT (D:aA) (L:aM) (base:Nat):Reach L.fs.length D (iS D L base).1:=by
 have h:Reach L.fs.length D (if L.fs = [] \/ L.last < base then bI D L base else (D,L,0)).1:=by
  split
  ·exact oI D L base
  ·exact .refl _ _
 unfold iS
 simp only
 generalize (if L.fs = [] \/ L.last < base then bI D L base else (D,L,0)) = r at h ⊢
 split
 ·exact h
 ·split
  ·exact h
  ·exact h
theorem aEk (D:aA) (base:Nat):Reach (2 * (dP D).length + 2) D (fD D base).1:=by
 obtain ⟨h1,h2⟩:=rY (dP D) D ⟨0,[],[],0⟩
 have h3:(loadW (dP D) D ⟨0,[],[],0⟩).2.1.fs.length <= (dP D).length:=by
  have:((⟨0,[],[],0⟩:aM)).fs.length = 0:=rfl
  omega
 unfold fD
 split
 ·exact .refl _ _
 ·split
  ·exact .refl _ _
  ·split
   ·exact h1.mono (by omega)
   ·unfold pU
    split
    ·exact (h1.trans (tP _ _)).mono (by omega)
    ·exact ((h1.trans (tP _ _)).trans (aCT _ _ _)).mono (by omega)
theorem aGq {D:aA} (h:aW D):(dP D).length <= 128:=by
 have h1:(dP D).length = (dO D).length:=List.length_map ..
 have h2:(dO D).length <= D.files.length:=List.length_filter_le ..
 have h3:=h.few
 omega
end Go.Proofs.YtjdglpcnkiioeaaGreat
namespace Go.Proofs.YtjdglpcnkiioeaaGreat
open Go.RowKit Go.Maps Go.Proofs.Own

theorem vA {D:aA} {n m:ByteArray} (h:¬ n = m):aC m (removeD D n).1.files = aC m D.files:=by
 unfold removeD
 split
 ·split
  ·rfl
  ·split
   ·simp only [bC]
   ·exact jB h _
 ·rfl
theorem uG {D:aA} {n m:ByteArray} (h:¬ n = m) (b:List Nat):aC m (aY D n b).1.files = aC m D.files:=by
 unfold aY
 split
 ·rfl
 ·rw [bC]
  unfold iK
  exact jD (by simp only;rw [qN];exact h) D.files
theorem aFp {D:aA} {n m:ByteArray} (h:¬ n = m):aC m (syncD D n).1.files = aC m D.files:=by
 unfold syncD
 cases e:aC n D.files with
 | none=>rfl
 | some f =>
  simp only
  split
  ·rfl
  ·split
   ·simp only [bC]
   ·refine jD ?_ D.files
    simp only
    rw [(cF e).1]
    exact h
theorem aJz {D:aA} {n m:ByteArray} (h:¬ n = m) (b:List Nat):aC m (eV D n b).1.files = aC m D.files:=by
 unfold eV
 split
 ·exact uG h b
 ·rw [aFp h,uG h]
theorem aF8 {D:aA} (hd:D.down = false) {n:ByteArray} (he:(cC D n).2 = 0):(cC D n).1.down = false /\ aC n (cC D n).1.files = none:=by
 refine ⟨(aAC hd n).up he,?_⟩
 cases e:aC n D.files with
 | none =>
  have hr:(removeD D n).1 = D:=by unfold removeD;rw [e]
  show aC n (removeD D n).1.files = none
  rw [hr]
  exact e
 | some f =>
  by_cases ha:D.armed = 0
  ·have hr:removeD D n = (bP D,50):=by
    unfold removeD
    rw [e]
    simp only
    rw [if_neg (by rw [hd];decide),if_pos ha]
   unfold cC at he
   rw [hr] at he
   simp at he
  ·have hr:removeD D n = ({ bP D with files:=bH n D.files },0):=by
    unfold removeD
    rw [e]
    simp only
    rw [if_neg (by rw [hd];decide),if_neg ha]
   unfold cC
   rw [hr]
   exact wE _ _
def tG (D:aA) (m n:ByteArray) (b:List Nat):aA × Nat :=
 if (cC D m).2 ≠ 0 then cC D m else if (eV (cC D m).1 m b).2 ≠ 0 then eV (cC D m).1 m b else gK (eV (cC D m).1 m b).1 m n
theorem aHP {D:aA} (hd:D.down = false) {m n:ByteArray} (hne:¬ m = n) (hn:1 <= n.size /\ n.size <= 16) {b:List Nat} (hb:b ≠ []) :
  ((tG D m n b).2 = 0 -> aC n (tG D m n b).1.files = some ⟨n,b,b.length⟩) /\ ((tG D m n b).2 ≠ 0 -> aC n (tG D m n b).1.files = aC n D.files):=by
 have g1:aC n (cC D m).1.files = aC n D.files:=vA hne
 unfold tG
 by_cases he:(cC D m).2 = 0
 ·rw [if_neg (not_not_intro he)]
  obtain ⟨h1,h2⟩:=aF8 hd he
  generalize cC D m = r at *
  have hs:=aAg (n:=m) h1 (l:=[]) (fF h2) b
  have g2:aC n (eV r.1 m b).1.files = aC n D.files:=(aJz hne b).trans g1
  by_cases he2:(eV r.1 m b).2 = 0
  ·rw [if_neg (not_not_intro he2)]
   obtain ⟨k1,k2⟩:=hs.ok he2
   generalize eV r.1 m b = q at *
   rw [List.nil_append] at k2
   have k3:=tE k2 hb
   unfold gK
   rw [k3]
   simp only
   rw [if_neg (by rw [k1];decide),if_neg (not_not_intro hn)]
   by_cases ha:q.1.armed = 0
   ·rw [if_pos ha]
    exact ⟨fun h=>by simp at h,fun _=>by simp only [bC];exact g2⟩
   ·rw [if_neg ha]
    exact ⟨fun _=>jC ⟨n,b,b.length⟩ _,fun h=>absurd rfl h⟩
  ·rw [if_pos he2]
   exact ⟨fun h=>absurd h he2,fun _=>g2⟩
 ·rw [if_pos he]
  exact ⟨fun h=>absurd h he,fun _=>g1⟩
theorem sC (D:aA) (b:List Nat):zE D b = tG D bN eU b:=by
 show zE D b = if (bZ D).2 ≠ 0 then bZ D else if (eV (bZ D).1 bN b).2 ≠ 0 then eV (bZ D).1 bN b else gK (eV (bZ D).1 bN b).1 bN eU
 unfold zE eV
 by_cases h1:(bZ D).2 = 0
 ·rw [if_neg (not_not_intro h1),if_neg (not_not_intro h1)]
  by_cases h2:(aY (bZ D).1 bN b).2 = 0
  ·simp only [h2,ne_eq,not_true_eq_false,if_false]
  ·simp only [h2,ne_eq,not_false_eq_true,if_true]
 ·rw [if_pos h1,if_pos h1]

def gG (D:aA) (s:aZ):Prop:=(s = iO /\ aC eU D.files = none) \/ (s.ok /\ aC eU D.files = some ⟨eU,frP 4 (eC s),(frP 4 (eC s)).length⟩)
theorem gG.find {D D':aA} {s:aZ} (h:gG D s) (he:aC eU D'.files = aC eU D.files):gG D' s:=by
 unfold gG
 rw [he]
 exact h
theorem aHI (k:Nat) (l:List Nat):frP k l ≠ []:=fun h=>by have:=dE k l;rw [h] at this;simp at this
theorem aCL:¬ bN = eU:=by decide
theorem aCY {D:aA} (hd:D.down = false) {s:aZ} (h:gG D s) (x:aZ) :
  gG (cO D s x).1 (if (cO D s x).2 = 0 then x else s) /\ ((cO D s x).2 = 0 -> s.i < x.i /\ x.ok):=by
 unfold cO
 by_cases hok:x.ok
 ·rw [if_neg (not_not_intro hok)]
  by_cases hle:x.i <= s.i
  ·rw [if_pos hle]
   exact ⟨by rw [if_neg (by simp)];exact h,fun e=>by simp at e⟩
  ·rw [if_neg hle,sC]
   obtain ⟨h1,h2⟩:=aHP hd aCL (by decide) (aHI 4 (eC x))
   refine ⟨?_,fun _=>⟨by omega,hok⟩⟩
   by_cases he:(tG D bN eU (frP 4 (eC x))).2 = 0
   ·rw [if_pos he];exact .inr ⟨hok,h1 he⟩
   ·rw [if_neg he];exact h.find (h2 he)
 ·rw [if_pos hok]
  exact ⟨by rw [if_neg (by simp)];exact h,fun e=>by simp at e⟩
theorem gG.aHo {D:aA} {s:aZ} (h:gG D s) (hr:bA D.files) (ts:List (Nat × Nat)):gG (cW D ts) s:=by
 obtain ⟨us,hu⟩:=rV eU D.files ts hr.apart
 have hu':aC eU (cW D ts).files = (aC eU D.files).bind fun f=>(dB f us).head?:=hu
 rcases h with ⟨h1,h2⟩ | ⟨h1,h2⟩
 ·rw [h2] at hu'
  exact .inl ⟨h1,hu'⟩
 ·rw [h2] at hu'
  refine .inr ⟨h1,hu'.trans ?_⟩
  simp only [Option.bind_some]
  unfold dB
  rw [if_neg (Nat.lt_irrefl _),if_neg (aHI 4 (eC s))]
  rfl
def gW (D:aA):Nat:=if (bZ D).2 ≠ 0 then (bZ D).2 else if aC eU (bZ D).1.files = none then 0 else if rH 7 (bT (bZ D).1 eU).all = true then 0 else 20
def dM (D:aA):aZ:=if aC eU (bZ D).1.files = none then iO else pX 7 (bT (bZ D).1 eU).all
theorem aGJ {D:aA} (hc:Calm D) {s:aZ} (h:gG D s):gW D = 0 /\ dM D = s /\ Calm (bZ D).1 /\ gG (bZ D).1 s:=by
 have hg:(bZ D).2 = 0 /\ Calm (bZ D).1:=by
  show (cC D bN).2 = 0 /\ Calm (cC D bN).1
  cases e:aC bN D.files with
  | none =>
   have h31:bG D bN = 31:=by unfold bG;rw [if_neg (by rw [hc.1];decide),if_pos e]
   have hr:removeD D bN = (D,31):=by unfold removeD;rw [e];simp only;rw [h31]
   unfold cC
   rw [hr]
   exact ⟨rfl,hc⟩
  | some f =>
   have hr:removeD D bN = ({ bP D with files:=bH bN D.files },0):=by
    unfold removeD
    rw [e]
    simp only
    rw [if_neg (by rw [hc.1];decide),if_neg (by rw [hc.2];decide)]
   unfold cC
   rw [hr]
   exact ⟨rfl,hc.step _⟩
 have hf:gG (bZ D).1 s:=h.find (vA aCL)
 refine ⟨?_,?_,hg.2,hf⟩
 ·unfold gW
  rw [if_neg (not_not_intro hg.1)]
  rcases hf with ⟨_,h2⟩ | ⟨h1,h2⟩
  ·rw [if_pos h2]
  ·rw [if_neg (by rw [h2];simp),dC h2]
   simp only
   rw [(zA 7 (by decide) (by decide) s h1).1,if_pos rfl]
 ·unfold dM
  rcases hf with ⟨h1,h2⟩ | ⟨h1,h2⟩
  ·rw [if_pos h2,h1]
  ·rw [if_neg (by rw [h2];simp),dC h2]
   exact (zA 7 (by decide) (by decide) s h1).2
end Go.Proofs.YtjdglpcnkiioeaaGreat
namespace Go.Proofs.YtjdglpcnkiioeaaGreat
open Go.RowKit Go.Maps Go.Proofs.Own Go.Shelf

inductive fR (N:ByteArray -> Prop):aA -> aA -> Prop
 | refl (D:aA):fR N D D
 | remove (D:aA) (n:ByteArray) (h:N n):fR N D (removeD D n).1
 | sync (D:aA) (n:ByteArray) (h:N n):fR N D (syncD D n).1
 | cut (D:aA) (n:ByteArray) (k:Int) (h:N n):fR N D (cutD D n k).1
 | append (D:aA) (n:ByteArray) (b:List Nat) (h:N n):fR N D (aY D n b).1
 | move (D:aA) (n m:ByteArray) (h:N n) (g:N m):fR N D (gK D n m).1
 | trans {D D1 D2:aA} (h:fR N D D1) (g:fR N D1 D2):fR N D D2
theorem aJi {D:aA} {n to m:ByteArray} (h:¬ n = m) (h2:¬ to = m):aC m (gK D n to).1.files = aC m D.files:=by
 unfold gK
 split
 ·split
  ·rfl
  ·split
   ·rfl
   ·split
    ·simp only [bC]
    ·exact (jD h2 _).trans (jB h _)
 ·rfl
theorem aJ2 {D:aA} {n m:ByteArray} (h:¬ n = m) (k:Int):aC m (cutD D n k).1.files = aC m D.files:=by
 unfold cutD
 cases e:aC n D.files with
 | none=>rfl
 | some f =>
  simp only
  split
  ·rfl
  ·split
   ·rfl
   ·split
    ·simp only [bC]
    ·refine jD ?_ D.files
     simp only
     rw [(cF e).1]
     exact h
theorem fR.find {N:ByteArray -> Prop} {D D':aA} (h:fR N D D') {m:ByteArray} (hm:¬ N m):aC m D'.files = aC m D.files:=by
 have ne:∀ {n},N n -> ¬ n = m:=fun hn e=>hm (e ▸ hn)
 induction h with
 | refl=>rfl
 | remove D n h=>exact vA (ne h)
 | sync D n h=>exact aFp (ne h)
 | cut D n k h=>exact aJ2 (ne h) k
 | append D n b h=>exact uG (ne h) b
 | move D n t h g=>exact aJi (ne h) (ne g)
 | trans _ _ h1 h2=>exact h2.trans h1
theorem aAq {D:aA} (n:ByteArray) (h:bA D.files):bA (removeD D n).1.files:=(oS.remove D n).rising h
theorem aDb {D:aA} (n:ByteArray) (h:bA D.files):bA (syncD D n).1.files:=(oS.sync D n).rising h
theorem aDJ {D:aA} (n:ByteArray) (k:Int) (h:bA D.files):bA (cutD D n k).1.files:=by
 unfold cutD
 split
 ·rename_i f _
  split
  ·exact h
  ·split
   ·exact h
   ·split
    ·rw [show (bP D,50).1.files = D.files from bC D];exact h
    ·exact h.put ⟨f.name,f.all.take k.toNat,min f.kept k.toNat⟩
 ·exact h
theorem aAm {D:aA} (n:ByteArray) (b:List Nat) (h:bA D.files):bA (aY D n b).1.files:=by
 unfold aY
 split
 ·exact h
 ·rw [show (bP (iK D n b),fO D).1.files = (iK D n b).files from bC _]
  exact h.put { bT D n with all:=(bT D n).all ++ b }
theorem aCK {D:aA} (n to:ByteArray) (h:bA D.files):bA (gK D n to).1.files:=by
 unfold gK
 split
 ·rename_i f _
  split
  ·exact h
  ·split
   ·exact h
   ·split
    ·rw [show (bP D,50).1.files = D.files from bC D];exact h
    ·exact (h.del n).put { f with name:=to }
 ·exact h
theorem fR.rising {N:ByteArray -> Prop} {D D':aA} (h:fR N D D') (hr:bA D.files):bA D'.files:=by
 induction h with
 | refl=>exact hr
 | remove D n _=>exact aAq n hr
 | sync D n _=>exact aDb n hr
 | cut D n k _=>exact aDJ n k hr
 | append D n b _=>exact aAm n b hr
 | move D n t _ _=>exact aCK n t hr
 | trans _ _ h1 h2=>exact h2 (h1 hr)
theorem aE4 {n:ByteArray} (hn:bS (bF n) = 0) (L:List aO):(bH n L).filter isW = L.filter isW:=by
 rw [lO]
 unfold bH
 refine List.filter_eq_self.2 fun g hg=>?_
 have hw:=(List.mem_filter.1 hg).2
 rw [Bool.not_eq_true',decide_eq_false_iff_not]
 intro e
 unfold isW at hw
 rw [e,hn] at hw
 exact absurd hw (by decide)
theorem noW {f:aO} (h:bS (bF f.name) = 0):isW f = false:=by unfold isW;rw [h];rfl
theorem fR.dO {N:ByteArray -> Prop} {D D':aA} (h:fR N D D') (hN:∀ n,N n -> bS (bF n) = 0):dO D' = dO D:=by
 unfold Go.Proofs.YtjdglpcnkiioeaaGreat.dO
 induction h with
 | refl=>rfl
 | remove D n h =>
  unfold removeD
  split
  ·split
   ·rfl
   ·split
    ·simp only [bC]
    ·exact aE4 (hN n h) _
  ·rfl
 | sync D n h =>
  unfold syncD
  cases e:aC n D.files with
  | none=>rfl
  | some f =>
   simp only
   split
   ·rfl
   ·split
    ·simp only [bC]
    ·exact kD (noW (f:={ f with kept:=f.all.length }) (by simp only;rw [(cF e).1];exact hN n h)) _
 | cut D n k h =>
  unfold cutD
  cases e:aC n D.files with
  | none=>rfl
  | some f =>
   simp only
   split
   ·rfl
   ·split
    ·rfl
    ·split
     ·simp only [bC]
     ·exact kD (noW (by simp only;rw [(cF e).1];exact hN n h)) _
 | append D n b h =>
  unfold aY
  split
  ·rfl
  ·rw [show (bP (iK D n b),fO D).1.files = (iK D n b).files from bC _]
   unfold iK
   exact kD (noW (by simp only;rw [qN];exact hN n h)) _
 | move D n t h g =>
  unfold gK
  split
  ·split
   ·rfl
   ·split
    ·rfl
    ·split
     ·simp only [bC]
     ·exact (kD (noW (hN t g)) _).trans (aE4 (hN n h) _)
  ·rfl
 | trans _ _ h1 h2=>exact h2.trans h1
def NV (n:ByteArray):Prop:=n = bO \/ n = cD
def NS (n:ByteArray):Prop:=n = eU \/ n = bN
def NW (n:ByteArray):Prop:=bS (bF n) ≠ 0 \/ n.size = 0
theorem aAS:∀ n,NV n -> bS (bF n) = 0:=by rintro n (rfl | rfl) <;> decide
theorem uU:∀ n,NS n -> bS (bF n) = 0:=by rintro n (rfl | rfl) <;> decide
theorem aFi:¬ NV eU:=by rintro (h | h) <;> exact absurd h (by decide)
theorem aFh:¬ NS bO:=by rintro (h | h) <;> exact absurd h (by decide)
theorem oD:¬ NW bO:=by rintro (h | h) <;> exact absurd h (by decide)
theorem oC:¬ NW eU:=by rintro (h | h) <;> exact absurd h (by decide)
theorem lC (D:aA) (n:ByteArray) {N:ByteArray -> Prop} (h:N n):fR N D (cC D n).1:=.remove _ _ h
theorem mV (D:aA) (n:ByteArray) (b:List Nat) {N:ByteArray -> Prop} (h:N n):fR N D (eV D n b).1:=by
 unfold eV
 split
 ·exact .append _ _ _ h
 ·exact .trans (.append _ _ _ h) (.sync _ _ h)
theorem aFz (D:aA) (t v t' v':Int):fR NV D (dG D t v t' v').1:=by
 unfold dG
 split
 ·exact .refl _
 ·split
  ·exact .refl _
  ·split
   ·exact .refl _
   ·unfold cU
    split
    ·exact .refl _
    ·split
     ·exact mV _ _ _ (.inl rfl)
     ·split
      ·exact lC _ _ (.inr rfl)
      ·refine .trans (lC _ _ (.inr rfl)) ?_
       unfold jN
       split
       ·exact mV _ _ _ (.inr rfl)
       ·exact .trans (mV _ _ _ (.inr rfl)) (.move _ _ _ (.inr rfl) (.inl rfl))
theorem aDC (D:aA):fR NV D (dJ D).1:=by
 unfold dJ
 split
 ·exact lC _ _ (.inr rfl)
 ·refine .trans (lC _ _ (.inr rfl)) ?_
  have h1:∀ E,fR NV E (eF E).1:=fun E=>by
   unfold eF
   split
   ·exact .cut _ _ _ (.inl rfl)
   ·exact .refl _
  unfold eK
  split
  ·exact .refl _
  ·split
   ·exact .refl _
   ·split
    ·exact h1 _
    ·exact .trans (h1 _) (.sync _ _ (.inl rfl))
theorem aAk (D:aA):fR NS D (bZ D).1:=.remove _ _ (.inr rfl)
theorem uE (D:aA) (s x:aZ):fR NS D (cO D s x).1:=by
 unfold cO
 split
 ·exact .refl _
 ·split
  ·exact .refl _
  ·rw [sC]
   unfold tG
   split
   ·exact lC _ _ (.inr rfl)
   ·refine .trans (lC _ _ (.inr rfl)) ?_
    split
    ·exact mV _ _ _ (.inr rfl)
    ·exact .trans (mV _ _ _ (.inr rfl)) (.move _ _ _ (.inr rfl) (.inl rfl))
theorem sS (D:aA) (L:aM):fR NW D (popW D L).1:=by
 unfold popW
 split
 ·exact .refl _
 ·split
  ·exact .remove _ _ (cQ _)
  ·exact .remove _ _ (cQ _)
theorem vR (base:Nat):∀ (n:Nat) (D:aA) (L:aM),fR NW D (resetF base n D L).1
 | 0,D,L=>.refl _
 | n + 1,D,L=>by
  unfold resetF
  split
  ·exact .refl _
  ·split
   ·exact sS D L
   ·exact (sS D L).trans (vR base n (popW D L).1 (popW D L).2.1)
theorem rP (D:aA) (L:aM) (base:Nat):fR NW D (bI D L base).1:=by
 unfold bI
 split
 ·exact .refl _
 ·exact vR _ _ _ _
theorem qJ (D:aA) (L:aM):fR NW D (bJ D L).1:=by
 unfold bJ
 split
 ·exact .refl _
 ·split
  ·exact .refl _
  ·split
   ·exact .sync _ _ (cQ _)
   ·exact .sync _ _ (cQ _)
theorem aB8 (D:aA) (L:aM) (ms:List bR):fR NW D (aR D L ms).1:=by
 have hnew:fR NW D (nH D L ms).1:=by
  unfold nH
  split
  ·exact qJ D L
  ·split
   ·exact (qJ D L).trans (.append _ _ _ (cQ _))
   ·exact (qJ D L).trans (.append _ _ _ (cQ _))
 unfold aR
 split
 ·exact .refl _
 ·split
  ·exact .refl _
  ·split
   ·exact .refl _
   ·split
    ·exact hnew
    ·split
     ·unfold aAl
      split
      ·exact .append _ _ _ (cQ _)
      ·exact .append _ _ _ (cQ _)
     ·exact hnew
theorem qI (frm:Nat):∀ (n:Nat) (D:aA) (L:aM),fR NW D (eR frm n D L).1
 | 0,D,L=>.refl _
 | n + 1,D,L=>by
  unfold eR
  split
  ·exact .refl _
  ·split
   ·exact .refl _
   ·split
    ·exact sS D L
    ·exact (sS D L).trans (qI frm n (popW D L).1 (popW D L).2.1)
theorem aFA (D:aA) (L:aM) (frm:Nat):fR NW D (rS D L frm).1:=by
 unfold rS
 split
 ·exact .refl _
 ·simp only
  split
  ·exact .cut _ _ _ (cQ _)
  ·exact .cut _ _ _ (cQ _)
theorem aHi (D:aA) (L:aM) (frm:Nat):fR NW D (fY D L frm).1:=by
 unfold fY
 split
 ·exact .refl _
 ·split
  ·exact qI frm _ D L
  ·split
   ·exact qI frm _ D L
   ·exact (qI frm _ D L).trans (aFA _ _ _)
theorem xV (upto:Nat):∀ (n:Nat) (D:aA) (L:aM),fR NW D (dropF upto n D L).1
 | 0,D,L=>.refl _
 | n + 1,D,L=>by
  unfold dropF
  split
  ·split
   ·split
    ·exact .remove _ _ (cQ _)
    ·exact (fR.remove _ _ (cQ _)).trans (xV upto n _ _)
   ·exact .refl _
  ·exact .refl _
theorem aFB (D:aA) (L:aM) (upto:Nat):fR NW D (eI D L upto).1:=by
 unfold eI
 split
 ·exact .refl _
 ·exact xV _ _ _ _
theorem uF:∀ (ns:List ByteArray) (D:aA) (L:aM),(∀ n ∈ ns,NW n) -> fR NW D (loadW ns D L).1
 | [],D,L,_=>.refl _
 | n :: r,D,L,h=>by
  have hr:∀ m ∈ r,NW m:=fun m hm=>h m (List.mem_cons_of_mem _ hm)
  unfold loadW
  split
  ·exact .refl _
  ·split
   ·split
    ·exact .remove _ _ (h n (List.mem_cons_self ..))
    ·exact (fR.remove _ _ (h n (List.mem_cons_self ..))).trans (uF r _ _ hr)
   ·split
    ·exact .refl _
    ·exact uF r _ _ hr
theorem vS (D:aA) (L:aM):fR NW D (bQ D L).1:=by
 unfold bQ
 split
 ·exact .refl _
 ·split
  ·exact .refl _
  ·split
   ·split
    ·exact .cut _ _ _ (cQ _)
    ·exact (fR.cut _ _ _ (cQ _)).trans (.sync _ _ (cQ _))
   ·exact .sync _ _ (cQ _)
theorem aDD (D:aA) (L:aM) (base:Nat):fR NW D (iS D L base).1:=by
 have h:fR NW D (if L.fs = [] \/ L.last < base then bI D L base else (D,L,0)).1:=by
  split
  ·exact rP D L base
  ·exact .refl _
 unfold iS
 simp only
 generalize (if L.fs = [] \/ L.last < base then bI D L base else (D,L,0)) = r at h ⊢
 split
 ·exact h
 ·split
  ·exact h
  ·exact h
theorem aFC (D:aA) (base:Nat):fR NW D (fD D base).1:=by
 have h1:=uF (dP D) D ⟨0,[],[],0⟩ (fun n hn=>by
  obtain ⟨f,hf,rfl⟩:=List.mem_map.1 hn
  have:=(List.mem_filter.1 hf).2
  unfold isW at this
  exact .inl (of_decide_eq_true this))
 unfold fD
 split
 ·exact .refl _
 ·split
  ·exact .refl _
  ·split
   ·exact h1
   ·unfold pU
    split
    ·exact h1.trans (vS _ _)
    ·exact (h1.trans (vS _ _)).trans (aDD _ _ _)

def gN (r:aA × Nat):Prop:=r.1.down = true ↔ r.2 = 50
def jI (r:aA × aM × Nat):Prop:=r.1.down = true ↔ r.2.2 = 50
theorem gN.same {D:aA} (hd:D.down = false) {e:Nat} (he:e ≠ 50):gN (D,e):=by
 unfold gN
 simp [hd,he]
theorem gN.up {r:aA × Nat} (h:gN r) (he:r.2 ≠ 50):r.1.down = false:=by
 cases e:r.1.down with
 | false=>rfl
 | true=>exact absurd (h.1 e) he
theorem gN.ok {r:aA × Nat} (h:gN r) (he:¬ r.2 ≠ 0):r.1.down = false:=h.up (by omega)
theorem jI.up {r:aA × aM × Nat} (h:jI r) (he:r.2.2 ≠ 50):r.1.down = false:=gN.up (r:=(r.1,r.2.2)) h he
theorem jI.ok {r:aA × aM × Nat} (h:jI r) (he:¬ r.2.2 ≠ 0):r.1.down = false:=h.up (by omega)
theorem jI.mO {D:aA} (hd:D.down = false) (L:aM) {e:Nat} (he:e ≠ 50):jI (D,L,e):=gN.same hd he
theorem nR {D:aA} (hd:D.down = false) (n:ByteArray):bG D n ≠ 50:=by
 unfold bG
 rw [if_neg (by rw [hd];decide)]
 split <;> decide
theorem aEw {D:aA} (hd:D.down = false):gN (bP D,fO D):=by
 unfold gN fO
 by_cases ha:D.armed = 0
 ·simp [ha,(gD hd).2 ha]
 ·simp [ha,gX hd ha]
theorem oO {D:aA} (hd:D.down = false) (F:List aO):gN (if D.armed = 0 then (bP D,50) else ({ bP D with files:=F },0)):=by
 unfold gN
 by_cases ha:D.armed = 0
 ·simp [ha,(gD hd).2 ha]
 ·simp [ha,gX hd ha]
theorem oN {D:aA} (hd:D.down = false) (n:ByteArray):gN (removeD D n):=by
 unfold removeD
 split
 ·rw [if_neg (by rw [hd];decide)]
  exact oO hd _
 ·exact .same hd (nR hd n)
theorem zU {D:aA} (hd:D.down = false) (n:ByteArray):gN (syncD D n):=by
 unfold syncD
 split
 ·rw [if_neg (by rw [hd];decide)]
  exact oO hd _
 ·exact .same hd (nR hd n)
theorem aA4 {D:aA} (hd:D.down = false) (n:ByteArray) (k:Int):gN (cutD D n k):=by
 unfold cutD
 split
 ·rw [if_neg (by rw [hd];decide)]
  split
  ·exact .same hd (by decide)
  ·exact oO hd _
 ·exact .same hd (nR hd n)
theorem zS {D:aA} (hd:D.down = false) (n to:ByteArray):gN (gK D n to):=by
 unfold gK
 split
 ·rw [if_neg (by rw [hd];decide)]
  split
  ·exact .same hd (by decide)
  ·exact oO hd _
 ·exact .same hd (nR hd n)
theorem oM {D:aA} (hd:D.down = false) (n:ByteArray) (b:List Nat):gN (aY D n b):=by
 unfold aY
 split
 ·refine .same hd ?_
  unfold rQ
  rw [if_neg (by rw [hd];decide)]
  split
  ·decide
  ·split <;> decide
 ·exact aEw (D:=iK D n b) hd
theorem zR {D:aA} (hd:D.down = false) (n:ByteArray):gN (cC D n):=by
 have h:=oN hd n
 unfold cC
 unfold gN at h ⊢
 simp only
 rw [h]
 split
 ·rename_i e;rw [e];decide
 ·rfl
theorem sJ {D:aA} (hd:D.down = false) (n:ByteArray) (b:List Nat):gN (eV D n b):=by
 have h:=oM hd n b
 unfold eV
 split
 ·exact h
 ·rename_i he;exact zU (h.ok he) n
theorem aEv {D:aA} (hd:D.down = false) (t v t' v':Int):gN (dG D t v t' v'):=by
 unfold dG
 split
 ·exact .same hd (by decide)
 ·split
  ·exact .same hd (by decide)
  ·split
   ·exact .same hd (by decide)
   ·unfold cU
    rw [if_neg (by rw [hd];decide)]
    split
    ·exact sJ hd _ _
    ·have hg:=zR hd cD
     split
     ·exact hg
     ·rename_i he
      have hw:=sJ (hg.ok he) cD (frP 3 (bV [t'.toNat,(v' + 1).toNat]))
      unfold jN
      split
      ·exact hw
      ·rename_i he2;exact zS (hw.ok he2) _ _
theorem zT {D:aA} (hd:D.down = false) (s x:aZ):gN (cO D s x):=by
 unfold cO
 split
 ·exact .same hd (by decide)
 ·split
  ·exact .same hd (by decide)
  ·rw [sC]
   unfold tG
   have hg:=zR hd bN
   split
   ·exact hg
   ·rename_i he
    have hw:=sJ (hg.ok he) bN (frP 4 (eC x))
    split
    ·exact hw
    ·rename_i he2;exact zS (hw.ok he2) _ _
theorem aEy {D:aA} (hd:D.down = false) (L:aM):jI (popW D L):=by
 unfold popW
 split
 ·exact .mO hd L (by decide)
 ·rename_i f _
  have h:=oN hd (aH f.f)
  split
  ·exact h
  ·rename_i he;exact .mO (h.ok he) _ (by decide)
theorem aDe {D:aA} (hd:D.down = false) (L:aM):jI (bJ D L):=by
 unfold bJ
 split
 ·exact .mO hd _ (by decide)
 ·split
  ·exact .mO hd _ (by decide)
  ·rename_i f _
   have h:=zU hd (aH f.f)
   split
   ·exact h
   ·rename_i he;exact .mO (h.ok he) _ (by decide)
theorem aAs {D:aA} (hd:D.down = false) (L:aM) (ms:List bR):jI (aR D L ms):=by
 have hnew:jI (nH D L ms):=by
  have h:=aDe hd L
  unfold nH
  split
  ·exact h
  ·rename_i he
   have h2:=oM (h.ok he) (aH (L.last + 1)) (cH (L.last + 1) ms)
   split
   ·exact h2
   ·rename_i he2;exact .mO (h2.ok he2) _ (by decide)
 unfold aR
 split
 ·exact .mO hd _ (by decide)
 ·split
  ·exact .mO hd _ (by decide)
  ·split
   ·exact .mO hd _ (by decide)
   ·split
    ·exact hnew
    ·rename_i f _
     split
     ·have h2:=oM hd (aH f.f) (linesW (L.last + 1) ms)
      unfold aAl
      split
      ·exact h2
      ·rename_i he2;exact .mO (h2.ok he2) _ (by decide)
     ·exact hnew
theorem wQ (frm:Nat):∀ (n:Nat) {D:aA} (L:aM),D.down = false -> jI (eR frm n D L)
 | 0,D,L,hd=>.mO hd _ (by decide)
 | n + 1,D,L,hd=>by
  have h:=aEy hd L
  unfold eR
  split
  ·exact .mO hd _ (by decide)
  ·split
   ·exact .mO hd _ (by decide)
   ·split
    ·exact h
    ·rename_i he;exact wQ frm n _ (h.ok he)
theorem aEx {D:aA} (hd:D.down = false) (L:aM) (frm:Nat):jI (fY D L frm):=by
 have h:=wQ frm L.fs.length L hd
 unfold fY
 split
 ·exact .mO hd _ (by decide)
 ·split
  ·exact h
  ·rename_i he
   split
   ·exact .mO (h.ok he) _ (by decide)
   ·unfold rS
    split
    ·exact .mO (h.ok he) _ (by decide)
    ·simp only
     split
     ·exact aA4 (h.ok he) _ _
     ·rename_i he2;exact .mO ((aA4 (h.ok he) _ _).ok he2) _ (by decide)
theorem tY (upto:Nat):∀ (n:Nat) {D:aA} (L:aM),D.down = false -> jI (dropF upto n D L)
 | 0,D,L,hd=>.mO hd _ (by decide)
 | n + 1,D,L,hd=>by
  unfold dropF
  split
  ·rename_i f g r _
   have h:=oN hd (aH f.f)
   split
   ·split
    ·exact h
    ·rename_i he;exact tY upto n _ (h.ok he)
   ·exact .mO hd _ (by decide)
  ·exact .mO hd _ (by decide)
theorem aDd {D:aA} (hd:D.down = false) (L:aM) (upto:Nat):jI (eI D L upto):=by
 unfold eI
 split
 ·exact .mO hd _ (by decide)
 ·exact tY _ _ _ hd
structure Pre (L L':aM):Prop where
 b:L'.b = L.b
 es:∃ j,L'.es = L.es.take j
 safe:L.safe = L.es.length -> L'.safe = L'.es.length
theorem Pre.refl (L:aM):Pre L L:=⟨rfl,⟨L.es.length,(List.take_length).symm⟩,id⟩
theorem Pre.trans {L L1 L2:aM} (h:Pre L L1) (g:Pre L1 L2):Pre L L2:=by
 obtain ⟨j,hj⟩:=h.es
 obtain ⟨k,hk⟩:=g.es
 exact ⟨g.b.trans h.b,⟨min k j,by rw [hk,hj,List.take_take]⟩,fun e=>g.safe (h.safe e)⟩
theorem Pre.len {L L':aM} (h:Pre L L'):L'.es = L.es.take L'.es.length /\ L'.es.length <= L.es.length:=by
 obtain ⟨j,hj⟩:=h.es
 have e:L'.es.length = min j L.es.length:=by rw [hj,List.length_take]
 refine ⟨?_,by omega⟩
 rw [e,hj]
 by_cases hl:j <= L.es.length
 ·rw [show min j L.es.length = j by omega]
 ·rw [show min j L.es.length = L.es.length by omega,List.take_length,List.take_of_length_le (by omega)]
theorem aBK (D:aA) (L:aM):Pre L (popW D L).2.1:=by
 unfold popW
 split
 ·exact Pre.refl L
 ·split
  ·exact Pre.refl L
  ·refine ⟨rfl,⟨_,rfl⟩,fun e=>?_⟩
   show min L.safe (L.es.length - _) = (L.es.take _).length
   rw [List.length_take,e,Nat.min_comm]
theorem nJ (base:Nat):∀ (n:Nat) (D:aA) (L:aM),((resetF base n D L).2.2 = 0 -> (resetF base n D L).2.1 = ⟨base,[],[],0⟩) /\ ((resetF base n D L).2.2 ≠ 0 -> Pre L (resetF base n D L).2.1)
 | 0,D,L=>⟨fun _=>rfl,fun e=>absurd rfl e⟩
 | n + 1,D,L=>by
  unfold resetF
  split
  ·exact ⟨fun _=>rfl,fun e=>absurd rfl e⟩
  ·split
   ·rename_i he;exact ⟨fun e=>absurd e he,fun _=>aBK D L⟩
   ·obtain ⟨h1,h2⟩:=nJ base n (popW D L).1 (popW D L).2.1
    exact ⟨h1,fun e=>(aBK D L).trans (h2 e)⟩
theorem aCR (frm:Nat):∀ (n:Nat) {D:aA} {L:aM} {P:List Pc},dF D L P -> D.down = false -> bA D.files -> frm <= L.last + 1 -> Pre L (eR frm n D L).2.1 /\ frm - L.b - 1 <= (eR frm n D L).2.1.es.length
 | 0,D,L,P,h,hd,hr,hf=>⟨Pre.refl L,by show _ <= L.es.length;unfold aM.last at hf;omega⟩
 | n + 1,D,L,P,h,hd,hr,hf=>by
  have hsame:Pre L L /\ frm - L.b - 1 <= L.es.length:=⟨Pre.refl L,by unfold aM.last at hf;omega⟩
  by_cases hP:P = []
  ·subst hP
   have hfs:L.fs = []:=h.fs
   unfold eR
   rw [hfs]
   exact hsame
  ·obtain ⟨A,z,rfl⟩:=eP hP
   have hg:=mF h
   unfold eR
   rw [hg.1]
   simp only
   by_cases hz:z.wf.f < frm
   ·rw [if_pos hz]
    exact hsame
   ·rw [if_neg hz]
    rcases xJ h hd hr with ⟨h1,_,h3,_⟩ | ⟨h1,h2,h3,h4,h5,_⟩
    ·rw [if_pos (by rw [h1];decide),h3]
     exact hsame
    ·rw [if_neg (by rw [h1];decide)]
     have hzf:z.f = L.b + 1 + (cE A).length:=(Chain.app.1 h.ch).2.1
     have hz':¬ z.f < frm:=hz
     have hl:(popW D L).2.1.last = L.b + (cE A).length:=by unfold aM.last;rw [h5,h4.es]
     obtain ⟨g1,g2⟩:=aCR frm n h4 h2 h3 (by rw [hl];omega)
     rw [h5] at g2
     exact ⟨(aBK D L).trans g1,g2⟩
theorem aJq {D:aA} {L:aM} {P:List Pc} (h:dF D L P) (hd:D.down = false) (hr:bA D.files) (frm:Nat):Pre L (fY D L frm).2.1 /\ min (frm - L.b - 1) L.es.length <= (fY D L frm).2.1.es.length:=by
 unfold fY
 by_cases ha:frm <= L.b \/ L.last + 1 < frm
 ·rw [if_pos ha]
  exact ⟨Pre.refl L,Nat.min_le_right _ _⟩
 ·rw [if_neg ha]
  obtain ⟨g1,g2⟩:=aCR frm L.fs.length h hd hr (by omega)
  split
  ·exact ⟨g1,by omega⟩
  ·split
   ·exact ⟨g1,by show _ <= (eR frm L.fs.length D L).2.1.es.length;omega⟩
   ·generalize eR frm L.fs.length D L = r at g1 g2 ⊢
    unfold rS
    split
    ·exact ⟨g1,by show _ <= r.2.1.es.length;omega⟩
    ·simp only
     split
     ·exact ⟨g1,by show _ <= r.2.1.es.length;omega⟩
     ·refine ⟨g1.trans ⟨rfl,⟨_,rfl⟩,fun e=>?_⟩,?_⟩
      ·show min r.2.1.safe (frm - r.2.1.b - 1) = (r.2.1.es.take _).length
       rw [List.length_take,e,Nat.min_comm]
      ·show _ <= (r.2.1.es.take (frm - r.2.1.b - 1)).length
       rw [List.length_take,g1.b]
       omega
def FCh:Nat -> List WF -> Prop
 | _,[]=>True
 | n,f :: r=>f.f = n /\ FCh (n + f.m) r
theorem aHE:∀ {P:List Pc} {n:Nat},Chain n P -> FCh n (P.map Pc.wf)
 | [],_,_=>trivial
 | _ :: _,_,h=>⟨h.1,aHE h.2⟩
structure Suf (L L':aM) (upto:Nat):Prop where
 lo:L.b <= L'.b
 es:L'.es = L.es.drop (L'.b - L.b)
 hi:L.b <= upto -> L'.b <= upto
 safe:L.safe = L.es.length -> L'.safe = L'.es.length
theorem Suf.refl (L:aM) (upto:Nat):Suf L L upto:=⟨Nat.le_refl _,by rw [Nat.sub_self];rfl,id,id⟩
theorem aA2 (upto:Nat):∀ (n:Nat) (D:aA) (L:aM),FCh (L.b + 1) L.fs -> Suf L (dropF upto n D L).2.1 upto
 | 0,D,L,_=>Suf.refl L upto
 | n + 1,D,L,hc=>by
  unfold dropF
  split
  ·rename_i f g r hfs
   rw [hfs] at hc
   split
   ·rename_i hu
    split
    ·exact Suf.refl L upto
    ·have hg:g.f = L.b + 1 + f.m:=hc.2.1
     obtain ⟨h1,h2,h3,h4⟩:=aA2 upto n (removeD D (aH f.f)).1 ⟨L.b + f.m,L.es.drop f.m,g :: r,L.safe - f.m⟩ (by
      have:=hc.2
      rw [show L.b + 1 + f.m = L.b + f.m + 1 by omega] at this
      exact this)
     simp only at h1 h2 h3 h4
     refine ⟨by omega,?_,fun _=>h3 (by omega),fun e=>h4 (by rw [List.length_drop,e])⟩
     rw [h2,List.drop_drop]
     congr 1
     omega
   ·exact Suf.refl L upto
  ·exact Suf.refl L upto
theorem aIy {D:aA} {L:aM} {P:List Pc} (h:dF D L P) (upto:Nat):Suf L (eI D L upto).2.1 upto:=by
 unfold eI
 split
 ·exact Suf.refl L upto
 ·exact aA2 upto _ D L (by rw [h.fs];exact aHE h.ch)
theorem aGQ {D:aA} {L:aM} (h:L.safe = L.es.length):bJ D L = (D,L,0):=by
 unfold bJ
 rw [if_pos h]
theorem aJT {D:aA} {L:aM} (hf:L.safe = L.es.length) (ms:List bR) :
  ((aR D L ms).2.2 ≠ 0 -> (aR D L ms).2.1 = L) /\ ((aR D L ms).2.2 = 0 -> (aR D L ms).2.1.b = L.b /\ (aR D L ms).2.1.es = L.es ++ ms /\ (aR D L ms).2.1.safe = L.es.length):=by
 have hnew:((nH D L ms).2.2 ≠ 0 -> (nH D L ms).2.1 = L) /\ ((nH D L ms).2.2 = 0 -> (nH D L ms).2.1.b = L.b /\ (nH D L ms).2.1.es = L.es ++ ms /\ (nH D L ms).2.1.safe = L.es.length):=by
  unfold nH
  rw [aGQ hf,if_neg (fun h=>h rfl)]
  simp only
  split
  ·rename_i he;exact ⟨fun _=>rfl,fun e=>absurd e he⟩
  ·exact ⟨fun e=>absurd rfl e,fun _=>⟨rfl,rfl,hf⟩⟩
 unfold aR
 split
 ·exact ⟨fun _=>rfl,fun e=>by simp at e⟩
 ·split
  ·exact ⟨fun _=>rfl,fun e=>by simp at e⟩
  ·split
   ·rename_i e;exact ⟨fun _=>rfl,fun _=>⟨rfl,by rw [e,List.append_nil],hf⟩⟩
   ·split
    ·exact hnew
    ·rename_i f _
     split
     ·unfold aAl
      split
      ·rename_i he;exact ⟨fun _=>rfl,fun e=>absurd e he⟩
      ·exact ⟨fun e=>absurd rfl e,fun _=>⟨rfl,rfl,hf⟩⟩
     ·exact hnew

def xE:bR:=⟨1,1,[]⟩
def dX:aA:=⟨1000,[],false,-1,0⟩
def lX:aM:=⟨0,[],[],0⟩
set_option maxRecDepth 100000 in
theorem aKm:fD dX 0 = (dX,some lX,0):=by kernel_rfl
theorem aIO:aW dX:=⟨⟨by decide,by decide,by decide,by decide,by decide,by decide,by decide,fun f h=>by cases h⟩,by decide,by decide⟩
theorem aKW:dF dX lX []:=(uY (D:=dX) (b:=0) ⟨rfl,rfl⟩ (by decide) rfl).2
theorem aKn:bA dX.files:=List.Pairwise.nil
end Go.Proofs.YtjdglpcnkiioeaaGreat
namespace Go.Proofs.YtjdglpcnkiioeaaGreat
open Go.RowKit Go.Maps Go.Proofs.Own

theorem aE9 {D:aA} (hg:(bZ D).2 = 0):(bZ D).1.down = false:=by
 cases hd:D.down with
 | false=>exact (aAC hd bN).up hg
 | true =>
  exfalso
  unfold bZ removeD at hg
  split at hg
  ·rw [if_pos hd] at hg;simp at hg
  ·simp only [bG,if_pos hd] at hg;simp at hg

end Go.Proofs.YtjdglpcnkiioeaaGreat
namespace Go.Proofs.YtjdglpcnkiioeaaGreat
open Go.Lib (hid)
open Go.RowKit Go.Maps Go.Proofs.Own

set_option maxRecDepth 20000 in
theorem aIq (sb db mb tb:Nat) (s:aZ) (w:World) (h:fQ w sb db mb tb s) (hi:s.i = 0) :
  Calls Tryz.prog 101 #[.pointer (some ⟨sb,0,none⟩)] w fun e w'=>e = .returned (.tuple #[.agg #[.int .u64 0,.int .u64 0,.slice none 0 0,.slice none 0 0],.bool false]) /\ Below w.heap.size w w':=by
 have H:=hid h
 obtain ⟨mv,dv,h1,_,_,_⟩:=h
 rw [hi] at h1
 have HS:=hid h1
 have hsl:=h1.lt
 clear h1
 go_enter Tryz.func101,Tryz.ntmps101
 go_wp2_with fail
 have R1:Hid (bX (w.alloc (.cells #[.int .u64 0,.int .u64 0,.slice none 0 0,.slice none 0 0] 75)) w.heap.size 0 0 (.slice none 0 0) (.slice none 0 0)):=hid (bX.new w)
 have B1:Hid (Below w.heap.size w (w.alloc (.cells #[.int .u64 0,.int .u64 0,.slice none 0 0,.slice none 0 0] 75))):=hid ((Below.refl _ _).alloc (Nat.le_refl _) _)
 generalize World.alloc w _ = w1 at *
 refine (aC7 sb db mb tb s w1 (H.out.below B1.out)).mono ?_
 rintro e w1' ⟨rfl,rfl⟩
 obtain ⟨r0,r1,_,_,_,_,_,_,_⟩:=HS.out.kept (Kept.aJ B1.out (S:=fun _=>False) fun k h1 h2=>by omega) (fun h=>h)
 obtain ⟨q0,q1,q2,q3,g0,g1,g2,g3⟩:=R1.out
 have hl1:=R1.out.lt
 go_wp2_with fail
 generalize hwF:World.setCell _ _ _ = wF
 have RF:Hid (bX wF w.heap.size 0 0 (.slice none 0 0) (.slice none 0 0)):=hid (by subst hwF;exact R1.out.iE 0 0 _ _)
 have BF:Hid (Below w.heap.size w wF):=hid (by subst hwF;exact B1.out.trans ((Kept.iE w1 w.heap.size 0 0 _ _).below B1.out.size (fun k hk=>by omega)))
 clear hwF q0 q1 q2 q3 g0 g1 g2 g3 r0 r1
 obtain ⟨q0,q1,q2,q3,_,_,_,_⟩:=RF.out
 refine bodyPost_ret (v:=.tuple #[.agg #[.int .u64 0,.int .u64 0,.slice none 0 0,.slice none 0 0],.bool false]) (by simp [results,Tryz.results101,go_sem,q0,q1,q2,q3]) rfl ?_
 exact ⟨rfl,BF.out⟩

def aB5 (w:World) (p:Option Addr) (db mb tb:Nat) (s:aZ):Prop:=(p = none /\ s = iO) \/ ∃ sb,p = some ⟨sb,0,none⟩ /\ fQ w sb db mb tb s /\ (s = iO \/ 1 <= s.i)
def aKu (s:aZ) (w:World):Ending -> World -> Prop:=fun e w'=>∃ i t mv dv,e = .returned (.tuple #[.agg #[.int .u64 i,.int .u64 t,mv,dv],.bool (decide (0 < s.i))]) /\ cG w' (.agg #[.int .u64 i,.int .u64 t,mv,dv]) s /\ Below w.heap.size w w'
theorem aC1 (p:Option Addr) (db mb tb:Nat) (s:aZ) (w:World) (h:aB5 w p db mb tb s):Calls Tryz.prog 101 #[.pointer p] w (aKu s w):=by
 rcases h with ⟨rfl,rfl⟩ | ⟨sb,rfl,h,hk⟩
 ·refine (aFg none w (.inl rfl)).mono ?_
  rintro e w1 ⟨rfl,hb⟩
  exact ⟨_,_,_,_,rfl,aFw _,hb⟩
 ·rcases hk with rfl | hk
  ·refine (aIq sb db mb tb iO w h rfl).mono ?_
   rintro e w1 ⟨rfl,hb⟩
   exact ⟨_,_,_,_,rfl,aFw _,hb⟩
  ·refine (aC2 sb db mb tb s w h (by omega)).mono ?_
   rintro e w1 ⟨v,rfl,⟨mv,dv,rfl,h1,h2⟩,hb⟩
   obtain ⟨_,_,_,h3,h4,_⟩:=h
   rw [show true = decide (0 < s.i) from (decide_eq_true (by omega)).symm]
   refine ⟨_,_,_,_,rfl,⟨mv,dv,rfl,Ints.eE h1 h3.small,Bytes.eE h2 h4.lt h4.small⟩,hb⟩
theorem aIk (m:Nat) (l:List Nat):pX m l = iO \/ 1 <= (pX m l).i:=by
 unfold pX
 split
 ·rename_i h
  exact .inr h.2.2.2.1
 ·exact .inl rfl
theorem aAZ (D:aA):dM D = iO \/ 1 <= (dM D).i:=by
 unfold dM
 split
 ·exact .inl rfl
 ·exact aIk _ _
end Go.Proofs.YtjdglpcnkiioeaaGreat
