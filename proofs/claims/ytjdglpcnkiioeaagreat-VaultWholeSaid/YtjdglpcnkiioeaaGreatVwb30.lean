/- Several texts in one: Wc, Wp, Wq, Adc, Ws, Wu, Sk, Vtp, Vtq, Wyb, Sop, Sgt for vwhole_law_holds. No conditions but those stated. -/
import Derived.Test.YtjdglpcnkiioeaaGreatVwb29
import Derived.Test.YtjdglpcnkiioeaaGreatVwb18
import Derived.Test.YtjdglpcnkiioeaaGreatVwb20
import Derived.Test.YtjdglpcnkiioeaaGreatVwb26
set_option maxHeartbeats 16000000
namespace Go.Proofs.YtjdglpcnkiioeaaGreat
open Go.RowKit Go.Maps Go.Proofs.Own Go.Shelf

def iV:List aJ -> List aJ -> Prop
  | [],M=>M = []
  | f :: r,M=>∃ us M',M = cP f us ++ M' /\ iV r M'
theorem lH:∀ (L:List aJ) (ts:List (Nat × Nat)),iV L (crashL L ts)
  | [],_=>rfl
  | f :: r,ts=>⟨ts,crashL r (kN f ts),rfl,lH r _⟩
theorem iV.filter:∀ {L M:List aJ},iV L M -> iV (L.filter isW) (M.filter isW)
  | [],M,h=>by
    have:M = []:=h
    subst this
    rfl
  | f :: r,M,h=>by
    obtain ⟨us,M',rfl,h2⟩:=h
    have ih:=iV.filter h2
    have hn:∀ g ∈ cP f us,isW g = isW f:=fun g hg=>by
      unfold isW
      rw [iM hg]
    rw [List.filter_append]
    by_cases hf:isW f = true
    . rw [List.filter_cons_of_pos hf,List.filter_eq_self.2 fun g hg=>(hn g hg).trans hf]
      exact ⟨us,_,rfl,ih⟩
    . have he:(cP f us).filter isW = []:=List.filter_eq_nil_iff.2 fun g hg=>by rw [hn g hg];exact hf
      rw [List.filter_cons_of_neg hf,he]
      exact ih
theorem aBU {f:aJ} (h:f.kept = f.all.length) (hne:f.all ≠ []) (us:List (Nat × Nat)):cP f us = [f]:=by
  unfold cP
  rw [if_neg (by omega),if_neg hne]
theorem iV.full:∀ {A B M:List aJ},(∀ f ∈ A,f.kept = f.all.length /\ f.all ≠ []) -> iV (A ++ B) M -> ∃ M',M = A ++ M' /\ iV B M'
  | [],B,M,_,h=>⟨M,rfl,h⟩
  | f :: A,B,M,hA,h=>by
    obtain ⟨us,M',rfl,h2⟩:=h
    obtain ⟨M2,rfl,h3⟩:=iV.full (A:=A) (fun g hg=>hA g (List.mem_cons_of_mem _ hg)) h2
    obtain ⟨h4,h5⟩:=hA f (List.mem_cons_self ..)
    rw [aBU h4 h5]
    exact ⟨M2,rfl,h3⟩
def kJ:Nat -> List bV -> List (Nat × List Nat)
  | _,[]=>[]
  | i,e :: es=>(2,kE i e) :: kJ (i + 1) es
theorem iA:∀ (es:List bV) (i:Nat),framesW (kJ i es) = linesW i es
  | [],_=>rfl
  | e :: es,i=>by
    show frP 2 (kE i e) ++ framesW (kJ (i + 1) es) = frP 2 (kE i e) ++ linesW (i + 1) es
    rw [iA es (i + 1)]
theorem pK:∀ (j:Nat) (es:List bV) (i:Nat),(kJ i es).take j = kJ i (es.take j)
  | 0,_,_=>rfl
  | _ + 1,[],_=>rfl
  | j + 1,e :: es,i=>by
    show (2,kE i e) :: (kJ (i + 1) es).take j = (2,kE i e) :: kJ (i + 1) (es.take j)
    rw [pK j es (i + 1)]
theorem aD4 (es:List bV) (i:Nat) (x:Nat × Nat):∃ j R,cN (linesW i es) x = linesW i (es.take j) ++ R /\ cK R ≠ 0:=by
  obtain ⟨j,R,_,h2,h3⟩:=wA (kJ i es) x
  rw [iA,pK,iA] at h2
  exact ⟨j,R,h2,h3⟩
theorem aHY (es:List bV) (f:Nat) (x:Nat × Nat):cK (cN (cF f es) x) ≠ 0 \/ ∃ j R,cN (cF f es) x = cF f (es.take j) ++ R /\ cK R ≠ 0:=by
  obtain ⟨j,R,_,h2,h3⟩:=wA ((1,cX f) :: kJ f es) x
  have e:framesW ((1,cX f) :: kJ f es) = cF f es:=by
    show frP 1 (cX f) ++ framesW (kJ f es) = _
    rw [iA]
    rfl
  rw [e] at h2
  match j with
  | 0 =>
    left
    rw [h2]
    exact h3
  | j + 1 =>
    right
    refine ⟨j,R,?_,h3⟩
    rw [h2]
    show (frP 1 (cX f) ++ framesW ((kJ f es).take j)) ++ R = (dF f ++ linesW f (es.take j)) ++ R
    rw [pK,iA]
    rfl
theorem wQ (f:Nat) (es:List bV):cF f es ≠ []:=fun h=>by
  have:=(List.append_eq_nil_iff.1 h).1
  have h2:=dC 1 (cX f)
  unfold dF at this
  rw [this] at h2
  simp at h2
def Rest (f:Nat) (es:List bV) (m:Nat) (M:List aJ):Prop :=
  (m = 0 /\ M = []) \/ ∃ R,M = [⟨aH f,R,R.length⟩] /\ ((m = 0 /\ cK R ≠ 0) \/ ∃ j R',m <= j /\ j <= es.length /\ R = cF f (es.take j) ++ R' /\ cK R' ≠ 0)
theorem aBV {z:Pc} {m:Nat} (h:(z.k = 0 /\ m = 0) \/ ∃ j,j <= z.es.length /\ m <= j /\ z.k = (cF z.f (z.es.take j)).length) (us:List (Nat × Nat)):Rest z.f z.es m (cP z.file us):=by
  have hcut:∀ {j R},m <= j -> cK R ≠ 0 -> ∃ j' R',m <= j' /\ j' <= z.es.length /\ cF z.f (z.es.take j) ++ R = cF z.f (z.es.take j') ++ R' /\ cK R' ≠ 0:=by
    intro j R hm hR
    by_cases hj:j <= z.es.length
    . exact ⟨j,R,hm,hj,rfl,hR⟩
    . by_cases hm2:m <= z.es.length
      . refine ⟨z.es.length,R,hm2,Nat.le_refl _,?_,hR⟩
        rw [List.take_of_length_le (by omega),List.take_length]
      . exfalso
        rcases h with ⟨_,h2⟩ | ⟨j',h1,h2,_⟩ <;> omega
  unfold cP
  by_cases hk:z.file.kept < z.file.all.length
  . rw [if_pos hk]
    have hR:∃ R,z.file.all.take z.file.kept ++ cN (z.file.all.drop z.file.kept) (us.headD (0,0)) = R /\ ((m = 0 /\ cK R ≠ 0) \/ ∃ j R',m <= j /\ j <= z.es.length /\ R = cF z.f (z.es.take j) ++ R' /\ cK R' ≠ 0):=by
      refine ⟨_,rfl,?_⟩
      rcases h with ⟨h0,h1⟩ | ⟨j,h1,h2,h3⟩
      . have e:z.file.all.take z.file.kept ++ cN (z.file.all.drop z.file.kept) (us.headD (0,0)) = cN (cF z.f z.es) (us.headD (0,0)):=by
          show z.w.take z.k ++ cN (z.w.drop z.k) _ = _
          rw [h0]
          rfl
        rw [e]
        rcases aHY z.es z.f (us.headD (0,0)) with hx | ⟨j,R,hx,hR⟩
        . exact .inl ⟨h1,hx⟩
        . rw [hx]
          exact .inr (hcut (by omega) hR)
      . obtain ⟨j',R,hx,hR⟩:=aD4 (z.es.drop j) (z.f + (z.es.take j).length) (us.headD (0,0))
        have hw:z.w = cF z.f (z.es.take j) ++ linesW (z.f + (z.es.take j).length) (z.es.drop j):=by
          rw [<- pS,List.take_append_drop]
          rfl
        have e:z.file.all.take z.file.kept ++ cN (z.file.all.drop z.file.kept) (us.headD (0,0)) = cF z.f (z.es.take (j + j')) ++ R:=by
          show z.w.take z.k ++ cN (z.w.drop z.k) _ = _
          rw [hw,h3,List.take_left' rfl,List.drop_left' rfl,hx,<- List.append_assoc,List.take_add,pS]
        rw [e]
        exact .inr (hcut (by omega) hR)
    obtain ⟨R,e,hR⟩:=hR
    rw [e]
    by_cases hn:R = []
    . rw [if_pos hn]
      subst hn
      rcases hR with ⟨h1,_⟩ | ⟨j,R',_,_,h3,_⟩
      . exact .inl ⟨h1,rfl⟩
      . exact absurd (List.append_eq_nil_iff.1 h3.symm).1 (wQ _ _)
    . rw [if_neg hn]
      exact .inr ⟨R,rfl,hR⟩
  . rw [if_neg hk,if_neg (show ¬ z.file.all = [] from wQ _ _)]
    have hk':z.w.length <= z.k:=by
      have:¬ z.k < z.w.length:=hk
      omega
    have hl:z.k = z.w.length:=by
      rcases h with ⟨h0,_⟩ | ⟨j,h1,h2,h3⟩
      . have:0 < z.w.length:=List.length_pos_iff.2 (wQ _ _)
        omega
      . have:=kT z.f z.es h1
        rw [List.take_length] at this
        have h4:z.w.length = (cF z.f z.es).length:=rfl
        omega
    refine .inr ⟨z.w,?_,.inr ⟨z.es.length,[],?_,Nat.le_refl _,?_,by decide⟩⟩
    . show [(⟨aH z.f,z.w,z.k⟩:aJ)] = _
      rw [hl]
    . rcases h with ⟨_,h1⟩ | ⟨j,h1,h2,_⟩ <;> omega
    . rw [List.take_length,List.append_nil]
      rfl
theorem aE9 {D:aA} {L:aK} {A:List Pc} {z:Pc} (h:dD D L (A ++ [z])) (ts:List (Nat × Nat)):∃ M,dK (cE D ts) = A.map Pc.file ++ M /\ Rest z.f z.es (L.safe - (cA A).length) M:=by
  have hc:=(lH D.files ts).filter
  have hf:D.files.filter isW = A.map Pc.file ++ [z.file]:=by
    have:=h.fil
    rw [List.map_append] at this
    exact this
  rw [hf] at hc
  have hfull:∀ p ∈ A,p.k = p.w.length /\ 1024 <= p.w.length /\ p.es ≠ []:=by have:=h.full;rwa [List.dropLast_concat] at this
  obtain ⟨M,h1,us,M',h2,h3⟩:=iV.full (fun f hf=>by
    obtain ⟨p,hp,rfl⟩:=List.mem_map.1 hf
    exact ⟨(hfull p hp).1,wQ _ _⟩) hc
  have h3':M' = []:=h3
  refine ⟨M,h1,?_⟩
  rw [h2,h3',List.append_nil]
  refine aBV ?_ us
  obtain ⟨s1,s2⟩:=h.kept A z rfl
  rcases s2 with ⟨p0,p1,_⟩ | ⟨j,j1,j2,j3⟩
  . exact .inl ⟨p0,by omega⟩
  . exact .inr ⟨j,j1,by omega,j3⟩
theorem aDb {D:aA} {L:aK} (h:dD D L []) (ts:List (Nat × Nat)):dK (cE D ts) = []:=by
  have hc:=(lH D.files ts).filter
  have hf:D.files.filter isW = []:=h.fil
  rw [hf] at hc
  exact hc
theorem tA:∀ {L:List aJ} (ts:List (Nat × Nat)),aZ L -> aZ (crashL L ts)
  | [],_,_=>List.Pairwise.nil
  | f :: r,ts,h=>by
    obtain ⟨h1,h2⟩:=List.pairwise_cons.1 h
    refine List.pairwise_append.2 ⟨?_,tA _ h2,fun x hx y hy=>?_⟩
    . have:=qU f ts
      match e:cP f ts,this with
      | [],_=>exact List.Pairwise.nil
      | [x],_=>exact List.pairwise_singleton _ _
      | _ :: _ :: _,hl=>simp at hl
    . obtain ⟨g,hg,e⟩:=pC hy
      rw [iM hx,e]
      exact h1 g hg

def LB (b:Nat) (B:List Pc):aK:=⟨if B = [] then 0 else b,cA B,B.map Pc.wf,0⟩
def LO (b:Nat) (B:List Pc):aK:=⟨b,cA B,B.map Pc.wf,(cA B).length⟩
def rU (p:Pc):Prop:=1 <= p.f /\ p.f <= H59 /\ (∀ e ∈ p.es,e.ok) /\ p.f + p.es.length <= H59 + 1
theorem rU.lL {p:Pc} (h:rU p):1 <= p.f /\ p.f < 1152921504606846976:=by
  have:=h.2.1
  unfold H59 at this
  exact ⟨h.1,by omega⟩
theorem rU.reads {p:Pc} (h:rU p) {R:List Nat} (hR:cK R ≠ 0):fL (p.w ++ R) = ⟨p.f,p.es,p.w.length⟩:=by
  have h1:=h.lL
  have h2:=h.2.2.2
  unfold H59 at h2
  exact aF2 h1.1 (by omega) h.2.2.1 (by unfold M64;omega) hR
theorem aHL {R:List Nat} (h:cK R ≠ 0):fL R = ⟨0,[],0⟩:=by
  unfold fL
  exact uQ h _
theorem aEo (b:Nat) (B:List Pc) (h:B ≠ []):(LB b B).last = b + (cA B).length:=by
  unfold aK.last LB
  rw [if_neg h]
theorem yS {b:Nat} {B:List Pc} {a:Pc} (ha:rU a) (hf:a.f = b + 1 + (cA B).length) {R:List Nat} (hR:cK R ≠ 0) {last:Bool} (hl:last = true \/ R = []) :
    eM (LB b B) a.f (a.w ++ R) last = (true,LB b (B ++ [a]),0):=by
  unfold eM
  rw [ha.reads hR]
  simp only
  rw [if_neg (by simp),if_neg ?_]
  . congr 1
    congr 1
    unfold LB
    have h1:¬ B ++ [a] = []:=by simp
    rw [if_neg h1,cV,dW,List.map_append]
    by_cases hB:B = []
    . subst hB
      simp only [List.map_nil,if_true]
      have:a.f - 1 = b:=by
        have e:(cA ([]:List Pc)).length = 0:=rfl
        omega
      rw [this]
      rfl
    . have hm:¬ B.map Pc.wf = []:=fun e=>hB (List.map_eq_nil_iff.1 e)
      simp only [if_neg hB,if_neg hm]
      rfl
  . rintro (h | ⟨h1,h2⟩ | ⟨h1,h2⟩)
    . exact h rfl
    . rcases hl with rfl | rfl
      . cases h1
      . rw [List.append_nil] at h2
        exact h2 rfl
    . have hB:B ≠ []:=by
        rintro rfl
        exact h1 rfl
      rw [aEo b B hB] at h2
      omega
theorem aGf {L:aK} {f:Nat} (hf:1 <= f) {R:List Nat} (hR:cK R ≠ 0):eM L f R true = (false,L,0):=by
  unfold eM
  rw [aHL hR]
  rw [if_pos ⟨by show 0 ≠ f;omega,rfl⟩]
theorem sN {D:aA} {n:ByteArray} {f:aJ} (hd:D.down = false) (hf:aC n D.files = some f):bE D n = 0:=by
  rw [fX hf,if_neg (by rw [hd];decide)]
theorem aAt {D:aA} (hd:D.down = false) (b:Nat):∀ (A B:List Pc) (r:List ByteArray),Chain (b + 1) (B ++ A) -> (∀ a ∈ A,rU a /\ aC (aH a.f) D.files = some a.file) ->
    loadW (A.map (fun a=>aH a.f) ++ r) D (LB b B) = loadW r D (LB b (B ++ A))
  | [],B,r,_,_=>by rw [List.append_nil];rfl
  | a :: A,B,r,hc,h=>by
    obtain ⟨h1,h2⟩:=h a (List.mem_cons_self ..)
    have hfirst:a.f = b + 1 + (cA B).length:=(Chain.app.1 hc).2.1
    have ih:=aAt hd b A (B ++ [a]) r (by rw [List.append_assoc];exact hc) (fun x hx=>h x (List.mem_cons_of_mem _ hx))
    rw [List.append_assoc] at ih
    show loadW (aH a.f :: (A.map (fun a=>aH a.f) ++ r)) D (LB b B) = _
    conv=>lhs;unfold loadW
    have ht:∀ last,eM (LB b B) (bQ (bD (aH a.f))) (bR D (aH a.f)).all last = (true,LB b (B ++ [a]),0):=by
      intro last
      rw [kB h1.lL.1 h1.lL.2,dA h2]
      have:=yS h1 hfirst (R:=[]) (by decide) (last:=last) (.inr rfl)
      rw [List.append_nil] at this
      exact this
    rw [if_neg (by rw [sN hd h2];decide),ht]
    exact ih
theorem sX {D:aA} {X Y:List aJ} {g:aJ} (hr:aZ D.files) (hf:dK D = X ++ g :: Y) (hn:bQ (bD g.name) ≠ 0):aC g.name D.files = some g:=by
  rw [<- pF hn]
  show aC g.name (dK D) = _
  have:=mF hr
  rw [hf] at this ⊢
  exact xO this
theorem aIK {D:aA} {X Y:List aJ} {g:aJ} (hr:aZ D.files) (hf:dK D = X ++ g :: Y):(bG g.name D.files).filter isW = X ++ Y:=by
  rw [lI]
  show bG g.name (dK D) = _
  have:=mF hr
  rw [hf] at this ⊢
  exact sH this
theorem aEK {D:aA} {X Y:List aJ} {g g':aJ} (hr:aZ D.files) (hf:dK D = X ++ g :: Y) (hn:bQ (bD g.name) ≠ 0) (he:g'.name = g.name):(bL g' D.files).filter isW = X ++ g' :: Y:=by
  rw [lJ (by unfold isW;rw [he];exact decide_eq_true hn) hr]
  show bL g' (dK D) = _
  have:=mF hr
  rw [hf] at this ⊢
  exact aBn this he
theorem aCu {D:aA} (h:Calm D) {n:ByteArray} {f:aJ} (hf:aC n D.files = some f):(removeD D n).2 = 0 /\ Calm (removeD D n).1 /\ (removeD D n).1.files = bG n D.files:=by
  have hr:removeD D n = ({ bO D with files:=bG n D.files },0):=by
    unfold removeD
    rw [hf]
    simp only
    rw [if_neg (by rw [h.1];decide),if_neg (by rw [h.2];decide)]
  rw [hr]
  exact ⟨rfl,h.step _,rfl⟩
theorem aDV {D:aA} (h:Calm D) {n:ByteArray} {f:aJ} (hf:aC n D.files = some f):(syncD D n).2 = 0 /\ Calm (syncD D n).1 /\ (syncD D n).1.files = bL { f with kept:=f.all.length } D.files:=by
  have hr:syncD D n = ({ bO D with files:=bL { f with kept:=f.all.length } D.files },0):=by
    unfold syncD
    rw [hf]
    simp only
    rw [if_neg (by rw [h.1];decide),if_neg (by rw [h.2];decide)]
  rw [hr]
  exact ⟨rfl,h.step _,rfl⟩
theorem aFd {D:aA} (h:Calm D) {n:ByteArray} {f:aJ} (hf:aC n D.files = some f) {k:Nat} (hk:k <= f.all.length):(cutD D n k).2 = 0 /\ Calm (cutD D n k).1 /\ (cutD D n k).1.files = bL ⟨f.name,f.all.take k,min f.kept k⟩ D.files:=by
  have hr:cutD D n k = ({ bO D with files:=bL ⟨f.name,f.all.take k,min f.kept k⟩ D.files },0):=by
    unfold cutD
    rw [hf]
    simp only
    rw [if_neg (by rw [h.1];decide),if_neg (by omega),if_neg (by rw [h.2];decide),Int.toNat_natCast]
  rw [hr]
  exact ⟨rfl,h.step _,rfl⟩
theorem yM {D:aA} (hc:Calm D) (hr:aZ D.files) {X:List aJ} {z:Pc} (hz:rU z) {R:List Nat} {k:Nat} (hf:dK D = X ++ [⟨aH z.f,z.w ++ R,k⟩]) {L:aK} (hL:L.fs.getLast? = some z.wf) :
    (bP D L).2 = 0 /\ Calm (bP D L).1 /\ aZ (bP D L).1.files /\ dK (bP D L).1 = X ++ [⟨aH z.f,z.w,z.w.length⟩]:=by
  have hn:bQ (bD (aH z.f)) ≠ 0:=mU hz.lL
  have hfd:=sX hr hf hn
  have hsync:∀ {D':aA} {k':Nat},Calm D' -> aZ D'.files -> dK D' = X ++ [⟨aH z.f,z.w,k'⟩] ->
      (syncD D' (aH z.f)).2 = 0 /\ Calm (syncD D' (aH z.f)).1 /\ aZ (syncD D' (aH z.f)).1.files /\ dK (syncD D' (aH z.f)).1 = X ++ [⟨aH z.f,z.w,z.w.length⟩]:=by
    intro D' k' c1 c2 c3
    obtain ⟨s1,s2,s3⟩:=aDV c1 (sX c2 c3 hn)
    refine ⟨s1,s2,?_,?_⟩
    . rw [s3]
      exact c2.put _
    . unfold dK
      rw [s3]
      exact aEK c2 c3 hn rfl
  unfold bP
  rw [hL]
  simp only
  have hwf:z.wf.f = z.f:=rfl
  rw [hwf,if_neg (by rw [sN hc.1 hfd];decide),dA hfd]
  have hlen:(z.w ++ R).length = z.w.length + R.length:=List.length_append
  by_cases hs:z.wf.s < (z.w ++ R).length
  . rw [if_pos hs]
    obtain ⟨c1,c2,c3⟩:=aFd hc hfd (k:=z.w.length) (by show z.w.length <= (z.w ++ R).length;omega)
    have hs2:z.wf.s = z.w.length:=rfl
    rw [hs2,if_neg (by rw [c1];decide)]
    refine hsync (k':=min k z.w.length) c2 (by rw [c3];exact hr.put _) ?_
    unfold dK
    rw [c3]
    have:=aEK (g':=⟨aH z.f,(z.w ++ R).take z.w.length,min k z.w.length⟩) hr hf hn rfl
    rw [List.take_left' rfl] at this
    show (bL ⟨aH z.f,(z.w ++ R).take z.w.length,min k z.w.length⟩ D.files).filter isW = _
    rw [List.take_left' rfl]
    exact this
  . rw [if_neg hs]
    have hR:R = []:=by
      have:¬ z.w.length < (z.w ++ R).length:=hs
      exact List.length_eq_zero_iff.1 (by omega)
    subst hR
    rw [List.append_nil] at hf
    exact hsync hc hr hf
theorem qF (D:aA) {b:Nat} (hb:b < H59) (P:List Pc):iG D (LB b P) b = (D,some (LO b P),0):=by
  unfold iG
  by_cases hP:P = []
  . subst hP
    have h1:(LB b []).fs = []:=rfl
    have hr:bH D (LB b []) b = (D,⟨b,[],[],0⟩,0):=by
      unfold bH
      rw [if_neg (by omega)]
      rfl
    simp only [h1,true_or,if_true,hr]
    rw [if_neg (by decide),if_neg (by omega)]
    rfl
  . have h1:¬ (LB b P).fs = []:=fun e=>hP (List.map_eq_nil_iff.1 e)
    have h2:¬ (LB b P).last < b:=by
      rw [aEo b P hP]
      omega
    have h3:(LB b P).b = b:=if_neg hP
    have h4:¬ ((LB b P).fs = [] \/ (LB b P).last < b):=fun h=>h.elim h1 h2
    simp only [if_neg h4]
    rw [if_neg (by decide),h3,if_neg (by omega)]
    unfold LO LB
    rw [if_neg hP]
theorem uX {D:aA} {b:Nat} {P:List Pc} (hb:b < H59) (hf:dK D = P.map Pc.file) (hch:Chain (b + 1) P) (hok:∀ p ∈ P,rU p) (hk:∀ p ∈ P,p.k = p.w.length) (hfull:∀ p ∈ P.dropLast,1024 <= p.w.length /\ p.es ≠ []) (hhi:b + (cA P).length <= H59) :
    dD D (LO b P) P:=by
  refine ⟨hf,rfl,rfl,hch,?_,hhi,?_,Nat.le_refl _,?_,hb,fun p hp=>(hok p hp).2.1⟩
  . intro e he
    obtain ⟨p,hp,h⟩:=List.mem_flatMap.1 he
    exact (hok p hp).2.2.1 e h
  . intro p hp
    exact ⟨hk p ((List.dropLast_sublist P).subset hp),hfull p hp⟩
  . intro A z e
    subst e
    show (cA A).length <= (cA (A ++ [z])).length /\ _
    rw [cV,dW,List.length_append]
    refine ⟨by omega,.inr ⟨z.es.length,Nat.le_refl _,?_,?_⟩⟩
    . show (cA (A ++ [z])).length <= _
      rw [cV,dW,List.length_append]
      exact Nat.le_refl _
    . rw [List.take_length,hk z (List.mem_append_right _ (List.mem_singleton_self z))]
      rfl
def wU (D:aA) (b:Nat) (es:List bV) (m n:Nat):Prop :=
  ∃ D2 L2 P2,fD D b = (D2,some L2,0) /\ Calm D2 /\ aZ D2.files /\ dD D2 L2 P2 /\ L2.b = b /\ L2.safe = L2.es.length /\ ∃ j,m <= j /\ j <= n /\ L2.es = es.take j
theorem nX {D:aA} (hc:Calm D) {b:Nat} (hb:b < H59) {D1:aA} {L1:aK} (hl:loadW (dP D) D (LB b []) = (D1,L1,0)):fD D b = pO D1 L1 b:=by
  have hl':loadW (dP D) D ⟨0,[],[],0⟩ = (D1,L1,0):=hl
  unfold fD
  rw [if_neg (by rw [hc.1];decide),if_neg (by omega),hl',if_neg (fun h=>h rfl)]
theorem aHy {D:aA} (hc:Calm D) (hr:aZ D.files) {b:Nat} (hb:b < H59) {A:List Pc} {z:Pc} {m:Nat} {M:List aJ}
    (hlog:dK D = A.map Pc.file ++ M) (hM:Rest z.f z.es m M) (hch:Chain (b + 1) (A ++ [z])) (hok:∀ p ∈ A ++ [z],rU p) (hfull:∀ p ∈ A,p.k = p.w.length /\ 1024 <= p.w.length /\ p.es ≠ []) (hhi:b + (cA (A ++ [z])).length <= H59) :
    wU D b (cA (A ++ [z])) ((cA A).length + m) (cA (A ++ [z])).length:=by
  have hokA:∀ p ∈ A,rU p:=fun p hp=>hok p (List.mem_append_left _ hp)
  have hokz:rU z:=hok z (List.mem_append_right _ (List.mem_singleton_self z))
  have hchA:=(Chain.app.1 hch).1
  have hzf:z.f = b + 1 + (cA A).length:=(Chain.app.1 hch).2.1
  have hel:(cA (A ++ [z])).length = (cA A).length + z.es.length:=by rw [cV,dW,List.length_append]
  have hfind:∀ {D':aA} {Y:List aJ},aZ D'.files -> dK D' = A.map Pc.file ++ Y -> ∀ a ∈ A,rU a /\ aC (aH a.f) D'.files = some a.file:=by
    intro D' Y r1 r2 a ha
    obtain ⟨A1,A2,rfl⟩:=List.append_of_mem ha
    refine ⟨hokA a ha,?_⟩
    rw [List.map_append,List.map_cons,List.append_assoc,List.cons_append] at r2
    exact sX (g:=a.file) r1 r2 (mU (hokA a ha).lL)
  have hnames:dP D = A.map (fun a=>aH a.f) ++ M.map (·.name):=by
    unfold dP
    rw [hlog,List.map_append,List.map_map]
    rfl
  have hload:loadW (dP D) D (LB b []) = loadW (M.map (·.name)) D (LB b A):=by
    rw [hnames]
    exact aAt hc.1 b A [] _ hchA (hfind hr hlog)
  have hall:∀ {D':aA},Calm D' -> aZ D'.files -> dK D' = A.map Pc.file -> m = 0 -> fD D b = pO D' (LB b A) b -> wU D b (cA (A ++ [z])) ((cA A).length + m) (cA (A ++ [z])).length:=by
    intro D' c1 c2 c3 hm he
    have htake:(cA (A ++ [z])).take (cA A).length = cA A:=by
      rw [cV]
      exact List.take_left' rfl
    have hw:∀ {D2:aA},dK D2 = A.map Pc.file -> dD D2 (LO b A) A:=fun hf =>
      uX hb hf hchA hokA (fun p hp=>(hfull p hp).1) (fun p hp=>(hfull p ((List.dropLast_sublist A).subset hp)).2) (by omega)
    have hend:∀ {D2:aA},Calm D2 -> aZ D2.files -> dK D2 = A.map Pc.file -> fD D b = (D2,some (LO b A),0) -> wU D b (cA (A ++ [z])) ((cA A).length + m) (cA (A ++ [z])).length:=fun d1 d2 d3 d4 =>
      ⟨_,LO b A,A,d4,d1,d2,hw d3,rfl,rfl,(cA A).length,by omega,by omega,htake.symm⟩
    by_cases hA:A = []
    . subst hA
      have hs:bP D' (LB b []) = (D',0):=rfl
      refine hend c1 c2 c3 ?_
      rw [he]
      unfold pO
      rw [hs,if_neg (fun h=>h rfl)]
      exact qF D' hb []
    . obtain ⟨A',y,rfl⟩:=eP hA
      have hy:=hfull y (List.mem_append_right _ (List.mem_singleton_self y))
      have hL:(LB b (A' ++ [y])).fs.getLast? = some y.wf:=by
        show ((A' ++ [y]).map Pc.wf).getLast? = _
        rw [List.map_append]
        simp
      have c3':dK D' = A'.map Pc.file ++ [⟨aH y.f,y.w ++ [],y.k⟩]:=by
        rw [c3,List.map_append,List.append_nil]
        rfl
      obtain ⟨s1,s2,s3,s4⟩:=yM c1 c2 (hokA y (List.mem_append_right _ (List.mem_singleton_self y))) c3' hL
      refine hend s2 s3 ?_ ?_
      . rw [s4,List.map_append]
        show _ = A'.map Pc.file ++ [(⟨aH y.f,y.w,y.k⟩:aJ)]
        rw [hy.1]
      . rw [he]
        unfold pO
        rw [if_neg (by rw [s1];decide)]
        exact qF _ hb _
  rcases hM with ⟨h1,rfl⟩ | ⟨R,rfl,h⟩
  . refine hall hc hr (by rw [hlog,List.append_nil]) h1 (nX hc hb ?_)
    rw [hload]
    rfl
  . have hn:bQ (bD (aH z.f)) = z.f:=kB hokz.lL.1 hokz.lL.2
    have hfd:=sX (g:=⟨aH z.f,R,R.length⟩) hr hlog (mU hokz.lL)
    rcases h with ⟨h1,h2⟩ | ⟨j,R',j1,j2,rfl,h2⟩
    . -- no piece: it goes
      obtain ⟨r1,r2,r3⟩:=aCu hc hfd
      have hrm:loadW [aH z.f] D (LB b A) = ((removeD D (aH z.f)).1,LB b A,0):=by
        unfold loadW
        rw [if_neg (by rw [sN hc.1 hfd];decide),hn,dA hfd]
        have ht:=aGf (L:=LB b A) hokz.1 h2
        rw [show (decide (([]:List ByteArray) = [])) = true from rfl,ht,if_pos rfl]
        rw [if_neg (by rw [r1];decide)]
        rfl
      refine hall (D':=(removeD D (aH z.f)).1) r2 (by rw [r3];exact hr.del _) ?_ h1 (nX hc hb (by rw [hload];exact hrm))
      unfold dK
      rw [r3]
      have:=aIK hr hlog
      rwa [List.append_nil] at this
    . -- the piece,with the first entries
      have hz':rU ⟨z.f,z.es.take j,(cF z.f (z.es.take j)).length⟩:=by
        refine ⟨hokz.1,hokz.2.1,fun e he=>hokz.2.2.1 e (List.mem_of_mem_take he),?_⟩
        have:=hokz.2.2.2
        show z.f + (z.es.take j).length <= H59 + 1
        rw [List.length_take]
        omega
      generalize hzz:(⟨z.f,z.es.take j,(cF z.f (z.es.take j)).length⟩:Pc) = z' at hz'
      have ef:z'.f = z.f:=by rw [<- hzz]
      have ees:z'.es = z.es.take j:=by rw [<- hzz]
      have ew:z'.w = cF z.f (z.es.take j):=by rw [<- hzz];rfl
      have ek:z'.k = z'.w.length:=by rw [ew,<- hzz]
      rw [<- ew] at hfd hlog hload
      rw [<- ef] at hfd hlog hload
      have hrm:loadW [aH z'.f] D (LB b A) = (D,LB b (A ++ [z']),0):=by
        unfold loadW
        rw [if_neg (by rw [sN hc.1 hfd];decide),kB hz'.lL.1 hz'.lL.2,dA hfd]
        have ht:=yS (b:=b) (B:=A) hz' (by rw [ef,hzf]) h2 (last:=true) (.inl rfl)
        rw [show (decide (([]:List ByteArray) = [])) = true from rfl]
        show (if (eM (LB b A) z'.f (z'.w ++ R') true).1 = false then _ else _) = _
        rw [ht,if_neg (fun h=>by cases h),if_neg (fun h=>h rfl)]
        rfl
      have hL:(LB b (A ++ [z'])).fs.getLast? = some z'.wf:=by
        show ((A ++ [z']).map Pc.wf).getLast? = _
        rw [List.map_append]
        simp
      obtain ⟨s1,s2,s3,s4⟩:=yM hc hr hz' hlog hL
      have he:fD D b = ((bP D (LB b (A ++ [z']))).1,some (LO b (A ++ [z'])),0):=by
        rw [nX hc hb (by rw [hload];exact hrm)]
        unfold pO
        rw [if_neg (by rw [s1];decide)]
        exact qF _ hb _
      have hes:cA (A ++ [z']) = (cA (A ++ [z])).take ((cA A).length + j):=by
        rw [cV,cV,dW,dW,ees,List.take_length_add_append]
      refine ⟨_,LO b (A ++ [z']),A ++ [z'],he,s2,s3,uX hb ?_ ?_ ?_ ?_ ?_ ?_,rfl,rfl,(cA A).length + j,by omega,by omega,hes⟩
      . rw [s4,List.map_append]
        show _ = A.map Pc.file ++ [(⟨aH z'.f,z'.w,z'.k⟩:aJ)]
        rw [ek]
      . exact Chain.app.2 ⟨hchA,by rw [ef];exact hzf,trivial⟩
      . intro p hp
        rcases List.mem_append.1 hp with hp | hp
        . exact hokA p hp
        . obtain rfl:=List.mem_singleton.1 hp
          exact hz'
      . intro p hp
        rcases List.mem_append.1 hp with hp | hp
        . exact (hfull p hp).1
        . obtain rfl:=List.mem_singleton.1 hp
          exact ek
      . rw [List.dropLast_concat]
        intro p hp
        exact (hfull p hp).2
      . rw [hes,List.length_take]
        omega

theorem aEJ {D:aA} {L:aK} {P:List Pc} (h:dD D L P) {p:Pc} (hp:p ∈ P):rU p:=by
  obtain ⟨h1,_,_,h4⟩:=h.range p hp
  refine ⟨h1,h.lo.2 p hp,fun e he=>h.ok e ?_,?_⟩
  . rw [h.es]
    exact List.mem_flatMap.2 ⟨p,hp,he⟩
  . have:=h.hi
    unfold aK.last at h4
    omega
theorem uJ {D:aA} (hc:Calm D) {b:Nat} (hb:b < H59) (hl:dK D = []):fD D b = (D,some (LO b []),0) /\ dD D (LO b []) []:=by
  refine ⟨?_,uX hb hl trivial (fun p hp=>by cases hp) (fun p hp=>by cases hp) (fun p hp=>by cases hp) (by show b + 0 <= H59;omega)⟩
  have hn:dP D = []:=by
    unfold dP
    rw [hl]
    rfl
  rw [nX hc hb (D1:=D) (L1:=LB b []) (by rw [hn];rfl)]
  unfold pO
  have hs:bP D (LB b []) = (D,0):=rfl
  rw [hs,if_neg (fun h=>h rfl)]
  exact qF D hb []
theorem cL (n:Nat):bQ (bD (aH n)) ≠ 0 \/ (aH n).size = 0:=by
  by_cases h:n < 1 \/ 1152921504606846976 <= n
  . right
    unfold aH qW
    rw [if_pos h]
    rfl
  . left
    exact mU (by omega)
inductive oL:aA -> aA -> Prop
  | remove (D:aA) (n:ByteArray):oL D (removeD D n).1
  | sync (D:aA) (n:ByteArray):oL D (syncD D n).1
  | cut (D:aA) (n:ByteArray) (k:Nat):oL D (cutD D n k).1
  | append (D:aA) (n:ByteArray) (b:List Nat) (h:bQ (bD n) ≠ 0 \/ n.size = 0):oL D (aW D n b).1
inductive Reach:Nat -> aA -> aA -> Prop
  | refl (n:Nat) (D:aA):Reach n D D
  | step {n:Nat} {D D1 D2:aA} (h:oL D D1) (g:Reach n D1 D2):Reach (n + 1) D D2
theorem Reach.mono {n m:Nat} {D D':aA} (h:Reach n D D') (hm:n <= m):Reach m D D':=by
  induction h generalizing m with
  | refl=>exact .refl _ _
  | step h _ ih =>
    obtain ⟨k,rfl⟩:∃ k,m = k + 1:=⟨m - 1,by omega⟩
    exact .step h (ih (by omega))
theorem Reach.trans {n m:Nat} {D D1 D2:aA} (h:Reach n D D1) (g:Reach m D1 D2):Reach (n + m) D D2:=by
  induction h with
  | refl=>exact g.mono (by omega)
  | @step k _ _ _ h _ ih =>
    rw [show k + 1 + m = k + m + 1 by omega]
    exact .step h (ih g)
theorem Reach.one {D D1:aA} (h:oL D D1):Reach 1 D D1:=.step h (.refl _ _)
theorem nD (D:aA) (L:aK):Reach 1 D (popW D L).1:=by
  unfold popW
  split
  . exact .refl _ _
  . split
    . exact .one (.remove _ _)
    . exact .one (.remove _ _)
theorem pQ (base:Nat):∀ (n:Nat) (D:aA) (L:aK),Reach n D (resetF base n D L).1
  | 0,D,L=>.refl _ _
  | n + 1,D,L=>by
    unfold resetF
    split
    . exact .refl _ _
    . split
      . exact (nD D L).mono (by omega)
      . have:=(nD D L).trans (pQ base n (popW D L).1 (popW D L).2.1)
        rwa [Nat.add_comm] at this
theorem oB (D:aA) (L:aK) (base:Nat):Reach L.fs.length D (bH D L base).1:=by
  unfold bH
  split
  . exact .refl _ _
  . exact pQ _ _ _ _
theorem jL (D:aA) (L:aK):Reach 1 D (bJ D L).1:=by
  unfold bJ
  split
  . exact .refl _ _
  . split
    . exact .refl _ _
    . split
      . exact .one (.sync _ _)
      . exact .one (.sync _ _)
theorem nZ (D:aA) (L:aK) (ms:List bV):Reach 2 D (aP D L ms).1:=by
  have hnew:Reach 2 D (nA D L ms).1:=by
    unfold nA
    split
    . exact (jL D L).mono (by omega)
    . split
      . exact (jL D L).trans (.one (.append _ _ _ (cL _)))
      . exact (jL D L).trans (.one (.append _ _ _ (cL _)))
  unfold aP
  split
  . exact .refl _ _
  . split
    . exact .refl _ _
    . split
      . exact .refl _ _
      . split
        . exact hnew
        . split
          . unfold zM
            split
            . exact (Reach.one (.append _ _ _ (cL _))).mono (by omega)
            . exact (Reach.one (.append _ _ _ (cL _))).mono (by omega)
          . exact hnew
theorem oA (frm:Nat):∀ (n:Nat) (D:aA) (L:aK),Reach n D (eR frm n D L).1
  | 0,D,L=>.refl _ _
  | n + 1,D,L=>by
    unfold eR
    split
    . exact .refl _ _
    . split
      . exact .refl _ _
      . split
        . exact (nD D L).mono (by omega)
        . have:=(nD D L).trans (oA frm n (popW D L).1 (popW D L).2.1)
          rwa [Nat.add_comm] at this
theorem aDL (D:aA) (L:aK) (frm:Nat):Reach 1 D (rI D L frm).1:=by
  unfold rI
  split
  . exact .refl _ _
  . simp only
    split
    . exact .one (.cut _ _ _)
    . exact .one (.cut _ _ _)
theorem aFX (D:aA) (L:aK) (frm:Nat):Reach (L.fs.length + 1) D (fW D L frm).1:=by
  unfold fW
  split
  . exact .refl _ _
  . split
    . exact (oA frm _ D L).mono (by omega)
    . split
      . exact (oA frm _ D L).mono (by omega)
      . exact (oA frm _ D L).trans (aDL _ _ _)
theorem vR (upto:Nat):∀ (n:Nat) (D:aA) (L:aK),Reach n D (dropF upto n D L).1
  | 0,D,L=>.refl _ _
  | n + 1,D,L=>by
    unfold dropF
    split
    . split
      . split
        . exact (Reach.one (.remove _ _)).mono (by omega)
        . exact .step (.remove _ _) (vR upto n _ _)
      . exact .refl _ _
    . exact .refl _ _
theorem aDM (D:aA) (L:aK) (upto:Nat):Reach L.fs.length D (eF D L upto).1:=by
  unfold eF
  split
  . exact .refl _ _
  . exact vR _ _ _ _
end Go.Proofs.YtjdglpcnkiioeaaGreat
namespace Go.Proofs.YtjdglpcnkiioeaaGreat
open Go.RowKit Go.Maps Go.Proofs.Own

theorem aAS {D:aA} (h:Calm D) (n:ByteArray) (b:List Nat):Calm (aW D n b).1:=by
  unfold aW
  split
  . exact h
  . unfold Calm bO
    rw [if_neg (by show ¬ (hU D n b).armed = 0;rw [show (hU D n b).armed = D.armed from rfl,h.2];decide),if_neg (by rw [show (hU D n b).armed = D.armed from rfl,h.2];decide)]
    exact h
end Go.Proofs.YtjdglpcnkiioeaaGreat
namespace Go.Proofs.YtjdglpcnkiioeaaGreat
open Go.RowKit Go.Maps Go.Proofs.Own Go.Shelf

theorem Calm.aHT {D D':aA} (h:Calm D) (hs:oL D D'):Calm D':=by
  cases hs with
  | remove n =>
    unfold removeD
    split
    . rw [if_neg (by rw [h.1];decide),if_neg (by rw [h.2];decide)]
      exact h.step _
    . exact h
  | sync n =>
    unfold syncD
    split
    . rw [if_neg (by rw [h.1];decide),if_neg (by rw [h.2];decide)]
      exact h.step _
    . exact h
  | cut n k =>
    unfold cutD
    split
    . split
      . exact h
      . split
        . exact h
        . rw [if_neg (by rw [h.2];decide)]
          exact h.step _
    . exact h
  | append n b _=>exact aAS h n b
theorem aS.aHT {D D':aA} (h:aS D) (hs:oL D D') (hn:D.steps + 1 <= 1000000000):aS D' /\ D'.steps <= D.steps + 1:=by
  cases hs with
  | remove n=>exact h.remove n hn
  | sync n=>exact h.sync n hn
  | cut n k=>exact h.cut n k hn
  | append n b _=>exact h.append n b hn
theorem Reach.calm {n:Nat} {D D':aA} (hr:Reach n D D') (h:Calm D):Calm D':=by
  induction hr with
  | refl=>exact h
  | step hs _ ih=>exact ih (h.aHT hs)
theorem Reach.eN {n:Nat} {D D':aA} (hr:Reach n D D') (h:aS D) (hn:D.steps + n <= 1000000000):aS D' /\ D'.steps <= D.steps + n:=by
  induction hr with
  | refl=>exact ⟨h,by omega⟩
  | step hs _ ih =>
    obtain ⟨h1,h2⟩:=h.aHT hs (by omega)
    obtain ⟨h3,h4⟩:=ih h1 (by omega)
    exact ⟨h3,by omega⟩
theorem oL.rising {D D':aA} (hs:oL D D') (h:aZ D.files):aZ D'.files:=by
  cases hs with
  | remove n =>
    unfold removeD
    split
    . split
      . exact h
      . split
        . rw [show (bO D,50).1.files = D.files from bB D];exact h
        . exact h.del n
    . exact h
  | sync n =>
    unfold syncD
    split
    . rename_i f _
      split
      . exact h
      . split
        . rw [show (bO D,50).1.files = D.files from bB D];exact h
        . exact h.put { f with kept:=f.all.length }
    . exact h
  | cut n k =>
    unfold cutD
    split
    . rename_i f _
      split
      . exact h
      . split
        . exact h
        . split
          . rw [show (bO D,50).1.files = D.files from bB D];exact h
          . exact h.put ⟨f.name,f.all.take (k:Int).toNat,min f.kept (k:Int).toNat⟩
    . exact h
  | append n b _ =>
    unfold aW
    split
    . exact h
    . rw [show (bO (hU D n b),fK D).1.files = (hU D n b).files from bB _]
      exact h.put { bR D n with all:=(bR D n).all ++ b }
theorem Reach.rising {n:Nat} {D D':aA} (hr:Reach n D D') (h:aZ D.files):aZ D'.files:=by
  induction hr with
  | refl=>exact h
  | step hs _ ih=>exact ih (hs.rising h)
theorem dD.few {D:aA} {L:aK} {P:List Pc} (h:dD D L P) (hg:aS D):L.fs.length <= 128:=by
  have h1:L.fs.length = (dK D).length:=by rw [h.fs,h.fil,List.length_map,List.length_map]
  have h2:(dK D).length <= D.files.length:=List.length_filter_le ..
  have h3:=hg.few
  omega

theorem aIP (L:aK) (f:Nat) (b:List Nat) (last:Bool):(eM L f b last).2.1.fs.length <= L.fs.length + 1:=by
  unfold eM
  split
  . exact Nat.le_succ _
  . split
    . exact Nat.le_succ _
    . show (L.fs ++ [_]).length <= _
      rw [List.length_append]
      exact Nat.le_refl _
theorem rM:∀ (ns:List ByteArray) (D:aA) (L:aK),Reach ns.length D (loadW ns D L).1 /\ (loadW ns D L).2.1.fs.length <= L.fs.length + ns.length
  | [],D,L=>⟨.refl _ _,Nat.le_refl _⟩
  | n :: r,D,L=>by
    have ht:=aIP L (bQ (bD n)) (bR D n).all (decide (r = []))
    unfold loadW
    split
    . exact ⟨.refl _ _,Nat.le_add_right _ _⟩
    . split
      . split
        . refine ⟨(Reach.one (.remove _ _)).mono (by simp),?_⟩
          show (eM L _ _ _).2.1.fs.length <= _
          rw [List.length_cons]
          omega
        . obtain ⟨h1,h2⟩:=rM r (removeD D n).1 (eM L (bQ (bD n)) (bR D n).all (decide (r = []))).2.1
          refine ⟨.step (.remove _ _) h1,?_⟩
          rw [List.length_cons]
          omega
      . split
        . refine ⟨.refl _ _,?_⟩
          show (eM L _ _ _).2.1.fs.length <= _
          rw [List.length_cons]
          omega
        . obtain ⟨h1,h2⟩:=rM r D (eM L (bQ (bD n)) (bR D n).all (decide (r = []))).2.1
          refine ⟨h1.mono (by simp),?_⟩
          rw [List.length_cons]
          omega
theorem sY (D:aA) (L:aK):Reach 2 D (bP D L).1:=by
  unfold bP
  split
  . exact .refl _ _
  . split
    . exact .refl _ _
    . split
      . split
        . exact (Reach.one (.cut _ _ _)).mono (by omega)
        . exact (Reach.one (.cut _ _ _)).trans (.one (.sync _ _))
      . exact (Reach.one (.sync _ _)).mono (by omega)
theorem aCs (D:aA) (L:aK) (base:Nat):Reach L.fs.length D (iG D L base).1:=by
  have h:Reach L.fs.length D (if L.fs = [] \/ L.last < base then bH D L base else (D,L,0)).1:=by
    split
    . exact oB D L base
    . exact .refl _ _
  unfold iG
  simp only
  generalize (if L.fs = [] \/ L.last < base then bH D L base else (D,L,0)) = r at h ⊢
  split
  . exact h
  . split
    . exact h
    . exact h
theorem aDN (D:aA) (base:Nat):Reach (2 * (dP D).length + 2) D (fD D base).1:=by
  obtain ⟨h1,h2⟩:=rM (dP D) D ⟨0,[],[],0⟩
  have h3:(loadW (dP D) D ⟨0,[],[],0⟩).2.1.fs.length <= (dP D).length:=by
    have:((⟨0,[],[],0⟩:aK)).fs.length = 0:=rfl
    omega
  unfold fD
  split
  . exact .refl _ _
  . split
    . exact .refl _ _
    . split
      . exact h1.mono (by omega)
      . unfold pO
        split
        . exact (h1.trans (sY _ _)).mono (by omega)
        . exact ((h1.trans (sY _ _)).trans (aCs _ _ _)).mono (by omega)
theorem aFO {D:aA} (h:aS D):(dP D).length <= 128:=by
  have h1:(dP D).length = (dK D).length:=List.length_map ..
  have h2:(dK D).length <= D.files.length:=List.length_filter_le ..
  have h3:=h.few
  omega
end Go.Proofs.YtjdglpcnkiioeaaGreat
namespace Go.Proofs.YtjdglpcnkiioeaaGreat
open Go.RowKit Go.Maps Go.Proofs.Own

theorem uL {D:aA} {n m:ByteArray} (h:¬ n = m):aC m (removeD D n).1.files = aC m D.files:=by
  unfold removeD
  split
  . split
    . rfl
    . split
      . simp only [bB]
      . exact iP h _
  . rfl
theorem tR {D:aA} {n m:ByteArray} (h:¬ n = m) (b:List Nat):aC m (aW D n b).1.files = aC m D.files:=by
  unfold aW
  split
  . rfl
  . rw [bB]
    unfold hU
    exact iR (by simp only;rw [qH];exact h) D.files
theorem aEP {D:aA} {n m:ByteArray} (h:¬ n = m):aC m (syncD D n).1.files = aC m D.files:=by
  unfold syncD
  cases e:aC n D.files with
  | none=>rfl
  | some f =>
    simp only
    split
    . rfl
    . split
      . simp only [bB]
      . refine iR ?_ D.files
        simp only
        rw [(cD e).1]
        exact h
theorem aIU {D:aA} {n m:ByteArray} (h:¬ n = m) (b:List Nat):aC m (eV D n b).1.files = aC m D.files:=by
  unfold eV
  split
  . exact tR h b
  . rw [aEP h,tR h]
theorem aFz {D:aA} (hd:D.down = false) {n:ByteArray} (he:(bX D n).2 = 0):(bX D n).1.down = false /\ aC n (bX D n).1.files = none:=by
  refine ⟨(aAf hd n).up he,?_⟩
  cases e:aC n D.files with
  | none =>
    have hr:(removeD D n).1 = D:=by unfold removeD;rw [e]
    show aC n (removeD D n).1.files = none
    rw [hr]
    exact e
  | some f =>
    by_cases ha:D.armed = 0
    . have hr:removeD D n = (bO D,50):=by
        unfold removeD
        rw [e]
        simp only
        rw [if_neg (by rw [hd];decide),if_pos ha]
      unfold bX at he
      rw [hr] at he
      simp at he
    . have hr:removeD D n = ({ bO D with files:=bG n D.files },0):=by
        unfold removeD
        rw [e]
        simp only
        rw [if_neg (by rw [hd];decide),if_neg ha]
      unfold bX
      rw [hr]
      exact vJ _ _
def sQ (D:aA) (m n:ByteArray) (b:List Nat):aA × Nat :=
  if (bX D m).2 ≠ 0 then bX D m else if (eV (bX D m).1 m b).2 ≠ 0 then eV (bX D m).1 m b else gF (eV (bX D m).1 m b).1 m n
theorem aHe {D:aA} (hd:D.down = false) {m n:ByteArray} (hne:¬ m = n) (hn:1 <= n.size /\ n.size <= 16) {b:List Nat} (hb:b ≠ []) :
    ((sQ D m n b).2 = 0 -> aC n (sQ D m n b).1.files = some ⟨n,b,b.length⟩) /\ ((sQ D m n b).2 ≠ 0 -> aC n (sQ D m n b).1.files = aC n D.files):=by
  have g1:aC n (bX D m).1.files = aC n D.files:=uL hne
  unfold sQ
  by_cases he:(bX D m).2 = 0
  . rw [if_neg (not_not_intro he)]
    obtain ⟨h1,h2⟩:=aFz hd he
    generalize bX D m = r at *
    have hs:=zI (n:=m) h1 (l:=[]) (fF h2) b
    have g2:aC n (eV r.1 m b).1.files = aC n D.files:=(aIU hne b).trans g1
    by_cases he2:(eV r.1 m b).2 = 0
    . rw [if_neg (not_not_intro he2)]
      obtain ⟨k1,k2⟩:=hs.ok he2
      generalize eV r.1 m b = q at *
      rw [List.nil_append] at k2
      have k3:=sO k2 hb
      unfold gF
      rw [k3]
      simp only
      rw [if_neg (by rw [k1];decide),if_neg (not_not_intro hn)]
      by_cases ha:q.1.armed = 0
      . rw [if_pos ha]
        exact ⟨fun h=>by simp at h,fun _=>by simp only [bB];exact g2⟩
      . rw [if_neg ha]
        exact ⟨fun _=>iQ ⟨n,b,b.length⟩ _,fun h=>absurd rfl h⟩
    . rw [if_pos he2]
      exact ⟨fun h=>absurd h he2,fun _=>g2⟩
  . rw [if_pos he]
    exact ⟨fun h=>absurd h he,fun _=>g1⟩
theorem rO (D:aA) (b:List Nat):yH D b = sQ D bM eU b:=by
  show yH D b = if (bU D).2 ≠ 0 then bU D else if (eV (bU D).1 bM b).2 ≠ 0 then eV (bU D).1 bM b else gF (eV (bU D).1 bM b).1 bM eU
  unfold yH eV
  by_cases h1:(bU D).2 = 0
  . rw [if_neg (not_not_intro h1),if_neg (not_not_intro h1)]
    by_cases h2:(aW (bU D).1 bM b).2 = 0
    . simp only [h2,ne_eq,not_true_eq_false,if_false]
    . simp only [h2,ne_eq,not_false_eq_true,if_true]
  . rw [if_pos h1,if_pos h1]

def gC (D:aA) (s:bI):Prop:=(s = jF /\ aC eU D.files = none) \/ (s.ok /\ aC eU D.files = some ⟨eU,frP 4 (eB s),(frP 4 (eB s)).length⟩)
theorem gC.find {D D':aA} {s:bI} (h:gC D s) (he:aC eU D'.files = aC eU D.files):gC D' s:=by
  unfold gC
  rw [he]
  exact h
theorem aG7 (k:Nat) (l:List Nat):frP k l ≠ []:=fun h=>by have:=dC k l;rw [h] at this;simp at this
theorem aCl:¬ bM = eU:=by decide
theorem aCx {D:aA} (hd:D.down = false) {s:bI} (h:gC D s) (x:bI) :
    gC (cJ D s x).1 (if (cJ D s x).2 = 0 then x else s) /\ ((cJ D s x).2 = 0 -> s.i < x.i /\ x.ok):=by
  unfold cJ
  by_cases hok:x.ok
  . rw [if_neg (not_not_intro hok)]
    by_cases hle:x.i <= s.i
    . rw [if_pos hle]
      exact ⟨by rw [if_neg (by simp)];exact h,fun e=>by simp at e⟩
    . rw [if_neg hle,rO]
      obtain ⟨h1,h2⟩:=aHe hd aCl (by decide) (aG7 4 (eB x))
      refine ⟨?_,fun _=>⟨by omega,hok⟩⟩
      by_cases he:(sQ D bM eU (frP 4 (eB x))).2 = 0
      . rw [if_pos he];exact .inr ⟨hok,h1 he⟩
      . rw [if_neg he];exact h.find (h2 he)
  . rw [if_pos hok]
    exact ⟨by rw [if_neg (by simp)];exact h,fun e=>by simp at e⟩
theorem gC.aEs {D:aA} {s:bI} (h:gC D s) (hr:aZ D.files) (ts:List (Nat × Nat)):gC (cE D ts) s:=by
  obtain ⟨us,hu⟩:=rJ eU D.files ts hr.apart
  have hu':aC eU (cE D ts).files = (aC eU D.files).bind fun f=>(cP f us).head?:=hu
  rcases h with ⟨h1,h2⟩ | ⟨h1,h2⟩
  . rw [h2] at hu'
    exact .inl ⟨h1,hu'⟩
  . rw [h2] at hu'
    refine .inr ⟨h1,hu'.trans ?_⟩
    simp only [Option.bind_some]
    unfold cP
    rw [if_neg (Nat.lt_irrefl _),if_neg (aG7 4 (eB s))]
    rfl
def gN (D:aA):Nat:=if (bU D).2 ≠ 0 then (bU D).2 else if aC eU (bU D).1.files = none then 0 else if qZ 7 (bR (bU D).1 eU).all = true then 0 else 20
def dJ (D:aA):bI:=if aC eU (bU D).1.files = none then jF else pR 7 (bR (bU D).1 eU).all
theorem aF6 {D:aA} (hc:Calm D) {s:bI} (h:gC D s):gN D = 0 /\ dJ D = s /\ Calm (bU D).1 /\ gC (bU D).1 s:=by
  have hg:(bU D).2 = 0 /\ Calm (bU D).1:=by
    show (bX D bM).2 = 0 /\ Calm (bX D bM).1
    cases e:aC bM D.files with
    | none =>
      have h31:bE D bM = 31:=by unfold bE;rw [if_neg (by rw [hc.1];decide),if_pos e]
      have hr:removeD D bM = (D,31):=by unfold removeD;rw [e];simp only;rw [h31]
      unfold bX
      rw [hr]
      exact ⟨rfl,hc⟩
    | some f =>
      have hr:removeD D bM = ({ bO D with files:=bG bM D.files },0):=by
        unfold removeD
        rw [e]
        simp only
        rw [if_neg (by rw [hc.1];decide),if_neg (by rw [hc.2];decide)]
      unfold bX
      rw [hr]
      exact ⟨rfl,hc.step _⟩
  have hf:gC (bU D).1 s:=h.find (uL aCl)
  refine ⟨?_,?_,hg.2,hf⟩
  . unfold gN
    rw [if_neg (not_not_intro hg.1)]
    rcases hf with ⟨_,h2⟩ | ⟨h1,h2⟩
    . rw [if_pos h2]
    . rw [if_neg (by rw [h2];simp),dA h2]
      simp only
      rw [(yE 7 (by decide) (by decide) s h1).1,if_pos rfl]
  . unfold dJ
    rcases hf with ⟨h1,h2⟩ | ⟨h1,h2⟩
    . rw [if_pos h2,h1]
    . rw [if_neg (by rw [h2];simp),dA h2]
      exact (yE 7 (by decide) (by decide) s h1).2
end Go.Proofs.YtjdglpcnkiioeaaGreat
namespace Go.Proofs.YtjdglpcnkiioeaaGreat
open Go.RowKit Go.Maps Go.Proofs.Own Go.Shelf

inductive fO (N:ByteArray -> Prop):aA -> aA -> Prop
  | refl (D:aA):fO N D D
  | remove (D:aA) (n:ByteArray) (h:N n):fO N D (removeD D n).1
  | sync (D:aA) (n:ByteArray) (h:N n):fO N D (syncD D n).1
  | cut (D:aA) (n:ByteArray) (k:Int) (h:N n):fO N D (cutD D n k).1
  | append (D:aA) (n:ByteArray) (b:List Nat) (h:N n):fO N D (aW D n b).1
  | move (D:aA) (n m:ByteArray) (h:N n) (g:N m):fO N D (gF D n m).1
  | trans {D D1 D2:aA} (h:fO N D D1) (g:fO N D1 D2):fO N D D2
theorem aIz {D:aA} {n to m:ByteArray} (h:¬ n = m) (h2:¬ to = m):aC m (gF D n to).1.files = aC m D.files:=by
  unfold gF
  split
  . split
    . rfl
    . split
      . rfl
      . split
        . simp only [bB]
        . exact (iR h2 _).trans (iP h _)
  . rfl
theorem aJl {D:aA} {n m:ByteArray} (h:¬ n = m) (k:Int):aC m (cutD D n k).1.files = aC m D.files:=by
  unfold cutD
  cases e:aC n D.files with
  | none=>rfl
  | some f =>
    simp only
    split
    . rfl
    . split
      . rfl
      . split
        . simp only [bB]
        . refine iR ?_ D.files
          simp only
          rw [(cD e).1]
          exact h
theorem fO.find {N:ByteArray -> Prop} {D D':aA} (h:fO N D D') {m:ByteArray} (hm:¬ N m):aC m D'.files = aC m D.files:=by
  have ne:∀ {n},N n -> ¬ n = m:=fun hn e=>hm (e ▸ hn)
  induction h with
  | refl=>rfl
  | remove D n h=>exact uL (ne h)
  | sync D n h=>exact aEP (ne h)
  | cut D n k h=>exact aJl (ne h) k
  | append D n b h=>exact tR (ne h) b
  | move D n t h g=>exact aIz (ne h) (ne g)
  | trans _ _ h1 h2=>exact h2.trans h1
theorem zR {D:aA} (n:ByteArray) (h:aZ D.files):aZ (removeD D n).1.files:=(oL.remove D n).rising h
theorem aCH {D:aA} (n:ByteArray) (h:aZ D.files):aZ (syncD D n).1.files:=(oL.sync D n).rising h
theorem aDd {D:aA} (n:ByteArray) (k:Int) (h:aZ D.files):aZ (cutD D n k).1.files:=by
  unfold cutD
  split
  . rename_i f _
    split
    . exact h
    . split
      . exact h
      . split
        . rw [show (bO D,50).1.files = D.files from bB D];exact h
        . exact h.put ⟨f.name,f.all.take k.toNat,min f.kept k.toNat⟩
  . exact h
theorem zN {D:aA} (n:ByteArray) (b:List Nat) (h:aZ D.files):aZ (aW D n b).1.files:=by
  unfold aW
  split
  . exact h
  . rw [show (bO (hU D n b),fK D).1.files = (hU D n b).files from bB _]
    exact h.put { bR D n with all:=(bR D n).all ++ b }
theorem aCk {D:aA} (n to:ByteArray) (h:aZ D.files):aZ (gF D n to).1.files:=by
  unfold gF
  split
  . rename_i f _
    split
    . exact h
    . split
      . exact h
      . split
        . rw [show (bO D,50).1.files = D.files from bB D];exact h
        . exact (h.del n).put { f with name:=to }
  . exact h
theorem fO.rising {N:ByteArray -> Prop} {D D':aA} (h:fO N D D') (hr:aZ D.files):aZ D'.files:=by
  induction h with
  | refl=>exact hr
  | remove D n _=>exact zR n hr
  | sync D n _=>exact aCH n hr
  | cut D n k _=>exact aDd n k hr
  | append D n b _=>exact zN n b hr
  | move D n t _ _=>exact aCk n t hr
  | trans _ _ h1 h2=>exact h2 (h1 hr)
theorem aEv {n:ByteArray} (hn:bQ (bD n) = 0) (L:List aJ):(bG n L).filter isW = L.filter isW:=by
  rw [lI]
  unfold bG
  refine List.filter_eq_self.2 fun g hg=>?_
  have hw:=(List.mem_filter.1 hg).2
  rw [Bool.not_eq_true',decide_eq_false_iff_not]
  intro e
  unfold isW at hw
  rw [e,hn] at hw
  exact absurd hw (by decide)
theorem noW {f:aJ} (h:bQ (bD f.name) = 0):isW f = false:=by unfold isW;rw [h];rfl
theorem fO.dK {N:ByteArray -> Prop} {D D':aA} (h:fO N D D') (hN:∀ n,N n -> bQ (bD n) = 0):dK D' = dK D:=by
  unfold Go.Proofs.YtjdglpcnkiioeaaGreat.dK
  induction h with
  | refl=>rfl
  | remove D n h =>
    unfold removeD
    split
    . split
      . rfl
      . split
        . simp only [bB]
        . exact aEv (hN n h) _
    . rfl
  | sync D n h =>
    unfold syncD
    cases e:aC n D.files with
    | none=>rfl
    | some f =>
      simp only
      split
      . rfl
      . split
        . simp only [bB]
        . exact jR (noW (f:={ f with kept:=f.all.length }) (by simp only;rw [(cD e).1];exact hN n h)) _
  | cut D n k h =>
    unfold cutD
    cases e:aC n D.files with
    | none=>rfl
    | some f =>
      simp only
      split
      . rfl
      . split
        . rfl
        . split
          . simp only [bB]
          . exact jR (noW (by simp only;rw [(cD e).1];exact hN n h)) _
  | append D n b h =>
    unfold aW
    split
    . rfl
    . rw [show (bO (hU D n b),fK D).1.files = (hU D n b).files from bB _]
      unfold hU
      exact jR (noW (by simp only;rw [qH];exact hN n h)) _
  | move D n t h g =>
    unfold gF
    split
    . split
      . rfl
      . split
        . rfl
        . split
          . simp only [bB]
          . exact (jR (noW (hN t g)) _).trans (aEv (hN n h) _)
    . rfl
  | trans _ _ h1 h2=>exact h2.trans h1
def NV (n:ByteArray):Prop:=n = bN \/ n = bY
def NS (n:ByteArray):Prop:=n = eU \/ n = bM
def NW (n:ByteArray):Prop:=bQ (bD n) ≠ 0 \/ n.size = 0
theorem aAv:∀ n,NV n -> bQ (bD n) = 0:=by rintro n (rfl | rfl) <;> decide
theorem uF:∀ n,NS n -> bQ (bD n) = 0:=by rintro n (rfl | rfl) <;> decide
theorem aEI:¬ NV eU:=by rintro (h | h) <;> exact absurd h (by decide)
theorem aEH:¬ NS bN:=by rintro (h | h) <;> exact absurd h (by decide)
theorem nV:¬ NW bN:=by rintro (h | h) <;> exact absurd h (by decide)
theorem nU:¬ NW eU:=by rintro (h | h) <;> exact absurd h (by decide)
theorem kU (D:aA) (n:ByteArray) {N:ByteArray -> Prop} (h:N n):fO N D (bX D n).1:=.remove _ _ h
theorem mO (D:aA) (n:ByteArray) (b:List Nat) {N:ByteArray -> Prop} (h:N n):fO N D (eV D n b).1:=by
  unfold eV
  split
  . exact .append _ _ _ h
  . exact .trans (.append _ _ _ h) (.sync _ _ h)
theorem aE0 (D:aA) (t v t' v':Int):fO NV D (dE D t v t' v').1:=by
  unfold dE
  split
  . exact .refl _
  . split
    . exact .refl _
    . split
      . exact .refl _
      . unfold cR
        split
        . exact .refl _
        . split
          . exact mO _ _ _ (.inl rfl)
          . split
            . exact kU _ _ (.inr rfl)
            . refine .trans (kU _ _ (.inr rfl)) ?_
              unfold jC
              split
              . exact mO _ _ _ (.inr rfl)
              . exact .trans (mO _ _ _ (.inr rfl)) (.move _ _ _ (.inr rfl) (.inl rfl))
theorem aC6 (D:aA):fO NV D (dH D).1:=by
  unfold dH
  split
  . exact kU _ _ (.inr rfl)
  . refine .trans (kU _ _ (.inr rfl)) ?_
    have h1:∀ E,fO NV E (eD E).1:=fun E=>by
      unfold eD
      split
      . exact .cut _ _ _ (.inl rfl)
      . exact .refl _
    unfold eH
    split
    . exact .refl _
    . split
      . exact .refl _
      . split
        . exact h1 _
        . exact .trans (h1 _) (.sync _ _ (.inl rfl))
theorem zL (D:aA):fO NS D (bU D).1:=.remove _ _ (.inr rfl)
theorem tP (D:aA) (s x:bI):fO NS D (cJ D s x).1:=by
  unfold cJ
  split
  . exact .refl _
  . split
    . exact .refl _
    . rw [rO]
      unfold sQ
      split
      . exact kU _ _ (.inr rfl)
      . refine .trans (kU _ _ (.inr rfl)) ?_
        split
        . exact mO _ _ _ (.inr rfl)
        . exact .trans (mO _ _ _ (.inr rfl)) (.move _ _ _ (.inr rfl) (.inl rfl))
theorem rV (D:aA) (L:aK):fO NW D (popW D L).1:=by
  unfold popW
  split
  . exact .refl _
  . split
    . exact .remove _ _ (cL _)
    . exact .remove _ _ (cL _)
theorem vA (base:Nat):∀ (n:Nat) (D:aA) (L:aK),fO NW D (resetF base n D L).1
  | 0,D,L=>.refl _
  | n + 1,D,L=>by
    unfold resetF
    split
    . exact .refl _
    . split
      . exact rV D L
      . exact (rV D L).trans (vA base n (popW D L).1 (popW D L).2.1)
theorem rF (D:aA) (L:aK) (base:Nat):fO NW D (bH D L base).1:=by
  unfold bH
  split
  . exact .refl _
  . exact vA _ _ _ _
theorem qC (D:aA) (L:aK):fO NW D (bJ D L).1:=by
  unfold bJ
  split
  . exact .refl _
  . split
    . exact .refl _
    . split
      . exact .sync _ _ (cL _)
      . exact .sync _ _ (cL _)
theorem aBK (D:aA) (L:aK) (ms:List bV):fO NW D (aP D L ms).1:=by
  have hnew:fO NW D (nA D L ms).1:=by
    unfold nA
    split
    . exact qC D L
    . split
      . exact (qC D L).trans (.append _ _ _ (cL _))
      . exact (qC D L).trans (.append _ _ _ (cL _))
  unfold aP
  split
  . exact .refl _
  . split
    . exact .refl _
    . split
      . exact .refl _
      . split
        . exact hnew
        . split
          . unfold zM
            split
            . exact .append _ _ _ (cL _)
            . exact .append _ _ _ (cL _)
          . exact hnew
theorem qB (frm:Nat):∀ (n:Nat) (D:aA) (L:aK),fO NW D (eR frm n D L).1
  | 0,D,L=>.refl _
  | n + 1,D,L=>by
    unfold eR
    split
    . exact .refl _
    . split
      . exact .refl _
      . split
        . exact rV D L
        . exact (rV D L).trans (qB frm n (popW D L).1 (popW D L).2.1)
theorem aE1 (D:aA) (L:aK) (frm:Nat):fO NW D (rI D L frm).1:=by
  unfold rI
  split
  . exact .refl _
  . simp only
    split
    . exact .cut _ _ _ (cL _)
    . exact .cut _ _ _ (cL _)
theorem aGK (D:aA) (L:aK) (frm:Nat):fO NW D (fW D L frm).1:=by
  unfold fW
  split
  . exact .refl _
  . split
    . exact qB frm _ D L
    . split
      . exact qB frm _ D L
      . exact (qB frm _ D L).trans (aE1 _ _ _)
theorem xA (upto:Nat):∀ (n:Nat) (D:aA) (L:aK),fO NW D (dropF upto n D L).1
  | 0,D,L=>.refl _
  | n + 1,D,L=>by
    unfold dropF
    split
    . split
      . split
        . exact .remove _ _ (cL _)
        . exact (fO.remove _ _ (cL _)).trans (xA upto n _ _)
      . exact .refl _
    . exact .refl _
theorem aE2 (D:aA) (L:aK) (upto:Nat):fO NW D (eF D L upto).1:=by
  unfold eF
  split
  . exact .refl _
  . exact xA _ _ _ _
theorem tQ:∀ (ns:List ByteArray) (D:aA) (L:aK),(∀ n ∈ ns,NW n) -> fO NW D (loadW ns D L).1
  | [],D,L,_=>.refl _
  | n :: r,D,L,h=>by
    have hr:∀ m ∈ r,NW m:=fun m hm=>h m (List.mem_cons_of_mem _ hm)
    unfold loadW
    split
    . exact .refl _
    . split
      . split
        . exact .remove _ _ (h n (List.mem_cons_self ..))
        . exact (fO.remove _ _ (h n (List.mem_cons_self ..))).trans (tQ r _ _ hr)
      . split
        . exact .refl _
        . exact tQ r _ _ hr
theorem vB (D:aA) (L:aK):fO NW D (bP D L).1:=by
  unfold bP
  split
  . exact .refl _
  . split
    . exact .refl _
    . split
      . split
        . exact .cut _ _ _ (cL _)
        . exact (fO.cut _ _ _ (cL _)).trans (.sync _ _ (cL _))
      . exact .sync _ _ (cL _)
theorem aC7 (D:aA) (L:aK) (base:Nat):fO NW D (iG D L base).1:=by
  have h:fO NW D (if L.fs = [] \/ L.last < base then bH D L base else (D,L,0)).1:=by
    split
    . exact rF D L base
    . exact .refl _
  unfold iG
  simp only
  generalize (if L.fs = [] \/ L.last < base then bH D L base else (D,L,0)) = r at h ⊢
  split
  . exact h
  . split
    . exact h
    . exact h
theorem aE3 (D:aA) (base:Nat):fO NW D (fD D base).1:=by
  have h1:=tQ (dP D) D ⟨0,[],[],0⟩ (fun n hn=>by
    obtain ⟨f,hf,rfl⟩:=List.mem_map.1 hn
    have:=(List.mem_filter.1 hf).2
    unfold isW at this
    exact .inl (of_decide_eq_true this))
  unfold fD
  split
  . exact .refl _
  . split
    . exact .refl _
    . split
      . exact h1
      . unfold pO
        split
        . exact h1.trans (vB _ _)
        . exact (h1.trans (vB _ _)).trans (aC7 _ _ _)

def gH (r:aA × Nat):Prop:=r.1.down = true ↔ r.2 = 50
def iX (r:aA × aK × Nat):Prop:=r.1.down = true ↔ r.2.2 = 50
theorem gH.same {D:aA} (hd:D.down = false) {e:Nat} (he:e ≠ 50):gH (D,e):=by
  unfold gH
  simp [hd,he]
theorem gH.up {r:aA × Nat} (h:gH r) (he:r.2 ≠ 50):r.1.down = false:=by
  cases e:r.1.down with
  | false=>rfl
  | true=>exact absurd (h.1 e) he
theorem gH.ok {r:aA × Nat} (h:gH r) (he:¬ r.2 ≠ 0):r.1.down = false:=h.up (by omega)
theorem iX.up {r:aA × aK × Nat} (h:iX r) (he:r.2.2 ≠ 50):r.1.down = false:=gH.up (r:=(r.1,r.2.2)) h he
theorem iX.ok {r:aA × aK × Nat} (h:iX r) (he:¬ r.2.2 ≠ 0):r.1.down = false:=h.up (by omega)
theorem iX.mH {D:aA} (hd:D.down = false) (L:aK) {e:Nat} (he:e ≠ 50):iX (D,L,e):=gH.same hd he
theorem nJ {D:aA} (hd:D.down = false) (n:ByteArray):bE D n ≠ 50:=by
  unfold bE
  rw [if_neg (by rw [hd];decide)]
  split <;> decide
theorem aDZ {D:aA} (hd:D.down = false):gH (bO D,fK D):=by
  unfold gH fK
  by_cases ha:D.armed = 0
  . simp [ha,(fZ hd).2 ha]
  . simp [ha,gO hd ha]
theorem oH {D:aA} (hd:D.down = false) (F:List aJ):gH (if D.armed = 0 then (bO D,50) else ({ bO D with files:=F },0)):=by
  unfold gH
  by_cases ha:D.armed = 0
  . simp [ha,(fZ hd).2 ha]
  . simp [ha,gO hd ha]
theorem oG {D:aA} (hd:D.down = false) (n:ByteArray):gH (removeD D n):=by
  unfold removeD
  split
  . rw [if_neg (by rw [hd];decide)]
    exact oH hd _
  . exact .same hd (nJ hd n)
theorem yX {D:aA} (hd:D.down = false) (n:ByteArray):gH (syncD D n):=by
  unfold syncD
  split
  . rw [if_neg (by rw [hd];decide)]
    exact oH hd _
  . exact .same hd (nJ hd n)
theorem aAF {D:aA} (hd:D.down = false) (n:ByteArray) (k:Int):gH (cutD D n k):=by
  unfold cutD
  split
  . rw [if_neg (by rw [hd];decide)]
    split
    . exact .same hd (by decide)
    . exact oH hd _
  . exact .same hd (nJ hd n)
theorem yU {D:aA} (hd:D.down = false) (n to:ByteArray):gH (gF D n to):=by
  unfold gF
  split
  . rw [if_neg (by rw [hd];decide)]
    split
    . exact .same hd (by decide)
    . exact oH hd _
  . exact .same hd (nJ hd n)
theorem oF {D:aA} (hd:D.down = false) (n:ByteArray) (b:List Nat):gH (aW D n b):=by
  unfold aW
  split
  . refine .same hd ?_
    unfold rG
    rw [if_neg (by rw [hd];decide)]
    split
    . decide
    . split <;> decide
  . exact aDZ (D:=hU D n b) hd
theorem yT {D:aA} (hd:D.down = false) (n:ByteArray):gH (bX D n):=by
  have h:=oG hd n
  unfold bX
  unfold gH at h ⊢
  simp only
  rw [h]
  split
  . rename_i e;rw [e];decide
  . rfl
theorem rQ {D:aA} (hd:D.down = false) (n:ByteArray) (b:List Nat):gH (eV D n b):=by
  have h:=oF hd n b
  unfold eV
  split
  . exact h
  . rename_i he;exact yX (h.ok he) n
theorem aDY {D:aA} (hd:D.down = false) (t v t' v':Int):gH (dE D t v t' v'):=by
  unfold dE
  split
  . exact .same hd (by decide)
  . split
    . exact .same hd (by decide)
    . split
      . exact .same hd (by decide)
      . unfold cR
        rw [if_neg (by rw [hd];decide)]
        split
        . exact rQ hd _ _
        . have hg:=yT hd bY
          split
          . exact hg
          . rename_i he
            have hw:=rQ (hg.ok he) bY (frP 3 (bS [t'.toNat,(v' + 1).toNat]))
            unfold jC
            split
            . exact hw
            . rename_i he2;exact yU (hw.ok he2) _ _
theorem yW {D:aA} (hd:D.down = false) (s x:bI):gH (cJ D s x):=by
  unfold cJ
  split
  . exact .same hd (by decide)
  . split
    . exact .same hd (by decide)
    . rw [rO]
      unfold sQ
      have hg:=yT hd bM
      split
      . exact hg
      . rename_i he
        have hw:=rQ (hg.ok he) bM (frP 4 (eB x))
        split
        . exact hw
        . rename_i he2;exact yU (hw.ok he2) _ _
theorem aD1 {D:aA} (hd:D.down = false) (L:aK):iX (popW D L):=by
  unfold popW
  split
  . exact .mH hd L (by decide)
  . rename_i f _
    have h:=oG hd (aH f.f)
    split
    . exact h
    . rename_i he;exact .mH (h.ok he) _ (by decide)
theorem aCK {D:aA} (hd:D.down = false) (L:aK):iX (bJ D L):=by
  unfold bJ
  split
  . exact .mH hd _ (by decide)
  . split
    . exact .mH hd _ (by decide)
    . rename_i f _
      have h:=yX hd (aH f.f)
      split
      . exact h
      . rename_i he;exact .mH (h.ok he) _ (by decide)
theorem zV {D:aA} (hd:D.down = false) (L:aK) (ms:List bV):iX (aP D L ms):=by
  have hnew:iX (nA D L ms):=by
    have h:=aCK hd L
    unfold nA
    split
    . exact h
    . rename_i he
      have h2:=oF (h.ok he) (aH (L.last + 1)) (cF (L.last + 1) ms)
      split
      . exact h2
      . rename_i he2;exact .mH (h2.ok he2) _ (by decide)
  unfold aP
  split
  . exact .mH hd _ (by decide)
  . split
    . exact .mH hd _ (by decide)
    . split
      . exact .mH hd _ (by decide)
      . split
        . exact hnew
        . rename_i f _
          split
          . have h2:=oF hd (aH f.f) (linesW (L.last + 1) ms)
            unfold zM
            split
            . exact h2
            . rename_i he2;exact .mH (h2.ok he2) _ (by decide)
          . exact hnew
theorem vU (frm:Nat):∀ (n:Nat) {D:aA} (L:aK),D.down = false -> iX (eR frm n D L)
  | 0,D,L,hd=>.mH hd _ (by decide)
  | n + 1,D,L,hd=>by
    have h:=aD1 hd L
    unfold eR
    split
    . exact .mH hd _ (by decide)
    . split
      . exact .mH hd _ (by decide)
      . split
        . exact h
        . rename_i he;exact vU frm n _ (h.ok he)
theorem aD0 {D:aA} (hd:D.down = false) (L:aK) (frm:Nat):iX (fW D L frm):=by
  have h:=vU frm L.fs.length L hd
  unfold fW
  split
  . exact .mH hd _ (by decide)
  . split
    . exact h
    . rename_i he
      split
      . exact .mH (h.ok he) _ (by decide)
      . unfold rI
        split
        . exact .mH (h.ok he) _ (by decide)
        . simp only
          split
          . exact aAF (h.ok he) _ _
          . rename_i he2;exact .mH ((aAF (h.ok he) _ _).ok he2) _ (by decide)
theorem tH (upto:Nat):∀ (n:Nat) {D:aA} (L:aK),D.down = false -> iX (dropF upto n D L)
  | 0,D,L,hd=>.mH hd _ (by decide)
  | n + 1,D,L,hd=>by
    unfold dropF
    split
    . rename_i f g r _
      have h:=oG hd (aH f.f)
      split
      . split
        . exact h
        . rename_i he;exact tH upto n _ (h.ok he)
      . exact .mH hd _ (by decide)
    . exact .mH hd _ (by decide)
theorem aCJ {D:aA} (hd:D.down = false) (L:aK) (upto:Nat):iX (eF D L upto):=by
  unfold eF
  split
  . exact .mH hd _ (by decide)
  . exact tH _ _ _ hd
structure Pre (L L':aK):Prop where
  b:L'.b = L.b
  es:∃ j,L'.es = L.es.take j
  safe:L.safe = L.es.length -> L'.safe = L'.es.length
theorem Pre.refl (L:aK):Pre L L:=⟨rfl,⟨L.es.length,(List.take_length).symm⟩,id⟩
theorem Pre.trans {L L1 L2:aK} (h:Pre L L1) (g:Pre L1 L2):Pre L L2:=by
  obtain ⟨j,hj⟩:=h.es
  obtain ⟨k,hk⟩:=g.es
  exact ⟨g.b.trans h.b,⟨min k j,by rw [hk,hj,List.take_take]⟩,fun e=>g.safe (h.safe e)⟩
theorem Pre.len {L L':aK} (h:Pre L L'):L'.es = L.es.take L'.es.length /\ L'.es.length <= L.es.length:=by
  obtain ⟨j,hj⟩:=h.es
  have e:L'.es.length = min j L.es.length:=by rw [hj,List.length_take]
  refine ⟨?_,by omega⟩
  rw [e,hj]
  by_cases hl:j <= L.es.length
  . rw [show min j L.es.length = j by omega]
  . rw [show min j L.es.length = L.es.length by omega,List.take_length,List.take_of_length_le (by omega)]
theorem aBm (D:aA) (L:aK):Pre L (popW D L).2.1:=by
  unfold popW
  split
  . exact Pre.refl L
  . split
    . exact Pre.refl L
    . refine ⟨rfl,⟨_,rfl⟩,fun e=>?_⟩
      show min L.safe (L.es.length - _) = (L.es.take _).length
      rw [List.length_take,e,Nat.min_comm]
theorem nC (base:Nat):∀ (n:Nat) (D:aA) (L:aK),((resetF base n D L).2.2 = 0 -> (resetF base n D L).2.1 = ⟨base,[],[],0⟩) /\ ((resetF base n D L).2.2 ≠ 0 -> Pre L (resetF base n D L).2.1)
  | 0,D,L=>⟨fun _=>rfl,fun e=>absurd rfl e⟩
  | n + 1,D,L=>by
    unfold resetF
    split
    . exact ⟨fun _=>rfl,fun e=>absurd rfl e⟩
    . split
      . rename_i he;exact ⟨fun e=>absurd e he,fun _=>aBm D L⟩
      . obtain ⟨h1,h2⟩:=nC base n (popW D L).1 (popW D L).2.1
        exact ⟨h1,fun e=>(aBm D L).trans (h2 e)⟩
theorem aCq (frm:Nat):∀ (n:Nat) {D:aA} {L:aK} {P:List Pc},dD D L P -> D.down = false -> aZ D.files -> frm <= L.last + 1 -> Pre L (eR frm n D L).2.1 /\ frm - L.b - 1 <= (eR frm n D L).2.1.es.length
  | 0,D,L,P,h,hd,hr,hf=>⟨Pre.refl L,by show _ <= L.es.length;unfold aK.last at hf;omega⟩
  | n + 1,D,L,P,h,hd,hr,hf=>by
    have hsame:Pre L L /\ frm - L.b - 1 <= L.es.length:=⟨Pre.refl L,by unfold aK.last at hf;omega⟩
    by_cases hP:P = []
    . subst hP
      have hfs:L.fs = []:=h.fs
      unfold eR
      rw [hfs]
      exact hsame
    . obtain ⟨A,z,rfl⟩:=eP hP
      have hg:=lY h
      unfold eR
      rw [hg.1]
      simp only
      by_cases hz:z.wf.f < frm
      . rw [if_pos hz]
        exact hsame
      . rw [if_neg hz]
        rcases wP h hd hr with ⟨h1,_,h3,_⟩ | ⟨h1,h2,h3,h4,h5,_⟩
        . rw [if_pos (by rw [h1];decide),h3]
          exact hsame
        . rw [if_neg (by rw [h1];decide)]
          have hzf:z.f = L.b + 1 + (cA A).length:=(Chain.app.1 h.ch).2.1
          have hz':¬ z.f < frm:=hz
          have hl:(popW D L).2.1.last = L.b + (cA A).length:=by unfold aK.last;rw [h5,h4.es]
          obtain ⟨g1,g2⟩:=aCq frm n h4 h2 h3 (by rw [hl];omega)
          rw [h5] at g2
          exact ⟨(aBm D L).trans g1,g2⟩
theorem aIJ {D:aA} {L:aK} {P:List Pc} (h:dD D L P) (hd:D.down = false) (hr:aZ D.files) (frm:Nat):Pre L (fW D L frm).2.1 /\ min (frm - L.b - 1) L.es.length <= (fW D L frm).2.1.es.length:=by
  unfold fW
  by_cases ha:frm <= L.b \/ L.last + 1 < frm
  . rw [if_pos ha]
    exact ⟨Pre.refl L,Nat.min_le_right _ _⟩
  . rw [if_neg ha]
    obtain ⟨g1,g2⟩:=aCq frm L.fs.length h hd hr (by omega)
    split
    . exact ⟨g1,by omega⟩
    . split
      . exact ⟨g1,by show _ <= (eR frm L.fs.length D L).2.1.es.length;omega⟩
      . generalize eR frm L.fs.length D L = r at g1 g2 ⊢
        unfold rI
        split
        . exact ⟨g1,by show _ <= r.2.1.es.length;omega⟩
        . simp only
          split
          . exact ⟨g1,by show _ <= r.2.1.es.length;omega⟩
          . refine ⟨g1.trans ⟨rfl,⟨_,rfl⟩,fun e=>?_⟩,?_⟩
            . show min r.2.1.safe (frm - r.2.1.b - 1) = (r.2.1.es.take _).length
              rw [List.length_take,e,Nat.min_comm]
            . show _ <= (r.2.1.es.take (frm - r.2.1.b - 1)).length
              rw [List.length_take,g1.b]
              omega
def FCh:Nat -> List WF -> Prop
  | _,[]=>True
  | n,f :: r=>f.f = n /\ FCh (n + f.m) r
theorem aG3:∀ {P:List Pc} {n:Nat},Chain n P -> FCh n (P.map Pc.wf)
  | [],_,_=>trivial
  | _ :: _,_,h=>⟨h.1,aG3 h.2⟩
structure Suf (L L':aK) (upto:Nat):Prop where
  lo:L.b <= L'.b
  es:L'.es = L.es.drop (L'.b - L.b)
  hi:L.b <= upto -> L'.b <= upto
  safe:L.safe = L.es.length -> L'.safe = L'.es.length
theorem Suf.refl (L:aK) (upto:Nat):Suf L L upto:=⟨Nat.le_refl _,by rw [Nat.sub_self];rfl,id,id⟩
theorem aAC (upto:Nat):∀ (n:Nat) (D:aA) (L:aK),FCh (L.b + 1) L.fs -> Suf L (dropF upto n D L).2.1 upto
  | 0,D,L,_=>Suf.refl L upto
  | n + 1,D,L,hc=>by
    unfold dropF
    split
    . rename_i f g r hfs
      rw [hfs] at hc
      split
      . rename_i hu
        split
        . exact Suf.refl L upto
        . have hg:g.f = L.b + 1 + f.m:=hc.2.1
          obtain ⟨h1,h2,h3,h4⟩:=aAC upto n (removeD D (aH f.f)).1 ⟨L.b + f.m,L.es.drop f.m,g :: r,L.safe - f.m⟩ (by
            have:=hc.2
            rw [show L.b + 1 + f.m = L.b + f.m + 1 by omega] at this
            exact this)
          simp only at h1 h2 h3 h4
          refine ⟨by omega,?_,fun _=>h3 (by omega),fun e=>h4 (by rw [List.length_drop,e])⟩
          rw [h2,List.drop_drop]
          congr 1
          omega
      . exact Suf.refl L upto
    . exact Suf.refl L upto
theorem aHU {D:aA} {L:aK} {P:List Pc} (h:dD D L P) (upto:Nat):Suf L (eF D L upto).2.1 upto:=by
  unfold eF
  split
  . exact Suf.refl L upto
  . exact aAC upto _ D L (by rw [h.fs];exact aG3 h.ch)
theorem aGd {D:aA} {L:aK} (h:L.safe = L.es.length):bJ D L = (D,L,0):=by
  unfold bJ
  rw [if_pos h]
theorem aJd {D:aA} {L:aK} (hf:L.safe = L.es.length) (ms:List bV) :
    ((aP D L ms).2.2 ≠ 0 -> (aP D L ms).2.1 = L) /\ ((aP D L ms).2.2 = 0 -> (aP D L ms).2.1.b = L.b /\ (aP D L ms).2.1.es = L.es ++ ms /\ (aP D L ms).2.1.safe = L.es.length):=by
  have hnew:((nA D L ms).2.2 ≠ 0 -> (nA D L ms).2.1 = L) /\ ((nA D L ms).2.2 = 0 -> (nA D L ms).2.1.b = L.b /\ (nA D L ms).2.1.es = L.es ++ ms /\ (nA D L ms).2.1.safe = L.es.length):=by
    unfold nA
    rw [aGd hf,if_neg (fun h=>h rfl)]
    simp only
    split
    . rename_i he;exact ⟨fun _=>rfl,fun e=>absurd e he⟩
    . exact ⟨fun e=>absurd rfl e,fun _=>⟨rfl,rfl,hf⟩⟩
  unfold aP
  split
  . exact ⟨fun _=>rfl,fun e=>by simp at e⟩
  . split
    . exact ⟨fun _=>rfl,fun e=>by simp at e⟩
    . split
      . rename_i e;exact ⟨fun _=>rfl,fun _=>⟨rfl,by rw [e,List.append_nil],hf⟩⟩
      . split
        . exact hnew
        . rename_i f _
          split
          . unfold zM
            split
            . rename_i he;exact ⟨fun _=>rfl,fun e=>absurd e he⟩
            . exact ⟨fun e=>absurd rfl e,fun _=>⟨rfl,rfl,hf⟩⟩
          . exact hnew

def xE:bV:=⟨1,1,[]⟩
def dX:aA:=⟨1000,[],false,-1,0⟩
def lX:aK:=⟨0,[],[],0⟩
set_option maxRecDepth 100000 in
theorem aJG:fD dX 0 = (dX,some lX,0):=by kernel_rfl
theorem aH7:aS dX:=⟨⟨by decide,by decide,by decide,by decide,by decide,by decide,by decide,fun f h=>by cases h⟩,by decide,by decide⟩
theorem aKb:dD dX lX []:=(uJ (D:=dX) (b:=0) ⟨rfl,rfl⟩ (by decide) rfl).2
theorem aJH:aZ dX.files:=List.Pairwise.nil
end Go.Proofs.YtjdglpcnkiioeaaGreat
namespace Go.Proofs.YtjdglpcnkiioeaaGreat
open Go.RowKit Go.Maps Go.Proofs.Own

theorem aEA {D:aA} (hg:(bU D).2 = 0):(bU D).1.down = false:=by
  cases hd:D.down with
  | false=>exact (aAf hd bM).up hg
  | true =>
    exfalso
    unfold bU removeD at hg
    split at hg
    . rw [if_pos hd] at hg;simp at hg
    . simp only [bE,if_pos hd] at hg;simp at hg

end Go.Proofs.YtjdglpcnkiioeaaGreat
namespace Go.Proofs.YtjdglpcnkiioeaaGreat
open Go.Lib (hid)
open Go.RowKit Go.Maps Go.Proofs.Own

set_option maxRecDepth 20000 in
theorem aJB (sb db mb tb:Nat) (s:bI) (w:World) (h:fM w sb db mb tb s) (hi:s.i = 0) :
    Calls Tryz.prog 101 #[.pointer (some ⟨sb,0,none⟩)] w fun e w'=>e = .returned (.tuple #[.agg #[.int .u64 0,.int .u64 0,.slice none 0 0,.slice none 0 0],.bool false]) /\ Below w.heap.size w w':=by
  have H:=hid h
  obtain ⟨mv,dv,h1,_,_,_⟩:=h
  rw [hi] at h1
  have HS:=hid h1
  have hsl:=h1.lt
  clear h1
  go_enter Tryz.func101,Tryz.ntmps101
  go_wp2_with fail
  have R1:Hid (bZ (w.alloc (.cells #[.int .u64 0,.int .u64 0,.slice none 0 0,.slice none 0 0] 75)) w.heap.size 0 0 (.slice none 0 0) (.slice none 0 0)):=hid (bZ.new w)
  have B1:Hid (Below w.heap.size w (w.alloc (.cells #[.int .u64 0,.int .u64 0,.slice none 0 0,.slice none 0 0] 75))):=hid ((Below.refl _ _).alloc (Nat.le_refl _) _)
  generalize World.alloc w _ = w1 at *
  refine (aCE sb db mb tb s w1 (H.out.below B1.out)).mono ?_
  rintro e w1' ⟨rfl,rfl⟩
  obtain ⟨r0,r1,_,_,_,_,_,_,_⟩:=HS.out.kept (Kept.aN B1.out (S:=fun _=>False) fun k h1 h2=>by omega) (fun h=>h)
  obtain ⟨q0,q1,q2,q3,g0,g1,g2,g3⟩:=R1.out
  have hl1:=R1.out.lt
  go_wp2_with fail
  generalize hwF:World.setCell _ _ _ = wF
  have RF:Hid (bZ wF w.heap.size 0 0 (.slice none 0 0) (.slice none 0 0)):=hid (by subst hwF;exact R1.out.iU 0 0 _ _)
  have BF:Hid (Below w.heap.size w wF):=hid (by subst hwF;exact B1.out.trans ((Kept.iU w1 w.heap.size 0 0 _ _).below B1.out.size (fun k hk=>by omega)))
  clear hwF q0 q1 q2 q3 g0 g1 g2 g3 r0 r1
  obtain ⟨q0,q1,q2,q3,_,_,_,_⟩:=RF.out
  refine bodyPost_ret (v:=.tuple #[.agg #[.int .u64 0,.int .u64 0,.slice none 0 0,.slice none 0 0],.bool false]) (by simp [results,Tryz.results101,go_sem,q0,q1,q2,q3]) rfl ?_
  exact ⟨rfl,BF.out⟩

def aGF (w:World) (p:Option Addr) (db mb tb:Nat) (s:bI):Prop:=(p = none /\ s = jF) \/ ∃ sb,p = some ⟨sb,0,none⟩ /\ fM w sb db mb tb s /\ (s = jF \/ 1 <= s.i)
def aJM (s:bI) (w:World):Ending -> World -> Prop:=fun e w'=>∃ i t mv dv,e = .returned (.tuple #[.agg #[.int .u64 i,.int .u64 t,mv,dv],.bool (decide (0 < s.i))]) /\ cU w' (.agg #[.int .u64 i,.int .u64 t,mv,dv]) s /\ Below w.heap.size w w'
theorem aCA (p:Option Addr) (db mb tb:Nat) (s:bI) (w:World) (h:aGF w p db mb tb s):Calls Tryz.prog 101 #[.pointer p] w (aJM s w):=by
  rcases h with ⟨rfl,rfl⟩ | ⟨sb,rfl,h,hk⟩
  . refine (aIC none w (.inl rfl)).mono ?_
    rintro e w1 ⟨rfl,hb⟩
    exact ⟨_,_,_,_,rfl,aEX _,hb⟩
  . rcases hk with rfl | hk
    . refine (aJB sb db mb tb jF w h rfl).mono ?_
      rintro e w1 ⟨rfl,hb⟩
      exact ⟨_,_,_,_,rfl,aEX _,hb⟩
    . refine (aHO sb db mb tb s w h (by omega)).mono ?_
      rintro e w1 ⟨v,rfl,⟨mv,dv,rfl,h1,h2⟩,hb⟩
      obtain ⟨_,_,_,h3,h4,_⟩:=h
      rw [show true = decide (0 < s.i) from (decide_eq_true (by omega)).symm]
      refine ⟨_,_,_,_,rfl,⟨mv,dv,rfl,Ints.eO h1 h3.small,Bytes.eO h2 h4.lt h4.small⟩,hb⟩
theorem aHI (m:Nat) (l:List Nat):pR m l = jF \/ 1 <= (pR m l).i:=by
  unfold pR
  split
  . rename_i h
    exact .inr h.2.2.2.1
  . exact .inl rfl
theorem aAA (D:aA):dJ D = jF \/ 1 <= (dJ D).i:=by
  unfold dJ
  split
  . exact .inl rfl
  . exact aHI _ _
end Go.Proofs.YtjdglpcnkiioeaaGreat
