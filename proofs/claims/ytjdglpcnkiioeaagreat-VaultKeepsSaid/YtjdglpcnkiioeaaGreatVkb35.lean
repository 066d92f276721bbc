/- Several texts in one: Wxd for vltkeeps_law_holds. No conditions but those stated. -/
import Derived.Test.YtjdglpcnkiioeaaGreatVkb33
import Derived.Test.YtjdglpcnkiioeaaGreatVkb34
set_option maxHeartbeats 16000000
namespace Go.Proofs.YtjdglpcnkiioeaaGreat
open Go.Lib (hid)
open Go.RowKit Go.Maps Go.Proofs.Own Go.Shelf

theorem zH (N:Nat):∀ (n:Nat) (l:List Nat) (s:pA),s.g + l.length <= N -> s.es.length <= s.g -> (segF n l s).g <= N /\ (segF n l s).es.length <= (segF n l s).g
 | 0,l,s,h1,h2=>⟨by show s.g <= N;omega,h2⟩
 | n + 1,l,s,h1,h2=>by
  by_cases h0:s.f = 0
  ·by_cases hg:aCw l
   ·rw [vD h0 hg]
    have h3:=(kL hg.1).2.2
    exact zH N n _ _ (by simp only;omega) (by simp only;omega)
   ·rw [tT (fun _=>hg) (fun h=>absurd h0 h)]
    exact ⟨by omega,h2⟩
  ·by_cases hg:aAp (s.f + s.es.length) l
   ·rw [vF h0 hg]
    have h3:=(kL hg.1).2.2
    exact zH N n _ _ (by simp only;omega) (by simp only [List.length_append,List.length_cons,List.length_nil];omega)
   ·rw [tT (fun h=>absurd h h0) (fun _=>hg)]
    exact ⟨by omega,h2⟩
theorem aCZ (b:List Nat):(fP b).es.length <= b.length /\ (fP b).g <= b.length:=by
 have h:=zH b.length b.length b ⟨0,[],0⟩ (by simp) (by simp)
 unfold fP
 omega
theorem oF {v v':Value} {N:Nat} (h:v'.ownBlock = v.ownBlock \/ v'.ownBlock = some N):∀ b,v'.ownBlock = some b -> v.ownBlock = some b \/ N <= b:=fun b hb=>by
 rcases h with h | h
 ·exact .inl (h ▸ hb)
 ·rw [h] at hb
  exact .inr (Nat.le_of_eq (Option.some.inj hb))
theorem aJp (a:Option Addr) (n m c:Nat):(Value.slice a n c).ownBlock = (Value.slice a m c).ownBlock:=by cases a <;> rfl
theorem vK (w:World) (x y z:Value) (t:TypeId):cS (w.alloc (.cells #[x,y,z] t)) 3 (.slice (some ⟨w.heap.size,0,none⟩) 1 1) [[x,y,z]]:=by
 refine ⟨_,_,rfl,Nat.le_refl _,fun j hj=>?_⟩
 obtain rfl:j = 0:=by simpa using hj
 refine ⟨w.heap.size,0,rfl,by simp,fun i u hu=>?_⟩
 have hu':[x,y,z][i]? = some u:=hu
 match i,hu' with
 | 0,e=>obtain rfl:=Option.some.inj e;go_cell
 | 1,e=>obtain rfl:=Option.some.inj e;go_cell
 | 2,e=>obtain rfl:=Option.some.inj e;go_cell
theorem bD.pO {w w':World} {lb db mb tb:Nat} {ev fv:Value} {el:bE} {D:aA} {L:aM} (h:bD w lb db mb tb ev fv el D L) (hg:w.grownBy w' ev.ownBlock):w'.cell? ⟨lb,2,none⟩ = some ev /\ w'.frozen? ⟨lb,2,none⟩ = false:=by
 have hk:=Kept.cK hg
 have hn:¬ ev.ownBlock = some lb:=fun e=>(h.ne lb e).1 rfl
 exact ⟨hk.cell h.c2 hn,(hk.frozen (a:=⟨lb,2,none⟩) h.lt hn).trans (h.fz 2 (by decide) (by decide))⟩
theorem bD.uL {w w':World} {lb db mb tb:Nat} {ev fv:Value} {el:bE} {D:aA} {L:aM} (h:bD w lb db mb tb ev fv el D L) (hg:w.grownBy w' fv.ownBlock):w'.cell? ⟨lb,3,none⟩ = some fv /\ w'.frozen? ⟨lb,3,none⟩ = false:=by
 have hk:=Kept.cK hg
 have hn:¬ fv.ownBlock = some lb:=fun e=>(h.nf lb e).1 rfl
 exact ⟨hk.cell h.c3 hn,(hk.frozen (a:=⟨lb,3,none⟩) h.lt hn).trans (h.fz 3 (by decide) (by decide))⟩
def aKw (lb db mb tb:Nat) (ev fv:Value) (D:aA) (r:Bool × aM × Nat) (w:World):Ending -> World -> Prop:=fun E w' =>
 E = .returned (.tuple #[.bool r.1,.int .i64 r.2.2]) /\ aHd lb db mb tb ev fv w D r.2.1 w'

set_option maxRecDepth 20000 in
theorem aKV {lb db mb tb:Nat} {ev fv bv:Value} {el:bE} {D:aA} {L:aM} {w:World} {b:List Nat} (h:bD w lb db mb tb ev fv el D L) (hB:Bytes w bv b) (first:Nat) (last:Bool) (hf1:1 <= first) (hf2:first < 1152921504606846976) (hb:L.b <= 1152921504606846976) (he:L.es.length + b.length <= 2147483648) (hfl:L.fs.length <= 1000000) :
  Calls Tryz.prog 125 #[.pointer (some ⟨lb,0,none⟩),.int .u64 first,bv,.bool last] w (aKw lb db mb tb ev fv D (eO L first b last) w):=by
 have HH:=hid h
 have HB:=hid hB
 obtain ⟨ba,bc,rfl,_⟩:=hB.shape
 obtain ⟨fa,fc,rfl,_⟩:=h.oL
 obtain ⟨ea,ec,rfl,_⟩:=h.fU
 obtain ⟨f,hf⟩:∃ f,(fP b).f = f:=⟨_,rfl⟩
 obtain ⟨g,hg⟩:∃ g,(fP b).g = g:=⟨_,rfl⟩
 obtain ⟨ms,hms⟩:∃ ms,(fP b).es = ms:=⟨_,rfl⟩
 have HMS:=hid hms
 have hml:ms.length <= b.length:=by rw [<- hms];exact (aCZ b).1
 obtain ⟨n,hn⟩:∃ n,L.fs.length = n:=⟨_,rfl⟩
 obtain ⟨m,hm⟩:∃ m,L.es.length = m:=⟨_,rfl⟩
 obtain ⟨bn,hbn⟩:∃ bn,b.length = bn:=⟨_,rfl⟩
 have HN:=hid hn
 have HM:=hid hm
 have HTW:Hid (eO L first b last = if f ≠ first /\ last = true then (false,L,0) else if f ≠ first \/ (last = false /\ g ≠ bn) \/ (L.fs ≠ [] /\ first ≠ L.last + 1) then (true,L,20) else (true,⟨if L.fs = [] then first - 1 else L.b,L.es ++ ms,L.fs ++ [⟨first,ms.length,g⟩],L.safe⟩,0)):=hid (by unfold eO;rw [hf,hg,hms,hbn])
 have hfirst:(first:Int) < 1152921504606846976:=by omega
 have hfirst1:(1:Int) <= (first:Int):=by omega
 have HLI:Hid ((L.last:Int) = (L.b:Int) + (m:Int)):=hid (by unfold aM.last;rw [hm];omega)
 obtain ⟨la,hla⟩:∃ la,L.last = la:=⟨_,rfl⟩
 have HLA:=hid hla
 have hla1:(la:Int) < 1152921506754330624 + 1:=by rw [<- hla,HLI.out];omega
 have HE:=hid he
 have HFL:=hid hfl
 rw [hn,hm] at HH ⊢
 rw [hbn] at HB ⊢
 have hbn':(bn:Int) <= 2147483648:=by omega
 have HML:Hid (ms.length <= 2147483648):=hid (by omega)
 have HML2:Hid (m + ms.length <= 2147483648):=hid (by omega)
 have HLL:=hid (show (L.last:Int) < 18446744073709551616 by rw [hla];omega)
 have c3:=HH.out.c3
 clear h hB hb he hfl hn hm hms hml hf1 hf2 hla
 go_enter Tryz.func125,Tryz.ntmps125
 go_wp2_with fail
 refine (aF9 _ b w HB.out).mono ?_
 rintro e w1 ⟨mv,ml,rfl,hown,hes,hdat,hat,hb1⟩
 rw [hf,hg]
 have B1:=hid hb1
 have L1:=hid (HH.out.below hb1)
 have OM:=hid hown
 have HE1:Hid (ml.map (·.1) = ms):=hid (by rw [hes];exact HMS.out)
 have HD1:Hid (bM w1 (bB db mb tb) ml):=hid (hdat.mono fun p _ b _ hb=>HH.out.dN.lt3 b hb)
 have HLM:Hid (ml.length = ms.length):=hid (by rw [<- HE1.out,List.length_map])
 have HAT:Hid (∀ b,mv.ownBlock = some b -> w.heap.size <= b):=hid hat
 have S1:Hid (aS lb db mb tb w (.slice ea m ec) (.slice fa n fc) w1 (.slice ea m ec) (.slice fa n fc)):=hid (aS.below hb1)
 obtain ⟨ma,mc,rfl,_⟩:=hown.shape
 rw [aK,HLM.out] at OM ⊢
 clear hown hes hdat hat hb1 hf hg hbn c3
 have c3:=L1.out.c3
 by_cases hff:f = first
 ·have bff:((f:Int) != (first:Int)) = false:=by rw [hff];simp
  have HFF:=hid hff
  clear hff
  by_cases hlg:last = false /\ g ≠ bn
  ·obtain ⟨hl0,hg0⟩:=hlg
   subst hl0
   have bg:((g:Int) != (bn:Int)) = true:=by simp;omega
   have HC:Hid (f ≠ first \/ (false = false /\ g ≠ bn) \/ (L.fs ≠ [] /\ first ≠ L.last + 1)):=hid (.inr (.inl ⟨rfl,hg0⟩))
   clear hg0
   go_wp2_with fail
   go_ret2
   rw [HTW.out,if_neg (fun h=>h.1 HFF.out),if_pos HC.out]
   exact ⟨rfl,_,_,_,L1.out,S1.out⟩
  ·have HLG:=hid hlg
   have HS1:Hid (last = true \/ (last = false /\ ((g:Int) != (bn:Int)) = false)):=hid (by
    cases last with
    | true=>exact .inl rfl
    | false=>exact .inr ⟨rfl,by have:g = bn:=Classical.not_not.1 fun h=>hlg ⟨rfl,h⟩;rw [this];simp⟩)
   clear hlg
   by_cases hn0:n = 0
   ·have hfs:L.fs = []:=List.eq_nil_of_length_eq_zero (HN.out.trans hn0)
    have HFS:=hid hfs
    have z0:(n:Int) = 0:=by omega
    have HC:Hid (¬ (f ≠ first \/ (last = false /\ g ≠ bn) \/ (L.fs ≠ [] /\ first ≠ L.last + 1))):=hid (fun h=>h.elim (fun e=>e HFF.out) fun h=>h.elim (fun e=>HLG.out e) fun h=>h.1 HFS.out)
    clear hn0 hfs
    rcases HS1.out with rfl | ⟨rfl,bg⟩
    all_goals
     obtain ⟨pf,hpf⟩:∃ pf:Nat,first - 1 = pf:=⟨_,rfl⟩
     have HPF:=hid hpf
     have hpi:IntKind.u64.wrap (pf:Int) = (pf:Int):=by rw [wrap_u64];omega
     have hpj:(first:Int) - 1 = (pf:Int):=by omega
     have d1:=L1.out.c1
     have f1:=L1.out.fz 1 (by decide) (by decide)
     clear hpf
     obtain ⟨kn,hkn⟩:∃ kn,ms.length = kn:=⟨_,rfl⟩
     have HKN:=hid hkn
     rw [hkn] at OM ⊢
     have BASE:=hid (L1.out.sD pf)
     have S2:Hid (aS lb db mb tb w (.slice ea m ec) (.slice fa n fc) (w1.setCell ⟨lb,1,none⟩ (.int .u64 (pf:Nat))) (.slice ea m ec) (.slice fa n fc)):=hid (S1.out.trans (aS.own (Kept.setCell w1 ⟨lb,1,none⟩ _)))
     have OM2:Hid (cA (w1.setCell ⟨lb,1,none⟩ (.int .u64 (pf:Nat))) 38 3 (.slice ma kn mc) (aL ml)):=hid (OM.out.kept (Kept.setCell w1 ⟨lb,1,none⟩ _) (fun b hb e=>by have:=HAT.out b ((aJp _ _ _ _).trans hb);have:=HH.out.lt;simp only at e;omega))
     have DM2:Hid (bM (w1.setCell ⟨lb,1,none⟩ (.int .u64 (pf:Nat))) (bB db mb tb) ml):=hid (HD1.out.dT (Kept.setCell w1 ⟨lb,1,none⟩ _) L1.out.n8)
     have d2:=BASE.out.c2
     have H32:Hid ((aL el).length + (aL ml).length <= 4294967296):=hid (by rw [aK,aK,HLM.out,BASE.out.xC];have:=HML2.out;have:=HM.out;(try simp only);omega)
     have HBE:Hid (∀ w2,World.grownBy (w1.setCell ⟨lb,1,none⟩ (.int .u64 (pf:Nat))) w2 (Value.slice ea m ec).ownBlock -> bM w2 (bB db mb tb) (el ++ ml)):=hid (fun w2 hg2=>(BASE.out.dat.dT (Kept.cK hg2) (fL BASE.out.er)).app (DM2.out.dT (Kept.cK hg2) (fL BASE.out.er)))
     clear hkn
     go_wp2_with (first
      | (at_builtin;refine cJ rT _ _ rfl (.slice ea m ec) (.slice ma kn mc) (aL el) (aL ml) rfl rfl BASE.out.er OM2.out.qA (iB ml) DM2.out.mJ (jA DM2.out) rU H32.out rfl ?_;intro v2 w2 ho2 hg2 ha2;obtain ⟨a2,n2,c2,rfl⟩:=eH ho2;have G2:=hid (BASE.out.aBn (el':=el ++ ml) hg2 (by rw [gP];exact ho2) ha2 (HBE.out _ hg2));have A2:=hid ha2;have e2:=(BASE.out.pO hg2).1;have e3:=(BASE.out.pO hg2).2;have d3:=G2.out.1.c3;clear ho2 hg2 ha2)
      | (at_builtin;refine cJ aBW _ _ rfl (.slice fa n fc) (.slice (some ⟨w2.heap.size,0,none⟩) 1 1) (L.fs.map dD) [dD ⟨first,kn,g⟩] rfl rfl (G2.out.1.fr.below ((Below.refl _ _).alloc (Nat.le_refl _) _)) (by have h:=vK (w2.setCell ⟨lb,2,none⟩ (.slice a2 n2 c2)) (.int .u64 first) (.int .i64 kn) (.int .i64 g) 188;have e:(w2.setCell ⟨lb,2,none⟩ (.slice a2 n2 c2)).heap.size = w2.heap.size:=(by simp);rw [e] at h;exact h) (by intro r hr;obtain rfl:=List.mem_singleton.1 hr;rfl) (by intro r hr u hu;obtain rfl:=List.mem_singleton.1 hr;simp only [dD,List.mem_cons,List.not_mem_nil,or_false] at hu;rcases hu with rfl | rfl | rfl <;> rfl) (by intro x hx;simp [dD] at hx) aBX (by rw [List.length_map];have:=HFL.out;simp only [List.length_cons,List.length_nil];omega) rfl ?_;intro v3 w3 ho3 hg3 ha3;obtain ⟨a3,n3,c3',rfl⟩:=eH ho3;have LA:=(G2.out.1.below ((Below.refl (w2.setCell ⟨lb,2,none⟩ (.slice a2 n2 c2)).heap.size (w2.setCell ⟨lb,2,none⟩ (.slice a2 n2 c2))).alloc (Nat.le_refl _) (.cells #[.int .u64 first,.int .i64 kn,.int .i64 g] 188)));have G3:=hid (LA.aDZ (fs:=L.fs ++ [⟨first,kn,g⟩]) hg3 (by rw [List.map_append];exact ho3) ha3);have A3:=hid ha3;have q2:=(LA.uL hg3).1;have q3:=(LA.uL hg3).2;clear ho3 hg3 ha3 LA))
     go_ret2
     rw [HTW.out,if_neg (fun h=>h.1 HFF.out),if_neg HC.out]
     have eL:(⟨pf,(el ++ ml).map (·.1),L.fs ++ [⟨first,kn,g⟩],L.safe⟩:aM) = ⟨if L.fs = [] then first - 1 else L.b,L.es ++ ms,L.fs ++ [⟨first,ms.length,g⟩],L.safe⟩:=by
      have h1:el.map (·.1) = L.es:=BASE.out.es
      rw [if_pos HFS.out,HPF.out,HKN.out,List.map_append,HE1.out,h1]
     have hfin:=G3.out.1
     have sE:aS lb db mb tb (w1.setCell ⟨lb,1,none⟩ (.int .u64 (pf:Nat))) (.slice ea m ec) (.slice fa n fc) (w2.setCell ⟨lb,2,none⟩ (.slice a2 n2 c2)) (.slice a2 n2 c2) (.slice fa n fc):=⟨G2.out.2,oF A2.out,fun b hb=>.inl hb⟩
     have sA:aS lb db mb tb (w2.setCell ⟨lb,2,none⟩ (.slice a2 n2 c2)) (.slice a2 n2 c2) (.slice fa n fc) ((w2.setCell ⟨lb,2,none⟩ (.slice a2 n2 c2)).alloc (.cells #[.int .u64 first,.int .i64 kn,.int .i64 g] 188)) (.slice a2 n2 c2) (.slice fa n fc):=aS.below ((Below.refl _ _).alloc (Nat.le_refl _) _)
     have sF:aS lb db mb tb ((w2.setCell ⟨lb,2,none⟩ (.slice a2 n2 c2)).alloc (.cells #[.int .u64 first,.int .i64 kn,.int .i64 g] 188)) (.slice a2 n2 c2) (.slice fa n fc) (w3.setCell ⟨lb,3,none⟩ (.slice a3 n3 c3')) (.slice a2 n2 c2) (.slice a3 n3 c3'):=⟨G3.out.2,fun b hb=>.inl hb,oF A3.out⟩
     have hL:bD (w3.setCell ⟨lb,3,none⟩ (.slice a3 n3 c3')) lb db mb tb (.slice a2 n2 c2) (.slice a3 n3 c3') (el ++ ml) D ⟨if L.fs = [] then first - 1 else L.b,L.es ++ ms,L.fs ++ [⟨first,ms.length,g⟩],L.safe⟩:=by
      rw [<- eL]
      exact hfin
     exact ⟨rfl,_,_,_,hL,S2.out.trans (sE.trans (sA.trans sF))⟩
   ·have hfs:L.fs ≠ []:=fun e=>hn0 (by rw [<- HN.out,e];rfl)
    have HFS:=hid hfs
    have n0:(0:Int) < (n:Int):=by omega
    have n1:0 < n:=by omega
    have bn0:((n:Int) == 0) = false:=by simp;omega
    have la64:IntKind.u64.wrap ((la:Int) + 1) = (la:Int) + 1:=by rw [wrap_u64];omega
    clear hn0 hfs
    by_cases hfl:first = la + 1
    ·have bl:((first:Int) != (la:Int) + 1) = false:=by rw [hfl];simp
     have HC:Hid (¬ (f ≠ first \/ (last = false /\ g ≠ bn) \/ (L.fs ≠ [] /\ first ≠ L.last + 1))):=hid (fun h=>h.elim (fun e=>e HFF.out) fun h=>h.elim (fun e=>HLG.out e) fun h=>h.2 (by rw [HLA.out];exact hfl))
     clear hfl
     rcases HS1.out with rfl | ⟨rfl,bg⟩
     all_goals
      go_wp2_with fail
      refine (iI L1.out HLL.out).mono ?_
      rintro e u1 ⟨rfl,hu1⟩
      rw [HLA.out]
      have LU:=hid (L1.out.below hu1)
      have OMU:=hid (OM.out.below hu1)
      have HDU:Hid (bM u1 (bB db mb tb) ml):=hid (HD1.out.kept (Kept.aJ hu1 (S:=fun _=>False) fun k h1 h2=>by omega) fun k e=>e.elim)
      have SU:Hid (aS lb db mb tb w (.slice ea m ec) (.slice fa n fc) u1 (.slice ea m ec) (.slice fa n fc)):=hid (S1.out.trans (aS.below hu1))
      have cu3:=LU.out.c3
      clear hu1 c3
      obtain ⟨kn,hkn⟩:∃ kn,ms.length = kn:=⟨_,rfl⟩
      have HKN:=hid hkn
      rw [hkn] at OMU ⊢
      have BASE:=hid (LU.out)
      have S2:Hid (aS lb db mb tb w (.slice ea m ec) (.slice fa n fc) u1 (.slice ea m ec) (.slice fa n fc)):=hid (SU.out)
      have OM2:Hid (cA u1 38 3 (.slice ma kn mc) (aL ml)):=hid (OMU.out)
      have DM2:Hid (bM u1 (bB db mb tb) ml):=hid (HDU.out)
      have d2:=BASE.out.c2
      have H32:Hid ((aL el).length + (aL ml).length <= 4294967296):=hid (by rw [aK,aK,HLM.out,BASE.out.xC];have:=HML2.out;have:=HM.out;(try simp only);omega)
      have HBE:Hid (∀ w2,World.grownBy u1 w2 (Value.slice ea m ec).ownBlock -> bM w2 (bB db mb tb) (el ++ ml)):=hid (fun w2 hg2=>(BASE.out.dat.dT (Kept.cK hg2) (fL BASE.out.er)).app (DM2.out.dT (Kept.cK hg2) (fL BASE.out.er)))
      clear hkn
      go_wp2_with (first
       | (at_builtin;refine cJ rT _ _ rfl (.slice ea m ec) (.slice ma kn mc) (aL el) (aL ml) rfl rfl BASE.out.er OM2.out.qA (iB ml) DM2.out.mJ (jA DM2.out) rU H32.out rfl ?_;intro v2 w2 ho2 hg2 ha2;obtain ⟨a2,n2,c2,rfl⟩:=eH ho2;have G2:=hid (BASE.out.aBn (el':=el ++ ml) hg2 (by rw [gP];exact ho2) ha2 (HBE.out _ hg2));have A2:=hid ha2;have e2:=(BASE.out.pO hg2).1;have e3:=(BASE.out.pO hg2).2;have d3:=G2.out.1.c3;clear ho2 hg2 ha2)
       | (at_builtin;refine cJ aBW _ _ rfl (.slice fa n fc) (.slice (some ⟨w2.heap.size,0,none⟩) 1 1) (L.fs.map dD) [dD ⟨first,kn,g⟩] rfl rfl (G2.out.1.fr.below ((Below.refl _ _).alloc (Nat.le_refl _) _)) (by have h:=vK (w2.setCell ⟨lb,2,none⟩ (.slice a2 n2 c2)) (.int .u64 first) (.int .i64 kn) (.int .i64 g) 188;have e:(w2.setCell ⟨lb,2,none⟩ (.slice a2 n2 c2)).heap.size = w2.heap.size:=(by simp);rw [e] at h;exact h) (by intro r hr;obtain rfl:=List.mem_singleton.1 hr;rfl) (by intro r hr u hu;obtain rfl:=List.mem_singleton.1 hr;simp only [dD,List.mem_cons,List.not_mem_nil,or_false] at hu;rcases hu with rfl | rfl | rfl <;> rfl) (by intro x hx;simp [dD] at hx) aBX (by rw [List.length_map];have:=HFL.out;simp only [List.length_cons,List.length_nil];omega) rfl ?_;intro v3 w3 ho3 hg3 ha3;obtain ⟨a3,n3,c3',rfl⟩:=eH ho3;have LA:=(G2.out.1.below ((Below.refl (w2.setCell ⟨lb,2,none⟩ (.slice a2 n2 c2)).heap.size (w2.setCell ⟨lb,2,none⟩ (.slice a2 n2 c2))).alloc (Nat.le_refl _) (.cells #[.int .u64 first,.int .i64 kn,.int .i64 g] 188)));have G3:=hid (LA.aDZ (fs:=L.fs ++ [⟨first,kn,g⟩]) hg3 (by rw [List.map_append];exact ho3) ha3);have A3:=hid ha3;have q2:=(LA.uL hg3).1;have q3:=(LA.uL hg3).2;clear ho3 hg3 ha3 LA))
      go_ret2
      rw [HTW.out,if_neg (fun h=>h.1 HFF.out),if_neg HC.out]
      have eL:(⟨L.b,(el ++ ml).map (·.1),L.fs ++ [⟨first,kn,g⟩],L.safe⟩:aM) = ⟨if L.fs = [] then first - 1 else L.b,L.es ++ ms,L.fs ++ [⟨first,ms.length,g⟩],L.safe⟩:=by
       have h1:el.map (·.1) = L.es:=BASE.out.es
       rw [if_neg HFS.out,HKN.out,List.map_append,HE1.out,h1]
      have hfin:=G3.out.1
      have sE:aS lb db mb tb u1 (.slice ea m ec) (.slice fa n fc) (w2.setCell ⟨lb,2,none⟩ (.slice a2 n2 c2)) (.slice a2 n2 c2) (.slice fa n fc):=⟨G2.out.2,oF A2.out,fun b hb=>.inl hb⟩
      have sA:aS lb db mb tb (w2.setCell ⟨lb,2,none⟩ (.slice a2 n2 c2)) (.slice a2 n2 c2) (.slice fa n fc) ((w2.setCell ⟨lb,2,none⟩ (.slice a2 n2 c2)).alloc (.cells #[.int .u64 first,.int .i64 kn,.int .i64 g] 188)) (.slice a2 n2 c2) (.slice fa n fc):=aS.below ((Below.refl _ _).alloc (Nat.le_refl _) _)
      have sF:aS lb db mb tb ((w2.setCell ⟨lb,2,none⟩ (.slice a2 n2 c2)).alloc (.cells #[.int .u64 first,.int .i64 kn,.int .i64 g] 188)) (.slice a2 n2 c2) (.slice fa n fc) (w3.setCell ⟨lb,3,none⟩ (.slice a3 n3 c3')) (.slice a2 n2 c2) (.slice a3 n3 c3'):=⟨G3.out.2,fun b hb=>.inl hb,oF A3.out⟩
      have hL:bD (w3.setCell ⟨lb,3,none⟩ (.slice a3 n3 c3')) lb db mb tb (.slice a2 n2 c2) (.slice a3 n3 c3') (el ++ ml) D ⟨if L.fs = [] then first - 1 else L.b,L.es ++ ms,L.fs ++ [⟨first,ms.length,g⟩],L.safe⟩:=by
       rw [<- eL]
       exact hfin
      exact ⟨rfl,_,_,_,hL,S2.out.trans (sE.trans (sA.trans sF))⟩
    ·have bl:((first:Int) != (la:Int) + 1) = true:=by simp;omega
     have HC:Hid (f ≠ first \/ (last = false /\ g ≠ bn) \/ (L.fs ≠ [] /\ first ≠ L.last + 1)):=hid (.inr (.inr ⟨HFS.out,by rw [HLA.out];exact hfl⟩))
     clear hfl
     rcases HS1.out with rfl | ⟨rfl,bg⟩
     ·go_wp2_with fail
      refine (iI L1.out HLL.out).mono ?_
      rintro e u1 ⟨rfl,hu1⟩
      rw [HLA.out]
      have LU:=hid (L1.out.below hu1)
      have OMU:=hid (OM.out.below hu1)
      have HDU:Hid (bM u1 (bB db mb tb) ml):=hid (HD1.out.kept (Kept.aJ hu1 (S:=fun _=>False) fun k h1 h2=>by omega) fun k e=>e.elim)
      have SU:Hid (aS lb db mb tb w (.slice ea m ec) (.slice fa n fc) u1 (.slice ea m ec) (.slice fa n fc)):=hid (S1.out.trans (aS.below hu1))
      have cu3:=LU.out.c3
      clear hu1 c3
      go_wp2_with fail
      go_ret2
      rw [HTW.out,if_neg (fun h=>h.1 HFF.out),if_pos HC.out]
      exact ⟨rfl,_,_,_,LU.out,SU.out⟩
     ·go_wp2_with fail
      refine (iI L1.out HLL.out).mono ?_
      rintro e u1 ⟨rfl,hu1⟩
      rw [HLA.out]
      have LU:=hid (L1.out.below hu1)
      have OMU:=hid (OM.out.below hu1)
      have HDU:Hid (bM u1 (bB db mb tb) ml):=hid (HD1.out.kept (Kept.aJ hu1 (S:=fun _=>False) fun k h1 h2=>by omega) fun k e=>e.elim)
      have SU:Hid (aS lb db mb tb w (.slice ea m ec) (.slice fa n fc) u1 (.slice ea m ec) (.slice fa n fc)):=hid (S1.out.trans (aS.below hu1))
      have cu3:=LU.out.c3
      clear hu1 c3
      go_wp2_with fail
      go_ret2
      rw [HTW.out,if_neg (fun h=>h.1 HFF.out),if_pos HC.out]
      exact ⟨rfl,_,_,_,LU.out,SU.out⟩
 ·have bff:((f:Int) != (first:Int)) = true:=by simp;omega
  have HFF:=hid hff
  clear hff
  cases last with
  | true =>
   go_wp2_with fail
   go_ret2
   rw [HTW.out,if_pos ⟨HFF.out,by first | rfl | trivial⟩]
   exact ⟨rfl,_,_,_,L1.out,S1.out⟩
  | false =>
   go_wp2_with fail
   go_ret2
   rw [HTW.out,if_neg (fun h=>by cases h.2),if_pos (.inl HFF.out)]
   exact ⟨rfl,_,_,_,L1.out,S1.out⟩
end Go.Proofs.YtjdglpcnkiioeaaGreat
