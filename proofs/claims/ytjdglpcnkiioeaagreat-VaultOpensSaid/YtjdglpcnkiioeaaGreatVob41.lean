/- For vltopens_law_holds. -/
import Derived.Test.YtjdglpcnkiioeaaGreatVob39
import Derived.Test.YtjdglpcnkiioeaaGreatVob40
set_option maxHeartbeats 16000000
set_option maxRecDepth 100000
namespace Go.Proofs.YtjdglpcnkiioeaaGreat
open Go.Lib (hid)
open Go.RowKit Go.Maps Go.Proofs.Own

def aA5 (l:List Nat)(w:World):Ending->World->Prop:=fun e w'=>∃(el:bN) (a:Option Addr) (c:Nat),e = .returned (.tuple #[.int .u64 (cZ l).f,.slice a el.length c,.int .i64 (cZ l).g])/\el.map (·.1)=(cZ l).es/\(∀S:Nat->Prop,(∀k,S k->k<w.heap.size)->Sf S w' (fun u=>jV u (.slice a el.length c) el))/\Below w.heap.size w w'
theorem nY {l:List Nat}{w w':World}(h:¬tH l)(hb:Below w.heap.size w w'):aA5 l w (.returned (.tuple #[.int .u64 0,.slice none 0 0,.int .i64 0])) w':=by
 have hs:cZ l=⟨0,[],0⟩:=jF (fun _=>h) (fun q=>(q rfl).elim) _;exact⟨[],none,0,by rw[hs];rfl,by rw[hs];rfl,fun S _ u _=>⟨bJ.nil _ _,fun p hp=>(by cases hp)⟩,hb⟩
theorem aAF {w:World}{a:Option Addr}{c:Nat}{l:List Nat}(h:Bytes w (.slice a l.length c) l)(hz:0<w.heap.size):∃rb:Nat,rb<w.heap.size/\(l = []\/(Value.slice a l.length c).ownBlock=some rb):=by
 by_cases h0:l = []
 ·exact⟨0,hz,.inl h0⟩
 ·obtain⟨b,e1,e2⟩:=h.hU h0;exact⟨b,e2,.inr e1⟩
theorem aBb {w:World}{R:World->Prop}(h:Sf (fun _=>False) w R):Fr (fun _=>False) w w [] R:=Fr.zero w nofun h
theorem aHT {w:World}{v:Value}{l:List Nat}(h:Bytes w v l):Sf (fun _=>False) w (fun u=>Bytes u v l):=fun _ ku=>h.kept ku fun _ _ h=>h
theorem aH7 {w:World}{v:Value}{l:List Nat}(h:Bytes w v l)(ht:cS l=0):0<w.heap.size:=by
 have h8:=(fW ht).1;obtain⟨b,_,e2⟩:=h.hU (l:=l) (by intro e;rw[e]at h8;simp at h8);omega
theorem sQ {l:List Nat}(h:cS l=0):(aF l).length=frN l:=by
 unfold cS at h;split at h
 ·rename_i h1;exact(h1 h).elim
 ·rename_i h1;exact fE (Decidable.not_not.1 h1)
theorem aBS {w u:World}(k:Kept w u (fun _=>False)):Below w.heap.size w u:=⟨k.os,k.tape,k.output,k.size,fun i hi=>k.block i hi fun h=>h⟩
structure sV (W w1 w:World)(lv:Value)(el:bN):Prop where
 own:dU w w1.heap.size 38 3 lv (aN el)
 dat:∀q ∈ el,Bytes w q.2 q.1.d/\q.1.fits
 off:∀q ∈ el,∀b,q.2.ownBlock=some b->w1.heap.size<=b/\b<=w.heap.size/\lv.ownBlock≠some b
 bel:Below w1.heap.size w1 w
 old:Below W.heap.size W w1
theorem sV.bw {W w1 w:World}{lv:Value}{el:bN}(h:sV W w1 w lv el):Below W.heap.size W w:=h.old.trans (h.bel.mono h.old.size)
theorem sV.below {W w1 w w':World}{lv:Value}{el:bN}(h:sV W w1 w lv el)(hb:Below w.heap.size w w'):sV W w1 w' lv el :=
 ⟨h.own.below hb,fun q hq=>⟨(h.dat q hq).1.below hb,(h.dat q hq).2⟩,fun q hq b hb2=>let ⟨h1,h2,h3⟩:=h.off q hq b hb2;⟨h1,Nat.le_trans h2 hb.size,h3⟩,h.bel.trans (hb.mono h.bel.size),h.old⟩
theorem sV.aKR {W w1 w:World}{lv bv:Value}{el:bN}(h:sV W w1 w lv el)(hb:bv.ownBlock=some w.heap.size):∀b,bv.ownBlock=some b->w1.heap.size<=b/\b=w.heap.size/\lv.ownBlock≠some b:=fun b hb2=>by
 rw[hb]at hb2;have:=Option.some.inj hb2;exact⟨by have:=h.bel.size;omega,this.symm,fun e=>by have:=(h.own.lt b e).2;omega⟩
theorem sV.grow {W w1 w w':World}{lv v':Value}{el:bN}{x:cU × Value}(h:sV W w1 w lv el)(hx:Bytes w x.2 x.1.d/\x.1.fits)(hoff:∀b,x.2.ownBlock=some b->w1.heap.size<=b/\b<=w.heap.size/\lv.ownBlock≠some b)(ho:dU w' w1.heap.size 38 3 v' (aN el ++ [eP x]))
  (hb:Below w1.heap.size w w') (hk:Kept w w' (fun k=>lv.ownBlock=some k)) (hv:∀b,v'.ownBlock=some b->lv.ownBlock=some b\/w.heap.size<b):sV W w1 w' v' (el ++ [x]):=by
 have hof:∀q ∈ el ++ [x],∀b,q.2.ownBlock=some b->w1.heap.size<=b/\b<=w.heap.size/\lv.ownBlock≠some b:=fun q hq=>by
  rcases List.mem_append.1 hq with hq|hq
  ·exact h.off q hq
  ·obtain rfl:=List.mem_singleton.1 hq;exact hoff
 have hda:∀q ∈ el ++ [x],Bytes w q.2 q.1.d/\q.1.fits:=fun q hq=>by
  rcases List.mem_append.1 hq with hq|hq
  ·exact h.dat q hq
  ·obtain rfl:=List.mem_singleton.1 hq;exact hx
 refine⟨by rw[gF];exact ho,fun q hq=>⟨(hda q hq).1.kept hk fun b hb2 e=>(hof q hq b hb2).2.2 e,(hda q hq).2⟩,fun q hq b hb2=>?_,h.bel.trans hb,h.old⟩;obtain⟨h1,h2,h3⟩:=hof q hq b hb2;refine⟨h1,Nat.le_trans h2 hb.size,fun e=>?_⟩;rcases hv b e with e|e
 ·exact h3 e
 ·omega
theorem sH {l:List Nat}{W w1 w:World}{f p:Nat}{la:Option Addr}{lc:Nat}{el:bN}(hs:cZ l=⟨f,el.map (·.1),p⟩)(h:sV W w1 w (.slice la el.length lc) el):aA5 l W (.returned (.tuple #[.int .u64 f,.slice la el.length lc,.int .i64 p])) w:=by
 refine⟨el,la,lc,by rw[hs],by rw[hs],fun S hS u ku=>?_,h.bw⟩;have hz:=h.old.size;refine⟨bJ.gH (h.own.kept ku fun b hb hs=>by have:=(h.own.lt b hb).1;have:=hS b hs;omega),fun q hq=>⟨(h.dat q hq).1.kept ku fun b hb hs=>by have:=(h.off q hq b hb).1;have:=hS b hs;omega,(h.dat q hq).2,fun _ _ h=>h⟩⟩
theorem aKe (v:Value)(l:List Nat)(W:World)(hB:Bytes W v l):Calls Tryz.prog 230 #[v] W (aA5 l W):=by
 obtain⟨a,c,rfl,_⟩:=hB.shape;have HB:=hid hB;have hlb:(l.length:Int)<=2097152:=by have:=hB.small;omega
 clear hB;go_enter Tryz.func230,Tryz.ntmps230;go_wp2_with fail;refine(kO _ l W HB.out).mono ?_;rintro e w ⟨hbt,hno,hyes⟩;have B1:=hid hbt;by_cases ht:cS l=0
 ·obtain⟨v2,rfl,hB2⟩:=hyes ht;have HT:=hid ht;have HZ:=aH7 HB.out ht;obtain⟨a2,c2,rfl,_⟩:=hB2.shape;obtain⟨rb,hrb,hown⟩:=aAF hB2 (Nat.lt_of_lt_of_le HZ hbt.size);have F:=aBb (aHT hB2);have hrl:=fW ht;generalize hkd:l.getD 1 0=kd;have HKD:=hid hkd;clear hno hyes ht hB2 hbt hkd;go_wp2_with fail;refine stq ?_;intro w F C;clear C;refine(aCF F 0 rfl ⟨F.r,hown,by omega⟩ 1152921504606846976 (by decide) (by decide)).mono ?_;rintro e w ⟨rfl,a3,c3,F,hr⟩;simp only[fS]at F;have HHV:Hid (hdV l=bO (Int.toNat 1152921504606846976) (aF l)):=hid rfl;have HHE:Hid (hdE l=gV (cI (Int.toNat 1152921504606846976) (aF l)) (false || cF (Int.toNat 1152921504606846976) (aF l))):=hid (by rw[Bool.false_or];rfl);have hvl:=fU (Int.toNat 1152921504606846976) (aF l);generalize bO (Int.toNat 1152921504606846976) (aF l)=hv at *
  have hv1:(hv:Int)<=1152921504606846976:=by omega
  by_cases hk1:kd=1
  ·subst hk1;clear hvl;refine fx fun C=>?_
   go_wp2_with (refine stq ?_;clear C;intro w F C)
   refine(aJF F 0 rfl hr).mono ?_;rintro e w' ⟨rfl,rfl⟩;rw[<- HHE.out];clear C;by_cases hE:hdE l=0
   ·rw[hE];have HE:=hid hE;clear hE;by_cases h0:hv=0
    ·have hv0:(hv:Int)<1:=by omega
     have HNO:Hid (¬tH l):=hid (fun q=>q.2.2.2 (HHV.out.trans h0));clear h0;go_wp2_with fail;refine bodyPost_ret (v:=.tuple #[.int .u64 0,.slice none 0 0,.int .i64 0]) (by simp[results,Tryz.results230,go_sem]) rfl ?_;exact nY HNO.out (B1.out.trans (F.bel.mono B1.out.size))
    ·have hv0:¬(hv:Int)<1:=by omega
     have HGO:Hid (tH l):=hid ⟨HT.out,HKD.out,HE.out,fun q=>h0 (HHV.out.symm.trans q)⟩;have HSR:Hid (cZ l=segF (l.length-1) (mT l) ⟨hv,[],(aF l).length+8⟩):=hid (by
      unfold cZ;obtain⟨k,hk⟩:∃k,l.length=k+1:=⟨l.length-1,by omega⟩;rw[hk,tS rfl HGO.out,HHV.out];simp)
     have HV0:=hid h0;clear h0;go_wp2_with fail;have BW1:Hid (Below W.heap.size W w):=hid (B1.out.trans (F.bel.mono B1.out.size));have HLB:Hid ((aF l).length=frN l):=hid (sQ HT.out)
     rename World=>w1
     go_loopw [11,12] (fun lv y wr=>∃(p k:Nat) (el:bN),y = .int .i64 p/\p<=l.length/\l.length<=p+k/\cZ l=segF k (l.drop p) ⟨hv,el.map (·.1),p⟩/\sV W w1 wr lv el/\el.length<=p) (fun _ y _=>l.length-(intOf y).toNat)
     case atStart =>
      refine⟨frN l+8,l.length-1,[],by first|rfl|(congr 1),by have:=HLB.out;omega,by omega,by rw[HSR.out,HLB.out];rfl,⟨dU.nil _ _ _ _,nofun,nofun,Below.refl _ _,BW1.out⟩,by simp⟩
     case round =>
      rename World=>w
      obtain⟨p,k,el,rfl,hp,hpk,hseg,hli,hep⟩:=hrel;obtain⟨la,lc,rfl⟩:=hli.own.shape;rw[aO]at hli ⊢;have LI:=hid hli;have HSG:=hid hseg;obtain⟨v2,hB2,hcut⟩:=(HB.out.below hli.bw).aFi Tryz.u8s p hp;obtain⟨a2,c2,rfl,_⟩:=hB2.shape;have HB2:=hid hB2;have HPK:=hid hpk;generalize hm:l.drop p=m at *
      have HM:Hid (m.length=l.length-p):=hid (by rw[<- hm,List.length_drop]);have HMD:=hid hm;clear hB2 hm hseg hli hpk F;go_wp2_with fail;refine(kO _ m w HB2.out).mono ?_;rintro e w ⟨hbt,hno,hyes⟩;have LE:=hid (LI.out.below hbt);by_cases ht:cS m=0
      ·obtain⟨v3,rfl,hB3⟩:=hyes ht;have HT3:=hid ht;obtain⟨a3,c3,rfl,_⟩:=hB3.shape;obtain⟨rb,hrb,hown⟩:=aAF hB3 (Nat.lt_of_lt_of_le HZ LE.out.bw.size);generalize hkd:m.getD 1 0=kd;have HKD:=hid hkd;have hrm:=fW ht;have HLBM:=hid (sQ ht);by_cases hk2:kd=2
       ·subst hk2;have F:=aBb (w:=w) (R:=fun u=>sV W w1 u (.slice la el.length lc) el/\Bytes u (.slice a3 (aF m).length c3) (aF m)) fun u ku=>⟨LE.out.below (aBS ku),hB3.below (aBS ku)⟩;clear hno hyes ht hB3 hbt hkd LE LI;go_wp2_with fail;refine stq ?_;intro w F C;clear C;refine(aCF F 0 rfl ⟨F.r.2,hown,by omega⟩ 18446744073709551615 (by decide) (by decide)).mono ?_;rintro e w ⟨rfl,a4,c4,F,hr⟩;simp only[fS]at F;have HIX:Hid (lnI m=bO (Int.toNat 18446744073709551615) (aF m)):=hid rfl;have HR1:Hid (tJ m=cI (Int.toNat 18446744073709551615) (aF m)):=hid rfl;have HLE0:Hid (lnE m=gV (iU 4096 (zQ m)) (((cF (Int.toNat 18446744073709551615) (aF m) || cF H60 (tJ m)) || cF 3 (tK m)) || iT 4096 (zQ m))):=hid rfl;generalize bO (Int.toNat 18446744073709551615) (aF m)=ix at *
        generalize cI (Int.toNat 18446744073709551615) (aF m)=R1 at *
        generalize cF (Int.toNat 18446744073709551615) (aF m)=b1 at *
        obtain rfl:=HR1.out;rw[Bool.false_or]at F;go_wp2_with fail;refine(aCF F 0 rfl hr 1152921504606846976 (by decide) (by decide)).mono ?_;rintro e w ⟨rfl,a5,c5,F,hr⟩;simp only[fS]at F;have HTT:Hid ((lnX m).t=bO (Int.toNat 1152921504606846976) (tJ m)):=hid rfl;have httl:=fU (Int.toNat 1152921504606846976) (tJ m);have HR2:Hid (tK m=cI (Int.toNat 1152921504606846976) (tJ m)):=hid rfl;have HB2:Hid (cF H60 (tJ m)=cF (Int.toNat 1152921504606846976) (tJ m)):=hid rfl;rw[HB2.out]at HLE0;generalize bO (Int.toNat 1152921504606846976) (tJ m)=tt at *
        generalize cI (Int.toNat 1152921504606846976) (tJ m)=R2 at *
        generalize cF (Int.toNat 1152921504606846976) (tJ m)=b2 at *
        obtain rfl:=HR2.out;have ht1:(tt:Int)<=1152921504606846976:=by omega
        replace F:=F.put (hr.sf F hrb id);refine fx fun C=>?_
        go_wp2_with (refine stq ?_;clear C;intro w F C)
        refine(aCF F 0 rfl F.r.1 3 (by decide) (by decide)).mono ?_;rintro e w ⟨rfl,a6,c6,F,hr⟩;simp only[fS]at F;have HKK:Hid ((lnX m).k=bO (Int.toNat 3) (tK m)):=hid rfl;have hkkl:=fU (Int.toNat 3) (tK m);have HR3:Hid (zQ m=cI (Int.toNat 3) (tK m)):=hid rfl;have HB3:Hid (cF 3 (tK m)=cF (Int.toNat 3) (tK m)):=hid rfl;rw[HB3.out]at HLE0;generalize bO (Int.toNat 3) (tK m)=kk at *
        generalize cI (Int.toNat 3) (tK m)=R3 at *
        generalize cF (Int.toNat 3) (tK m)=b3 at *
        obtain rfl:=HR3.out;have hk1:(kk:Int)<=3:=by omega
        clear C;replace F:=F.put (hr.sf F hrb id);refine fx fun C=>?_
        go_wp2_with (refine stq ?_;clear C;intro w F C)
        refine(aKg F 0 rfl F.r.1 4096 (by decide)).mono ?_;rintro e w ⟨rfl,a7,c7,F,hr⟩;simp only[fS]at F;have HDD:Hid ((lnX m).d=dY 4096 (zQ m)):=hid rfl;have hdl:=qA 4096 (zQ m);have hd8:∀c ∈ dY 4096 (zQ m),c<256:=fun c hc=>F.r.1.by'.lt c (qB c hc);generalize dY 4096 (zQ m)=dd at *
        have HSZ:Hid ((bX dd).size<=2097152):=hid (by rw[cH];omega);have HTB:Hid (aP (bX dd)=dd):=hid (dO hd8);clear C hd8;replace F:=F.put (hr.sf F hrb id);refine fx fun C=>?_
        go_wp2_with (first
         | (refine eA rfl 9 36 5 _ rfl Tryz.underlying9 Tryz.underlying36 Tryz.underlying5 _ rfl HSZ.out ?_;intro bv w hB hb hob;rw[HTB.out]at hB;obtain⟨ab,cb,rfl,_⟩:=hB.shape;have HOFF:=hid (F.r.2.2.2.1.aKR hob);replace F:=F.next (Z:=fun u=>Bytes u (.slice ab dd.length cb) dd/\_<=u.heap.size) hb (fun u ku=>⟨hB.kept ku fun b hb2 hs=>by have h1:=F.few b hs;rw[hob]at hb2;have h2:=Option.some.inj hb2;omega,Nat.le_trans hb.size ku.size⟩);clear C hB hb hob;refine fx fun C=>?_)
         | (refine stq ?_;clear C;intro w F C))
        refine(aJF F 0 rfl F.r.2.1).mono ?_;rintro e w' ⟨rfl,rfl⟩;rw[<- HLE0.out];by_cases hE:lnE m=0
        ·rw[hE];have HE:=hid hE;clear hE C;refine fx fun C=>?_
         go_wp2_with (refine stq ?_;clear C;intro w F C)
         refine(aI4 tt kk _ dd w F.r.1.1).mono ?_;rintro e w ⟨rfl,hb⟩;replace F:=F.call hb;have HX:Hid (lnX m=⟨tt,kk,dd⟩):=hid (by rw[<- HTT.out,<- HKK.out,<- HDD.out]);rw[vP ⟨tt,kk,dd⟩];clear C hb;by_cases hok:(⟨tt,kk,dd⟩:cU).ok
         ·rw[decide_eq_true hok];have HOK:=hid hok;have hsum:(hv:Int)+(el.length:Int)<18446744073709551616:=by omega
          clear hok;by_cases hi:ix=hv+el.length
          ·have hib:((ix:Int) != (hv:Int)+(el.length:Int))=false:=by simp;omega
           have HGO2:Hid (zP (hv+(el.map (·.1)).length) m):=hid ⟨HT3.out,HKD.out,HE.out,by rw[List.length_map];exact HIX.out.trans hi,by rw[HX.out];exact HOK.out⟩
           clear hi;refine fx fun C=>?_;have hpp:(p:Int)+((frN m:Int)+8)<=2097152:=by have:=HM.out;have:=HLBM.out;omega
           have OW:=F.r.2.2.2.2.1;have hob:∀b,(Value.slice ab dd.length cb).ownBlock=some b->w1.heap.size<=b/\b<=w.heap.size/\(Value.slice la el.length lc).ownBlock≠some b:=fun b hb=>let ⟨h1,h2,h3⟩:=HOFF.out b hb;⟨h1,by have:=F.r.1.2;omega,h3⟩;have HOB:=hid hob;have BY:=hid F.r.1.1;have SZB:=hid F.r.1.2;have OWH:=hid OW;clear hob
           go_wp2_with (first
            | (at_builtin;refine ap2 (r:=eP (⟨tt,kk,dd⟩,.slice ab dd.length cb)) nK OW.own rfl (by intro u hu;simp only[eP,List.mem_cons,List.not_mem_nil,or_false]at hu;rcases hu with rfl|rfl|rfl<;>rfl) (by rw[aO];omega) OW.bel.size rfl rfl rfl rfl ?_;intro v9 w9 ho9 hb9 hk9 hv9;have L9:=hid (OWH.out.grow (x:=(⟨tt,kk,dd⟩,.slice ab dd.length cb)) ⟨BY.out,HOK.out.fits⟩ HOB.out ho9 hb9 hk9 hv9);clear ho9 hb9 hk9 hv9)
            | (refine stq ?_;clear C;intro w F C))
           go_roundw
           case rel =>
            refine⟨p+(frN m+8),k-1,el ++ [(⟨tt,kk,dd⟩,.slice ab dd.length cb)],by first|rfl|go_num|(congr 1),by have:=HM.out;have:=HLBM.out;omega,by have:=HM.out;have:=HPK.out;omega,?_,L9.out,by rw[List.length_append,List.length_singleton];omega⟩;obtain⟨k',hk'⟩:∃k',k=k'+1:=⟨k-1,by have:=HM.out;have:=HPK.out;omega⟩;rw[HSG.out,hk',tT HV0.out HGO2.out,HX.out,List.map_append,Nat.add_sub_cancel,HLBM.out,Nat.add_assoc];unfold mT;rw[<- HMD.out,List.drop_drop];rfl
           case measure=>simp[intOf];have:=HM.out;omega
          ·have hib:((ix:Int) != (hv:Int)+(el.length:Int))=true:=by simp;omega
           refine fx fun C=>?_;have LE:=hid F.r.2.2.2.2.1;have HEND:Hid (cZ l=⟨hv,el.map (·.1),p⟩):=hid (HSG.out.trans (jF (fun h0=>(HV0.out h0).elim) (fun _ q=>hi (HIX.out.symm.trans (q.2.2.2.1.trans (by simp)))) _))
           go_wp2_with fail;refine bodyPost_ret (v:=.tuple #[.int .u64 hv,.slice la el.length lc,.int .i64 p]) (by simp[results,Tryz.results230,go_sem]) rfl ?_;exact sH HEND.out LE.out
         ·rw[decide_eq_false hok];refine fx fun C=>?_;have LE:=hid F.r.2.2.2.2.1;have HEND:Hid (cZ l=⟨hv,el.map (·.1),p⟩):=hid (HSG.out.trans (jF (fun h0=>(HV0.out h0).elim) (fun _ q=>hok (HX.out ▸ q.2.2.2.2)) _))
          go_wp2_with fail;refine bodyPost_ret (v:=.tuple #[.int .u64 hv,.slice la el.length lc,.int .i64 p]) (by simp[results,Tryz.results230,go_sem]) rfl ?_;exact sH HEND.out LE.out
        ·have hEb:((lnE m:Int) != 0)=true:=by simp;omega
         have LE:=hid F.r.2.2.2.2.1;have HEND:Hid (cZ l=⟨hv,el.map (·.1),p⟩):=hid (HSG.out.trans (jF (fun h0=>(HV0.out h0).elim) (fun _ q=>hE q.2.2.1) _))
         go_wp2_with fail;refine bodyPost_ret (v:=.tuple #[.int .u64 hv,.slice la el.length lc,.int .i64 p]) (by simp[results,Tryz.results230,go_sem]) rfl ?_;exact sH HEND.out LE.out
       ·have hkb:((kd:Int) != 2)=true:=by simp;omega
        have HEND:Hid (cZ l=⟨hv,el.map (·.1),p⟩):=hid (HSG.out.trans (jF (fun h0=>(HV0.out h0).elim) (fun _ q=>hk2 (HKD.out.symm.trans q.2.1)) _))
        clear hno hyes ht hB3 hbt hkd hk2;go_wp2_with fail;refine bodyPost_ret (v:=.tuple #[.int .u64 hv,.slice la el.length lc,.int .i64 p]) (by simp[results,Tryz.results230,go_sem]) rfl ?_;exact sH HEND.out LE.out
      ·obtain rfl:=hno ht;have hEb:((cS m:Int) != 0)=true:=by simp;omega
       have HEND:Hid (cZ l=⟨hv,el.map (·.1),p⟩):=hid (HSG.out.trans (aAN ht _))
       clear hno hyes ht hbt;go_wp2_with fail;refine bodyPost_ret (v:=.tuple #[.int .u64 hv,.slice la el.length lc,.int .i64 p]) (by simp[results,Tryz.results230,go_sem]) rfl ?_;exact sH HEND.out LE.out
   ·have hEb:((hdE l:Int) != 0)=true:=by simp;omega
    have HNO:Hid (¬tH l):=hid (fun q=>hE q.2.2.1);clear hE;go_wp2_with fail;refine bodyPost_ret (v:=.tuple #[.int .u64 0,.slice none 0 0,.int .i64 0]) (by simp[results,Tryz.results230,go_sem]) rfl ?_;exact nY HNO.out (B1.out.trans (F.bel.mono B1.out.size))
  ·have hkb:((kd:Int) != 1)=true:=by simp;omega
   have HNO:Hid (¬tH l):=hid (fun q=>hk1 (HKD.out.symm.trans q.2.1));clear hk1;go_wp2_with fail;refine bodyPost_ret (v:=.tuple #[.int .u64 0,.slice none 0 0,.int .i64 0]) (by simp[results,Tryz.results230,go_sem]) rfl ?_;exact nY HNO.out (B1.out.trans (F.bel.mono B1.out.size))
 ·obtain rfl:=hno ht;have hEb:((cS l:Int) != 0)=true:=by simp;omega
  have HNO:Hid (¬tH l):=hid (fun q=>ht q.1);have F:=aBb (Sf.all (fun _=>False) w);clear hno hyes ht hbt;go_wp2_with fail;refine stq ?_;intro w F C;clear C;refine(aCF (rb:=w.heap.size+1) F 0 rfl ⟨Bytes.nil _,.inl rfl,by have:=F.bel.size;omega⟩ 1152921504606846976 (by decide) (by decide)).mono ?_;rintro e w ⟨rfl,a3,c3,F,hr⟩;clear hr;go_wp2_with fail;refine bodyPost_ret (v:=.tuple #[.int .u64 0,.slice none 0 0,.int .i64 0]) (by simp[results,Tryz.results230,go_sem]) rfl ?_;exact nY HNO.out (B1.out.trans (F.bel.mono B1.out.size))

def rwf (f:WF):List Value:=[.int .u64 f.f,.int .u64 f.m,.int .i64 f.s]
def lgv (L:aQ)(ea:Option Addr)(ec:Nat)(fa:Option Addr)(fc:Nat):Value:=.agg #[.int .u64 L.b,.slice ea L.es.length ec,.slice fa L.fs.length fc,.int .i64 L.safe]
structure LR (L:aQ)(el:bN)(ea:Option Addr)(ec:Nat)(fa:Option Addr)(fc:Nat)(u:World):Prop where
 es:el.map (·.1)=L.es
 er:jV u (.slice ea L.es.length ec) el
 fr:bJ u 3 (.slice fa L.fs.length fc) (L.fs.map rwf)
def QL (S:Nat->Prop)(r:aA × aQ × Nat)(w:World):Ending->World->Prop:=fun e w'=>∃a c ea ec fa fc el,e = .returned (.tuple #[dv r.1 a c,lgv r.2.1 ea ec fa fc,.int .i64 r.2.2])/\Sf S w' (fun u=>DR r.1 a c u/\LR r.2.1 el ea ec fa fc u)/\Below w.heap.size w w'
theorem aKV:eQ Tryz.prog 76 276 3 24:=by
 obtain⟨i0,hi,hz0,hz1,hz2⟩:=info_parts (show (Tryz.prog.info? 276).map (fun i=>(i.zero,i.size,i.bytes))=some (some (.agg #[.int .u64 0,.int .u64 0,.int .i64 0]),3,24) by kernel_rfl);exact⟨Tryz.underlying76,⟨i0,_,hi,hz0,hz1,hz2,rfl⟩,by decide,by decide⟩
theorem aJd (l:List WF):∀r ∈ l.map rwf,∀u ∈ r,u.oneCell'=true:=by
 intro r hr u hu;obtain⟨f,_,rfl⟩:=List.mem_map.1 hr;simp only[rwf,List.mem_cons,List.not_mem_nil,or_false]at hu;rcases hu with rfl|rfl|rfl<;>rfl
theorem aHO (l:List WF):∀r ∈ l.map rwf,r.length=3:=fun r hr=>by
 obtain⟨f,_,rfl⟩:=List.mem_map.1 hr;rfl
theorem lE (L:aQ)(ea:Option Addr)(ec:Nat)(fa:Option Addr)(fc:Nat)(w:World)(hl:L.last<18446744073709551616):Calls Tryz.prog 93 #[lgv L ea ec fa fc] w fun e w'=>e = .returned (.int .u64 L.last)/\Below w.heap.size w w':=by
 have h:(L.b:Int)+(L.es.length:Int)<18446744073709551616:=by unfold aQ.last at hl;omega
 have HV:Hid ((L.last:Int)=(L.b:Int)+(L.es.length:Int)):=hid (by unfold aQ.last;simp);clear hl;unfold lgv;go_enter Tryz.func93,Tryz.ntmps93;go_wp2_with fail;go_ret;exact⟨by rw[HV.out];rfl,(Below.refl _ _).alloc (Nat.le_refl _) _⟩
theorem bJ.aEO {w:World}{a:Option Addr}{n c:Nat}{L:List WF}(h:bJ w 3 (.slice a n c) (L.map rwf)){j:Nat}{f:WF}(hj:L[j]? = some f) :
  ∃b o,a=some ⟨b,o,none⟩/\b<w.heap.size/\w.cell? ⟨b,o+j*3,none⟩=some (.int .u64 f.f)/\w.cell? ⟨b,o+j*3+1,none⟩=some (.int .u64 f.m)/\w.cell? ⟨b,o+j*3+2,none⟩=some (.int .i64 f.s):=by
 obtain⟨hl,he⟩:=List.getElem?_eq_some_iff.1 hj;obtain⟨b,o,h1,h2,h3⟩:=h.at (j:=j) (by rw[List.length_map];exact hl);rw[List.getElem_map,he]at h3;exact⟨b,o,h1,h2,by have:=h3 0 _ rfl;rwa [Nat.add_zero]at this,h3 1 _ rfl,h3 2 _ rfl⟩
theorem bJ.aDJ {w:World}{b o n c:Nat}{L:List WF}(h:bJ w 3 (.slice (some ⟨b,o,none⟩) n c) (L.map rwf)){j:Nat}{f:WF}(hj:L[j]? = some f) :
  b<w.heap.size/\w.cell? ⟨b,o+j*3,none⟩=some (.int .u64 f.f)/\w.cell? ⟨b,o+j*3+1,none⟩=some (.int .u64 f.m)/\w.cell? ⟨b,o+j*3+2,none⟩=some (.int .i64 f.s):=by
 obtain⟨b',o',e,h1⟩:=h.aEO hj;cases e;exact h1
theorem aKH {P:Program}{t e:TypeId}{sz:Nat}(ht:P.underlying t=some (.slice e))(hz:(P.info? e).map (·.size)=some sz)(a:Option Addr)(n c hi:Nat)(h1:hi<=n)(h2:n<=c) :
  ∃a' c',(∀w',(Instr.slice t (.slice a n c) none (Option.some (Value.int .i64 hi)) none).run P w' = .ok (.slice a' hi c') w') /\ ∀(u:World) (rs:List (List Value)),rs.length=n->bJ u sz (.slice a n c) rs->bJ u sz (.slice a' hi c') (rs.take hi):=by
 obtain⟨i,hi',hs⟩:=Option.map_eq_some_iff.1 hz;have hel:P.elem t=e:=by simp[Program.elem,ht]
 obtain⟨a',c',he⟩:∃a' c',Go.sliced a 0 hi c sz = .slice a' hi c':=by unfold Go.sliced;simp only[Nat.sub_zero];split<;>exact⟨_,_,rfl⟩
 refine⟨a',c',fun w'=>?_,fun u rs hn h=>?_⟩
 ·rw[run_slice_h w' t a n c (by rw[hel];exact ht) .i64 hi (by omega) (by omega),hel,<- he];simp[sizeOf,typeInfo,hi',hs,Result.andThen,go_sem]
 ·have hh:=h.sliced 0 hi c (Nat.zero_le _) (by omega) (by omega);rw[List.drop_zero,he]at hh;exact hh
theorem aHv {D:aA}{b safe:Nat}{es:List cU}{fs:List WF}{g:WF}(h:fs.getLast? = some g):popW D ⟨b,es,fs,safe⟩=if (removeD D (aK g.f)).2≠0 then ((removeD D (aK g.f)).1,⟨b,es,fs,safe⟩,(removeD D (aK g.f)).2)
  else ((removeD D (aK g.f)).1,⟨b,es.take (es.length-g.m),fs.dropLast,min safe (es.length-g.m)⟩,0):=by
 unfold popW;simp only[h]
theorem jV.cut {u:World}{a a':Option Addr}{c c' hi:Nat}{el:bN}(h:jV u (.slice a el.length c) el)(hc:∀(u:World) (rs:List (List Value)),rs.length=el.length->bJ u 3 (.slice a el.length c) rs->bJ u 3 (.slice a' hi c') (rs.take hi)):jV u (.slice a' hi c') (el.take hi) :=
 ⟨by have:=hc u _ (aO el) h.1;unfold aN at this ⊢;rwa [<- List.map_take]at this,h.2.sub fun q hq=>List.mem_of_mem_take hq⟩
theorem LR.cut {b safe sf kk j:Nat}{es:List cU}{fs:List WF}{el:bN}{ea fa ya na:Option Addr}{ec fc yc nc:Nat}{u:World}(h:LR ⟨b,es,fs,safe⟩ el ea ec fa fc u)(hf:bJ u 3 (.slice na j nc) (fs.dropLast.map rwf))(hj:fs.dropLast.length=j)(hk:kk<=es.length)
  (hc:∀(u:World) (rs:List (List Value)),rs.length=es.length->bJ u 3 (.slice ea es.length ec) rs->bJ u 3 (.slice ya kk yc) (rs.take kk)):LR ⟨b,es.take kk,fs.dropLast,sf⟩ (el.take kk) ya yc na nc u:=by
 have hlen:el.length=es.length:=(List.length_map (fun x:cU × Value=>x.1)).symm.trans (congrArg List.length h.es);refine⟨?_,?_,?_⟩
 ·show (el.take kk).map (·.1)=es.take kk
  rw[List.map_take];exact congrArg _ h.es
 ·show jV u (.slice ya (es.take kk).length yc) _;rw[List.length_take,Nat.min_eq_left hk];have h1:jV u (.slice ea es.length ec) el:=h.er;rw[<- hlen]at h1;exact h1.cut (by rw[hlen];exact hc)
 ·show bJ u 3 (.slice na fs.dropLast.length nc) _;rw[hj];exact hf
theorem aFV {S:Nat->Prop}{w:World}{D:aA}{L:aQ}{a:Option Addr}{c:Nat}{ea fa:Option Addr}{ec fc:Nat}{el:bN}{g:WF}(h:In S w (fun u=>DR D a c u/\LR L el ea ec fa fc u))(hg:aY D)(hlast:L.fs.getLast? = some g)(hf:1<=g.f/\g.f<1152921504606846976)(hm:g.m<=L.es.length)
  (hes:L.es.length<=2147483648) (hfs:L.fs.length<=2097152):Calls Tryz.prog 189 #[dv D a c,lgv L ea ec fa fc] w (QL S (popW D L) w):=by
 have F:=h.fr;obtain⟨b,es,fs,safe⟩:=L;simp only at hlast hm hes hfs;unfold dv lgv;obtain⟨j,hj⟩:∃j,fs.length=j+1:=⟨fs.length-1,by have:fs ≠ []:=(by intro e;rw[e]at hlast;cases hlast);have:=List.length_pos_iff.2 this;omega⟩;have hgj:fs[j]? = some g:=by rw[List.getLast?_eq_getElem?]at hlast;rw[<- hlast];congr 1;omega
 obtain⟨fb,fo,rfl,_⟩:=bJ.aEO F.r.2.fr hgj;replace F:=F.put (F.get fun _ h=>bJ.aDJ h.2.fr hgj);obtain⟨kk,hk⟩:∃k,k=es.length-g.m:=⟨_,rfl⟩;have hk2:(es.length:Int)-(g.m:Int)=(kk:Int):=by omega
 have hgm:(g.m:Int)<=2147483648:=by omega
 have hidx:(fs.length:Int)-1=(j:Int):=by omega
 have hjl:j<fs.length:=by omega
 have HP:=hid (aHv (D:=D) (b:=b) (es:=es) (safe:=safe) hlast);have HDL:Hid (fs.dropLast.map rwf=(fs.map rwf).take j/\fs.dropLast.length=j):=hid ⟨by rw[List.dropLast_eq_take,List.map_take,hj];rfl,by rw[List.length_dropLast,hj];rfl⟩;have HK:=hid hk;rw[<- hk]at HP;have hel:el.length=es.length:=(List.length_map (fun x:cU × Value=>x.1)).symm.trans (congrArg List.length F.r.2.2.es);have HEL:=hid hel;have hcF:fs.length<=fc:=by
  have h1:bJ w 3 (.slice (some ⟨fb,fo,none⟩) fs.length fc) (fs.map rwf):=F.r.2.2.fr;obtain⟨_,_,e,hl⟩:=h1.shape;rw[List.length_map]at e hl;cases e;exact hl
 have hcE:es.length<=ec:=by
  have h1:bJ w 3 (.slice ea es.length ec) (aN el):=F.r.2.2.er.1;obtain⟨_,_,e,hl⟩:=h1.shape;rw[aO,hel]at e hl;cases e;exact hl
 obtain⟨xa,xc,hcutF,hrowF⟩:=aKH (P:=Tryz.prog) (sz:=3) Tryz.underlying76 (by kernel_rfl) (some ⟨fb,fo,none⟩) fs.length fc j (by omega) hcF;obtain⟨ya,yc,hcutE,hrowE⟩:=aKH (P:=Tryz.prog) (sz:=3) Tryz.underlying23 (by kernel_rfl) ea es.length ec kk (by omega) hcE;have HRF:=hid hrowF;have HRE:=hid hrowE;clear hlast hgj hj hk hel hcF hcE hrowF hrowE;go_enter Tryz.func189,Tryz.ntmps189;refine fx fun C=>?_
 go_wp2_with (refine stq ?_;clear C;intro w F C)
 refine rg (⟨⟩:Pm [0,0,2,6,15,31,63,63,127,511] 8 [.h [0,1,2],.o 3,.o 4,.h [5,6,7],.o 8,.h [9]] []) ?_;intro w F C;go_wp2_with fail;refine(tR g.f w hf.1 hf.2).mono ?_;rintro e w ⟨rfl,hb⟩;replace F:=F.call hb;clear C hb;go_wp2_with fail;revert w;refine rc ?_;intro w F C;go_wp2_with fail;refine(rY (F.ins fun _ h=>h.2.1) hg (aK g.f)).mono ?_;rintro e w ⟨a1,c1,rfl,hs,hb⟩;replace F:=F.next hb hs;clear C hb hs;generalize removeD D (aK g.f)=r at *
 obtain⟨D1,e1⟩:=r;simp only[dv];go_wp2_with fail;revert w;refine rc ?_;intro w F C;by_cases he:e1=0
 ·subst he;have HV:=hid (HP.out.trans (if_neg (by simp)));clear HP C hf hg;refine fx fun C=>?_
  go_wp2_with (first
   | (at_builtin; refine ap3 aKV (ns := fs.dropLast.map rwf) (by rw [HDL.out.1]; exact HRF.out _ _ (List.length_map _) F.r.2.2.2.fr) (aHO _) (aJd _) (by rw [List.length_map, HDL.out.2]; omega) rfl rfl rfl rfl ?_
      intro v' w hO hb;obtain⟨na,nc,rfl⟩:∃a c,v' = .slice a j c:=by obtain⟨a,c,e⟩:=hO.shape;rw[List.length_map,HDL.out.2]at e;exact⟨a,c,e⟩
      replace F:=(F.call hb).put ((Fr.own F hO).imp fun u h=>bJ.gH h);have PH:=hid True.intro;clear C hb hO;refine fx fun C=>?_)
   | (have PH1:=PH;clear PH1;refine stq ?_;clear C;intro w F C))
  all_goals
   clear C;refine rg (⟨⟩:Pm [0,0,1,7,15] 4 [.h [0,1],.o 2,.o 3,.h [4]] [false,false,true,true,false]) ?_;intro w F C
   go_wp2_with (refine stq ?_;clear C;intro w F C)
   refine rt Tryz.results189 ?_;rw[HV.out];have hk1:(es.take kk).length=kk:=by rw[List.length_take];have:=HK.out;omega
   have hk2:kk<=es.length:=by have:=HK.out;omega
   first
   | exact⟨a1,c1,ya,yc,na,nc,el.take kk,by unfold dv lgv;simp only[hk1,HDL.out.2,(by omega:min safe kk=kk)];rfl,F.fin (fun _ h=>⟨h.2.1,h.2.2.2.2.cut h.1 HDL.out.2 hk2 HRE.out⟩),F.bel⟩
   | exact⟨a1,c1,ya,yc,na,nc,el.take kk,by unfold dv lgv;simp only[hk1,HDL.out.2,(by omega:min safe kk=safe)];rfl,F.fin (fun _ h=>⟨h.2.1,h.2.2.2.2.cut h.1 HDL.out.2 hk2 HRE.out⟩),F.bel⟩
 ·have HV:=hid (HP.out.trans (if_pos (by simpa using he)));clear HP HRF HRE HDL hf hg C;have he2:¬(e1:Int)=0:=by omega
  clear he;refine fx fun C=>?_;go_wp2_with fail;clear C;refine rg (⟨⟩:Pm [0,0,0,1,11,31] 8 [.h [0,1,2],.o 3,.o 4,.h [5]] [false,false,true,true,false]) ?_;intro w F C
  go_wp2_with (refine stq ?_;clear C;intro w F C)
  refine rt Tryz.results189 ?_;rw[HV.out];exact⟨_,_,_,_,_,_,_,rfl,F.fin (fun _ h=>⟨h.1,h.2.2.2⟩),F.bel⟩
end Go.Proofs.YtjdglpcnkiioeaaGreat
namespace Go.Proofs.Own
open Go.Lib (hid)
open Go.RowKit
def Fr.as {S:Nat->Prop}{w0 w:World}{L:Bx}{R:World->Prop}(_:Fr S w0 w L R)(u:World)(cs:List (List Value))(Z:World->Prop):Prop:=Fr S w0 u (List.zipWith (fun p c=>(p.1,c)) L cs) Z
def Fr.blk {S:Nat->Prop}{w0 w:World}{L:Bx}{R:World->Prop}(_:Fr S w0 w L R)(i:Nat):Nat:=(L.map (·.1)).getD i 0
def uO (b j:Nat)(w:World):Nat:=match w.cell? ⟨b,j,none⟩ with
 | some (.slice _ n _)=>n
 | _=>0
theorem Fr.uO {S:Nat->Prop}{w0 w:World}{L:Bx}{R:World->Prop}(F:Fr S w0 w L R)(i:Nat){b j n k:Nat}{a:Option Addr}{c:List Value}(hi:L[i]? = some (b,c))(hj:c[j]? = some (.slice a n k)):Own.uO b j w=n:=by
 unfold Own.uO;rw[((F.box i _ hi).2 j _ hj).1]
theorem Fr.vL {S:Nat->Prop}{w0 w:World}{L:Bx}{R Z:World->Prop}(F:Fr S w0 w L R)(h:∀v,R v->Z v):Fr S w0 w L Z:=⟨F.box,F.inj,F.rng,F.bel,F.saf.imp h,F.lim⟩
end Go.Proofs.Own
namespace Go.Proofs.YtjdglpcnkiioeaaGreat
open Go.Lib (hid)
open Go.RowKit Go.Maps Go.Proofs.Own
theorem LR.nil (b:Nat)(u:World):LR ⟨b,[],[],0⟩ [] none 0 none 0 u:=⟨rfl,⟨bJ.nil _ _,nofun⟩,bJ.nil _ _⟩
theorem vY {S:Nat->Prop}{w:World}{D:aA}{L:aQ}{a:Option Addr}{c:Nat}{ea fa:Option Addr}{ec fc:Nat}{el:bN}(h:In S w (fun u=>DR D a c u/\LR L el ea ec fa fc u))(hg:aY D)(hok:LOk L)(hs:D.steps+L.fs.length<=1000000000)(hf:L.fs.length<=1000000)(base:Nat) :
  Calls Tryz.prog 142 #[dv D a c,lgv L ea ec fa fc,.int .u64 base] w (QL S (bA D L base) w):=by
 have F:=h.fr;have HG:=hid hg;have HOK:=hid hok;have HS:=hid hs;have HF:=hid hf;unfold dv lgv;clear hg hok hs hf h;by_cases hb:H59<=base
 ·have HV:Hid (bA D L base=(D,L,2)):=hid (by unfold bA;rw[if_pos hb]);have hbi:(576460752303423488:Int)<=(base:Int):=by unfold H59 at hb;omega
  clear hb;go_enter Tryz.func142,Tryz.ntmps142;refine fx fun C=>?_
  go_wp2_with (refine stq ?_;clear C;intro w F C)
  clear C;refine rg (⟨⟩:Pm [0,0,1,7,15] 4 [.h [0,1],.o 2,.o 3,.h [4]] [false,false,true,true]) ?_;intro w F C
  go_wp2_with (refine stq ?_;clear C;intro w F C)
  refine rt Tryz.results142 ?_;rw[HV.out];exact⟨_,_,_,_,_,_,_,rfl,F.fin (fun _ h=>h),F.bel⟩
 ·have HR:Hid (bA D L base=resetF base L.fs.length D L):=hid (by unfold bA;rw[if_neg hb]);obtain⟨bz,hbz⟩:∃bz:Int,(base:Int)=bz:=⟨_,rfl⟩;have HBZ:=hid hbz;have hbi:¬(576460752303423488:Int)<=bz:=by unfold H59 at hb;omega
  rw[hbz];clear hb hbz;go_enter Tryz.func142,Tryz.ntmps142;refine fx fun C=>?_
  go_wp2_with (refine stq ?_;clear C;intro w F C)
  clear C;have F1:=F
  go_loopw [9] (fun _ wr=>∃(D':aA) (L':aQ) (a':Option Addr) (c':Nat) (ea':Option Addr) (ec':Nat) (fa':Option Addr) (fc':Nat) (el':bN),F1.as wr [[.int .i64 D'.room,.slice a' D'.files.length c',.bool D'.down,.int .i64 D'.armed,.int .u64 D'.steps],[.int .u64 L'.b,.slice ea' L'.es.length ec',.slice fa' L'.fs.length fc',.int .i64 L'.safe],[.int .i64 0,.slice none 0 0,.bool false,.int .i64 0,.int .u64 0],[.int .u64 0,.slice none 0 0,.slice none 0 0,.int .i64 0]] (fun v=>DR D' a' c' v/\LR L' el' ea' ec' fa' fc' v) /\
   resetF base L'.fs.length D' L'=resetF base L.fs.length D L/\aY D'/\LOk L'/\D'.steps+L'.fs.length<=1000000000/\L'.fs.length<=1000000) (fun _ wr=>Own.uO (F1.blk 1) 2 wr)
  case atStart=>exact⟨D,L,_,_,_,_,_,_,_,F,rfl,HG.out,HOK.out,HS.out,HF.out⟩
  case round =>
   rename World=>w
   obtain⟨D',L',a',c',ea',ec',fa',fc',el',F,hr,hg,hok,hs,hf⟩:=hrel;unfold Fr.as at F;simp only[List.zipWith]at F;have HRF:=hid hr;have HG':=hid hg;have HOK':=hid hok;have HS':=hid hs;have HF':=hid hf;have HLN:Hid (Own.uO (F1.blk 1) 2 w=L'.fs.length):=hid (F.uO 1 rfl rfl);clear hr hg hok hs hf;by_cases h0:L'.fs = []
   ·have z0:¬(0:Int)<(L'.fs.length:Int):=by rw[h0];simp
    have HFN:=hid h0;clear h0;refine fx fun C=>?_
    go_wp2_with (refine stq ?_;clear C;intro w F C)
    refine rt Tryz.results142 ?_;rw[HR.out,<- HRF.out,yD HFN.out];exact⟨a',c',none,0,none,0,[],by unfold dv lgv;rw[<- HBZ.out];rfl,F.fin (fun _ h=>⟨h.1,LR.nil _ _⟩),F.bel⟩
   ·have hn0:(0:Int)<(L'.fs.length:Int):=by have:=List.length_pos_iff.2 h0;omega
    obtain⟨g,hlast⟩:∃g,L'.fs.getLast? = some g:=⟨L'.fs.getLast h0,List.getLast?_eq_some_getLast h0⟩;have HNE:=hid h0;have HLA:=hid hlast;have hgm:=List.mem_of_getLast? hlast;have HGM:=hid hgm;clear h0 hlast hgm;refine fx fun C=>?_
    go_wp2_with (refine stq ?_;clear C;intro w F C)
    clear C;refine(aFV (F.ins fun _ h=>h) HG'.out HLA.out (HOK'.out.nm _ HGM.out) (HOK'.out.m HGM.out) HOK'.out.few (by have:=HF'.out;omega)).mono ?_;rintro e w ⟨a2,c2,ea2,ec2,fa2,fc2,el2,rfl,hs,hb⟩;replace F:=(F.next hb hs).vL fun _ h=>h.1;clear hs hb;have HG2:=hid (tQ L' HG'.out (by have:=HS'.out;have:=List.length_pos_iff.2 HNE.out;omega));have HK2:Hid (LOk (popW D' L').2.1):=hid HOK'.out.pop;have HS2:Hid ((popW D' L').2.2=0->(popW D' L').2.1.fs.length+1=L'.fs.length):=hid (vW D' L' HNE.out);have HR2:Hid ((popW D' L').2.2=0->resetF base L'.fs.length D' L'=resetF base (popW D' L').2.1.fs.length (popW D' L').1 (popW D' L').2.1):=hid (sD HNE.out);have HX2:Hid ((popW D' L').2.2≠0->resetF base L'.fs.length D' L'=popW D' L'):=hid (uW HNE.out);generalize popW D' L'=r at *
    obtain⟨D2,L2,k2⟩:=r;simp only[dv,lgv]at F ⊢;by_cases hk0:k2=0
    ·subst hk0;refine fx fun C=>?_
     go_wp2_with (refine stq ?_;clear C;intro w F C)
     clear C
     go_roundw
     case rel =>
      have h1:=HS2.out rfl;simp only at h1;exact⟨D2,L2,a2,c2,ea2,ec2,fa2,fc2,el2,F,(HR2.out rfl).symm.trans HRF.out,HG2.out.1,HK2.out,by have q:=HG2.out.2;simp only at q;have:=HS'.out;omega,by have:=HF'.out;omega⟩
     case measure =>
      have h1:=HS2.out rfl;simp only at h1;have h2:Own.uO (F1.blk 1) 2 w=L2.fs.length:=F.uO 1 (j:=2) rfl rfl;rw[HLN.out,h2];omega
    ·have hk1:¬(k2:Int)=0:=by omega
     have HK0:=hid hk0;clear hk0;refine fx fun C=>?_
     go_wp2_with (refine stq ?_;clear C;intro w F C)
     clear C;refine rg (⟨⟩:Pm [0,0,0,1,11,31] 8 [.h [0,1,2],.o 3,.o 4,.h [5]] [false,false,true,true]) ?_;intro w F C
     go_wp2_with (refine stq ?_;clear C;intro w F C)
     refine rt Tryz.results142 ?_;rw[HR.out,<- HRF.out,HX2.out HK0.out];exact⟨_,_,_,_,_,_,_,rfl,F.fin (fun _ h=>h),F.bel⟩
end Go.Proofs.YtjdglpcnkiioeaaGreat
namespace Go.Proofs.YtjdglpcnkiioeaaGreat
open Go.Lib (hid)
open Go.RowKit Go.Maps Go.Proofs.Own Go.Shelf

theorem yK (N:Nat):∀(n:Nat) (l:List Nat) (s:nI),s.g+l.length<=N->s.es.length<=s.g->(segF n l s).g<=N/\(segF n l s).es.length<=(segF n l s).g
 | 0,l,s,h1,h2=>⟨by show s.g<=N;omega,h2⟩
 | n+1,l,s,h1,h2=>by
  by_cases h0:s.f=0
  ·by_cases hg:tH l
   ·rw[tS h0 hg];have h3:=(fW hg.1).2.2;exact yK N n _ _ (by simp only;omega) (by simp only;omega)
   ·rw[jF (fun _=>hg) (fun h=>absurd h0 h)];exact⟨by omega,h2⟩
  ·by_cases hg:zP (s.f+s.es.length) l
   ·rw[tT h0 hg];have h3:=(fW hg.1).2.2;exact yK N n _ _ (by simp only;omega) (by simp only[List.length_append,List.length_cons,List.length_nil];omega)
   ·rw[jF (fun h=>absurd h h0) (fun _=>hg)];exact⟨by omega,h2⟩
theorem yL (b:List Nat):(cZ b).es.length<=b.length/\(cZ b).g<=b.length:=by
 have h:=yK b.length b.length b ⟨0,[],0⟩ (by simp) (by simp);unfold cZ;omega
theorem pX {v v':Value}{N:Nat}(h:v'.ownBlock=v.ownBlock\/v'.ownBlock=some N):∀b,v'.ownBlock=some b->v.ownBlock=some b\/N<=b:=fun b hb=>by
 rcases h with h|h
 ·exact .inl (h ▸ hb)
 ·rw[h]at hb;exact .inr (Nat.le_of_eq (Option.some.inj hb))
theorem aIX (a:Option Addr)(n m c:Nat):(Value.slice a n c).ownBlock=(Value.slice a m c).ownBlock:=by cases a<;>rfl
theorem tY (w:World)(x y z:Value)(t:TypeId):bJ (w.alloc (.cells #[x,y,z] t)) 3 (.slice (some ⟨w.heap.size,0,none⟩) 1 1) [[x,y,z]]:=by
 refine⟨_,_,rfl,Nat.le_refl _,fun j hj=>?_⟩;obtain rfl:j=0:=by simpa using hj
 refine⟨w.heap.size,0,rfl,by simp,fun i u hu=>?_⟩;have hu':[x,y,z][i]? = some u:=hu
 match i,hu' with
 | 0,e=>obtain rfl:=Option.some.inj e;go_cell
 | 1,e=>obtain rfl:=Option.some.inj e;go_cell
 | 2,e=>obtain rfl:=Option.some.inj e;go_cell
theorem bF.tF {w w':World}{lb db mb tb:Nat}{ev fv:Value}{el:bN}{D:aA}{L:aQ}(h:bF w lb db mb tb ev fv el D L)(hg:w.grownBy w' ev.ownBlock):w'.cell? ⟨lb,2,none⟩=some ev/\w'.frozen? ⟨lb,2,none⟩=false:=by
 have hk:=Kept.cJ hg;have hn:¬ev.ownBlock=some lb:=fun e=>(h.ne lb e).1 rfl;exact⟨hk.cell h.c2 hn,(hk.frozen (a:=⟨lb,2,none⟩) h.lt hn).trans (h.fz 2 (by decide) (by decide))⟩
theorem bF.tG {w w':World}{lb db mb tb:Nat}{ev fv:Value}{el:bN}{D:aA}{L:aQ}(h:bF w lb db mb tb ev fv el D L)(hg:w.grownBy w' fv.ownBlock):w'.cell? ⟨lb,3,none⟩=some fv/\w'.frozen? ⟨lb,3,none⟩=false:=by
 have hk:=Kept.cJ hg;have hn:¬fv.ownBlock=some lb:=fun e=>(h.nf lb e).1 rfl;exact⟨hk.cell h.c3 hn,(hk.frozen (a:=⟨lb,3,none⟩) h.lt hn).trans (h.fz 3 (by decide) (by decide))⟩
def aKD (lb db mb tb:Nat)(ev fv:Value)(D:aA)(r:Bool × aQ × Nat)(w:World):Ending->World->Prop:=fun E w' =>
 E = .returned (.tuple #[.bool r.1,.int .i64 r.2.2])/\aGA lb db mb tb ev fv w D r.2.1 w'

theorem aK7 {lb db mb tb:Nat}{ev fv bv:Value}{el:bN}{D:aA}{L:aQ}{w:World}{b:List Nat}(h:bF w lb db mb tb ev fv el D L)(hB:Bytes w bv b)(first:Nat)(last:Bool)(hf1:1<=first)(hf2:first<1152921504606846976)(hb:L.b<=1152921504606846976)(he:L.es.length+b.length<=2147483648)(hfl:L.fs.length<=1000000) :
  Calls Tryz.prog 125 #[.pointer (some ⟨lb,0,none⟩),.int .u64 first,bv,.bool last] w (aKD lb db mb tb ev fv D (dE L first b last) w):=by
 have HH:=hid h;have HB:=hid hB;obtain⟨ba,bc,rfl,_⟩:=hB.shape;obtain⟨fa,fc,rfl,_⟩:=h.rF;obtain⟨ea,ec,rfl,_⟩:=h.gA;obtain⟨f,hf⟩:∃f,(cZ b).f=f:=⟨_,rfl⟩;obtain⟨g,hg⟩:∃g,(cZ b).g=g:=⟨_,rfl⟩;obtain⟨ms,hms⟩:∃ms,(cZ b).es=ms:=⟨_,rfl⟩;have HMS:=hid hms;have hml:ms.length<=b.length:=by rw[<- hms];exact(yL b).1
 obtain⟨n,hn⟩:∃n,L.fs.length=n:=⟨_,rfl⟩;obtain⟨m,hm⟩:∃m,L.es.length=m:=⟨_,rfl⟩;obtain⟨bn,hbn⟩:∃bn,b.length=bn:=⟨_,rfl⟩;have HN:=hid hn;have HM:=hid hm;have HTW:Hid (dE L first b last=if f≠first/\last=true then (false,L,0) else if f≠first\/(last=false/\g≠bn)\/(L.fs ≠ []/\first≠L.last+1) then (true,L,20) else (true,⟨if L.fs = [] then first-1 else L.b,L.es++ms,L.fs ++ [⟨first,ms.length,g⟩],L.safe⟩,0)):=hid (by unfold dE;rw[hf,hg,hms,hbn]);have hfirst:(first:Int)<1152921504606846976:=by omega
 have hfirst1:(1:Int)<=(first:Int):=by omega
 have HLI:Hid ((L.last:Int)=(L.b:Int)+(m:Int)):=hid (by unfold aQ.last;rw[hm];omega);obtain⟨la,hla⟩:∃la,L.last=la:=⟨_,rfl⟩;have HLA:=hid hla;have hla1:(la:Int)<1152921506754330624+1:=by rw[<- hla,HLI.out];omega
 have HE:=hid he;have HFL:=hid hfl;rw[hn,hm]at HH ⊢;rw[hbn]at HB ⊢;have hbn':(bn:Int)<=2147483648:=by omega
 have HML:Hid (ms.length<=2147483648):=hid (by omega);have HML2:Hid (m+ms.length<=2147483648):=hid (by omega);have HLL:=hid (show (L.last:Int)<18446744073709551616 by rw[hla];omega);have c3:=HH.out.c3;clear h hB hb he hfl hn hm hms hml hf1 hf2 hla;go_enter Tryz.func125,Tryz.ntmps125;go_wp2_with fail;refine(aFD _ b w HB.out).mono ?_;rintro e w1 ⟨mv,ml,rfl,hown,hes,hdat,hat,hb1⟩;rw[hf,hg];have B1:=hid hb1;have L1:=hid (HH.out.below hb1);have OM:=hid hown;have HE1:Hid (ml.map (·.1)=ms):=hid (by rw[hes];exact HMS.out)
 have HD1:Hid (cA w1 (aZ db mb tb) ml):=hid (hdat.mono fun p _ b _ hb=>HH.out.dZ.lt3 b hb);have HLM:Hid (ml.length=ms.length):=hid (by rw[<- HE1.out,List.length_map]);have HAT:Hid (∀b,mv.ownBlock=some b->w.heap.size<=b):=hid hat;have S1:Hid (aX lb db mb tb w (.slice ea m ec) (.slice fa n fc) w1 (.slice ea m ec) (.slice fa n fc)):=hid (aX.below hb1);obtain⟨ma,mc,rfl,_⟩:=hown.shape;rw[aO,HLM.out]at OM ⊢;clear hown hes hdat hat hb1 hf hg hbn c3;have c3:=L1.out.c3;by_cases hff:f=first
 ·have bff:((f:Int) != (first:Int))=false:=by rw[hff];simp
  have HFF:=hid hff;clear hff;by_cases hlg:last=false/\g≠bn
  ·obtain⟨hl0,hg0⟩:=hlg;subst hl0;have bg:((g:Int) != (bn:Int))=true:=by simp;omega
   have HC:Hid (f≠first\/(false=false/\g≠bn)\/(L.fs ≠ []/\first≠L.last+1)):=hid (.inr (.inl ⟨rfl,hg0⟩));clear hg0;go_wp2_with fail
   go_ret2
   rw[HTW.out,if_neg (fun h=>h.1 HFF.out),if_pos HC.out];exact⟨rfl,_,_,_,L1.out,S1.out⟩
  ·have HLG:=hid hlg;have HS1:Hid (last=true\/(last=false/\((g:Int) != (bn:Int))=false)):=hid (by
    cases last with
    | true=>exact .inl rfl
    | false=>exact .inr ⟨rfl,by have:g=bn:=Classical.not_not.1 fun h=>hlg ⟨rfl,h⟩;rw[this];simp⟩)
   clear hlg;by_cases hn0:n=0
   ·have hfs:L.fs = []:=List.eq_nil_of_length_eq_zero (HN.out.trans hn0);have HFS:=hid hfs;have z0:(n:Int)=0:=by omega
    have HC:Hid (¬(f≠first\/(last=false/\g≠bn)\/(L.fs ≠ []/\first≠L.last+1))):=hid (fun h=>h.elim (fun e=>e HFF.out) fun h=>h.elim (fun e=>HLG.out e) fun h=>h.1 HFS.out);clear hn0 hfs;rcases HS1.out with rfl|⟨rfl,bg⟩
    all_goals
     obtain⟨pf,hpf⟩:∃pf:Nat,first-1=pf:=⟨_,rfl⟩
     have HPF:=hid hpf;have hpi:IntKind.u64.wrap (pf:Int)=(pf:Int):=by rw[wrap_u64];omega
     have hpj:(first:Int)-1=(pf:Int):=by omega
     have d1:=L1.out.c1;have f1:=L1.out.fz 1 (by decide) (by decide);clear hpf;obtain⟨kn,hkn⟩:∃kn,ms.length=kn:=⟨_,rfl⟩;have HKN:=hid hkn;rw[hkn]at OM ⊢;have BASE:=hid (L1.out.pE pf);have S2:Hid (aX lb db mb tb w (.slice ea m ec) (.slice fa n fc) (w1.setCell ⟨lb,1,none⟩ (.int .u64 (pf:Nat))) (.slice ea m ec) (.slice fa n fc)):=hid (S1.out.trans (aX.own (Kept.setCell w1 ⟨lb,1,none⟩ _)));have OM2:Hid (cM (w1.setCell ⟨lb,1,none⟩ (.int .u64 (pf:Nat))) 38 3 (.slice ma kn mc) (aN ml)):=hid (OM.out.kept (Kept.setCell w1 ⟨lb,1,none⟩ _) (fun b hb e=>by have:=HAT.out b ((aIX _ _ _ _).trans hb);have:=HH.out.lt;simp only at e;omega));have DM2:Hid (cA (w1.setCell ⟨lb,1,none⟩ (.int .u64 (pf:Nat))) (aZ db mb tb) ml):=hid (HD1.out.cR (Kept.setCell w1 ⟨lb,1,none⟩ _) L1.out.n8);have d2:=BASE.out.c2;have H32:Hid ((aN el).length+(aN ml).length<=4294967296):=hid (by rw[aO,aO,HLM.out,BASE.out.zO];have:=HML2.out;have:=HM.out;(try simp only);omega);have HBE:Hid (∀w2,World.grownBy (w1.setCell ⟨lb,1,none⟩ (.int .u64 (pf:Nat))) w2 (Value.slice ea m ec).ownBlock->cA w2 (aZ db mb tb) (el++ml)):=hid (fun w2 hg2=>(BASE.out.dat.cR (Kept.cJ hg2) (gB BASE.out.er)).app (DM2.out.cR (Kept.cJ hg2) (gB BASE.out.er)));clear hkn
     go_wp2_with (first
      | (at_builtin;refine dF nK _ _ rfl (.slice ea m ec) (.slice ma kn mc) (aN el) (aN ml) rfl rfl BASE.out.er OM2.out.qG (gP ml) DM2.out.lV (lQ DM2.out) wQ H32.out rfl ?_;intro v2 w2 ho2 hg2 ha2;obtain⟨a2,n2,c2,rfl⟩:=eT ho2;have G2:=hid (BASE.out.aDF (el':=el++ml) hg2 (by rw[gF];exact ho2) ha2 (HBE.out _ hg2));have A2:=hid ha2;have e2:=(BASE.out.tF hg2).1;have e3:=(BASE.out.tF hg2).2;have d3:=G2.out.1.c3;clear ho2 hg2 ha2)
      | (at_builtin;refine dF aBD _ _ rfl (.slice fa n fc) (.slice (some ⟨w2.heap.size,0,none⟩) 1 1) (L.fs.map cY) [cY ⟨first,kn,g⟩] rfl rfl (G2.out.1.fr.below ((Below.refl _ _).alloc (Nat.le_refl _) _)) (by have h:=tY (w2.setCell ⟨lb,2,none⟩ (.slice a2 n2 c2)) (.int .u64 first) (.int .i64 kn) (.int .i64 g) 188;have e:(w2.setCell ⟨lb,2,none⟩ (.slice a2 n2 c2)).heap.size=w2.heap.size:=(by simp);rw[e]at h;exact h) (by intro r hr;obtain rfl:=List.mem_singleton.1 hr;rfl) (by intro r hr u hu;obtain rfl:=List.mem_singleton.1 hr;simp only[cY,List.mem_cons,List.not_mem_nil,or_false]at hu;rcases hu with rfl|rfl|rfl<;>rfl) (by intro x hx;simp[cY]at hx) aBE (by rw[List.length_map];have:=HFL.out;simp only[List.length_cons,List.length_nil];omega) rfl ?_;intro v3 w3 ho3 hg3 ha3;obtain⟨a3,n3,c3',rfl⟩:=eT ho3;have LA:=(G2.out.1.below ((Below.refl (w2.setCell ⟨lb,2,none⟩ (.slice a2 n2 c2)).heap.size (w2.setCell ⟨lb,2,none⟩ (.slice a2 n2 c2))).alloc (Nat.le_refl _) (.cells #[.int .u64 first,.int .i64 kn,.int .i64 g] 188)));have G3:=hid (LA.aDG (fs:=L.fs ++ [⟨first,kn,g⟩]) hg3 (by rw[List.map_append];exact ho3) ha3);have A3:=hid ha3;have q2:=(LA.tG hg3).1;have q3:=(LA.tG hg3).2;clear ho3 hg3 ha3 LA))
     go_ret2
     rw[HTW.out,if_neg (fun h=>h.1 HFF.out),if_neg HC.out];have eL:(⟨pf,(el++ml).map (·.1),L.fs ++ [⟨first,kn,g⟩],L.safe⟩:aQ)=⟨if L.fs = [] then first-1 else L.b,L.es++ms,L.fs ++ [⟨first,ms.length,g⟩],L.safe⟩:=by
      have h1:el.map (·.1)=L.es:=BASE.out.es
      rw[if_pos HFS.out,HPF.out,HKN.out,List.map_append,HE1.out,h1]
     have hfin:=G3.out.1;have sE:aX lb db mb tb (w1.setCell ⟨lb,1,none⟩ (.int .u64 (pf:Nat))) (.slice ea m ec) (.slice fa n fc) (w2.setCell ⟨lb,2,none⟩ (.slice a2 n2 c2)) (.slice a2 n2 c2) (.slice fa n fc):=⟨G2.out.2,pX A2.out,fun b hb=>.inl hb⟩;have sA:aX lb db mb tb (w2.setCell ⟨lb,2,none⟩ (.slice a2 n2 c2)) (.slice a2 n2 c2) (.slice fa n fc) ((w2.setCell ⟨lb,2,none⟩ (.slice a2 n2 c2)).alloc (.cells #[.int .u64 first,.int .i64 kn,.int .i64 g] 188)) (.slice a2 n2 c2) (.slice fa n fc):=aX.below ((Below.refl _ _).alloc (Nat.le_refl _) _);have sF:aX lb db mb tb ((w2.setCell ⟨lb,2,none⟩ (.slice a2 n2 c2)).alloc (.cells #[.int .u64 first,.int .i64 kn,.int .i64 g] 188)) (.slice a2 n2 c2) (.slice fa n fc) (w3.setCell ⟨lb,3,none⟩ (.slice a3 n3 c3')) (.slice a2 n2 c2) (.slice a3 n3 c3'):=⟨G3.out.2,fun b hb=>.inl hb,pX A3.out⟩;have hL:bF (w3.setCell ⟨lb,3,none⟩ (.slice a3 n3 c3')) lb db mb tb (.slice a2 n2 c2) (.slice a3 n3 c3') (el++ml) D ⟨if L.fs = [] then first-1 else L.b,L.es++ms,L.fs ++ [⟨first,ms.length,g⟩],L.safe⟩:=by
      rw[<- eL];exact hfin
     exact⟨rfl,_,_,_,hL,S2.out.trans (sE.trans (sA.trans sF))⟩
   ·have hfs:L.fs ≠ []:=fun e=>hn0 (by rw[<- HN.out,e];rfl);have HFS:=hid hfs;have n0:(0:Int)<(n:Int):=by omega
    have n1:0<n:=by omega
    have bn0:((n:Int)==0)=false:=by simp;omega
    have la64:IntKind.u64.wrap ((la:Int)+1)=(la:Int)+1:=by rw[wrap_u64];omega
    clear hn0 hfs;by_cases hfl:first=la+1
    ·have bl:((first:Int) != (la:Int)+1)=false:=by rw[hfl];simp
     have HC:Hid (¬(f≠first\/(last=false/\g≠bn)\/(L.fs ≠ []/\first≠L.last+1))):=hid (fun h=>h.elim (fun e=>e HFF.out) fun h=>h.elim (fun e=>HLG.out e) fun h=>h.2 (by rw[HLA.out];exact hfl));clear hfl;rcases HS1.out with rfl|⟨rfl,bg⟩
     all_goals
      go_wp2_with fail;refine(nG L1.out HLL.out).mono ?_;rintro e u1 ⟨rfl,hu1⟩;rw[HLA.out];have LU:=hid (L1.out.below hu1);have OMU:=hid (OM.out.below hu1);have HDU:Hid (cA u1 (aZ db mb tb) ml):=hid (HD1.out.kept (Kept.aL hu1 (S:=fun _=>False) fun k h1 h2=>by omega) fun k e=>e.elim);have SU:Hid (aX lb db mb tb w (.slice ea m ec) (.slice fa n fc) u1 (.slice ea m ec) (.slice fa n fc)):=hid (S1.out.trans (aX.below hu1));have cu3:=LU.out.c3;clear hu1 c3;obtain⟨kn,hkn⟩:∃kn,ms.length=kn:=⟨_,rfl⟩;have HKN:=hid hkn;rw[hkn]at OMU ⊢;have BASE:=hid (LU.out);have S2:Hid (aX lb db mb tb w (.slice ea m ec) (.slice fa n fc) u1 (.slice ea m ec) (.slice fa n fc)):=hid (SU.out);have OM2:Hid (cM u1 38 3 (.slice ma kn mc) (aN ml)):=hid (OMU.out);have DM2:Hid (cA u1 (aZ db mb tb) ml):=hid (HDU.out);have d2:=BASE.out.c2;have H32:Hid ((aN el).length+(aN ml).length<=4294967296):=hid (by rw[aO,aO,HLM.out,BASE.out.zO];have:=HML2.out;have:=HM.out;(try simp only);omega);have HBE:Hid (∀w2,World.grownBy u1 w2 (Value.slice ea m ec).ownBlock->cA w2 (aZ db mb tb) (el++ml)):=hid (fun w2 hg2=>(BASE.out.dat.cR (Kept.cJ hg2) (gB BASE.out.er)).app (DM2.out.cR (Kept.cJ hg2) (gB BASE.out.er)));clear hkn
      go_wp2_with (first
       | (at_builtin;refine dF nK _ _ rfl (.slice ea m ec) (.slice ma kn mc) (aN el) (aN ml) rfl rfl BASE.out.er OM2.out.qG (gP ml) DM2.out.lV (lQ DM2.out) wQ H32.out rfl ?_;intro v2 w2 ho2 hg2 ha2;obtain⟨a2,n2,c2,rfl⟩:=eT ho2;have G2:=hid (BASE.out.aDF (el':=el++ml) hg2 (by rw[gF];exact ho2) ha2 (HBE.out _ hg2));have A2:=hid ha2;have e2:=(BASE.out.tF hg2).1;have e3:=(BASE.out.tF hg2).2;have d3:=G2.out.1.c3;clear ho2 hg2 ha2)
       | (at_builtin;refine dF aBD _ _ rfl (.slice fa n fc) (.slice (some ⟨w2.heap.size,0,none⟩) 1 1) (L.fs.map cY) [cY ⟨first,kn,g⟩] rfl rfl (G2.out.1.fr.below ((Below.refl _ _).alloc (Nat.le_refl _) _)) (by have h:=tY (w2.setCell ⟨lb,2,none⟩ (.slice a2 n2 c2)) (.int .u64 first) (.int .i64 kn) (.int .i64 g) 188;have e:(w2.setCell ⟨lb,2,none⟩ (.slice a2 n2 c2)).heap.size=w2.heap.size:=(by simp);rw[e]at h;exact h) (by intro r hr;obtain rfl:=List.mem_singleton.1 hr;rfl) (by intro r hr u hu;obtain rfl:=List.mem_singleton.1 hr;simp only[cY,List.mem_cons,List.not_mem_nil,or_false]at hu;rcases hu with rfl|rfl|rfl<;>rfl) (by intro x hx;simp[cY]at hx) aBE (by rw[List.length_map];have:=HFL.out;simp only[List.length_cons,List.length_nil];omega) rfl ?_;intro v3 w3 ho3 hg3 ha3;obtain⟨a3,n3,c3',rfl⟩:=eT ho3;have LA:=(G2.out.1.below ((Below.refl (w2.setCell ⟨lb,2,none⟩ (.slice a2 n2 c2)).heap.size (w2.setCell ⟨lb,2,none⟩ (.slice a2 n2 c2))).alloc (Nat.le_refl _) (.cells #[.int .u64 first,.int .i64 kn,.int .i64 g] 188)));have G3:=hid (LA.aDG (fs:=L.fs ++ [⟨first,kn,g⟩]) hg3 (by rw[List.map_append];exact ho3) ha3);have A3:=hid ha3;have q2:=(LA.tG hg3).1;have q3:=(LA.tG hg3).2;clear ho3 hg3 ha3 LA))
      go_ret2
      rw[HTW.out,if_neg (fun h=>h.1 HFF.out),if_neg HC.out];have eL:(⟨L.b,(el++ml).map (·.1),L.fs ++ [⟨first,kn,g⟩],L.safe⟩:aQ)=⟨if L.fs = [] then first-1 else L.b,L.es++ms,L.fs ++ [⟨first,ms.length,g⟩],L.safe⟩:=by
       have h1:el.map (·.1)=L.es:=BASE.out.es
       rw[if_neg HFS.out,HKN.out,List.map_append,HE1.out,h1]
      have hfin:=G3.out.1;have sE:aX lb db mb tb u1 (.slice ea m ec) (.slice fa n fc) (w2.setCell ⟨lb,2,none⟩ (.slice a2 n2 c2)) (.slice a2 n2 c2) (.slice fa n fc):=⟨G2.out.2,pX A2.out,fun b hb=>.inl hb⟩;have sA:aX lb db mb tb (w2.setCell ⟨lb,2,none⟩ (.slice a2 n2 c2)) (.slice a2 n2 c2) (.slice fa n fc) ((w2.setCell ⟨lb,2,none⟩ (.slice a2 n2 c2)).alloc (.cells #[.int .u64 first,.int .i64 kn,.int .i64 g] 188)) (.slice a2 n2 c2) (.slice fa n fc):=aX.below ((Below.refl _ _).alloc (Nat.le_refl _) _);have sF:aX lb db mb tb ((w2.setCell ⟨lb,2,none⟩ (.slice a2 n2 c2)).alloc (.cells #[.int .u64 first,.int .i64 kn,.int .i64 g] 188)) (.slice a2 n2 c2) (.slice fa n fc) (w3.setCell ⟨lb,3,none⟩ (.slice a3 n3 c3')) (.slice a2 n2 c2) (.slice a3 n3 c3'):=⟨G3.out.2,fun b hb=>.inl hb,pX A3.out⟩;have hL:bF (w3.setCell ⟨lb,3,none⟩ (.slice a3 n3 c3')) lb db mb tb (.slice a2 n2 c2) (.slice a3 n3 c3') (el++ml) D ⟨if L.fs = [] then first-1 else L.b,L.es++ms,L.fs ++ [⟨first,ms.length,g⟩],L.safe⟩:=by
       rw[<- eL];exact hfin
      exact⟨rfl,_,_,_,hL,S2.out.trans (sE.trans (sA.trans sF))⟩
    ·have bl:((first:Int) != (la:Int)+1)=true:=by simp;omega
     have HC:Hid (f≠first\/(last=false/\g≠bn)\/(L.fs ≠ []/\first≠L.last+1)):=hid (.inr (.inr ⟨HFS.out,by rw[HLA.out];exact hfl⟩));clear hfl;rcases HS1.out with rfl|⟨rfl,bg⟩
     ·go_wp2_with fail;refine(nG L1.out HLL.out).mono ?_;rintro e u1 ⟨rfl,hu1⟩;rw[HLA.out];have LU:=hid (L1.out.below hu1);have OMU:=hid (OM.out.below hu1);have HDU:Hid (cA u1 (aZ db mb tb) ml):=hid (HD1.out.kept (Kept.aL hu1 (S:=fun _=>False) fun k h1 h2=>by omega) fun k e=>e.elim);have SU:Hid (aX lb db mb tb w (.slice ea m ec) (.slice fa n fc) u1 (.slice ea m ec) (.slice fa n fc)):=hid (S1.out.trans (aX.below hu1));have cu3:=LU.out.c3;clear hu1 c3;go_wp2_with fail
      go_ret2
      rw[HTW.out,if_neg (fun h=>h.1 HFF.out),if_pos HC.out];exact⟨rfl,_,_,_,LU.out,SU.out⟩
     ·go_wp2_with fail;refine(nG L1.out HLL.out).mono ?_;rintro e u1 ⟨rfl,hu1⟩;rw[HLA.out];have LU:=hid (L1.out.below hu1);have OMU:=hid (OM.out.below hu1);have HDU:Hid (cA u1 (aZ db mb tb) ml):=hid (HD1.out.kept (Kept.aL hu1 (S:=fun _=>False) fun k h1 h2=>by omega) fun k e=>e.elim);have SU:Hid (aX lb db mb tb w (.slice ea m ec) (.slice fa n fc) u1 (.slice ea m ec) (.slice fa n fc)):=hid (S1.out.trans (aX.below hu1));have cu3:=LU.out.c3;clear hu1 c3;go_wp2_with fail
      go_ret2
      rw[HTW.out,if_neg (fun h=>h.1 HFF.out),if_pos HC.out];exact⟨rfl,_,_,_,LU.out,SU.out⟩
 ·have bff:((f:Int) != (first:Int))=true:=by simp;omega
  have HFF:=hid hff;clear hff;cases last with
  | true =>
   go_wp2_with fail
   go_ret2
   rw[HTW.out,if_pos ⟨HFF.out,by first|rfl|trivial⟩];exact⟨rfl,_,_,_,L1.out,S1.out⟩
  | false =>
   go_wp2_with fail
   go_ret2
   rw[HTW.out,if_neg (fun h=>by cases h.2),if_pos (.inl HFF.out)];exact⟨rfl,_,_,_,L1.out,S1.out⟩
