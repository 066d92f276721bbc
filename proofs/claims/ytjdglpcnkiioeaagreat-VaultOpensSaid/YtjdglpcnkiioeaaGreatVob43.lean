/- For vltopens_law_holds. -/
import Derived.Test.YtjdglpcnkiioeaaGreatVob41
import Derived.Test.YtjdglpcnkiioeaaGreatVob42
import Derived.Test.YtjdglpcnkiioeaaGreatVob38
set_option maxHeartbeats 16000000
set_option maxRecDepth 100000
namespace Go.Proofs.YtjdglpcnkiioeaaGreat
open Go.Lib (hid)
open Go.RowKit Go.Maps Go.Proofs.Own Go.Shelf

theorem pQ (l:List Nat):bB l<1152921504606846976:=by
 unfold bB;split
 ·rename_i h;cases e:hexF l.tail 0 with
  | none=>exact(by decide:(0:Nat)<1152921504606846976)
  | some n =>
   have h1:=vQ e;rw[List.length_tail,h.1]at h1;have:(16:Nat) ^ (16-1)=1152921504606846976:=by decide
   show n<_;omega
 ·decide
theorem iA (D:aA):dH D=(D.files.map (·.name)).filter isN:=by
 unfold dH jA;rw[List.filter_map];rfl
theorem aDt (db mb tb:Nat)(D:aA)(w:World)(h:aG w db mb tb D)(hw:DWf D) :
  Calls Tryz.prog 22 #[.pointer (some ⟨db,0,none⟩)] w fun e w'=>∃v base,e = .returned v/\w'.ownsRow base 9 1 v (D.files.map (·.name)).length ((D.files.map (·.name)).map Value.string)/\Below w.heap.size w w'/\w.heap.size<=base:=by
 have H:=hid h;have c0:=h.c0;obtain⟨vals,hm,_⟩:=h.fs;have HM:=hid hm;have HMX:Hid (Maps.size (dat vals D.files)<=maxLen/\Maps.size (dat vals D.files)*16<=140737488355328):=hid (by rw[mP];have:=hw.many;unfold maxLen;omega);clear h hm hw;go_enter Tryz.func22,Tryz.ntmps22;go_wp2_with fail;refine(aAf db mb tb D _ H.out).mono ?_;rintro e w1 ⟨rfl,rfl⟩;go_wp2_with fail;refine((Go.callsIn_wide (n:=5)).1 (Tryz.maps_Keys_71 (some mb) w)).mono ?_;rintro e w1 ⟨rfl,rfl⟩;go_wp2_with fail;refine((Go.callsIn_wide (n:=5)).1 (Tryz.slices_Sorted_keys_70_71 mb _ _ _ w HM.out HMX.out.1 HMX.out.2)).mono ?_;rintro e w2 ⟨v,ss,rfl,hS,hrow,hnil,hb⟩;have HS:=hid hS;have HR:=hid hrow;have HB:=hid hb;clear hS hrow hnil hb;go_wp2_with fail;go_ret;have hsn:=sN HM.out.rising HS.out;have hl:ss.length=(D.files.map (·.name)).length:=by rw[HS.out.length_eq];show ((D.files.map (ent vals)).map _).length=_;simp
 have hr:=HR.out;rw[hsn,hl]at hr;exact⟨v,_,rfl,hr,((Below.refl _ _).alloc (Nat.le_refl _) _).trans (HB.out.mono (by simp)),by simp⟩
structure mL (t:Nat)(L:aQ):Prop where
 ok:LOk L
 es:L.es.length<=2097152*t
 fs:L.fs.length<=t
theorem mL.take {t:Nat}{L:aQ}(h:mL t L)(ht:t+1<=1000){first:Nat}{b:List Nat}{last:Bool}(h1:1<=first)(h2:first<1152921504606846976)(hb:b.length<=2097152):mL (t+1) (dE L first b last).2.1:=by
 have hk:=h.ok;have he:=h.es;have hf:=h.fs;have hx:mL (t+1) L:=⟨hk,by omega,by omega⟩;have hfew:=yL b;unfold dE;split
 ·exact hx
 ·split
  ·exact hx
  ·refine⟨⟨fun f hf=>?_,?_,?_,?_,?_,fun f hf=>?_⟩,?_,?_⟩
   ·rcases List.mem_append.1 hf with hf|hf
    ·exact hk.nm f hf
    ·obtain rfl:=List.mem_singleton.1 hf;exact⟨h1,h2⟩
   ·show oW (L.fs ++ [_])<=(L.es++(cZ b).es).length;rw[mV,pV,List.length_append];have:=hk.sum;simp only;omega
   ·show (L.es++(cZ b).es).length<=_;rw[List.length_append];omega
   ·show (if L.fs = [] then first-1 else L.b)<=_;have:=hk.b;split<;>omega
   ·show L.safe<=(L.es++(cZ b).es).length;have:=hk.safe;rw[List.length_append];omega
   ·rcases List.mem_append.1 hf with hf|hf
    ·exact hk.size f hf
    ·obtain rfl:=List.mem_singleton.1 hf;show (cZ b).g<=_;omega
   ·show (L.es++(cZ b).es).length<=_;rw[List.length_append];omega
   ·show (L.fs ++ [_]).length<=_;simp only[List.length_append,List.length_cons,List.length_nil];omega
theorem mL.more {t:Nat}{L:aQ}(h:mL t L):mL (t+1) L:=⟨h.ok,by have:=h.es;omega,by have:=h.fs;omega⟩

theorem aCo {s:ByteArray}{r:List ByteArray}{D:aA}{L:aQ}(h:bI D s≠0):loadW (s::r) D L=(D,L,bI D s):=by
 show (if bI D s≠0 then _ else _)=_;rw[if_pos h]
theorem pT {s:ByteArray}{r:List ByteArray}{D:aA}{L:aQ}(h:¬bI D s≠0)(ht:(dE L (bB (aP s)) (cW D s).all (decide (r = []))).1=false) :
  loadW (s::r) D L=if (removeD D s).2≠0 then ((removeD D s).1,(dE L (bB (aP s)) (cW D s).all (decide (r = []))).2.1,(removeD D s).2) else loadW r (removeD D s).1 (dE L (bB (aP s)) (cW D s).all (decide (r = []))).2.1:=by
 show (if bI D s≠0 then _ else if _=false then _ else _)=_;rw[if_neg h,if_pos ht]
theorem pU {s:ByteArray}{r:List ByteArray}{D:aA}{L:aQ}(h:¬bI D s≠0)(ht:¬(dE L (bB (aP s)) (cW D s).all (decide (r = []))).1=false) :
  loadW (s::r) D L=if (dE L (bB (aP s)) (cW D s).all (decide (r = []))).2.2≠0 then (D,(dE L (bB (aP s)) (cW D s).all (decide (r = []))).2.1,(dE L (bB (aP s)) (cW D s).all (decide (r = []))).2.2) else loadW r D (dE L (bB (aP s)) (cW D s).all (decide (r = []))).2.1:=by
 show (if bI D s≠0 then _ else if _=false then _ else _)=_;rw[if_neg h,if_neg ht]

theorem aK6 {lb db mb tb:Nat}{ev fv:Value}{el:bN}{D:aA}{L:aQ}{w:World}(h:bF w lb db mb tb ev fv el D L)(hg:aY D)(hok:mL 0 L)(hst:D.steps+D.files.length<=1000000000) :
  Calls Tryz.prog 64 #[.pointer (some ⟨lb,0,none⟩)] w (gM lb db mb tb ev fv (loadW (dH D) D L) w):=by
 have HH:=hid h;have HG:=hid hg;have HOK:=hid hok;have HST:=hid hst;have c0:=h.c0;obtain⟨ns,hns⟩:∃ns,dH D=ns:=⟨_,rfl⟩;have HNS:=hid hns;have hnsf:(D.files.map (·.name)).filter isN=ns:=by rw[<- hns,iA]
 have hnl:ns.length<=D.files.length:=by rw[<- hnsf];exact Nat.le_trans (List.length_filter_le _ _) (by rw[List.length_map];exact Nat.le_refl _)
 have hfew:=hg.few;have HNF:=hid hnsf;have HNA:Hid (∀s ∈ ns,isN s=true):=hid (fun s hs=>by rw[<- hnsf]at hs;exact(List.mem_filter.1 hs).2);have HDL:Hid ((D.files.map (·.name)).length<=1000000):=hid (by rw[List.length_map];omega)
 have HSZ:Hid (∀s ∈ ns,s.size<=maxLen):=hid (fun s hs=>by
  rw[<- hnsf]at hs;obtain⟨f,hf,rfl⟩:=List.mem_map.1 (List.mem_filter.1 hs).1;exact Nat.le_trans (hg.wf.each f hf).1 (by decide))
 obtain⟨n,hn⟩:∃n,ns.length=n:=⟨_,rfl⟩;have HN:=hid hn;have hn128:(n:Int)<=128:=by omega
 have HN1:Hid (n<=128/\D.steps+n<=1000000000):=hid ⟨by omega,by omega⟩;rw[hns];clear h hg hok hst hns hnsf hnl hfew hn;go_enter Tryz.func64,Tryz.ntmps64;go_wp2_with fail;refine(aDt db mb tb D w HH.out.dZ HG.out.wf).mono ?_;rintro e w1 ⟨v1,base,rfl,hrow,hb1,hbase⟩;have HR:=hid hrow;have B1:=hid hb1;have HVB:Hid (∀b,v1.ownBlock=some b->w.heap.size<=b):=hid fun b hb=>Nat.le_trans hbase (World.ownsRow.lt hrow b hb).1;obtain⟨a1,m1,c1,rfl⟩:∃a n c,v1=Value.slice a n c:=by obtain⟨⟨a,c,e,_⟩,_⟩:=aCY hrow;exact⟨a,_,c,e⟩
 clear hrow hb1 hbase;go_wp2_with fail;refine(aIF HR.out HDL.out).mono ?_;rintro e w2 ⟨v2,rfl,hS2,hk2,ho2⟩;rw[HNF.out]at hS2;have S2:=hid hS2;have B2:Hid (Below w.heap.size w w2):=hid (B1.out.trans (hk2.below B1.out.size fun k e=>HVB.out k e));have L2:=hid (HH.out.below B2.out);have HVO:Hid (∀b,v2.ownBlock=some b -> ¬mE lb db mb tb ev fv b):=hid fun b hb hl=>by
  have h1:=HVB.out b (ho2 b hb);rcases hl with hl|hl|hl|hl
  ·have:=HH.out.lt;omega
  ·have:=HH.out.dZ.lt3 _ hl;omega
  ·have:=HH.out.er.lt _ hl;omega
  ·have:=HH.out.fr.lt _ hl;omega
 obtain⟨a2,c2,rfl,_⟩:=hS2;rw[HN.out]at S2 HVO ⊢;clear hk2 ho2 c0;go_wp2_with fail
 go_loopw [4,5,6,7,8,9,10,19] (fun _ _ _ _ _ _ _ x19 wr=>∃(t:Nat) (D':aA) (L':aQ),t<=n/\x19 = .int .i64 t/\loadW (ns.drop t) D' L'=loadW ns D L/\aGA lb db mb tb ev fv w2 D' L' wr/\aY D'/\D'.steps+(n-t:Nat)<=1000000000/\mL t L') (fun _ _ _ _ _ _ _ x19 _=>n-(intOf x19).toNat)
 case atStart=>exact⟨0,D,L,Nat.zero_le _,rfl,rfl,⟨ev,fv,el,L2.out,aX.refl _ _ _ _ _ _ _⟩,HG.out,by have:=HN1.out;omega,HOK.out⟩
 case round =>
  obtain⟨t,D',L',ht,rfl,hr,⟨ev',fv',el',hl,hs⟩,hg,hst,hld⟩:=hrel;have HLR:=hid hr;have HL:=hid hl;have HS:=hid hs;have HG':=hid hg;have HST':=hid hst;have HLD:=hid hld;clear hr hl hs hg hst hld;by_cases hlt:t<n
  ·have htn:t<ns.length:=by rw[HN.out];exact hlt
   have SR:=S2.out.kept HS.out.1 HVO.out;obtain⟨a',c',e',hc'⟩:=SR;obtain⟨rfl,_,rfl⟩:=Value.slice.inj e';obtain⟨b,o,rfl,hcell⟩:=hc' t htn;obtain⟨s,hs⟩:∃s,ns[t]=s:=⟨_,rfl⟩;rw[hs]at hcell;have hsm:s ∈ ns:=hs ▸ List.getElem_mem htn;have HDR:Hid (ns.drop t=s::ns.drop (t+1)):=hid (by rw[List.drop_eq_getElem_cons htn,hs]);obtain⟨f,hf⟩:∃f,bB (aP s)=f:=⟨_,rfl⟩;have HF:=hid hf;have HF1:Hid (1<=f/\f<1152921504606846976):=hid ⟨by
    have:=HNA.out s hsm;unfold isN at this;rw[decide_eq_true_iff,hf]at this;omega,by rw[<- hf];exact pQ _⟩
   have HSS:=hid (HSZ.out s hsm);obtain⟨lt,hlt'⟩:∃lt:Bool,decide (ns.drop (t+1) = [])=lt:=⟨_,rfl⟩;have HLT:=hid hlt';have hlb:((t:Int)==(n:Int)-1)=lt:=by
    rw[<- hlt',Bool.eq_iff_iff,beq_iff_eq,decide_eq_true_iff,List.drop_eq_nil_iff,HN.out];omega
   have hnw:IntKind.i64.wrap ((n:Int)-1)=(n:Int)-1:=by simp only[IntKind.wrap_i64];omega
   have t0:(0:Int)<=(t:Int):=by omega
   have t1:(t:Int)<(n:Int):=by omega
   have HT:Hid (t+1<=1000):=hid (by have:=HN1.out;omega);clear hs hsm hf hlt' hc' htn;go_wp2_with fail;refine(wZ s wr).mono ?_;rintro e u1 ⟨rfl,hu1⟩;rw[HF.out];obtain⟨bz,hbz⟩:∃bz:Bool,decide (f≠0)=bz:=⟨_,rfl⟩;rw[hbz];have U1:=hid hu1;have LU:=hid (HL.out.below hu1);have SU:Hid (aX lb db mb tb w2 ev fv u1 ev' fv'):=hid (HS.out.trans (aX.below hu1));have cu:=LU.out.c0;clear hu1 hbz hcell;by_cases hfe:bI D' s≠0
   ·obtain⟨k,hk⟩:∃k,bI D' s=k:=⟨_,rfl⟩;have HK:=hid hk;have HFE:=hid hfe;have hkb:((k:Int) != 0)=true:=by rw[hk]at hfe;simp;omega
    clear hfe;go_wp2_with fail;refine(kJ db mb tb D' s u1 LU.out.dZ HSS.out HFE.out).mono ?_;rintro e u2 ⟨rfl,hu2⟩;rw[hk];have LU2:=hid (LU.out.below hu2);have SU2:Hid (aX lb db mb tb w2 ev fv u2 ev' fv'):=hid (SU.out.trans (aX.below hu2));clear hu2 hk;go_wp2_with fail;go_ret;rw[<- HLR.out,HDR.out,aCo HFE.out];have SF:=(aX.below (lb:=lb) (db:=db) (mb:=mb) (tb:=tb) (ev:=ev) (fv:=fv) B2.out).trans SU2.out;exact⟨by rw[HK.out];rfl,_,_,_,LU2.out,SF.1,SF.2.1,SF.2.2⟩
   ·have HFE:=hid hfe;have hfe0:bI D' s=0:=Classical.not_not.1 hfe;obtain⟨hdn,fl,hfi⟩:=oR hfe0;have HGF:Hid (cW D' s=fl):=hid (by unfold cW;rw[hfi];rfl);have HDN:=hid hdn;have HFI:=hid hfi;clear hfe hfe0 hdn hfi;go_wp2_with fail;refine(kX db mb tb D' s fl u1 LU.out.dZ HDN.out HSS.out HFI.out).mono ?_;rintro e u2 ⟨bv,rfl,hB2,hu2⟩;have HB2:=hid hB2;have LU2:=hid (LU.out.below hu2);have SU2:Hid (aX lb db mb tb w2 ev fv u2 ev' fv'):=hid (SU.out.trans (aX.below hu2));obtain⟨ba,bc,rfl,_⟩:=hB2.shape;have HSM:Hid (fl.all.length<=2097152):=hid hB2.small;clear hB2 hu2;go_wp2_with fail;refine(aK7 LU2.out HB2.out f lt HF1.out.1 HF1.out.2 HLD.out.ok.b (by have:=HLD.out.es;have:=HSM.out;have:=HT.out;omega) (by have:=HLD.out.fs;have:=HT.out;omega)).mono ?_;rintro e u3 ⟨rfl,ev3,fv3,el3,hl3,hs3⟩;obtain⟨R,hR⟩:∃R,dE L' f fl.all lt=R:=⟨_,rfl⟩;have HRR:Hid (dE L' (bB (aP s)) (cW D' s).all (decide (ns.drop (t+1) = []))=R):=hid (by rw[HF.out,HGF.out,HLT.out];exact hR);rw[hR]at hl3 ⊢;obtain⟨is,L3,k3⟩:=R;simp only at hl3 ⊢;have HLK:Hid (mL (t+1) L3):=hid (by have h:=HLD.out.take HT.out (first:=f) (b:=fl.all) (last:=lt) HF1.out.1 HF1.out.2 HSM.out;rw[hR]at h;exact h);have LU3:=hid hl3;have SU3:=hid (SU2.out.trans hs3);have cu3:=LU3.out.c0;clear hl3 hs3 hR cu;cases is with
    | true =>
     by_cases hk0:k3=0
     ·have hkb:((k3:Int) != 0)=false:=by rw[hk0];rfl
      have HK0:=hid hk0;clear hk0;go_wp2_with fail
      go_roundw
      case rel =>
       refine⟨t+1,D',L3,by omega,by go_num,?_,⟨_,_,_,LU3.out,SU3.out⟩,HG'.out,by have:=HST'.out;omega,HLK.out⟩;rw[<- HLR.out,HDR.out,pU HFE.out (by rw[HRR.out];simp),HRR.out];rw[if_neg (fun h=>h HK0.out)]
      case measure=>simp[intOf];omega
     ·have hkb:((k3:Int) != 0)=true:=by simp;omega
      have HK0:=hid hk0;clear hk0;go_wp2_with fail;go_ret;rw[<- HLR.out,HDR.out,pU HFE.out (by rw[HRR.out];simp),HRR.out,if_pos HK0.out];have SF:=(aX.below (lb:=lb) (db:=db) (mb:=mb) (tb:=tb) (ev:=ev) (fv:=fv) B2.out).trans SU3.out;exact⟨rfl,_,_,_,LU3.out,SF.1,SF.2.1,SF.2.2⟩
    | false =>
     go_wp2_with fail;refine(jK db mb tb D' s u3 LU3.out.dZ HG'.out.wf HSS.out).mono ?_;rintro e u4 ⟨rfl,hd4,hk4⟩;have LU4:=hid (LU3.out.oQ hd4 hk4);have SU4:=hid (SU3.out.trans (aX.dZ hk4));have HG4:=hid (HG'.out.remove s (by have:=HST'.out;omega));obtain⟨k4,hk4'⟩:∃k,(removeD D' s).2=k:=⟨_,rfl⟩;have HK4:=hid hk4';rw[hk4'];clear hd4 hk4 hk4' cu3;by_cases hk0:k4=0
     ·have hkb:((k4:Int) != 0)=false:=by rw[hk0];rfl
      have HK0:Hid ((removeD D' s).2=0):=hid (HK4.out.trans hk0);clear hk0;go_wp2_with fail
      go_roundw
      case rel =>
       refine⟨t+1,(removeD D' s).1,L3,by omega,by go_num,?_,⟨_,_,_,LU4.out,SU4.out⟩,HG4.out.1,by have:=HST'.out;have:=HG4.out.2;omega,HLK.out⟩;rw[<- HLR.out,HDR.out,pT HFE.out (by rw[HRR.out]),HRR.out];rw[if_neg (fun h=>h HK0.out)]
      case measure=>simp[intOf];omega
     ·have hkb:((k4:Int) != 0)=true:=by simp;omega
      have HK0:Hid ((removeD D' s).2≠0):=hid (by rw[HK4.out];exact hk0);clear hk0;go_wp2_with fail;go_ret;rw[<- HLR.out,HDR.out,pT HFE.out (by rw[HRR.out]),HRR.out,if_pos HK0.out];have SF:=(aX.below (lb:=lb) (db:=db) (mb:=mb) (tb:=tb) (ev:=ev) (fv:=fv) B2.out).trans SU4.out;exact⟨by rw[HK4.out];rfl,_,_,_,LU4.out,SF.1,SF.2.1,SF.2.2⟩
  ·have htn:t=n:=by omega
   have HTN:Hid (ns.drop t = []):=hid (List.drop_eq_nil_iff.2 (by rw[HN.out];omega));have t1:¬(t:Int)<(n:Int):=by omega
   have tn:(t:Int)=(n:Int):=by omega
   clear htn;go_wp2_with fail;go_ret;rw[<- HLR.out,HTN.out];have SF:=(aX.below (lb:=lb) (db:=db) (mb:=mb) (tb:=tb) (ev:=ev) (fv:=fv) B2.out).trans HS.out;exact⟨rfl,_,_,_,HL.out,SF.1,SF.2.1,SF.2.2⟩
end Go.Proofs.YtjdglpcnkiioeaaGreat
namespace Go.Proofs.Own
open Go.RowKit
theorem Fr.first {S:Nat->Prop}{w0 w:World}{L:Bx}{R:World->Prop}(F:Fr S w0 w L R)(n:Nat):Fr S w0 w (L.take n) R:=by
 have key:∀(i:Nat) p,(L.take n)[i]? = some p->L[i]? = some p:=fun i p h=>by
  rw[List.getElem?_take]at h;split at h
  ·exact h
  ·cases h
 exact⟨fun i p h=>F.box i p (key i p h),fun i j p q h1 h2=>F.inj i j p q (key i p h1) (key j q h2),fun p h=>F.rng p (List.mem_of_mem_take h),F.bel,F.saf.sub fun k _ hk=>hk.imp id (fun hk=>by rw[List.map_take]at hk;exact List.mem_of_mem_take hk),F.lim⟩
def vD (S:Nat->Prop)(v:Value)(k:Nat):Prop:=S k\/v.ownBlock=some k
theorem Fr.app {S:Nat->Prop}{w0 w w':World}{L:Bx}{R:World->Prop}{v v':Value}(F:Fr (vD S v) w0 w L R)(hk:Kept w w' (fun k=>v.ownBlock=some k))(hn:∀b,v'.ownBlock=some b->v.ownBlock=some b\/w.heap.size<=b)(hl:∀b,v'.ownBlock=some b->b<w'.heap.size)
  (hv:∀b,v.ownBlock=some b->w0.heap.size<=b /\ ∀p ∈ L,p.1≠b):Fr (vD S v') w0 w' L R:=by
 refine⟨fun i p h=>(F.box i p h).kept hk fun e=>(hv _ e).2 p (List.mem_of_getElem? h) rfl,F.inj,fun p h=>⟨(F.rng p h).1,Nat.lt_of_lt_of_le (F.rng p h).2 hk.size⟩,F.bel.trans (hk.below F.bel.size fun k e=>(hv k e).1),fun u ku=>?_,fun k h=>h.elim (fun h=>Nat.lt_of_lt_of_le (F.lim k (.inl h)) hk.size) (hl k)⟩;refine F.saf u ⟨ku.os.trans hk.os,ku.tape.trans hk.tape,ku.output.trans hk.output,Nat.le_trans hk.size ku.size,fun i hi hs=>(ku.block i (Nat.lt_of_lt_of_le hi hk.size) fun hs'=>?_).trans (hk.block i hi fun e=>hs (.inl (.inr e)))⟩;rcases hs' with (h|h)|h
 ·exact hs (.inl (.inl h))
 ·rcases hn i h with e|e
  ·exact hs (.inl (.inr e))
  ·omega
 ·exact hs (.inr h)
end Go.Proofs.Own
namespace Go.Proofs.YtjdglpcnkiioeaaGreat
open Go.RowKit Go.Maps Go.Proofs.Own
def xF (L:aQ):Nat:=(L.fs.getLast?.map (·.s)).getD 0
def loadR (D:aA):List aJ->aQ->aA × aQ × Nat
 | [],L=>(D,L,0)
 | f::r,L=>if isW f=false then loadR D r L
  else if (dE L (bB (aP f.name)) f.all (decide (r = []))).1=false then ((removeD D f.name).1,L,(removeD D f.name).2)
  else if (dE L (bB (aP f.name)) f.all (decide (r = []))).2.2≠0 then (D,L,(dE L (bB (aP f.name)) f.all (decide (r = []))).2.2)
  else loadR D r (dE L (bB (aP f.name)) f.all (decide (r = []))).2.1
theorem aJi {L:aQ}{n:Nat}{b:List Nat}{l:Bool}(h:(dE L n b l).1=false):l=true/\(dE L n b l).2.1=L:=by
 unfold dE at h ⊢;split at h
 ·rename_i h1;rw[if_pos h1];exact⟨h1.2,rfl⟩
 ·split at h<;>cases h
theorem aH6 {L:aQ}{n:Nat}{b:List Nat}{l:Bool}(h:(dE L n b l).2.2≠0):(dE L n b l).2.1=L:=by
 unfold dE at h ⊢;split
 ·rfl
 ·split
  ·rfl
  ·rename_i h1 h2;rw[if_neg h1,if_neg h2]at h;exact absurd rfl h
theorem uQ {D:aA}(hd:D.down=false):∀(rs:List aJ) (L:aQ),(∀f ∈ rs,aE f.name D.files=some f)->(∀f,rs.getLast? = some f->isW f=true)->loadW ((rs.filter isW).map (·.name)) D L=loadR D rs L
 | [],L,_,_=>rfl
 | f::r,L,hf,hl=>by
  have ih:=fun L=>uQ hd r L (fun g hg=>hf g (.tail _ hg)) (fun g hg=>hl g (by cases r with|nil=>cases hg|cons x y=>simpa using hg));unfold loadR;by_cases hw:isW f=false
  ·rw[if_pos hw,List.filter_cons_of_neg (by rw[hw];decide)];exact ih L
  ·rw[if_neg hw,List.filter_cons_of_pos (by simpa using hw),List.map_cons];have hff:=hf f List.mem_cons_self;have he:bI D f.name=0:=by unfold bI;rw[hd,if_neg (by decide),hff];rfl
   have hg:cW D f.name=f:=by unfold cW;rw[hff];rfl
   have hr:decide ((r.filter isW).map (·.name) = [])=decide (r = []):=by
    cases r with
    | nil=>rfl
    | cons x y =>
     obtain⟨z,hz⟩:∃z,(x::y).getLast? = some z:=⟨(x::y).getLast (by simp),List.getLast?_eq_some_getLast (by simp)⟩;have h1:=hl z (by simpa using hz);have h2:z ∈ (x::y).filter isW:=List.mem_filter.2 ⟨List.mem_of_getLast? hz,h1⟩;have h3:((x::y).filter isW).map (·.name) ≠ []:=fun e=>by
      rw[List.map_eq_nil_iff.1 e]at h2;cases h2
     simp[h3]
   have hl0:loadW (f.name::(r.filter isW).map (·.name)) D L=_:=rfl
   by_cases ht:(dE L (bB (aP f.name)) f.all (decide (r = []))).1=false
   ·rw[pT (by rw[he];simp) (by rw[hg,hr];exact ht),hg,hr,if_pos ht];obtain⟨h1,h2⟩:=aJi ht;rw[h2];obtain rfl:=of_decide_eq_true h1;split
    ·rfl
    ·rename_i h3;simp only[ne_eq,Decidable.not_not]at h3;rw[h3];rfl
   ·rw[pU (by rw[he];simp) (by rw[hg,hr];exact ht),hg,hr,if_neg ht];split
    ·rename_i h1;rw[aH6 h1]
    ·exact ih _
end Go.Proofs.YtjdglpcnkiioeaaGreat
namespace Go.Proofs.Own
open Go Go.RowKit
def OwZ (S:Nat->Prop)(l:List Nat)(base:Nat)(e:TypeId)(sz:Nat)(v:Value)(rs:List (List Value))(Z:World->Prop)(u:World):Prop:=(Z u/\dU u base e sz v rs)/\Sf (ow (vD S v) l) u Z
def Fr.asO {S:Nat->Prop}{w0 w:World}{L:Bx}{R:World->Prop}(_:Fr S w0 w L R)(u:World)(cs:List (List Value))(l:List Nat)(base:Nat)(e:TypeId)(sz:Nat)(v:Value)(rs:List (List Value))(Z:World->Prop):Prop:=Fr S w0 u (List.zipWith (fun p c=>(p.1,c)) L cs) (OwZ S l base e sz v rs Z)
theorem Sf.sf {S T U:Nat->Prop}{w:World}{Z:World->Prop}(h:Sf T w Z)(hs:∀i,i<w.heap.size->S i->T i)(ht:∀i,U i->T i):Sf S w (fun u=>Sf U u Z):=fun _ ku _ ku'=>h _ ((ku.mono hs).trans (ku'.mono fun i _ h=>ht i h))
section
variable {S:Nat->Prop} {w0 w w':World} {L:Bx} {l:List Nat} {R Z:World->Prop} {v v':Value} {base sz:Nat} {e:TypeId} {rs rs':List (List Value)} (F:Fr S w0 w L R)
include F
theorem Fr.inO (hl:L.map (·.1)=l)(ho:dU w base e sz v rs)(hb:∀b,v.ownBlock=some b -> ¬ow S l b)(hz:Sf (ow (vD S v) l) w Z):Fr S w0 w L (OwZ S l base e sz v rs Z):=by
 subst hl;exact⟨F.box,F.inj,F.rng,F.bel,fun u ku=>⟨⟨hz u (ku.mono fun i _ h=>h.imp .inl id),ho.kept ku fun b h1 h2=>hb b h1 h2⟩,hz.to (ku.mono fun i _ h=>h.imp .inl id)⟩,F.lim⟩
theorem Fr.aLf (ho:dU w base e sz v rs):∀i,ow (vD S v) (L.map (·.1)) i->i<w.heap.size:=fun i hk=>hk.elim (fun h=>h.elim (F.lim i) fun h=>(ho.lt i h).2) fun h=>F.few i (.inr h)
theorem Fr.aLb (hl:L.map (·.1)=l)(ho:dU w base e sz v rs)(hz:Sf (ow (vD S v) l) w Z)(h0:w0.heap.size<=base)(hS:∀i,ow S l i->i<base)
  (hk:Kept w w' (fun i=>v.ownBlock=some i)) (hn:v'.ownBlock=v.ownBlock\/v'.ownBlock=some w.heap.size) (ho':dU w' base e sz v' rs'):Fr S w0 w' L (OwZ S l base e sz v' rs' Z):=by
 subst hl;have F1:Fr (vD S v) w0 w L Z:=⟨F.box,F.inj,F.rng,F.bel,hz,fun i h=>h.elim (F.lim i) fun h=>(ho.lt i h).2⟩;have F2:=F1.app hk (fun b hb=>hn.elim (fun e=>.inl (by rw[<- e];exact hb)) fun e=>.inr (by rw[e]at hb;exact Nat.le_of_eq (Option.some.inj hb))) (fun b hb=>(ho'.lt b hb).2) fun b hb=>⟨Nat.le_trans h0 (ho.lt b hb).1,fun p hp e=>by have:=hS p.1 (.inr (List.mem_map.2 ⟨p,hp,rfl⟩));have:=(ho.lt b hb).1;omega⟩;exact(show Fr S w0 w' L Z from⟨F2.box,F2.inj,F2.rng,F2.bel,F2.saf.sub fun i _ h=>h.imp .inl id,fun i h=>F2.lim i (.inl h)⟩).inO rfl ho' (fun b h1 h2=>by have:=hS b h2;have:=(ho'.lt b h1).1;omega) F2.saf
end
theorem Fr.boxes {S:Nat->Prop}{w0 w:World}{L:Bx}{R:World->Prop}(_:Fr S w0 w L R):∃l,L.map (·.1)=l:=⟨_,rfl⟩
end Go.Proofs.Own
namespace Go.Proofs.YtjdglpcnkiioeaaGreat
open Go.RowKit Go.Maps Go.Proofs.Own
theorem aFr {T U:Nat->Prop}{w:World}{base:Nat}{v:Value}{l:bN}(ho:dU w base 38 3 v (aN l))(hd:Sf T w (fun u=>Sf U u fun x=>cA x (fun _=>False) l))(h1:∀i,T i->i<base)(h2:∀i,U i->i<base):Sf T w (fun u=>Sf U u fun x=>jV x v l) :=
 fun u ku x kx=>⟨bJ.gH ((ho.kept ku fun b q1 q2=>by have:=(ho.lt b q1).1;have:=h1 b q2;omega).kept kx fun b q1 q2=>by have:=(ho.lt b q1).1;have:=h2 b q2;omega),hd u ku x kx⟩
theorem yX {m:Nat}(h:m<18446744073709551616):IntKind.u64.wrap (m:Int)=(m:Int):=by
 have h1:(2:Int) ^ IntKind.u64.bits=18446744073709551616:=by decide
 unfold IntKind.wrap;rw[h1,show IntKind.u64.signed=false from rfl];simp only[Bool.false_and,Bool.false_eq_true,if_false];omega
structure aE8 (L:List aJ)(k:Nat):Prop where
 le:k<=L.length
 no:∀j f,k<=j->L[j]? = some f->isW f=false
 last:∀f,(L.take k).getLast? = some f->isW f=true
def QF0 (S:Nat->Prop)(r:aA × aQ × Nat)(w:World):Ending->World->Prop:=fun e w'=>∃(a:Option Addr) (c:Nat) (ea:Option Addr) (ec:Nat) (fa:Option Addr) (fc:Nat) (el:bN) (z:Int),e = .returned (.tuple #[dv r.1 a c,lgv r.2.1 ea ec fa fc,.int .i64 z,.int .i64 r.2.2]) /\
 (r.2.2=0->z=(xF r.2.1:Int))/\Sf S w' (fun u=>DR r.1 a c u/\LR r.2.1 el ea ec fa fc u)/\Below w.heap.size w w'
def QFd (S:Nat->Prop)(D:aA)(w:World):Ending->World->Prop:=fun e w'=>∃k:Nat,aE8 D.files k/\QF0 S (loadR D (D.files.take k) ⟨0,[],[],0⟩) w e w'
theorem aDL {D:aA}{f:aJ}{r:List aJ}{L:aQ}(h:bB (aP f.name)=0):loadR D (f::r) L=loadR D r L:=by
 rw[loadR,if_pos (by unfold isW;rw[h];rfl)]
theorem aFL {D:aA}{f:aJ}{r:List aJ}{L:aQ}(h:¬bB (aP f.name)=0)(hr:r = [])(hf:(cZ f.all).f≠bB (aP f.name)):loadR D (f::r) L=((removeD D f.name).1,L,(removeD D f.name).2):=by
 have ht:dE L (bB (aP f.name)) f.all (decide (r = []))=(false,L,0):=by unfold dE;rw[if_pos ⟨hf,by rw[hr];rfl⟩]
 rw[loadR,if_neg (by unfold isW;simpa using h),ht,if_pos rfl]
theorem tL {D:aA}{f:aJ}{r:List aJ}{L:aQ}(h:¬bB (aP f.name)=0)(hf:¬((cZ f.all).f≠bB (aP f.name)/\r = []))
  (hb:(cZ f.all).f≠bB (aP f.name)\/(r ≠ []/\(cZ f.all).g≠f.all.length)\/(L.fs ≠ []/\bB (aP f.name)≠L.last+1)):loadR D (f::r) L=(D,L,20):=by
 have ht:dE L (bB (aP f.name)) f.all (decide (r = []))=(true,L,20):=by
  unfold dE;rw[if_neg (by simpa using hf),if_pos (by simpa using hb)]
 rw[loadR,if_neg (by unfold isW;simpa using h),ht,if_neg (by simp),if_pos (by simp)]
theorem aDM {D:aA}{f:aJ}{r:List aJ}{L:aQ}(h:¬bB (aP f.name)=0)(hf:(cZ f.all).f=bB (aP f.name))
  (hb:¬((r ≠ []/\(cZ f.all).g≠f.all.length)\/(L.fs ≠ []/\bB (aP f.name)≠L.last+1))):dE L (bB (aP f.name)) f.all (decide (r = []))=(true,⟨if L.fs = [] then bB (aP f.name)-1 else L.b,L.es++(cZ f.all).es,L.fs ++ [⟨bB (aP f.name),(cZ f.all).es.length,(cZ f.all).g⟩],L.safe⟩,0) /\
  loadR D (f::r) L=loadR D r ⟨if L.fs = [] then bB (aP f.name)-1 else L.b,L.es++(cZ f.all).es,L.fs ++ [⟨bB (aP f.name),(cZ f.all).es.length,(cZ f.all).g⟩],L.safe⟩:=by
 have ht:dE L (bB (aP f.name)) f.all (decide (r = []))=(true,⟨if L.fs = [] then bB (aP f.name)-1 else L.b,L.es++(cZ f.all).es,L.fs ++ [⟨bB (aP f.name),(cZ f.all).es.length,(cZ f.all).g⟩],L.safe⟩,0):=by
  unfold dE;rw[if_neg (fun q=>q.1 hf),if_neg (by simp only[hf,ne_eq,not_true_eq_false,false_or,decide_eq_false_iff_not];exact hb)]
 exact⟨ht,by rw[loadR,if_neg (by unfold isW;simpa using h),ht,if_neg (by simp),if_neg (by simp)]⟩
end Go.Proofs.YtjdglpcnkiioeaaGreat
namespace Go.Proofs.YtjdglpcnkiioeaaGreat
open Go.Lib (hid)
open Go.RowKit Go.Maps Go.Proofs.Own Go.Shelf

theorem tA {f:aJ}:∀ {L:List aJ},f ∈ L->f.all.length<=total L
 | g::r,h=>by
  have e:total (g::r)=g.all.length+total r:=rfl;rcases List.mem_cons.1 h with rfl|h
  ·omega
  ·have:=tA h;omega
theorem aDE {D:aA}(h:aY D)(n:ByteArray):(cW D n).all.length<=2097152:=by
 unfold cW;cases e:aE n D.files with
 | none=>simp
 | some f =>
  have h1:=tA (cK e).2;have h2:=h.tot;simp only[Option.getD_some];omega
theorem nQ:∀(ns:List ByteArray) (t:Nat) (D:aA) (L:aQ),mL t L->t+ns.length<=1000->aY D->D.steps+ns.length<=1000000000->(∀s ∈ ns,isN s=true) ->
  mL (t+ns.length) (loadW ns D L).2.1/\aY (loadW ns D L).1/\(loadW ns D L).1.steps<=D.steps+ns.length
 | [],t,D,L,h,_,hg,_,_=>⟨h,hg,by show D.steps<=D.steps+((0:Nat):Int);omega⟩
 | s::r,t,D,L,h,ht,hg,hs,hn=>by
  have hl:(s::r).length=r.length+1:=rfl;rw[hl]at ht hs;have h1:=hn s (List.mem_cons_self ..);have hf1:1<=bB (aP s):=by
   unfold isN at h1;rw[decide_eq_true_iff]at h1;omega
  have hr:∀x ∈ r,isN x=true:=fun x hx=>hn x (List.mem_cons_of_mem _ hx);have hT:=h.take (by omega) (first:=bB (aP s)) (b:=(cW D s).all) (last:=decide (r = [])) hf1 (pQ _) (aDE hg s);have up:∀ {L':aQ},mL (t+1) L'->mL (t+(s::r).length) L':=fun {L'} q=>⟨q.ok,by have:=q.es;rw[hl];omega,by have:=q.fs;rw[hl];omega⟩;have e1:t+(s::r).length=(t+1)+r.length:=by rw[hl];omega
  by_cases hfe:bI D s≠0
  ·rw[aCo hfe];exact⟨up h.more,hg,by simp only;rw[hl];omega⟩
  ·by_cases hd:(dE L (bB (aP s)) (cW D s).all (decide (r = []))).1=false
   ·rw[pT hfe hd];have g:=hg.remove s (by omega);split
    ·exact⟨up hT,g.1,by have:=g.2;simp only;rw[hl];omega⟩
    ·have ih:=nQ r (t+1) _ _ hT (by omega) g.1 (by have:=g.2;omega) hr;rw[e1];exact⟨ih.1,ih.2.1,by have:=g.2;have:=ih.2.2;rw[hl];omega⟩
   ·rw[pU hfe hd];split
    ·exact⟨up hT,hg,by simp only;rw[hl];omega⟩
    ·have ih:=nQ r (t+1) _ _ hT (by omega) hg (by omega) hr;rw[e1];exact⟨ih.1,ih.2.1,by have:=ih.2.2;rw[hl];omega⟩
theorem uZ {D:aA}(L:aQ)(h:aY D)(hs:D.steps+2<=1000000000):aY (bU D L).1/\(bU D L).1.steps<=D.steps+2:=by
 unfold bU;cases L.fs.getLast? with
 | none=>exact⟨h,by simp only;omega⟩
 | some f =>
  simp only;split
  ·exact⟨h,by simp only;omega⟩
  ·split
   ·have g:=h.cut (aK f.f) f.s (by omega);split
    ·exact⟨g.1,by have:=g.2;omega⟩
    ·have k:=g.1.sync (aK f.f) (by have:=g.2;omega);exact⟨k.1,by have:=g.2;have:=k.2;omega⟩
   ·have k:=h.sync (aK f.f) (by omega);exact⟨k.1,by have:=k.2;omega⟩
theorem aJo {lb db mb tb:Nat}{ev fv:Value}{el:bN}{D:aA}{L:aQ}{w:World}(h:bF w lb db mb tb ev fv el D L)(hg:aY D)(hst:D.steps+2<=1000000000)(hok:LOk L)(hs:L.fs.length<=1000000) :
  Calls Tryz.prog 65 #[.pointer (some ⟨lb,0,none⟩)] w (gM lb db mb tb ev fv ((bU D L).1,L,(bU D L).2) w):=by
 cases e:L.fs.getLast? with
 | none=>exact aDj h (List.getLast?_eq_none_iff.1 e)
 | some f =>
  have hsz:(f.s:Int)<=2097152:=by have:=hok.size f (List.mem_of_getLast? e);omega
  by_cases hfe:bI D (aK f.f)=0
  ·by_cases hlt:f.s<(cW D (aK f.f)).all.length
   ·exact aDh h hg hst hok.nm e hs hsz hfe hlt
   ·exact aBG h hg hst hok.nm e hs hsz hfe hlt
  ·exact aDi h hg hst hok.nm e hs hsz hfe
theorem tB (db mb tb:Nat)(D:aA)(n:ByteArray)(w:World)(h:aG w db mb tb D)(hn:n.size<=maxLen) :
  Calls Tryz.prog 23 #[.pointer (some ⟨db,0,none⟩),.string n] w fun e w'=>∃a m c,e = .returned (.tuple #[.slice a m c,.int .i64 (bI D n)])/\Below w.heap.size w w':=by
 by_cases hfe:bI D n=0
 ·obtain⟨hd,f,hf⟩:=oR hfe;refine(kX db mb tb D n f w h hd hn hf).mono ?_;rintro e w' ⟨v,rfl,hB,hb⟩;obtain⟨a,c,rfl,_⟩:=hB.shape;exact⟨a,_,c,by rw[hfe];rfl,hb⟩
 ·refine(kJ db mb tb D n w h hn hfe).mono ?_;rintro e w' ⟨rfl,hb⟩;exact⟨none,0,0,rfl,hb⟩
def aA4 (db mb tb:Nat)(r:aA × Option aQ × Nat)(w:World):Ending->World->Prop:=fun E w' =>
 aG w' db mb tb r.1/\Kept w w' (aZ db mb tb)/\(r.2.1=none->E = .returned (.tuple #[.pointer none,.int .i64 r.2.2])) /\
  ∀L,r.2.1=some L -> ∃lb ev fv el,E = .returned (.tuple #[.pointer (some ⟨lb,0,none⟩),.int .i64 r.2.2])/\bF w' lb db mb tb ev fv el r.1 L/\w.heap.size<=lb/\(∀b,ev.ownBlock=some b->w.heap.size<=b) /\ ∀b,fv.ownBlock=some b->w.heap.size<=b
theorem fY {lb db mb tb:Nat}{w w0 w':World}{ev fv:Value}(hb:Below w.heap.size w w0)(hl:w.heap.size<=lb)(hs:aX lb db mb tb w0 (.slice none 0 0) (.slice none 0 0) w' ev fv) :
  Kept w w' (aZ db mb tb)/\(∀b,ev.ownBlock=some b->w.heap.size<=b) /\ ∀b,fv.ownBlock=some b->w.heap.size<=b:=by
 refine⟨(Kept.aL hb (S:=fun _=>False) fun k h1 h2=>by omega).andThen hs.1 fun k hk h=>?_,fun b hb2=>?_,fun b hb2=>?_⟩
 ·rcases h with h|h|h|h|h
  ·exact h.elim
  ·omega
  ·exact h
  ·cases h
  ·cases h
 ·rcases hs.2.1 b hb2 with h|h
  ·cases h
  ·exact Nat.le_trans hb.size h
 ·rcases hs.2.2 b hb2 with h|h
  ·cases h
  ·exact Nat.le_trans hb.size h

theorem vF {db mb tb:Nat}{D:aA}{w:World}(h:aG w db mb tb D)(base:Nat)(he:D.down=true\/H59<=base) :
  Calls Tryz.prog 19 #[.pointer (some ⟨db,0,none⟩),.int .u64 base] w (aA4 db mb tb (dP D base) w):=by
 have HH:=hid h;clear h;by_cases hd:D.down=true
 ·have HR:Hid (dP D base=(D,none,50)):=hid (by unfold dP;rw[if_pos hd]);have HF:Hid (bI D ⟨#[]⟩=50):=hid (by unfold bI;rw[if_pos hd]);clear hd he;go_enter Tryz.func19,Tryz.ntmps19;go_wp2_with fail;refine(tB db mb tb D ⟨#[]⟩ w HH.out (by decide)).mono ?_;rintro e w1 ⟨a,m,c,rfl,hb⟩;rw[HF.out];have B1:=hid hb;clear hb;go_wp2_with fail
  go_ret2
  rw[HR.out];exact⟨HH.out.below B1.out,Kept.aL B1.out fun k h1 h2=>by omega,fun _=>rfl,nofun⟩
 ·have hb:=he.resolve_left hd;have HR:Hid (dP D base=(D,none,2)):=hid (by unfold dP;rw[if_neg hd,if_pos hb]);obtain⟨k,hk⟩:∃k,bI D ⟨#[]⟩=k:=⟨_,rfl⟩;have hk3:k≠1/\k≠50:=by
   rw[<- hk];unfold bI;rw[if_neg hd];split<;>decide
  have k1:((k:Int)==1)=false:=by simp;omega
  have k2:((k:Int)==50)=false:=by simp;omega
  obtain⟨bz,hbz⟩:∃bz:Int,(base:Int)=bz:=⟨_,rfl⟩;have hbi:(576460752303423488:Int)<=bz:=by unfold H59 at hb;omega
  rw[hbz];have HK:=hid hk;clear hd he hb hk hk3 hbz;go_enter Tryz.func19,Tryz.ntmps19;go_wp2_with fail;refine(tB db mb tb D ⟨#[]⟩ w HH.out (by decide)).mono ?_;rintro e w1 ⟨a,m,c,rfl,hb⟩;rw[HK.out];have B1:=hid hb;clear hb;go_wp2_with fail
  go_ret2
  rw[HR.out];exact⟨HH.out.below B1.out,Kept.aL B1.out fun k h1 h2=>by omega,fun _=>rfl,nofun⟩

theorem zD {db mb tb:Nat}{D:aA}{w:World}(h:aG w db mb tb D)(hg:aY D)(hst:D.steps+1000<=1000000000)(base:Nat)(hd:¬D.down=true)(hb:¬H59<=base) :
  Calls Tryz.prog 19 #[.pointer (some ⟨db,0,none⟩),.int .u64 base] w (aA4 db mb tb (dP D base) w):=by
 have HH:=hid h;have HG:=hid hg;have hfew:=hg.few;obtain⟨r1,hr1⟩:∃r,loadW (dH D) D ⟨0,[],[],0⟩=r:=⟨_,rfl⟩;have hlo:mL 0 ⟨0,[],[],0⟩:=⟨⟨nofun,by simp[oW],by simp,by simp,by simp,nofun⟩,by simp,by simp⟩;have HLO:=hid hlo;have hnl:(dH D).length<=128:=by
  rw[iA];refine Nat.le_trans (List.length_filter_le _ _) ?_;rw[List.length_map];exact hfew
 have hlk:=nQ (dH D) 0 D ⟨0,[],[],0⟩ hlo (by omega) hg (by omega) (fun s hs=>by rw[iA]at hs;exact(List.mem_filter.1 hs).2);rw[hr1]at hlk;obtain⟨D1,L1,k1⟩:=r1;have HOP:Hid (dP D base=if k1≠0 then (D1,none,k1) else xP D1 L1 base):=hid (by
  unfold dP;rw[if_neg hd,if_neg hb,hr1])
 have HR1:=hid hr1;have HLK:Hid (LOk L1/\L1.fs.length<=128/\aY D1/\D1.steps<=D.steps+128):=hid ⟨hlk.1.ok,by have:=hlk.1.fs;simp only at this;omega,hlk.2.1,by have:=hlk.2.2;simp only at this;omega⟩;have HST:=hid hst;obtain⟨k,hk⟩:∃k,bI D ⟨#[]⟩=k:=⟨_,rfl⟩;have hk3:k≠1/\k≠50:=by
  rw[<- hk];unfold bI;rw[if_neg hd];split<;>decide
 have q1:((k:Int)==1)=false:=beq_eq_false_iff_ne.2 (by omega);have q2:((k:Int)==50)=false:=beq_eq_false_iff_ne.2 (by omega);obtain⟨bz,hbz⟩:∃bz:Int,(base:Int)=bz:=⟨_,rfl⟩;have hbi:bz<576460752303423488:=by unfold H59 at hb;omega
 have HBZ:=hid hbz;rw[hbz];have HK:=hid hk;have HDF:Hid (D.steps+D.files.length<=1000000000):=hid (by omega);clear h hg hst hd hb hk hk3 hbz hfew hr1 hlo hnl hlk;go_enter Tryz.func19,Tryz.ntmps19;go_wp2_with fail;refine(tB db mb tb D ⟨#[]⟩ w HH.out (by decide)).mono ?_;rintro e w1 ⟨a,m,c,rfl,hb1⟩;rw[HK.out];have B1:=hid hb1;clear hb1;go_wp2_with fail;have LN:=hid (bF.new (HH.out.below B1.out));have B2:Hid (Below w.heap.size w (w1.alloc (.cells #[.pointer (some ⟨db,0,none⟩),.int .u64 0,.slice none 0 0,.slice none 0 0,.int .i64 0] 34))):=hid (B1.out.alloc B1.out.size _);have HLB:Hid (w.heap.size<=w1.heap.size):=hid B1.out.size;obtain⟨lb,hlb⟩:∃lb,w1.heap.size=lb:=⟨_,rfl⟩;rw[hlb]at LN HLB ⊢;generalize World.alloc w1 _=w2 at *
 clear hlb B1;refine(aK6 LN.out HG.out HLO.out HDF.out).mono ?_;rintro e w3 ⟨rfl,ev3,fv3,el3,hl3,hs3⟩;rw[HR1.out]at hl3 ⊢;simp only at hl3 ⊢;have L3:=hid hl3;have S3:Hid (aX lb db mb tb w2 (.slice none 0 0) (.slice none 0 0) w3 ev3 fv3):=hid hs3;clear hl3 hs3;by_cases hk1:k1=0
 ·have hkb:((k1:Int) != 0)=false:=by rw[hk1];rfl
  have HK1:=hid hk1;clear hk1;go_wp2_with fail;refine(aJo L3.out HLK.out.2.2.1 (by have:=HLK.out.2.2.2;have:=HST.out;omega) HLK.out.1 (by have:=HLK.out.2.1;omega)).mono ?_;rintro e w4 ⟨rfl,ev4,fv4,el4,hl4,hs4⟩;have HSG:=hid (uZ L1 HLK.out.2.2.1 (by have:=HLK.out.2.2.2;have:=HST.out;omega));have HOE:Hid (dP D base=if (bU D1 L1).2≠0 then ((bU D1 L1).1,none,(bU D1 L1).2) else gE (bU D1 L1).1 L1 base):=hid (by rw[HOP.out,if_neg fun h=>h HK1.out];rfl);have L4:=hid hl4;have S4:=hid (S3.out.trans hs4);simp only at L4 ⊢;clear hl4 hs4;generalize (bU D1 L1).1=D4 at *
  generalize (bU D1 L1).2=k4 at *
  by_cases hk4:k4=0
  ·have hkb4:((k4:Int) != 0)=false:=by rw[hk4];rfl
   have HK4:=hid hk4;clear hk4;have c3:=L4.out.c3;obtain⟨fa,fc,rfl,_⟩:=L4.out.rF;obtain⟨n,hn⟩:∃n,L1.fs.length=n:=⟨_,rfl⟩;have HN:=hid hn;rw[hn]at c3 L4 S4;clear hn;by_cases hn0:n=0
   ·have z0:(n:Int)=0:=by omega
    have HC:Hid (L1.fs = []\/L1.last<base):=hid (.inl (List.eq_nil_of_length_eq_zero (HN.out.trans hn0)));rw[hn0]at c3;clear hn0;go_wp2_with fail;have WR:=pL L4.out HSG.out.1 HLK.out.1 (by have:=HSG.out.2;have:=HLK.out.2.2.2;have:=HST.out;have:=HLK.out.2.1;omega) (by have:=HLK.out.2.1;omega) base;rw[HBZ.out]at WR;refine WR.mono ?_;clear WR;rintro e w6 ⟨rfl,ev6,fv6,el6,hl6,hs6⟩;have HCW:Hid (gE D4 L1 base=if (bA D4 L1 base).2.2≠0 then ((bA D4 L1 base).1,none,(bA D4 L1 base).2.2) else if base<(bA D4 L1 base).2.1.b then ((bA D4 L1 base).1,none,20) else ((bA D4 L1 base).1,some { (bA D4 L1 base).2.1 with safe:=(bA D4 L1 base).2.1.es.length },0)):=hid (by unfold gE;rw[if_pos HC.out]);have L6:=hid hl6;have S6:=hid (S4.out.trans hs6);clear hl6 hs6;generalize (bA D4 L1 base).1=D6 at *
    generalize (bA D4 L1 base).2.1=L6s at *
    generalize (bA D4 L1 base).2.2=k6 at *
    by_cases hk6:k6=0
    ·have hkb6:((k6:Int) != 0)=false:=by rw[hk6];rfl
     have HK6:=hid hk6;clear hk6;have cb:=L6.out.c1;obtain⟨bv,hbv⟩:∃bv:Int,(L6s.b:Int)=bv:=⟨_,rfl⟩;have HBV:=hid hbv;rw[hbv]at cb;clear hbv;obtain⟨ea,ec,rfl,_⟩:=L6.out.gA;have c2:=L6.out.c2;have c4:=L6.out.c4;have f4:=L6.out.fz 4 (by decide) (by decide);by_cases hbb:base<L6s.b
     ·have hbbi:decide (bz<bv)=true:=decide_eq_true (by have:=HBZ.out;have:=HBV.out;omega);have HBB:=hid hbb;clear hbb;go_wp2_with fail
      go_ret2
      rw[HOE.out,if_neg fun h=>h HK4.out,HCW.out,if_neg (fun h=>h HK6.out),if_pos HBB.out];have o:=fY B2.out HLB.out S6.out;exact⟨L6.out.dZ,o.1,fun _=>rfl,nofun⟩
     ·have hbbi:decide (bz<bv)=false:=decide_eq_false (by have:=HBZ.out;have:=HBV.out;omega);have HBB:=hid hbb;clear hbb;go_wp2_with fail
      go_ret2
      rw[HOE.out,if_neg fun h=>h HK4.out,HCW.out,if_neg (fun h=>h HK6.out),if_neg HBB.out];have hfin:=L6.out.eN L6s.es.length;have hS:=S6.out.trans (aX.own (Kept.setCell w6 ⟨lb,4,none⟩ (.int .i64 L6s.es.length)));have o:=fY B2.out HLB.out hS;refine⟨hfin.dZ,o.1,nofun,fun L hL=>?_⟩;obtain rfl:=Option.some.inj hL;exact⟨lb,_,_,_,rfl,hfin,HLB.out,o.2.1,o.2.2⟩
    ·have hkb6:((k6:Int) != 0)=true:=by simp;omega
     have HK6:=hid hk6;clear hk6;go_wp2_with fail
     go_ret2
     rw[HOE.out,if_neg fun h=>h HK4.out,HCW.out,if_pos HK6.out];have o:=fY B2.out HLB.out S6.out;exact⟨L6.out.dZ,o.1,fun _=>rfl,nofun⟩
   ·have n1:0<n:=by omega
    have bn0:((n:Int)==0)=false:=beq_eq_false_iff_ne.2 (by omega);have HNE:Hid (¬L1.fs = []):=hid (fun e=>hn0 (by rw[<- HN.out,e];rfl));clear hn0;have hla1:(L1.last:Int)<18446744073709551616:=by have:=HLK.out.1.last;omega
    have HLA:=hid hla1;obtain⟨la,hla⟩:∃la,L1.last=la:=⟨_,rfl⟩;have HLL:=hid hla;clear hla1 hla;go_wp2_with fail;refine(nG L4.out HLA.out).mono ?_;rintro e w5 ⟨rfl,hb5⟩;obtain⟨lz,hlz⟩:∃lz:Int,(la:Int)=lz:=⟨_,rfl⟩;have HLZ:=hid hlz;rw[HLL.out,hlz];clear hlz;have L5:=hid (L4.out.below hb5);have S5:=hid (S4.out.trans (aX.below hb5));clear hb5 c3;by_cases hlt:la<base
    ·have hlti:decide (lz<bz)=true:=decide_eq_true (by have:=HBZ.out;have:=HLZ.out;omega);have HC:Hid (L1.fs = []\/L1.last<base):=hid (.inr (by rw[HLL.out];exact hlt));clear hlt;go_wp2_with fail;have WR:=pL L5.out HSG.out.1 HLK.out.1 (by have:=HSG.out.2;have:=HLK.out.2.2.2;have:=HST.out;have:=HLK.out.2.1;omega) (by have:=HLK.out.2.1;omega) base;rw[HBZ.out]at WR;refine WR.mono ?_;clear WR;rintro e w6 ⟨rfl,ev6,fv6,el6,hl6,hs6⟩;have HCW:Hid (gE D4 L1 base=if (bA D4 L1 base).2.2≠0 then ((bA D4 L1 base).1,none,(bA D4 L1 base).2.2) else if base<(bA D4 L1 base).2.1.b then ((bA D4 L1 base).1,none,20) else ((bA D4 L1 base).1,some { (bA D4 L1 base).2.1 with safe:=(bA D4 L1 base).2.1.es.length },0)):=hid (by unfold gE;rw[if_pos HC.out]);have L6:=hid hl6;have S6:=hid (S5.out.trans hs6);clear hl6 hs6;generalize (bA D4 L1 base).1=D6 at *
     generalize (bA D4 L1 base).2.1=L6s at *
     generalize (bA D4 L1 base).2.2=k6 at *
     by_cases hk6:k6=0
     ·have hkb6:((k6:Int) != 0)=false:=by rw[hk6];rfl
      have HK6:=hid hk6;clear hk6;clear hlti n1 bn0;have cb:=L6.out.c1;obtain⟨bv,hbv⟩:∃bv:Int,(L6s.b:Int)=bv:=⟨_,rfl⟩;have HBV:=hid hbv;rw[hbv]at cb;clear hbv;obtain⟨ea,ec,rfl,_⟩:=L6.out.gA;have c2:=L6.out.c2;have c4:=L6.out.c4;have f4:=L6.out.fz 4 (by decide) (by decide);by_cases hbb:base<L6s.b
      ·have hbbi:decide (bz<bv)=true:=decide_eq_true (by have:=HBZ.out;have:=HBV.out;omega);have HBB:=hid hbb;clear hbb;go_wp2_with fail
       go_ret2
       rw[HOE.out,if_neg fun h=>h HK4.out,HCW.out,if_neg (fun h=>h HK6.out),if_pos HBB.out];have o:=fY B2.out HLB.out S6.out;exact⟨L6.out.dZ,o.1,fun _=>rfl,nofun⟩
      ·have hbbi:decide (bz<bv)=false:=decide_eq_false (by have:=HBZ.out;have:=HBV.out;omega);have HBB:=hid hbb;clear hbb;go_wp2_with fail
       go_ret2
       rw[HOE.out,if_neg fun h=>h HK4.out,HCW.out,if_neg (fun h=>h HK6.out),if_neg HBB.out];have hfin:=L6.out.eN L6s.es.length;have hS:=S6.out.trans (aX.own (Kept.setCell w6 ⟨lb,4,none⟩ (.int .i64 L6s.es.length)));have o:=fY B2.out HLB.out hS;refine⟨hfin.dZ,o.1,nofun,fun L hL=>?_⟩;obtain rfl:=Option.some.inj hL;exact⟨lb,_,_,_,rfl,hfin,HLB.out,o.2.1,o.2.2⟩
     ·have hkb6:((k6:Int) != 0)=true:=by simp;omega
      have HK6:=hid hk6;clear hk6;go_wp2_with fail
      go_ret2
      rw[HOE.out,if_neg fun h=>h HK4.out,HCW.out,if_pos HK6.out];have o:=fY B2.out HLB.out S6.out;exact⟨L6.out.dZ,o.1,fun _=>rfl,nofun⟩
    ·have hlti:decide (lz<bz)=false:=decide_eq_false (by have:=HBZ.out;have:=HLZ.out;omega);have HC:Hid (¬(L1.fs = []\/L1.last<base)):=hid (fun h=>h.elim HNE.out (fun q=>hlt (by rw[<- HLL.out];exact q)));have HCW:Hid (gE D4 L1 base=if base<L1.b then (D4,none,20) else (D4,some { L1 with safe:=L1.es.length },0)):=hid (by unfold gE;rw[if_neg HC.out];rfl);clear hlt;have cb:=L5.out.c1;obtain⟨bv,hbv⟩:∃bv:Int,(L1.b:Int)=bv:=⟨_,rfl⟩;have HBV:=hid hbv;rw[hbv]at cb;clear hbv;obtain⟨ea,ec,rfl,_⟩:=L5.out.gA;have c2:=L5.out.c2;have c4:=L5.out.c4;have f4:=L5.out.fz 4 (by decide) (by decide);by_cases hbb:base<L1.b
     ·have hbbi:decide (bz<bv)=true:=decide_eq_true (by have:=HBZ.out;have:=HBV.out;omega);have HBB:=hid hbb;clear hbb;go_wp2_with fail
      go_ret2
      rw[HOE.out,if_neg fun h=>h HK4.out,HCW.out,if_pos HBB.out];have o:=fY B2.out HLB.out S5.out;exact⟨L5.out.dZ,o.1,fun _=>rfl,nofun⟩
     ·have hbbi:decide (bz<bv)=false:=decide_eq_false (by have:=HBZ.out;have:=HBV.out;omega);have HBB:=hid hbb;clear hbb;go_wp2_with fail
      go_ret2
      rw[HOE.out,if_neg fun h=>h HK4.out,HCW.out,if_neg HBB.out];have hfin:=L5.out.eN L1.es.length;have hS:=S5.out.trans (aX.own (Kept.setCell w5 ⟨lb,4,none⟩ (.int .i64 L1.es.length)));have o:=fY B2.out HLB.out hS;refine⟨hfin.dZ,o.1,nofun,fun L hL=>?_⟩;obtain rfl:=Option.some.inj hL;exact⟨lb,_,_,_,rfl,hfin,HLB.out,o.2.1,o.2.2⟩
  ·have hkb4:((k4:Int) != 0)=true:=by simp;omega
   have HK4:=hid hk4;clear hk4;go_wp2_with fail
   go_ret2
   rw[HOE.out,if_pos HK4.out];have o:=fY B2.out HLB.out S4.out;exact⟨L4.out.dZ,o.1,fun _=>rfl,nofun⟩
 ·have hkb:((k1:Int) != 0)=true:=by simp;omega
  have HK1:=hid hk1;clear hk1;go_wp2_with fail
  go_ret2
  rw[HOP.out,if_pos HK1.out];have o:=fY B2.out HLB.out S3.out;exact⟨L3.out.dZ,o.1,fun _=>rfl,nofun⟩
end Go.Proofs.YtjdglpcnkiioeaaGreat
namespace Go.Proofs.YtjdglpcnkiioeaaGreat
open Go.RowKit Go.Maps Go.Proofs.Own

theorem aFF {c d:Nat}(h:jX c=some d):gZ d=c/\d<16:=by
 unfold jX at h;split at h
 ·obtain rfl:=Option.some.inj h;unfold gZ;rw[if_pos (by omega)];omega
 ·split at h
  ·obtain rfl:=Option.some.inj h;unfold gZ;rw[if_neg (by omega)];omega
  ·cases h
theorem aCe:∀(k:Nat) (l:List Nat)(n:Nat),l.length=k->hexF l 0=some n->hexs k n=l
 | 0,l,n,hl,_=>by obtain rfl:=List.length_eq_zero_iff.1 hl;rfl
 | k+1,l,n,hl,h=>by
  have hne:l ≠ []:=by intro e;subst e;cases hl
  rw[<- List.dropLast_concat_getLast hne]at h ⊢;rw[oV]at h;cases e:hexF l.dropLast 0 with
  | none=>rw[e]at h;cases h
  | some q =>
   rw[e]at h;change (match jX (l.getLast hne) with|none=>none|some d=>hexF [] (q*16+d))=some n at h;cases e2:jX (l.getLast hne) with
   | none=>rw[e2]at h;cases h
   | some d =>
    rw[e2]at h;obtain rfl:=Option.some.inj h;obtain⟨h1,h2⟩:=aFF e2;have ih:=aCe k l.dropLast q (by rw[List.length_dropLast,hl];rfl) e;show hexs k ((q*16+d) / 16) ++ [gZ ((q*16+d) % 16)]=_;rw[show (q*16+d) / 16=q by omega,show (q*16+d) % 16=d by omega,ih,h1]
theorem rB {s:ByteArray}(h:bB (aP s)≠0):aK (bB (aP s))=s:=by
 have hlt:=pQ (aP s);have h1:oY (bB (aP s))=aP s:=by
  rw[jO (by omega) hlt];unfold bB at h ⊢;split at h
  ·rename_i hc;rw[if_pos hc];cases e:aP s with
   | nil=>rw[e]at hc;cases hc.1
   | cons a t =>
    rw[e]at hc h;obtain⟨h1,h2⟩:=hc;obtain rfl:a=76:=h2;change ¬(hexF t 0).getD 0=0 at h;show 76::hexs 15 ((hexF t 0).getD 0)=76::t;cases e2:hexF t 0 with
    | none=>rw[e2]at h;exact absurd rfl h
    | some n=>rw[Option.getD_some,aCe 15 t n (by simpa using h1) e2]
  ·exact absurd rfl h
 unfold aK;rw[h1,aCX]
def aKx (D:aA)(L:aQ):Prop:=∀g ∈ L.fs,∃f ∈ D.files,f.name=aK g.f
theorem aCJ {D:aA}{n:ByteArray}{f:aJ}(h:f ∈ D.files)(hn:f.name≠n):f ∈ (removeD D n).1.files:=by
 unfold removeD;split
 ·split
  ·exact h
  ·split
   ·rw[bE];exact h
   ·exact jE.2 ⟨h,hn⟩
 ·exact h
theorem aC2 {L:aQ}{n:Nat}{b:List Nat}{l:Bool}:(dE L n b l).2.1.fs=L.fs \/ ∃m s,(dE L n b l).2.1.fs=L.fs ++ [⟨n,m,s⟩]:=by
 unfold dE;split
 ·exact .inl rfl
 ·split
  ·exact .inl rfl
  ·exact .inr ⟨_,_,rfl⟩
theorem tM {D:aA}:∀(rs:List aJ) (L:aQ),(∀f ∈ rs,f ∈ D.files)->rs.Pairwise (fun a b=>a.name≠b.name)->(∀g ∈ L.fs,∃f ∈ D.files,f.name=aK g.f /\ ∀r ∈ rs,r.name≠f.name)->aKx (loadR D rs L).1 (loadR D rs L).2.1
 | [],L,_,_,hL=>fun g hg=>let ⟨f,h1,h2,_⟩:=hL g hg;⟨f,h1,h2⟩
 | f::r,L,hf,hp,hL=>by
  have hp1:=List.pairwise_cons.1 hp;have hL2:∀g ∈ L.fs,∃f ∈ D.files,f.name=aK g.f /\ ∀x ∈ r,x.name≠f.name:=fun g hg=>let ⟨y,h1,h2,h3⟩:=hL g hg;⟨y,h1,h2,fun x hx=>h3 x (.tail _ hx)⟩;unfold loadR;split
  ·exact tM r L (fun x hx=>hf x (.tail _ hx)) hp1.2 hL2
  ·rename_i hw;have hn:bB (aP f.name)≠0:=by unfold isW at hw;simpa using hw
   split
   ·rename_i ht;intro g hg;obtain⟨y,h1,h2,h3⟩:=hL g hg;exact⟨y,aCJ h1 fun e=>h3 f List.mem_cons_self e.symm,h2⟩
   ·split
    ·intro g hg;obtain⟨y,h1,h2,h3⟩:=hL g hg;exact⟨y,h1,h2⟩
    ·refine tM r _ (fun x hx=>hf x (.tail _ hx)) hp1.2 ?_;rcases aC2 (L:=L) (n:=bB (aP f.name)) (b:=f.all) (l:=decide (r = [])) with e|⟨m,s,e⟩
     ·rw[e];exact hL2
     ·rw[e];intro g hg;rcases List.mem_append.1 hg with hg|hg
      ·exact hL2 g hg
      ·obtain rfl:=List.mem_singleton.1 hg;exact⟨f,hf f List.mem_cons_self,(rB hn).symm,fun x hx e=>hp1.1 x hx e.symm⟩

theorem aJj {D:aA}{kk:Nat}(ht:aE8 D.files kk):(D.files.take kk).filter isW=jA D:=by
 unfold jA;have h1:(D.files.drop kk).filter isW = []:=List.filter_eq_nil_iff.2 fun f hf=>by
  obtain⟨j,hj⟩:=List.getElem?_of_mem hf;rw[List.getElem?_drop]at hj;rw[ht.no (kk+j) f (by omega) hj];decide
 conv=>rhs;rw[<- List.take_append_drop kk D.files]
 rw[List.filter_append,h1,List.append_nil]
theorem aCp {L:List aJ}(hr:bQ L){f:aJ}(h:f ∈ L):aE f.name L=some f:=by
 obtain⟨A,B,e⟩:=List.append_of_mem h;rw[e]at hr ⊢;exact wV hr
theorem aBj {D:aA}:∀(rs:List aJ) (L:aQ),(loadR D rs L).1=D \/ ∃n,(loadR D rs L).1=(removeD D n).1
 | [],L=>.inl rfl
 | f::r,L=>by
  unfold loadR;split
  ·exact aBj r L
  ·split
   ·exact .inr ⟨_,rfl⟩
   ·split
    ·exact .inl rfl
    ·exact aBj r _
theorem aCI {D:aA}(n:ByteArray):(removeD D n).1.files=D.files\/(removeD D n).1.files=bH n D.files:=by
 unfold removeD;split
 ·split
  ·exact .inl rfl
  ·split
   ·exact .inl (bE D)
   ·exact .inr rfl
 ·exact .inl rfl
theorem aBv {D:aA}(h:Calm D)(n:ByteArray):Calm (removeD D n).1:=by
 unfold removeD;split
 ·rw[if_neg (by rw[h.1];decide),if_neg (by rw[h.2];decide)];exact h.step _
 ·exact h
def aE7 (L:aQ):Prop:=L.fs.Pairwise fun a b=>aK a.f≠aK b.f
theorem pS {D:aA}:∀(rs:List aJ) (L:aQ),rs.Pairwise (fun a b=>a.name≠b.name)->(∀g ∈ L.fs,∀r ∈ rs,r.name≠aK g.f)->aE7 L->aE7 (loadR D rs L).2.1
 | [],L,_,_,h=>h
 | f::r,L,hp,hL,h=>by
  have hp1:=List.pairwise_cons.1 hp;have hL2:∀g ∈ L.fs,∀x ∈ r,x.name≠aK g.f:=fun g hg x hx=>hL g hg x (.tail _ hx);unfold loadR;split
  ·exact pS r L hp1.2 hL2 h
  ·rename_i hw;have hn:bB (aP f.name)≠0:=by unfold isW at hw;simpa using hw
   split
   ·exact h
   ·split
    ·exact h
    ·rcases aC2 (L:=L) (n:=bB (aP f.name)) (b:=f.all) (l:=decide (r = [])) with e|⟨m,s,e⟩
     ·exact pS r _ hp1.2 (by rw[e];exact hL2) (by unfold aE7;rw[e];exact h)
     ·refine pS r _ hp1.2 ?_ ?_
      ·rw[e];intro g hg x hx;rcases List.mem_append.1 hg with hg|hg
       ·exact hL2 g hg x hx
       ·obtain rfl:=List.mem_singleton.1 hg;rw[rB hn];exact fun q=>hp1.1 x hx q.symm
      ·unfold aE7;rw[e];refine List.pairwise_append.2 ⟨h,List.pairwise_singleton _ _,fun a ha b hb=>?_⟩;obtain rfl:=List.mem_singleton.1 hb;rw[rB hn];exact(hL a ha f List.mem_cons_self).symm
structure oJ (D:aA)(L:aQ):Prop where
 calm:Calm D
 ris:bQ D.files
 b8:kE D.files
 has:aKx D L
 dis:aE7 L
theorem oJ.find {D:aA}{L:aQ}(h:oJ D L){g:WF}(hg:g ∈ L.fs):∃f,aE (aK g.f) D.files=some f:=by
 obtain⟨f,h1,h2⟩:=h.has g hg;exact⟨f,by rw[<- h2];exact aCp h.ris h1⟩
theorem rA {D:aA}(hg:aY D)(hc:Calm D)(hr:bQ D.files)(h8:kE D.files)(hst:D.steps+1000<=1000000000){kk:Nat}(ht:aE8 D.files kk) :
  loadR D (D.files.take kk) ⟨0,[],[],0⟩=loadW (dH D) D ⟨0,[],[],0⟩/\oJ (loadW (dH D) D ⟨0,[],[],0⟩).1 (loadW (dH D) D ⟨0,[],[],0⟩).2.1/\LOk (loadW (dH D) D ⟨0,[],[],0⟩).2.1/\(loadW (dH D) D ⟨0,[],[],0⟩).2.1.fs.length<=128 /\
   aY (loadW (dH D) D ⟨0,[],[],0⟩).1/\(loadW (dH D) D ⟨0,[],[],0⟩).1.steps<=D.steps+128:=by
 have hmem:∀f ∈ D.files.take kk,f ∈ D.files:=fun f hf=>List.mem_of_mem_take hf;have hp:(D.files.take kk).Pairwise (fun a b=>a.name≠b.name):=(List.Pairwise.sublist (List.take_sublist _ _) hr.apart).imp fun h e=>h e.symm;have e:loadR D (D.files.take kk) ⟨0,[],[],0⟩=loadW (dH D) D ⟨0,[],[],0⟩:=by
  rw[<- uQ hc.1 (D.files.take kk) ⟨0,[],[],0⟩ (fun f hf=>aCp hr (hmem f hf)) ht.last,aJj ht];rfl
 have hnl:(dH D).length<=128:=by
  rw[iA];refine Nat.le_trans (List.length_filter_le _ _) ?_;rw[List.length_map];exact hg.few
 have hlk:=nQ (dH D) 0 D ⟨0,[],[],0⟩ ⟨⟨nofun,by simp[oW],by simp,by simp,by simp,nofun⟩,by simp,by simp⟩ (by omega) hg (by omega) (fun s hs=>by rw[iA]at hs;exact(List.mem_filter.1 hs).2);refine⟨e,?_,hlk.1.ok,by have:=hlk.1.fs;omega,hlk.2.1,by have:=hlk.2.2;omega⟩;rw[<- e];have hh:=tM (D:=D) (D.files.take kk) ⟨0,[],[],0⟩ hmem hp nofun;have hd:=pS (D:=D) (D.files.take kk) ⟨0,[],[],0⟩ hp nofun List.Pairwise.nil;rcases aBj (D:=D) (D.files.take kk) ⟨0,[],[],0⟩ with q|⟨n,q⟩
 ·exact⟨by rw[q];exact hc,by rw[q];exact hr,by rw[q];exact h8,hh,hd⟩
 ·refine⟨by rw[q];exact aBv hc n,?_,by rw[q];exact h8.remove n,hh,hd⟩;rw[q];rcases aCI (D:=D) n with q|q<;>rw[q]
  ·exact hr
  ·exact hr.del n
theorem aHu {D:aA}{L:aQ}(h:oJ D L):(popW D L).2.2=0/\oJ (popW D L).1 (popW D L).2.1:=by
 unfold popW;cases e:L.fs.getLast? with
 | none=>exact⟨rfl,h⟩
 | some g =>
  obtain⟨f,hf⟩:=h.find (List.mem_of_getLast? e);obtain⟨r1,r2,r3⟩:=aCK h.calm hf;simp only[r1,ne_eq,not_true_eq_false,if_false,true_and];have hfs:L.fs=L.fs.dropLast ++ [g]:=by
   obtain⟨hne,hl⟩:=List.getLast?_eq_some_iff.1 e;rw[hl];simp
  have hd:=h.dis;unfold aE7 at hd;rw[hfs]at hd;have hd2:=List.pairwise_append.1 hd;refine⟨r2,by rw[r3];exact h.ris.del _,h.b8.remove _,fun g' hg'=>?_,hd2.1⟩;obtain⟨y,h1,h2⟩:=h.has g' (List.dropLast_subset _ hg');exact⟨y,by rw[r3];exact jE.2 ⟨h1,by rw[h2];exact hd2.2.2 g' hg' g (List.mem_singleton.2 rfl)⟩,h2⟩
theorem uV (base:Nat):∀(n:Nat) {D:aA} {L:aQ},oJ D L->L.fs.length<=n->(resetF base n D L).2=(⟨base,[],[],0⟩,0)/\oJ (resetF base n D L).1 ⟨base,[],[],0⟩
 | 0,D,L,h,_=>⟨rfl,h.calm,h.ris,h.b8,nofun,List.Pairwise.nil⟩
 | n+1,D,L,h,hn=>by
  unfold resetF;split
  ·exact⟨rfl,h.calm,h.ris,h.b8,nofun,List.Pairwise.nil⟩
  ·rename_i hne;obtain⟨h1,h2⟩:=aHu h;rw[if_neg (by rw[h1];decide)];exact uV base n h2 (by have:=vW D L hne h1;omega)
theorem nU {base:Nat}(hb:base<H59){D:aA}{L:aQ}(h:oJ D L):(bA D L base).2=(⟨base,[],[],0⟩,0)/\oJ (bA D L base).1 ⟨base,[],[],0⟩:=by
 unfold bA;rw[if_neg (by omega)];exact uV base _ h (Nat.le_refl _)
theorem aBu {D D':aA}{L:aQ}(h:oJ D L){f':aJ}(hf:D'.files=bL f' D.files)(hc:Calm D')(h8:kE D'.files):oJ D' L:=by
 refine⟨hc,by rw[hf];exact h.ris.put f',h8,fun g hg=>?_,h.dis⟩;obtain⟨y,h1,h2⟩:=h.has g hg;rw[hf];by_cases e:y.name=f'.name
 ·exact⟨f',kF.2 (.inl rfl),e.symm.trans h2⟩
 ·exact⟨y,kF.2 (.inr ⟨h1,e⟩),h2⟩
theorem xU {L:List aJ}(h:kE L){f':aJ}(hf:∀c ∈ f'.all,c<256):kE (bL f' L):=fun f q=>(kF.1 q).elim (fun e=>e ▸ hf) fun q=>h f q.1
theorem pG {D:aA}{L:aQ}(h:oJ D L){g:WF}(hg:L.fs.getLast? = some g){f:aJ}(hf:aE (aK g.f) D.files=some f) :
  (g.s<f.all.length->(cutD D (aK g.f) g.s).2=0/\(syncD (cutD D (aK g.f) g.s).1 (aK g.f)).2=0/\(bU D L)=syncD (cutD D (aK g.f) g.s).1 (aK g.f)) /\
   (¬g.s<f.all.length->(syncD D (aK g.f)).2=0/\bU D L=syncD D (aK g.f))/\(bU D L).2=0/\oJ (bU D L).1 L:=by
 have he:¬bI D (aK g.f)≠0:=by rw[aG2 h.calm.1 hf];decide
 have hgf:cW D (aK g.f)=f:=eI hf;have hset:bU D L=if g.s<f.all.length then (if (cutD D (aK g.f) g.s).2≠0 then cutD D (aK g.f) g.s else syncD (cutD D (aK g.f) g.s).1 (aK g.f)) else syncD D (aK g.f):=by
  unfold bU;rw[hg];simp only;rw[if_neg he,hgf]
 have h8:=h.b8 f (cK hf).2;by_cases hlt:g.s<f.all.length
 ·obtain⟨c1,c2,c3⟩:=aFg h.calm hf (k:=g.s) (by omega);have L1:oJ (cutD D (aK g.f) g.s).1 L:=aBu h c3 c2 (by rw[c3];exact xU h.b8 fun c hc=>h8 c (List.mem_of_mem_take hc));obtain⟨f2,hf2⟩:=L1.find (List.mem_of_getLast? hg);obtain⟨s1,s2,s3⟩:=yU L1.calm hf2;rw[hset,if_pos hlt,if_neg (by rw[c1];decide)];exact⟨fun _=>⟨c1,s1,rfl⟩,fun q=>absurd hlt q,s1,aBu L1 s3 s2 (by rw[s3];exact xU L1.b8 (L1.b8 f2 (cK hf2).2))⟩
 ·obtain⟨s1,s2,s3⟩:=yU h.calm hf;rw[hset,if_neg hlt];exact⟨fun q=>absurd q hlt,fun _=>⟨s1,rfl⟩,s1,aBu h s3 s2 (by rw[s3];exact xU h.b8 h8)⟩
def OW (D:aA)(base:Nat):aA × aQ × Nat:=((dP D base).1,(dP D base).2.1.getD ⟨0,[],[],0⟩,(dP D base).2.2)
theorem aA2 {D:aA}{base:Nat}(hd:D.down=false)(hb:H59<=base):OW D base=(D,⟨0,[],[],0⟩,2):=by
 unfold OW dP;rw[if_neg (by rw[hd];decide),if_pos hb];rfl
theorem aDl {D D1:aA}{L1:aQ}{k1 base:Nat}(hd:D.down=false)(hb:base<H59)(hl:loadW (dH D) D ⟨0,[],[],0⟩=(D1,L1,k1))(hk:k1≠0):OW D base=(D1,⟨0,[],[],0⟩,k1):=by
 unfold OW dP;rw[if_neg (by rw[hd];decide),if_neg (by omega),hl,if_pos hk];rfl
theorem oN {D D1 D4:aA}{L1:aQ}{base:Nat}(hd:D.down=false)(hb:base<H59)(hl:loadW (dH D) D ⟨0,[],[],0⟩=(D1,L1,0))(hs:bU D1 L1=(D4,0))(hf:oJ D4 L1)(h:L1.fs = []\/L1.last<base) :
  OW D base=((bA D4 L1 base).1,⟨base,[],[],0⟩,0)/\bA D4 L1 base=((bA D4 L1 base).1,⟨base,[],[],0⟩,0):=by
 obtain⟨hr,_⟩:=nU hb hf;have hr2:bA D4 L1 base=((bA D4 L1 base).1,⟨base,[],[],0⟩,0):=by rw[<- hr]
 refine⟨?_,hr2⟩;have ho:dP D base=((bA D4 L1 base).1,some ⟨base,[],[],0⟩,0):=by
  unfold dP;rw[if_neg (by rw[hd];decide),if_neg (by omega),hl,if_neg (by simp)];unfold xP;rw[hs,if_neg (by simp)];unfold gE;simp only[if_pos h];rw[hr2];simp
 unfold OW;rw[ho];rfl
theorem pM {D D1 D4:aA}{L1:aQ}{base:Nat}(hd:D.down=false)(hb:base<H59)(hl:loadW (dH D) D ⟨0,[],[],0⟩=(D1,L1,0))(hs:bU D1 L1=(D4,0))(h:¬(L1.fs = []\/L1.last<base)) :
  OW D base=if base<L1.b then (D4,⟨0,[],[],0⟩,20) else (D4,{ L1 with safe:=L1.es.length },0):=by
 have ho:dP D base=if base<L1.b then (D4,none,20) else (D4,some { L1 with safe:=L1.es.length },0):=by
  unfold dP;rw[if_neg (by rw[hd];decide),if_neg (by omega),hl,if_neg (by simp)];unfold xP;rw[hs,if_neg (by simp)];unfold gE;simp only[if_neg h];simp
 unfold OW;rw[ho];split<;>rfl
end Go.Proofs.YtjdglpcnkiioeaaGreat
namespace Go.Proofs.YtjdglpcnkiioeaaGreat
open Go.RowKit Go.Maps Go.Proofs.Own Go.Shelf

def qU (w:World)(S:Nat->Prop)(l:bN):Prop:=∀p ∈ l,Bytes w p.2 p.1.d/\p.1.fits/\(p.1.d ≠ [] -> ∀b,p.2.ownBlock=some b -> ¬S b)
theorem qU.kept {w w':World}{S T:Nat->Prop}{l:bN}(h:qU w S l)(hk:Kept w w' T)(hs:∀k,T k->S k):qU w' S l:=fun p hp =>
 let ⟨h1,h2,h3⟩:=h p hp
 ⟨h1.qY hk fun hne b hb ht=>h3 hne b hb (hs b ht),h2,h3⟩
theorem qU.loose {w:World}{S:Nat->Prop}{l:bN}(h:qU w S l):cA w (fun _=>False) l:=fun p hp=>⟨(h p hp).1,(h p hp).2.1,fun _ _ h=>h⟩
theorem cA.toN {w:World}{S:Nat->Prop}{l:bN}(h:cA w S l):qU w S l:=fun p hp=>⟨(h p hp).1,(h p hp).2.1,fun _=>(h p hp).2.2⟩
structure aA0 (w:World)(S:Nat->Prop)(mv:Value)(ml:bN):Prop where
 row:bJ w 3 mv (aN ml)
 dat:qU w S ml
 apart:ml = [] \/ ∀b,mv.ownBlock=some b -> ¬S b
theorem aA0.kept {w w':World}{S:Nat->Prop}{mv:Value}{ml:bN}(h:aA0 w S mv ml)(hk:Kept w w' S):aA0 w' S mv ml :=
 ⟨h.row.kept hk (h.apart.imp (fun e=>by rw[e];rfl) id),h.dat.kept hk fun _ h=>h,h.apart⟩
theorem aA0.loose {w:World}{S:Nat->Prop}{mv:Value}{ml:bN}(h:aA0 w S mv ml):cA w (fun _=>False) ml:=h.dat.loose

theorem zC {fs:List WF}{m:Nat}{f f':WF}{i:Nat}{x:Int}(hm:m<(fs.map cY).length)(hf:fs[m]? = some f)(hr:cY f'=(cY f).set i (.int .i64 x)):(fs.set m f').map cY=(fs.map cY).set m (((fs.map cY)[m]'hm).set i (.int .i64 x)):=by
 have h1:m<fs.length:=(List.getElem?_eq_some_iff.1 hf).1;have h2:fs[m]=f:=(List.getElem?_eq_some_iff.1 hf).2;rw[List.map_set,List.getElem_map,h2,hr]
theorem aHS {fs:List WF}{m:Nat}(hm:fs.length=m+1)(f:WF):fs.set m f=fs.dropLast ++ [f]:=by
 have hne:fs ≠ []:=fun e=>by rw[e]at hm;cases hm
 conv=>lhs;rw[<- List.dropLast_concat_getLast hne]
 have hl:fs.dropLast.length=m:=by rw[List.length_dropLast,hm];rfl
 rw[List.set_append_right _ _ (by omega),hl,Nat.sub_self];rfl
theorem bF.aJf {w:World}{lb db mb tb g k c m:Nat}{ev:Value}{el:bN}{D:aA}{L:aQ}{f:WF}(h:bF w lb db mb tb ev (.slice (some ⟨g,0,none⟩) k c) el D L)(hf:L.fs.getLast? = some f)(hm:L.fs.length=m+1)(a b:Nat) :
  bF ((w.setCell ⟨g,m*3+1,none⟩ (.int .i64 a)).setCell ⟨g,m*3+2,none⟩ (.int .i64 b)) lb db mb tb ev (.slice (some ⟨g,0,none⟩) k c) el D { L with fs:=L.fs.dropLast ++ [⟨f.f,a,b⟩] }:=by
 have hfm:L.fs[m]? = some f:=by rw[List.getLast?_eq_getElem?,hm]at hf;exact hf
 have h1:=h.aE0 (k:=m) (i:=1) (q:=.i64) (x:=a) (by omega) (by decide) (by decide) (fs:=L.fs.set m ⟨f.f,a,f.s⟩) (zC (by rw[List.length_map];omega) hfm rfl);have hfm2:(L.fs.set m ⟨f.f,a,f.s⟩)[m]? = some ⟨f.f,a,f.s⟩:=by rw[List.getElem?_set_self (by omega)]
 have h2:=h1.aE0 (k:=m) (i:=2) (q:=.i64) (x:=b) (by simp only[List.length_set];omega) (by decide) (by decide) (fs:=(L.fs.set m ⟨f.f,a,f.s⟩).set m ⟨f.f,a,b⟩) (zC (by rw[List.length_map,List.length_set];omega) hfm2 rfl);rw[List.set_set,aHS hm ⟨f.f,a,b⟩]at h2;exact h2

