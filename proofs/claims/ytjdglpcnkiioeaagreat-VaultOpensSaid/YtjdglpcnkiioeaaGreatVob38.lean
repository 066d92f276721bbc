/- For vltopens_law_holds. -/
import Derived.Test.YtjdglpcnkiioeaaGreatVob37
set_option maxHeartbeats 16000000
set_option maxRecDepth 100000
namespace Go.Proofs.YtjdglpcnkiioeaaGreat
open Go.Lib (hid)
open Go.RowKit Go.Maps Go.Proofs.Own

theorem kE.remove {D:aA}(h:kE D.files)(n:ByteArray):kE (removeD D n).1.files:=by
 unfold removeD;split
 ·split
  ·exact h
  ·split
   ·simp only[bE];exact h
   ·exact fun f hf=>h f (jE.1 hf).1
 ·exact h
theorem aKd {S:Nat->Prop}{w:World}{D:aA}{a:Option Addr}{c:Nat}(h:In S w (DR D a c))(hg:aY D)(hd:D.down=false)(n:ByteArray):Calls Tryz.prog 182 #[dv D a c,.string n] w (QD S (dM D n) w):=by
 have F:=h.fr;have hf:=hg.aBt.2.2;obtain⟨room,L,down,armed,steps⟩:=D;obtain rfl:down=false:=hd;unfold dv;go_enter Tryz.func182,Tryz.ntmps182;go_wp2_with fail;refine stq ?_;intro w F C;clear C;refine(lD (F.ins fun _ h=>h) n hf).mono ?_;rintro e w ⟨rfl,hb⟩;replace F:=F.call hb;cases e:aE n L with
 | none =>
  have HV:Hid (dM ⟨room,L,false,armed,steps⟩ n=(⟨room,L,false,armed,steps⟩,0)):=hid (by unfold dM;rw[yA (D:=⟨room,L,false,armed,steps⟩) rfl e];rfl);rw[fR.2 e];exact ed Tryz.results182
 | some f =>
  have HV:Hid (dM ⟨room,L,false,armed,steps⟩ n=removeD ⟨room,L,false,armed,steps⟩ n):=hid (by
   unfold dM;rw[yB (D:=⟨room,L,false,armed,steps⟩) rfl e];split<;>simp)
  obtain⟨i,hI,_⟩:=eR e;have i0:¬(i:Int)<0:=by omega
  rw[hI];refine fx fun C=>?_;go_wp2_with fail;refine(rY (F.ins fun _ h=>h) hg n).mono ?_;rintro e w ⟨a1,c1,rfl,hs,hb⟩;replace F:=F.next hb hs;generalize removeD ⟨room,L,false,armed,steps⟩ n=r at *
  simp only[dv];exact ed Tryz.results182
def QV (S:Nat->Prop)(p:aA × lN)(w:World):Ending->World->Prop:=fun e w'=>∃a c,e = .returned (.tuple #[dv p.1 a c,.agg #[.int .u64 p.2.t,.int .i64 p.2.v],.int .i64 0])/\Sf S w' (DR p.1 a c)/\Below w.heap.size w w'
theorem aI6 {S:Nat->Prop}{w:World}{D:aA}{a:Option Addr}{c:Nat}(h:In S w (DR D a c))(hg:aY D)(hc:Calm D)(hst:D.steps+3<=1000000000)(hb8:kE D.files):Calls Tryz.prog 139 #[dv D a c] w (QV S ((aT D).1,cO D) w):=by
 have F:=h.fr;have GC:=aAn hc;have GG:=pI fH hg (by omega);have GB:kE (dM D fH).1.files:=kE.remove hb8 fH;obtain⟨room,L,down,armed,steps⟩:=D;obtain⟨rfl,rfl⟩:down=false/\armed = -1:=hc;have HOP:Hid (aT ⟨room,L,false,-1,steps⟩=dI (dM ⟨room,L,false,-1,steps⟩ fH).1/\cO ⟨room,L,false,-1,steps⟩=gC (dM ⟨room,L,false,-1,steps⟩ fH).1):=hid (by unfold aT cO;rw[if_neg (fun h=>h GC.1)];exact⟨rfl,rfl⟩);unfold dv;go_enter Tryz.func139,Tryz.ntmps139;go_wp2_with fail;refine stq ?_;intro w F C;clear C;refine(aKd (F.ins fun _ h=>h) hg rfl fH).mono ?_;rintro e w ⟨a1,c1,rfl,hs,hb⟩;replace F:=F.next hb hs;generalize dM ⟨room,L,false,-1,steps⟩ fH=r at *
 obtain⟨D1,e1⟩:=r;obtain rfl:e1=0:=GC.1;have C1:=hid GC.2.1;have G1:=hid GG.1;have HS1:Hid (D1.steps+2<=1000000000):=hid (by have:=GG.2;simp only at this hst;omega);have HF1:D1.files.length<=1000:=GG.1.aBt.2.2;have B8:=hid GB;clear GC GG GB hs hb hst hb8;simp only[dv];refine fx fun C=>?_
 go_wp2_with (refine stq ?_;clear C;intro w F C)
 refine(lD (F.ins fun _ h=>h.1) dR HF1).mono ?_;rintro e w ⟨rfl,hb⟩;replace F:=F.call hb;clear C hb;cases e:aE dR D1.files with
 | none =>
  have h31:bI D1 dR=31:=rQ C1.out.1 e;have HV:Hid (((aT ⟨room,L,false,-1,steps⟩).1,cO ⟨room,L,false,-1,steps⟩)=(D1,⟨0,-1,0⟩)):=hid (by rw[HOP.out.1,HOP.out.2];unfold dI gC;rw[if_pos h31,if_pos h31]);clear h31;rw[fR.2 e];exact ed Tryz.results139
 | some f =>
  obtain⟨i,hI,hLi⟩:=eR e;have i0:¬(i:Int)<0:=by omega
  have i1:=(List.getElem?_eq_some_iff.1 hLi).1;have hsm:=nF G1.out.tot f (List.mem_of_getElem? hLi);have HTB:Hid (aP (bX f.all)=f.all):=hid (dO (B8.out f (List.mem_of_getElem? hLi)));have HSZ:Hid ((bX f.all).size<=2097152):=hid (by rw[cH];omega);have h0:bI D1 dR=0:=by unfold bI;rw[if_neg (by rw[C1.out.1];decide),if_neg (by rw[e];simp)]
  have hgl:=aCk f.all;have HST:Hid (gC D1=eF f.all/\dD D1=if (eF f.all).g<f.all.length then cutD D1 dR (eF f.all).g else (D1,0)):=hid (by unfold gC dD;rw[h0,if_neg (by decide),if_neg (by decide),eI e];exact⟨rfl,rfl⟩);have HSD:Hid ((dD D1).2=0->dI D1=syncD (dD D1).1 dR):=hid (fun q=>by unfold dI;rw[h0,if_neg (by decide),if_neg (by decide),if_neg (by rw[q];decide)]);have HE:=hid e;rw[hI];obtain⟨b,o,rfl,_⟩:=bJ.file F.r.1 hLi;replace F:=F.put (F.get fun _ h=>bJ.jW h.1 hLi);clear e hI hLi h0;refine fx fun C=>?_
  go_wp2_with (first
   | (refine eA rfl 9 36 5 _ rfl Tryz.underlying9 Tryz.underlying36 Tryz.underlying5 _ rfl HSZ.out ?_;intro bv w hB hb hob;rw[HTB.out]at hB;replace F:=F.call hb;have HB:=hid hB;clear C hB hb hob;refine fx fun C=>?_)
   | (refine stq ?_;clear C;intro w F C))
  refine(aF1 _ f.all w HB.out).mono ?_;rintro e w ⟨rfl,hb⟩;replace F:=F.call hb;clear C hb;generalize eF f.all=r at *
  obtain⟨tv,vv,gd⟩:=r;simp only at hgl HST ⊢;have hgd0:¬(gd:Int)<0:=by omega
  have hss:=cH f.all;by_cases hlt:gd<f.all.length
  ·have hltb:(gd:Int)<(f.all.length:Int):=by omega
   obtain⟨CE,CX,CF⟩:=aBY C1.out HE.out gd (Nat.le_of_lt hlt);have CG:=G1.out.cut dR gd (by have:=HS1.out;omega);have hS1:dD D1=cutD D1 dR gd:=HST.out.2.trans (if_pos hlt);have HV:Hid (((aT ⟨room,L,false,-1,steps⟩).1,cO ⟨room,L,false,-1,steps⟩)=((syncD (cutD D1 dR gd).1 dR).1,⟨tv,vv,gd⟩)):=hid (by rw[HOP.out.1,HOP.out.2,HST.out.1,HSD.out (by rw[hS1];exact CE),hS1]);have SC:=(pZ CX CF).1;clear hlt hS1;refine fx fun C=>?_
   go_wp2_with (refine stq ?_;clear C;intro w F C)
   refine(aJE (F.ins fun _ h=>h.2.1) G1.out dR gd).mono ?_;rintro e w ⟨a2,c2,rfl,hs,hb⟩;replace F:=F.next hb hs;generalize cutD D1 dR gd=r at *
   obtain⟨D2,e2⟩:=r;obtain rfl:e2=0:=CE;clear C hs hb hltb;simp only[dv];refine fx fun C=>?_
   go_wp2_with (refine stq ?_;clear C;intro w F C)
   refine(xW (F.ins fun _ h=>h.1) CG.1 dR).mono ?_;rintro e w ⟨a3,c3,rfl,hs,hb⟩;replace F:=F.next hb hs;generalize syncD D2 dR=r at *
   obtain⟨D3,e3⟩:=r;obtain rfl:e3=0:=SC;clear C hs hb;simp only[dv];refine fx fun C=>?_
   go_wp2_with (refine stq ?_;clear C;intro w F C)
   clear C;refine rg (⟨⟩:Pm [0,0,1,7,15] 4 [.h [0,1],.o 2,.o 3,.h [4]] [false,true,true]) ?_;intro w F C;clear C;exact ed Tryz.results139
  ·have hltb:¬(gd:Int)<(f.all.length:Int):=by omega
   have hS1:dD D1=(D1,0):=HST.out.2.trans (if_neg hlt);have HV:Hid (((aT ⟨room,L,false,-1,steps⟩).1,cO ⟨room,L,false,-1,steps⟩)=((syncD D1 dR).1,⟨tv,vv,gd⟩)):=hid (by rw[HOP.out.1,HOP.out.2,HST.out.1,HSD.out (by rw[hS1]),hS1]);have SC:=(pZ C1.out HE.out).1;clear hlt hS1;refine fx fun C=>?_
   go_wp2_with (refine stq ?_;clear C;intro w F C)
   refine(xW (F.ins fun _ h=>h.2.1) G1.out dR).mono ?_;rintro e w ⟨a3,c3,rfl,hs,hb⟩;replace F:=F.next hb hs;generalize syncD D1 dR=r at *
   obtain⟨D3,e3⟩:=r;obtain rfl:e3=0:=SC;clear C hs hb;simp only[dv];refine fx fun C=>?_
   go_wp2_with (refine stq ?_;clear C;intro w F C)
   clear C;refine rg (⟨⟩:Pm [0,0,1,7,15] 4 [.h [0,1],.o 2,.o 3,.h [4]] [false,true,true]) ?_;intro w F C;clear C;exact ed Tryz.results139
end Go.Proofs.YtjdglpcnkiioeaaGreat
namespace Go.Proofs.YtjdglpcnkiioeaaGreat
open Go.RowKit Go.Maps Go.Proofs.Own

def aJA (D:aA)(m n:ByteArray)(b:List Nat):aA × Nat :=
 if (dM D m).2≠0 then dM D m else if (aBF (dM D m).1 m b).2≠0 then aBF (dM D m).1 m b else kC (aBF (dM D m).1 m b).1 m n
theorem aD5 (D:aA)(b:List Nat):yG D b=aJA D bV eY b:=by
 show yG D b=if (bD D).2≠0 then bD D else if (aBF (bD D).1 bV b).2≠0 then aBF (bD D).1 bV b else kC (aBF (bD D).1 bV b).1 bV eY;unfold yG aBF;by_cases h1:(bD D).2=0
 ·rw[if_neg (not_not_intro h1),if_neg (not_not_intro h1)];by_cases h2:(aV (bD D).1 bV b).2=0
  ·simp only[h2,ne_eq,not_true_eq_false,if_false]
  ·simp only[h2,ne_eq,not_false_eq_true,if_true]
 ·rw[if_pos h1,if_pos h1]

def cN (D:aA):Nat:=if (bD D).2≠0 then (bD D).2 else if aE eY (bD D).1.files=none then 0 else if dG 7 (cW (bD D).1 eY).all=true then 0 else 20
def cT (D:aA):bM:=if aE eY (bD D).1.files=none then eO else dK 7 (cW (bD D).1 eY).all
end Go.Proofs.YtjdglpcnkiioeaaGreat
namespace Go.Proofs.YtjdglpcnkiioeaaGreat
open Go.Lib (hid)
open Go.RowKit Go.Maps Go.Proofs.Own

def sv (s:bM)(a:Option Addr)(c:Nat)(b:Option Addr)(d:Nat):Value:=.agg #[.int .u64 s.i,.int .u64 s.t,.slice a s.ms.length c,.slice b s.d.length d]
def bZ (D:aA):bM:=if cN D=0 then cT D else eO
theorem cL.shaped {w:World}{v:Value}{s:bM}(h:cL w v s):∃ma mc da dc,v=sv s ma mc da dc:=by
 obtain⟨mv,dv,rfl,hm,hd⟩:=h;obtain⟨ma,mc,rfl,_⟩:=hm.shape;obtain⟨da,dc,rfl,_⟩:=hd.shape;exact⟨ma,mc,da,dc,rfl⟩
theorem aCN (v:Value)(l:List Nat)(w:World)(hB:Bytes w v l):Calls Tryz.prog 186 #[v] w fun e w'=>∃ma mc da dc,e = .returned (.tuple #[sv (dK 6 l) ma mc da dc,.bool (dG 6 l)])/\(dG 6 l=true -> ∀S:Nat->Prop,(∀k,S k->k<w.heap.size)->Sf S w' (fun u=>cL u (sv (dK 6 l) ma mc da dc) (dK 6 l)))/\Below w.heap.size w w':=by
 cases hr:dG 6 l
 ·refine(aF3 v l w hB).mono ?_;rintro e w' ⟨v',rfl,hs,hb⟩;obtain⟨ma,mc,da,dc,rfl⟩:=hs.shaped;rw[hr];exact⟨_,_,_,_,rfl,nofun,hb⟩
 ·refine(aF4 v l w hB hr).mono ?_;rintro e w' ⟨v',rfl,hs,hb,hn⟩;obtain⟨ma,mc,da,dc,rfl⟩:=hs.shaped;rw[hr];refine⟨_,_,_,_,rfl,fun _ S hS u ku=>?_,hb⟩;obtain⟨i,t,mv,dv,e,n1,n2⟩:=hn;obtain⟨mv',dv',e',hm,hd⟩:=hs;simp only[sv,Value.agg.injEq,Array.mk.injEq,List.cons.injEq,and_true]at e e';obtain⟨rfl,rfl,rfl,rfl⟩:=e;obtain⟨_,_,rfl,rfl⟩:=e';exact⟨_,_,rfl,hm.kept ku fun b hb hs=>by have:=n1 b hb;have:=hS b hs;omega,hd.kept ku fun b hb hs=>by have:=n2 b hb;have:=hS b hs;omega⟩
theorem uT {D D1:aA}{f:aJ}(hg:bD D=(D1,0))(e:aE eY D1.files=some f) :
  (dG 6 f.all=true->((bD D).1,bZ D,cN D)=(D1,dK 6 f.all,0))/\(dG 6 f.all=false->((bD D).1,bZ D,cN D)=(D1,eO,20)):=by
 have h1:cN D=if dG 7 f.all=true then 0 else 20:=by unfold cN;rw[hg,if_neg (by simp),if_neg (by rw[e];simp),eI e]
 refine⟨fun h=>?_,fun h=>?_⟩<;>rw[aI8]at h
 ·rw[if_pos h]at h1;rw[show bZ D=dK 6 f.all from by unfold bZ cT;rw[if_pos h1,hg,if_neg (by rw[e];simp),eI e,aI9],h1,hg]
 ·rw[if_neg (by rw[h];decide)]at h1;rw[show bZ D=eO from by unfold bZ;rw[h1,if_neg (by decide)],h1,hg]
def QS (S:Nat->Prop)(p:aA × bM × Nat)(w:World):Ending->World->Prop:=fun e w'=>∃a c ma mc da dc,e = .returned (.tuple #[dv p.1 a c,sv p.2.1 ma mc da dc,.int .i64 p.2.2])/\Sf S w' (fun v=>DR p.1 a c v/\cL v (sv p.2.1 ma mc da dc) p.2.1)/\Below w.heap.size w w'
theorem aI3 {S:Nat->Prop}{w:World}{D:aA}{a:Option Addr}{c:Nat}(h:In S w (DR D a c))(hg:aY D)(hc:Calm D)(hst:D.steps+1<=1000000000)(hb8:kE D.files):Calls Tryz.prog 140 #[dv D a c] w (QS S ((bD D).1,bZ D,cN D) w):=by
 have F:=h.fr;have hf:=hg.aBt.2.2;obtain⟨room,L,down,armed,steps⟩:=D;obtain⟨rfl,rfl⟩:down=false/\armed = -1:=hc;unfold dv;go_enter Tryz.func140,Tryz.ntmps140;go_wp2_with fail;refine stq ?_;intro w F C;clear C;refine(lD (F.ins fun _ h=>h) bV hf).mono ?_;rintro e w ⟨rfl,hb⟩;replace F:=(F.call hb).imp fun _ h=>And.intro h h;clear hb;cases e0:aE bV L with
 | none =>
  have HG:Hid (bD ⟨room,L,false,-1,steps⟩=(⟨room,L,false,-1,steps⟩,0)):=hid (by unfold bD;rw[yA (D:=⟨room,L,false,-1,steps⟩) rfl e0];rfl);have HF1:=hf;have HT1:=hid hg.tot;have B8:=hid hb8;clear hst hg hb8;rw[fR.2 e0];refine fx fun C=>?_
  go_wp2_with (refine stq ?_;clear C;intro w F C)
  clear C;refine(lD (F.ins fun _ h=>h.1) eY HF1).mono ?_;rintro e w ⟨rfl,hb⟩;replace F:=F.call hb;clear hb;cases e:aE eY L with
  | none =>
   have HV:Hid (((bD ⟨room,L,false,-1,steps⟩).1,bZ ⟨room,L,false,-1,steps⟩,cN ⟨room,L,false,-1,steps⟩)=(⟨room,L,false,-1,steps⟩,eO,0)):=hid (by
    have h1:cN ⟨room,L,false,-1,steps⟩=0:=by unfold cN;rw[HG.out,if_neg (by simp),if_pos e]
    rw[show bZ _=eO from by unfold bZ cT;rw[if_pos h1,HG.out,if_pos e],h1,HG.out])
   rw[fR.2 e];refine fx fun C=>?_
   go_wp2_with (refine stq ?_;clear C;intro w F C)
   clear C;refine rg (⟨⟩:Pm [0,0,1,7,15] 4 [.h [0,1],.o 2,.o 3,.h [4]] [false,true,true]) ?_;intro w F C
   go_wp2_with (refine stq ?_;clear C;intro w F C)
   refine rt Tryz.results140 ?_;rw[HV.out];exact⟨_,_,_,_,_,_,rfl,F.fin (fun _ h=>⟨h.1,gD _⟩),F.bel⟩
  | some f =>
   obtain⟨i,hI,hLi⟩:=eR e;have i0:¬(i:Int)<0:=by omega
   have i1:=(List.getElem?_eq_some_iff.1 hLi).1;have hsm:=nF HT1.out f (List.mem_of_getElem? hLi);have HTB:Hid (aP (bX f.all)=f.all):=hid (dO (B8.out f (List.mem_of_getElem? hLi)));have HSZ:Hid ((bX f.all).size<=2097152):=hid (by rw[cH];omega);have HE:=hid (uT (D:=⟨room,L,false,-1,steps⟩) HG.out e);rw[hI];obtain⟨b,o,rfl,_⟩:=bJ.file F.r.1 hLi;replace F:=F.put (F.get fun _ h=>bJ.jW h.1 hLi);clear e hI hLi hsm;refine fx fun C=>?_
   go_wp2_with (first
    | (refine eA rfl 9 36 5 _ rfl Tryz.underlying9 Tryz.underlying36 Tryz.underlying5 _ rfl HSZ.out ?_;intro bv w hB hb hob;rw[HTB.out]at hB;replace F:=F.call hb;have HB:=hid hB;clear C hB hb hob;refine fx fun C=>?_)
    | (refine stq ?_;clear C;intro w F C))
   refine(aCN _ f.all w HB.out).mono ?_;rintro e w ⟨ma,mc,da,dc,rfl,hsn,hb⟩;have F2:=hid F;replace F:=F.call hb;clear C;cases hrb:dG 6 f.all
   ·have HV:=hid (HE.out.2 hrb);clear hb hsn F2;simp only[sv];refine fx fun C=>?_
    go_wp2_with (refine stq ?_;clear C;intro w F C)
    clear C;refine rg (⟨⟩:Pm [0,0,1,7,15] 4 [.h [0,1],.o 2,.o 3,.h [4]] [false,true,true]) ?_;intro w F C
    go_wp2_with (refine stq ?_;clear C;intro w F C)
    refine rt Tryz.results140 ?_;rw[HV.out];exact⟨_,_,_,_,_,_,rfl,F.fin (fun _ h=>⟨h.2.1,gD _⟩),F.bel⟩
   ·have HV:=hid (HE.out.1 hrb);replace F:=F.put (hsn hrb _ F2.out.few);clear hrb hb hsn F2;generalize dK 6 f.all=sn at *
    simp only[sv];refine fx fun C=>?_
    go_wp2_with (refine stq ?_;clear C;intro w F C)
    clear C;refine rg (⟨⟩:Pm [0,0,1,7,15] 4 [.h [0,1],.o 2,.o 3,.h [4]] [false,true,true]) ?_;intro w F C
    go_wp2_with (refine stq ?_;clear C;intro w F C)
    refine rt Tryz.results140 ?_;rw[HV.out];exact⟨_,_,_,_,_,_,rfl,F.fin (fun _ h=>⟨h.2.2.1,h.1⟩),F.bel⟩
 | some f0 =>
  have HG:Hid (bD ⟨room,L,false,-1,steps⟩=((removeD ⟨room,L,false,-1,steps⟩ bV).1,0)/\(removeD ⟨room,L,false,-1,steps⟩ bV).2=0):=hid (by unfold bD;rw[yB (D:=⟨room,L,false,-1,steps⟩) rfl e0];exact⟨rfl,rfl⟩);have GG:=hg.remove bV (by omega);have GB:=kE.remove (D:=⟨room,L,false,-1,steps⟩) hb8 bV;obtain⟨j,hJ,_⟩:=eR e0;have j0:¬(j:Int)<0:=by omega
  rw[hJ];refine fx fun C=>?_
  go_wp2_with (refine stq ?_;clear C;intro w F C)
  refine(rY (F.ins fun _ h=>h.1) hg bV).mono ?_;rintro e w ⟨a1,c1,rfl,hs,hb⟩;replace F:=(F.call hb).put hs;generalize removeD ⟨room,L,false,-1,steps⟩ bV=r at *
  obtain⟨D1,e1⟩:=r;obtain rfl:e1=0:=HG.out.2;replace HG:=hid HG.out.1;have HF1:D1.files.length<=1000:=GG.1.aBt.2.2;have HT1:=hid GG.1.tot;have B8:=hid GB;clear C hst hg hb8 GG GB hs hb j0;simp only[dv];refine fx fun C=>?_
  go_wp2_with (refine stq ?_;clear C;intro w F C)
  clear C;refine(lD (F.ins fun _ h=>h.1) eY HF1).mono ?_;rintro e w ⟨rfl,hb⟩;replace F:=F.call hb;clear hb;cases e:aE eY D1.files with
  | none =>
   have HV:Hid (((bD ⟨room,L,false,-1,steps⟩).1,bZ ⟨room,L,false,-1,steps⟩,cN ⟨room,L,false,-1,steps⟩)=(D1,eO,0)):=hid (by
    have h1:cN ⟨room,L,false,-1,steps⟩=0:=by unfold cN;rw[HG.out,if_neg (by simp),if_pos e]
    rw[show bZ _=eO from by unfold bZ cT;rw[if_pos h1,HG.out,if_pos e],h1,HG.out])
   rw[fR.2 e];refine fx fun C=>?_
   go_wp2_with (refine stq ?_;clear C;intro w F C)
   clear C;refine rg (⟨⟩:Pm [0,0,1,7,15] 4 [.h [0,1],.o 2,.o 3,.h [4]] [false,true,true]) ?_;intro w F C
   go_wp2_with (refine stq ?_;clear C;intro w F C)
   refine rt Tryz.results140 ?_;rw[HV.out];exact⟨_,_,_,_,_,_,rfl,F.fin (fun _ h=>⟨h.1,gD _⟩),F.bel⟩
  | some f =>
   obtain⟨i,hI,hLi⟩:=eR e;have i0:¬(i:Int)<0:=by omega
   have i1:=(List.getElem?_eq_some_iff.1 hLi).1;have hsm:=nF HT1.out f (List.mem_of_getElem? hLi);have HTB:Hid (aP (bX f.all)=f.all):=hid (dO (B8.out f (List.mem_of_getElem? hLi)));have HSZ:Hid ((bX f.all).size<=2097152):=hid (by rw[cH];omega);have HE:=hid (uT (D:=⟨room,L,false,-1,steps⟩) HG.out e);rw[hI];obtain⟨b,o,rfl,_⟩:=bJ.file F.r.1 hLi;replace F:=F.put (F.get fun _ h=>bJ.jW h.1 hLi);clear e hI hLi hsm;refine fx fun C=>?_
   go_wp2_with (first
    | (refine eA rfl 9 36 5 _ rfl Tryz.underlying9 Tryz.underlying36 Tryz.underlying5 _ rfl HSZ.out ?_;intro bv w hB hb hob;rw[HTB.out]at hB;replace F:=F.call hb;have HB:=hid hB;clear C hB hb hob;refine fx fun C=>?_)
    | (refine stq ?_;clear C;intro w F C))
   refine(aCN _ f.all w HB.out).mono ?_;rintro e w ⟨ma,mc,da,dc,rfl,hsn,hb⟩;have F2:=hid F;replace F:=F.call hb;clear C;cases hrb:dG 6 f.all
   ·have HV:=hid (HE.out.2 hrb);clear hb hsn F2;simp only[sv];refine fx fun C=>?_
    go_wp2_with (refine stq ?_;clear C;intro w F C)
    clear C;refine rg (⟨⟩:Pm [0,0,1,7,15] 4 [.h [0,1],.o 2,.o 3,.h [4]] [false,true,true]) ?_;intro w F C
    go_wp2_with (refine stq ?_;clear C;intro w F C)
    refine rt Tryz.results140 ?_;rw[HV.out];exact⟨_,_,_,_,_,_,rfl,F.fin (fun _ h=>⟨h.2.1,gD _⟩),F.bel⟩
   ·have HV:=hid (HE.out.1 hrb);replace F:=F.put (hsn hrb _ F2.out.few);clear hrb hb hsn F2;generalize dK 6 f.all=sn at *
    simp only[sv];refine fx fun C=>?_
    go_wp2_with (refine stq ?_;clear C;intro w F C)
    clear C;refine rg (⟨⟩:Pm [0,0,1,7,15] 4 [.h [0,1],.o 2,.o 3,.h [4]] [false,true,true]) ?_;intro w F C
    go_wp2_with (refine stq ?_;clear C;intro w F C)
    refine rt Tryz.results140 ?_;rw[HV.out];exact⟨_,_,_,_,_,_,rfl,F.fin (fun _ h=>⟨h.2.2.1,h.1⟩),F.bel⟩
end Go.Proofs.YtjdglpcnkiioeaaGreat
namespace Go.Proofs.YtjdglpcnkiioeaaGreat
open Go.RowKit Go.Maps Go.Proofs.Own

theorem vO {D:aA}(hg:(bD D).2=0):(bD D).1.down=false:=by
 cases hd:D.down with
 | false=>exact(aFt hd bV).up hg
 | true =>
  exfalso;unfold bD removeD at hg;split at hg
  ·rw[if_pos hd]at hg;simp at hg
  ·simp only[bI,if_pos hd]at hg;simp at hg

end Go.Proofs.YtjdglpcnkiioeaaGreat
namespace Go.Proofs.YtjdglpcnkiioeaaGreat
open Go.Lib (hid)
open Go.RowKit Go.Maps Go.Proofs.Own

theorem aKh (sb db mb tb:Nat)(s:bM)(w:World)(h:fJ w sb db mb tb s)(hi:s.i=0) :
  Calls Tryz.prog 101 #[.pointer (some ⟨sb,0,none⟩)] w fun e w'=>e = .returned (.tuple #[.agg #[.int .u64 0,.int .u64 0,.slice none 0 0,.slice none 0 0],.bool false])/\Below w.heap.size w w':=by
 have H:=hid h;obtain⟨mv,dv,h1,_,_,_⟩:=h;rw[hi]at h1;have HS:=hid h1;have hsl:=h1.lt;clear h1;go_enter Tryz.func101,Tryz.ntmps101;go_wp2_with fail;have R1:Hid (bR (w.alloc (.cells #[.int .u64 0,.int .u64 0,.slice none 0 0,.slice none 0 0] 75)) w.heap.size 0 0 (.slice none 0 0) (.slice none 0 0)):=hid (bR.new w);have B1:Hid (Below w.heap.size w (w.alloc (.cells #[.int .u64 0,.int .u64 0,.slice none 0 0,.slice none 0 0] 75))):=hid ((Below.refl _ _).alloc (Nat.le_refl _) _);generalize World.alloc w _=w1 at *
 refine(aCU sb db mb tb s w1 (H.out.below B1.out)).mono ?_;rintro e w1' ⟨rfl,rfl⟩;obtain⟨r0,r1,_,_,_,_,_,_,_⟩:=HS.out.kept (Kept.aL B1.out (S:=fun _=>False) fun k h1 h2=>by omega) (fun h=>h);obtain⟨q0,q1,q2,q3,g0,g1,g2,g3⟩:=R1.out;have hl1:=R1.out.lt;go_wp2_with fail;generalize hwF:World.setCell _ _ _=wF;have RF:Hid (bR wF w.heap.size 0 0 (.slice none 0 0) (.slice none 0 0)):=hid (by subst hwF;exact R1.out.eN 0 0 _ _);have BF:Hid (Below w.heap.size w wF):=hid (by subst hwF;exact B1.out.trans ((Kept.eN w1 w.heap.size 0 0 _ _).below B1.out.size (fun k hk=>by omega)));clear hwF q0 q1 q2 q3 g0 g1 g2 g3 r0 r1;obtain⟨q0,q1,q2,q3,_,_,_,_⟩:=RF.out;refine bodyPost_ret (v:=.tuple #[.agg #[.int .u64 0,.int .u64 0,.slice none 0 0,.slice none 0 0],.bool false]) (by simp[results,Tryz.results101,go_sem,q0,q1,q2,q3]) rfl ?_;exact⟨rfl,BF.out⟩

def aGC (w:World)(p:Option Addr)(db mb tb:Nat)(s:bM):Prop:=(p=none/\s=eO) \/ ∃sb,p=some ⟨sb,0,none⟩/\fJ w sb db mb tb s/\(s=eO\/1<=s.i)
def aKB (s:bM)(w:World):Ending->World->Prop:=fun e w'=>∃i t mv dv,e = .returned (.tuple #[.agg #[.int .u64 i,.int .u64 t,mv,dv],.bool (decide (0<s.i))])/\cL w' (.agg #[.int .u64 i,.int .u64 t,mv,dv]) s/\Below w.heap.size w w'
theorem yN (p:Option Addr)(db mb tb:Nat)(s:bM)(w:World)(h:aGC w p db mb tb s):Calls Tryz.prog 101 #[.pointer p] w (aKB s w):=by
 rcases h with ⟨rfl,rfl⟩|⟨sb,rfl,h,hk⟩
 ·refine(aIT none w (.inl rfl)).mono ?_;rintro e w1 ⟨rfl,hb⟩;exact⟨_,_,_,_,rfl,gD _,hb⟩
 ·rcases hk with rfl|hk
  ·refine(aKh sb db mb tb eO w h rfl).mono ?_;rintro e w1 ⟨rfl,hb⟩;exact⟨_,_,_,_,rfl,gD _,hb⟩
  ·refine(aHU sb db mb tb s w h (by omega)).mono ?_;rintro e w1 ⟨v,rfl,⟨mv,dv,rfl,h1,h2⟩,hb⟩;obtain⟨_,_,_,h3,h4,_⟩:=h;rw[show true=decide (0<s.i) from(decide_eq_true (by omega)).symm];refine⟨_,_,_,_,rfl,⟨mv,dv,rfl,Ints.dL h1 h3.small,Bytes.dL h2 h4.lt h4.small⟩,hb⟩
theorem aHF (m:Nat)(l:List Nat):dK m l=eO\/1<=(dK m l).i:=by
 unfold dK;split
 ·rename_i h;exact .inr h.2.2.2.1
 ·exact .inl rfl
theorem tW (D:aA):cT D=eO\/1<=(cT D).i:=by
 unfold cT;split
 ·exact .inl rfl
 ·exact aHF _ _

theorem Ints.qY {w w':World}{v:Value}{l:List Int}{S:Nat->Prop}(h:Ints w v l)(hk:Kept w w' S)(hs:l ≠ [] -> ∀b,v.ownBlock=some b -> ¬S b):Ints w' v l:=by
 by_cases hl:l = []
 ·subst hl;exact⟨h.shape,by obtain⟨a,c,rfl,_⟩:=h.shape;exact Reads.nil _ _ _ _,h.small⟩
 ·exact h.kept hk (hs hl)
theorem Ints.blk {w:World}{v:Value}{l:List Int}(h:Ints w v l)(hne:l ≠ []):∀b,v.ownBlock=some b->b<w.heap.size:=fun b hb=>by
 obtain⟨a,c,rfl,hc⟩:=h.rd;obtain⟨b',o,rfl,h1⟩:=hc 0 (List.length_pos_iff.2 hne);obtain rfl:b'=b:=Option.some.inj hb;exact World.block_lt_of_cell? _ _ h1
theorem Bytes.blk {w:World}{v:Value}{l:List Nat}(h:Bytes w v l)(hne:l ≠ []):∀b,v.ownBlock=some b->b<w.heap.size:=fun b hb=>by
 obtain⟨b',h1,h2⟩:=h.hU hne;rw[hb]at h1;obtain rfl:=Option.some.inj h1;exact h2
def cQ (R:Nat->Prop)(w:World)(sb db mb tb:Nat)(s:bM):Prop :=
 ∃mv dv,gU w sb db s.i s.t mv dv/\Ints w mv s.ms/\Bytes w dv s.d/\(∀b,mv.ownBlock=some b -> ¬aZ db mb tb b/\b≠sb)/\(∀b,dv.ownBlock=some b -> ¬aZ db mb tb b/\b≠sb) /\ ¬aZ db mb tb sb/\(s.ms ≠ [] -> ∀b,mv.ownBlock=some b->R b)/\(s.d ≠ [] -> ∀b,dv.ownBlock=some b->R b)
theorem cQ.mk' {R:Nat->Prop}{w:World}{sb db mb tb:Nat}{s:bM}{mv dv:Value}(h1:gU w sb db s.i s.t mv dv)(h2:Ints w mv s.ms)(h3:Bytes w dv s.d)(h4:∀b,mv.ownBlock=some b -> ¬aZ db mb tb b/\(b≠sb/\R b))(h5:∀b,dv.ownBlock=some b -> ¬aZ db mb tb b/\(b≠sb/\R b))(h6:¬aZ db mb tb sb):cQ R w sb db mb tb s :=
 ⟨mv,dv,h1,h2,h3,fun b hb=>⟨(h4 b hb).1,(h4 b hb).2.1⟩,fun b hb=>⟨(h5 b hb).1,(h5 b hb).2.1⟩,h6,fun _ b hb=>(h4 b hb).2.2,fun _ b hb=>(h5 b hb).2.2⟩
theorem cQ.is {R:Nat->Prop}{w:World}{sb db mb tb:Nat}{s:bM}(h:cQ R w sb db mb tb s):fJ w sb db mb tb s :=
 let ⟨mv,dv,h1,h2,h3,h4,h5,h6,_⟩:=h
 ⟨mv,dv,h1,h2,h3,h4,h5,h6⟩
theorem cQ.nM {R:Nat->Prop}{w w':World}{sb db mb tb:Nat}{s:bM}{S:Nat->Prop}(h:cQ R w sb db mb tb s)(hk:Kept w w' S)(h0:¬S sb)(hs:∀k,S k->aZ db mb tb k \/ ¬R k):cQ R w' sb db mb tb s:=by
 obtain⟨mv,dv,h1,h2,h3,h4,h5,h6,h7,h8⟩:=h;exact⟨mv,dv,h1.kept hk h0,h2.qY hk fun hne b hb h=>(hs _ h).elim (h4 b hb).1 (fun e=>e (h7 hne b hb)),h3.qY hk fun hne b hb h=>(hs _ h).elim (h5 b hb).1 (fun e=>e (h8 hne b hb)),h4,h5,h6,h7,h8⟩
theorem cQ.kept {R:Nat->Prop}{w w':World}{sb db mb tb:Nat}{s:bM}(h:cQ R w sb db mb tb s)(hk:Kept w w' (aZ db mb tb)):cQ R w' sb db mb tb s:=h.nM hk (fun e=>let ⟨_,_,_,_,_,_,_,h6,_⟩:=h;h6 e) fun _ h=>.inl h
theorem cQ.below {R:Nat->Prop}{w w':World}{sb db mb tb:Nat}{s:bM}(h:cQ R w sb db mb tb s)(hb:Below w.heap.size w w'):cQ R w' sb db mb tb s:=h.kept (Kept.cE hb)
theorem cQ.lt {R:Nat->Prop}{w:World}{sb db mb tb:Nat}{s:bM}(h:cQ R w sb db mb tb s):sb<w.heap.size:=let ⟨_,_,h1,_⟩:=h;h1.lt
theorem cQ.jU {R T:Nat->Prop}{w:World}{sb db mb tb:Nat}{s:bM}(h:cQ R w sb db mb tb s)(hT:∀b,R b->b<w.heap.size->T b):cQ T w sb db mb tb s:=by
 obtain⟨mv,dv,h1,h2,h3,h4,h5,h6,h7,h8⟩:=h;exact⟨mv,dv,h1,h2,h3,h4,h5,h6,fun hne b hb=>hT b (h7 hne b hb) (h2.blk hne b hb),fun hne b hb=>hT b (h8 hne b hb) (h3.blk hne b hb)⟩
def iG (R:Nat->Prop)(db mb tb:Nat)(D:aA)(w:World):Ending->World->Prop:=fun e w' =>
 (cN D≠0->e = .returned (.tuple #[.pointer none,.int .i64 (cN D)])) /\
 (cN D=0 -> ∃sb,e = .returned (.tuple #[.pointer (some ⟨sb,0,none⟩),.int .i64 0])/\cQ R w' sb db mb tb (cT D)/\w.heap.size<=sb) /\
 aG w' db mb tb (bD D).1/\Kept w w' (aZ db mb tb)
def zU (R:Nat->Prop)(sb db mb tb:Nat)(X:aA × Nat)(s x:bM)(w:World):Ending->World->Prop:=fun e w' =>
 e = .returned (.int .i64 X.2)/\aG w' db mb tb X.1/\cQ R w' sb db mb tb (if X.2=0 then x else s)/\Kept w w' (fun k=>aZ db mb tb k\/k=sb)

theorem yO (Q9:Nat->Prop)(db mb tb:Nat)(D:aA)(w:World)(_hQ9:∀b,w.heap.size<=b->Q9 b)(hd:aG w db mb tb D)(hw:aY D)(hg:(bD D).2=0)(hf:bI (bD D).1 eY=31) :
  Calls Tryz.prog 100 #[.pointer (some ⟨db,0,none⟩)] w fun e w'=>∃sb,e = .returned (.tuple #[.pointer (some ⟨sb,0,none⟩),.int .i64 0])/\aG w' db mb tb (bD D).1/\cQ Q9 w' sb db mb tb eO/\Kept w w' (aZ db mb tb)/\w.heap.size<=sb:=by
 have HD:=hid hd;have HW:=hid hw;have HG:=hid hg;have HF:=hid hf;have H3:=hid hd.lt3;clear hd hw hg hf;go_enter Tryz.func100,Tryz.ntmps100;go_wp2_with fail;generalize hw1:World.alloc w _=w1;have B1:Hid (Below w.heap.size w w1):=hid (by subst hw1;exact(Below.refl _ _).alloc (Nat.le_refl _) _);have S1:Hid (cQ Q9 w1 w.heap.size db mb tb eO):=hid (by
  subst hw1;refine⟨.slice none 0 0,.slice none 0 0,(show gU _ _ _ 0 0 _ _ from⟨by go_cell,by go_cell,by go_cell,by go_cell,by go_cell,by simp,by simp,by simp,by simp,iF.alloc (by simp)⟩),Ints.nil _,Bytes.nil _,fun b hb=>(by cases hb),fun b hb=>(by cases hb),fun e=>?_,fun h=>absurd rfl h,fun h=>absurd rfl h⟩;have:=H3.out _ e;omega)
 clear hw1;refine(nD w.heap.size db mb tb D w1 (by obtain⟨_,_,h,_⟩:=S1.out;exact h.c0) (HD.out.below B1.out) HW.out).mono ?_;rintro e w2 ⟨rfl,hd2,hk2⟩;have D2:=hid hd2;have K2:Hid (Kept w w2 (aZ db mb tb)):=hid ((Kept.cE B1.out).trans hk2);have S2:=hid (S1.out.kept hk2);clear hd2 hk2;rw[HG.out];go_wp2_with fail;refine(kJ db mb tb _ eY w2 D2.out (by decide) (by rw[HF.out];decide)).mono ?_;rintro e w3 ⟨rfl,hb3⟩;have B3:=hid hb3;clear hb3;rw[HF.out];go_wp2_with fail
 go_ret2
 exact⟨_,rfl,D2.out.below B3.out,S2.out.below B3.out,K2.out.trans (Kept.cE B3.out),Nat.le_refl _⟩

theorem aCW (Q9:Nat->Prop)(db mb tb:Nat)(D:aA)(f:aJ)(w:World)(hQ9:∀b,w.heap.size<=b->Q9 b)(hd:aG w db mb tb D)(hw:aY D)(hg:(bD D).2=0)(hf:aE eY (bD D).1.files=some f) :
  Calls Tryz.prog 100 #[.pointer (some ⟨db,0,none⟩)] w (iG Q9 db mb tb D w):=by
 have HD:=hid hd;have HW:=hid hw;have HG:=hid hg;have HF:=hid hf;have HUP:=hid (vO hg);have H3:=hid hd.lt3;have HE:Hid (cN D=if dG 7 f.all=true then 0 else 20):=hid (by unfold cN;rw[if_neg (not_not_intro hg),if_neg (by rw[hf];simp),eI hf]);have HSS:Hid (cT D=dK 7 f.all):=hid (by unfold cT;rw[if_neg (by rw[hf];simp),eI hf]);clear hd hw hg hf;go_enter Tryz.func100,Tryz.ntmps100;go_wp2_with fail;generalize hw1:World.alloc w _=w1;have B1:Hid (Below w.heap.size w w1):=hid (by subst hw1;exact(Below.refl _ _).alloc (Nat.le_refl _) _);have S1:Hid (gU w1 w.heap.size db 0 0 (.slice none 0 0) (.slice none 0 0)):=hid (by
  subst hw1;exact⟨by go_cell,by go_cell,by go_cell,by go_cell,by go_cell,by simp,by simp,by simp,by simp,iF.alloc (by simp)⟩)
 clear hw1;have N1:Hid (¬aZ db mb tb w.heap.size):=hid fun e=>by have:=H3.out _ e;omega
 refine(nD w.heap.size db mb tb D w1 S1.out.c0 (HD.out.below B1.out) HW.out).mono ?_;rintro e w2 ⟨rfl,hd2,hk2⟩;have D2:=hid hd2;have K2:Hid (Kept w w2 (aZ db mb tb)):=hid ((Kept.cE B1.out).trans hk2);have S2:=hid (S1.out.kept hk2 N1.out);clear hd2 hk2;rw[HG.out];generalize hDD:(bD D).1=D' at *
 have HDD:=hid hDD;clear hDD;go_wp2_with fail;refine(kX db mb tb D' eY f w2 D2.out HUP.out (by decide) HF.out).mono ?_;rintro e w3 ⟨v3,rfl,hB3,hb3⟩;obtain⟨a3,c3,rfl,_⟩:=hB3.shape;have HB3:=hid hB3;have D3:=hid (D2.out.below hb3);have K3:Hid (Kept w w3 (aZ db mb tb)):=hid (K2.out.trans (Kept.cE hb3));have S3:Hid (gU w3 w.heap.size db 0 0 (.slice none 0 0) (.slice none 0 0)):=hid (S2.out.kept (Kept.aL hb3 (S:=fun _=>False) fun k h1 h2=>by omega) fun h=>h);clear hB3 hb3;generalize hfl:f.all.length=n at HB3 ⊢;cases hr:dG 7 f.all
 ·have HR:=hid hr;have HV:Hid (cN D=20):=hid (by rw[HE.out,hr];rfl);clear hr;go_wp2_with fail;refine(aFU _ f.all w3 HB3.out).mono ?_;rintro e w4 ⟨v4,rfl,hs4,hb4⟩;obtain⟨mv,dv,rfl,hm4,hd4⟩:=hs4;obtain⟨am,cm,rfl,_⟩:=hm4.shape;obtain⟨ad,cd,rfl,_⟩:=hd4.shape;rw[HR.out];have D4:=hid (D3.out.below hb4);have K4:Hid (Kept w w4 (aZ db mb tb)):=hid (K3.out.trans (Kept.cE hb4));clear hm4 hd4 hb4;go_wp2_with fail
  go_ret2
  unfold iG;rw[HV.out,HDD.out];refine⟨fun _=>rfl,fun h=>absurd h (by decide),D4.out.below ((Below.refl _ _).alloc (Nat.le_refl _) _),K4.out.trans (Kept.cE ((Below.refl _ _).alloc (Nat.le_refl _) _))⟩
 ·have HR:=hid hr;have HV:Hid (cN D=0):=hid (by rw[HE.out,hr];rfl);clear hr;go_wp2_with fail;refine(aAG _ f.all w3 HB3.out HR.out).mono ?_;rintro e w4 ⟨v4,rfl,hs4,hb4,hn4⟩;obtain⟨mv,dv,rfl,hm4,hd4⟩:=hs4;obtain⟨_,_,_,_,he4,hn1,hn2⟩:=hn4;simp only[Value.agg.injEq,Array.mk.injEq,List.cons.injEq,and_true]at he4;obtain⟨rfl,rfl,rfl,rfl⟩:=he4;generalize hs:dK 7 f.all=s at *
  obtain⟨am,cm,rfl,_⟩:=hm4.shape;obtain⟨ad,cd,rfl,_⟩:=hd4.shape;rw[HR.out];have HM4:=hid hm4;have HD4:=hid hd4;have HN1:=hid hn1;have HN2:=hid hn2;have D4:=hid (D3.out.below hb4);have K4:Hid (Kept w w4 (aZ db mb tb)):=hid (K3.out.trans (Kept.cE hb4));have S4:Hid (gU w4 w.heap.size db 0 0 (.slice none 0 0) (.slice none 0 0)):=hid (S3.out.kept (Kept.aL hb4 (S:=fun _=>False) fun k h1 h2=>by omega) fun h=>h);have L34:w3.heap.size<=w4.heap.size:=hb4.size;have L3:=S3.out.lt;have L4:=S4.out.lt;clear hm4 hd4 hb4 hn1 hn2 hs;obtain⟨_,k1,k2,k3,k4,f1,f2,f3,f4⟩:=S4.out;have SF:=hid ((S4.out.eN s.i s.t (.slice am s.ms.length cm) (.slice ad s.d.length cd)).kept (Kept.alloc _ (.cells #[.int .u64 s.i,.int .u64 s.t,.slice am s.ms.length cm,.slice ad s.d.length cd] 75) (fun _=>False)) (fun h=>h));have KX:Kept w4 ((((((w4.setCell ⟨w.heap.size,1,none⟩ (.int .u64 s.i)).setCell ⟨w.heap.size,2,none⟩ (.int .u64 s.t)).setCell ⟨w.heap.size,3,none⟩ (.slice am s.ms.length cm)).setCell ⟨w.heap.size,4,none⟩ (.slice ad s.d.length cd)).alloc (.cells #[.int .u64 s.i,.int .u64 s.t,.slice am s.ms.length cm,.slice ad s.d.length cd] 75))) (fun k=>k=w.heap.size):=(Kept.aD6 w4 w.heap.size _ _ _ _).trans (Kept.alloc _ _ _);have DF:=hid ((D4.out.aD6 S4.out N1.out (fun _ h=>by cases h) (fun _ h=>by cases h) (.int .u64 s.i) (.int .u64 s.t) (.slice am s.ms.length cm) (.slice ad s.d.length cd)).below ((Below.refl _ _).alloc (Nat.le_refl _) (.cells #[.int .u64 s.i,.int .u64 s.t,.slice am s.ms.length cm,.slice ad s.d.length cd] 75)));have HMF:=hid (HM4.out.kept KX fun g hg h=>by have:=HN1.out g hg;omega);have HBF:=hid (HD4.out.kept KX fun g hg h=>by have:=HN2.out g hg;omega);have KF:Hid (Kept w ((((((w4.setCell ⟨w.heap.size,1,none⟩ (.int .u64 s.i)).setCell ⟨w.heap.size,2,none⟩ (.int .u64 s.t)).setCell ⟨w.heap.size,3,none⟩ (.slice am s.ms.length cm)).setCell ⟨w.heap.size,4,none⟩ (.slice ad s.d.length cd)).alloc (.cells #[.int .u64 s.i,.int .u64 s.t,.slice am s.ms.length cm,.slice ad s.d.length cd] 75))) (aZ db mb tb)):=hid (K4.out.andThen KX fun k h1 h2=>h2.elim id fun e=>by omega);have NR:Hid (∀g,w3.heap.size<=g -> ¬aZ db mb tb g/\(g≠w.heap.size/\Q9 g)):=hid fun g hg=>⟨fun e=>by have:=D3.out.lt3 _ e;omega,by omega,hQ9 g (Nat.le_trans K3.out.size hg)⟩;clear KX;go_wp2_with fail;generalize World.alloc _ _=wF at *
  clear k1 k2 k3 k4 f1 f2 f3 f4
  go_ret2
  unfold iG;rw[HV.out,HDD.out,HSS.out];exact⟨fun h=>absurd rfl h,fun _=>⟨_,rfl,cQ.mk' SF.out HMF.out HBF.out (fun g hg=>NR.out g (HN1.out g hg)) (fun g hg=>NR.out g (HN2.out g hg)) N1.out,Nat.le_refl _⟩,DF.out,KF.out⟩
theorem aD9 (Q9:Nat->Prop)(db mb tb:Nat)(D:aA)(w:World)(hQ9:∀b,w.heap.size<=b->Q9 b)(hd:aG w db mb tb D)(hw:aY D):Calls Tryz.prog 100 #[.pointer (some ⟨db,0,none⟩)] w (iG Q9 db mb tb D w):=by
 by_cases hg:(bD D).2=0
 ·cases hf:aE eY (bD D).1.files with
  | none =>
   have he:bI (bD D).1 eY=31:=by unfold bI;rw[if_neg (by rw[vO hg];decide),if_pos hf]
   have hE:cN D=0:=by unfold cN;rw[if_neg (not_not_intro hg),if_pos hf]
   have hS:cT D=eO:=by unfold cT;rw[if_pos hf]
   refine(yO Q9 db mb tb D w hQ9 hd hw hg he).mono ?_;rintro e w' ⟨sb,rfl,h1,h2,h3,h4⟩;exact⟨fun h=>absurd hE h,fun _=>⟨sb,rfl,by rw[hS];exact h2,h4⟩,h1,h3⟩
  | some f=>exact aCW Q9 db mb tb D f w hQ9 hd hw hg hf
 ·have hE:cN D=(bD D).2:=by unfold cN;rw[if_pos hg]
  refine(aGg db mb tb D w hd hw hg).mono ?_;rintro e w' ⟨rfl,h1,h2⟩;exact⟨fun _=>by rw[hE],fun h=>absurd (hE.symm.trans h) hg,h1,h2⟩
theorem aCV (Q9:Nat->Prop)(db mb tb:Nat)(D:aA)(f:aJ)(w:World)(hQ9:∀b,w.heap.size<=b->Q9 b)(hd:aG w db mb tb D)(hw:aY D)(hg:(bD D).2=0)(hf:aE eY (bD D).1.files=some f)(hr9:dG 7 f.all=true) :
  Calls Tryz.prog 100 #[.pointer (some ⟨db,0,none⟩)] w (iG Q9 db mb tb D w):=by
 have HD:=hid hd;have HW:=hid hw;have HG:=hid hg;have HF:=hid hf;have HUP:=hid (vO hg);have H3:=hid hd.lt3;have HE:Hid (cN D=if dG 7 f.all=true then 0 else 20):=hid (by unfold cN;rw[if_neg (not_not_intro hg),if_neg (by rw[hf];simp),eI hf]);have HSS:Hid (cT D=dK 7 f.all):=hid (by unfold cT;rw[if_neg (by rw[hf];simp),eI hf]);clear hd hw hg hf;go_enter Tryz.func100,Tryz.ntmps100;go_wp2_with fail;generalize hw1:World.alloc w _=w1;have B1:Hid (Below w.heap.size w w1):=hid (by subst hw1;exact(Below.refl _ _).alloc (Nat.le_refl _) _);have S1:Hid (gU w1 w.heap.size db 0 0 (.slice none 0 0) (.slice none 0 0)):=hid (by
  subst hw1;exact⟨by go_cell,by go_cell,by go_cell,by go_cell,by go_cell,by simp,by simp,by simp,by simp,iF.alloc (by simp)⟩)
 clear hw1;have N1:Hid (¬aZ db mb tb w.heap.size):=hid fun e=>by have:=H3.out _ e;omega
 refine(nD w.heap.size db mb tb D w1 S1.out.c0 (HD.out.below B1.out) HW.out).mono ?_;rintro e w2 ⟨rfl,hd2,hk2⟩;have D2:=hid hd2;have K2:Hid (Kept w w2 (aZ db mb tb)):=hid ((Kept.cE B1.out).trans hk2);have S2:=hid (S1.out.kept hk2 N1.out);clear hd2 hk2;rw[HG.out];generalize hDD:(bD D).1=D' at *
 have HDD:=hid hDD;clear hDD;go_wp2_with fail;refine(kX db mb tb D' eY f w2 D2.out HUP.out (by decide) HF.out).mono ?_;rintro e w3 ⟨v3,rfl,hB3,hb3⟩;obtain⟨a3,c3,rfl,_⟩:=hB3.shape;have HB3:=hid hB3;have D3:=hid (D2.out.below hb3);have K3:Hid (Kept w w3 (aZ db mb tb)):=hid (K2.out.trans (Kept.cE hb3));have S3:Hid (gU w3 w.heap.size db 0 0 (.slice none 0 0) (.slice none 0 0)):=hid (S2.out.kept (Kept.aL hb3 (S:=fun _=>False) fun k h1 h2=>by omega) fun h=>h);clear hB3 hb3;generalize hfl:f.all.length=n at HB3 ⊢;have HR:=hid hr9;have HV:Hid (cN D=0):=hid (by rw[HE.out,hr9];rfl);clear hr9;go_wp2_with fail;refine(aAG _ f.all w3 HB3.out HR.out).mono ?_;rintro e w4 ⟨v4,rfl,hs4,hb4,hn4⟩;obtain⟨mv,dv,rfl,hm4,hd4⟩:=hs4;obtain⟨_,_,_,_,he4,hn1,hn2⟩:=hn4;simp only[Value.agg.injEq,Array.mk.injEq,List.cons.injEq,and_true]at he4;obtain⟨rfl,rfl,rfl,rfl⟩:=he4;generalize hs:dK 7 f.all=s at *
 obtain⟨am,cm,rfl,_⟩:=hm4.shape;obtain⟨ad,cd,rfl,_⟩:=hd4.shape;rw[HR.out];have HM4:=hid hm4;have HD4:=hid hd4;have HN1:=hid hn1;have HN2:=hid hn2;have D4:=hid (D3.out.below hb4);have K4:Hid (Kept w w4 (aZ db mb tb)):=hid (K3.out.trans (Kept.cE hb4));have S4:Hid (gU w4 w.heap.size db 0 0 (.slice none 0 0) (.slice none 0 0)):=hid (S3.out.kept (Kept.aL hb4 (S:=fun _=>False) fun k h1 h2=>by omega) fun h=>h);have L34:w3.heap.size<=w4.heap.size:=hb4.size;have L3:=S3.out.lt;have L4:=S4.out.lt;clear hm4 hd4 hb4 hn1 hn2 hs;obtain⟨_,k1,k2,k3,k4,f1,f2,f3,f4⟩:=S4.out;have SF:=hid ((S4.out.eN s.i s.t (.slice am s.ms.length cm) (.slice ad s.d.length cd)).kept (Kept.alloc _ (.cells #[.int .u64 s.i,.int .u64 s.t,.slice am s.ms.length cm,.slice ad s.d.length cd] 75) (fun _=>False)) (fun h=>h));have KX:Kept w4 ((((((w4.setCell ⟨w.heap.size,1,none⟩ (.int .u64 s.i)).setCell ⟨w.heap.size,2,none⟩ (.int .u64 s.t)).setCell ⟨w.heap.size,3,none⟩ (.slice am s.ms.length cm)).setCell ⟨w.heap.size,4,none⟩ (.slice ad s.d.length cd)).alloc (.cells #[.int .u64 s.i,.int .u64 s.t,.slice am s.ms.length cm,.slice ad s.d.length cd] 75))) (fun k=>k=w.heap.size):=(Kept.aD6 w4 w.heap.size _ _ _ _).trans (Kept.alloc _ _ _);have DF:=hid ((D4.out.aD6 S4.out N1.out (fun _ h=>by cases h) (fun _ h=>by cases h) (.int .u64 s.i) (.int .u64 s.t) (.slice am s.ms.length cm) (.slice ad s.d.length cd)).below ((Below.refl _ _).alloc (Nat.le_refl _) (.cells #[.int .u64 s.i,.int .u64 s.t,.slice am s.ms.length cm,.slice ad s.d.length cd] 75)));have HMF:=hid (HM4.out.kept KX fun g hg h=>by have:=HN1.out g hg;omega);have HBF:=hid (HD4.out.kept KX fun g hg h=>by have:=HN2.out g hg;omega);have KF:Hid (Kept w ((((((w4.setCell ⟨w.heap.size,1,none⟩ (.int .u64 s.i)).setCell ⟨w.heap.size,2,none⟩ (.int .u64 s.t)).setCell ⟨w.heap.size,3,none⟩ (.slice am s.ms.length cm)).setCell ⟨w.heap.size,4,none⟩ (.slice ad s.d.length cd)).alloc (.cells #[.int .u64 s.i,.int .u64 s.t,.slice am s.ms.length cm,.slice ad s.d.length cd] 75))) (aZ db mb tb)):=hid (K4.out.andThen KX fun k h1 h2=>h2.elim id fun e=>by omega);have NR:Hid (∀g,w3.heap.size<=g -> ¬aZ db mb tb g/\(g≠w.heap.size/\Q9 g)):=hid fun g hg=>⟨fun e=>by have:=D3.out.lt3 _ e;omega,by omega,hQ9 g (Nat.le_trans K3.out.size hg)⟩;clear KX;go_wp2_with fail;generalize World.alloc _ _=wF at *
 clear k1 k2 k3 k4 f1 f2 f3 f4
 go_ret2
 unfold iG;rw[HV.out,HDD.out,HSS.out];exact⟨fun h=>absurd rfl h,fun _=>⟨_,rfl,cQ.mk' SF.out HMF.out HBF.out (fun g hg=>NR.out g (HN1.out g hg)) (fun g hg=>NR.out g (HN2.out g hg)) N1.out,Nat.le_refl _⟩,DF.out,KF.out⟩
theorem aAO (Q9:Nat->Prop)(db mb tb:Nat)(D:aA)(w:World)(hQ9:∀b,w.heap.size<=b->Q9 b)(hd:aG w db mb tb D)(hw:aY D)(h0:cN D=0):Calls Tryz.prog 100 #[.pointer (some ⟨db,0,none⟩)] w (iG Q9 db mb tb D w):=by
 have hg:(bD D).2=0:=by
  by_cases hg:(bD D).2=0
  ·exact hg
  ·unfold cN at h0;rw[if_pos hg]at h0;exact h0
 cases hf:aE eY (bD D).1.files with
 | none =>
  have he:bI (bD D).1 eY=31:=by unfold bI;rw[if_neg (by rw[vO hg];decide),if_pos hf]
  have hS:cT D=eO:=by unfold cT;rw[if_pos hf]
  refine(yO Q9 db mb tb D w hQ9 hd hw hg he).mono ?_;rintro e w' ⟨sb,rfl,h1,h2,h3,h4⟩;exact⟨fun h=>absurd h0 h,fun _=>⟨sb,rfl,by rw[hS];exact h2,h4⟩,h1,h3⟩
 | some f =>
  refine aCV Q9 db mb tb D f w hQ9 hd hw hg hf ?_;unfold cN at h0;rw[if_neg (not_not_intro hg),if_neg (by rw[hf];simp),eI hf]at h0;cases hr:dG 7 f.all with
  | true=>rfl
  | false=>rw[if_neg (by rw[hr];decide)]at h0;cases h0
theorem aGi (Q9:Nat->Prop)(sb db mb tb:Nat)(s x:bM)(D D1 D2 D3 D4:aA)(n1 n2 n3 n4:Nat)(X9:aA × Nat)(v:Value)(w:World)(hQ9:∀b,w.heap.size<=b->Q9 b)(h:cQ Q9 w sb db mb tb s)(hx:cL w v x)(hxk:∀w',Kept w w' (aZ db mb tb)->cL w' v x)(hok:x.ok)(hgt:s.i<x.i)(hd0:aG w db mb tb D)
  (g0:aY D) (g1:aY D1) (g2:aY D2) (g3:aY D3) (e1:bD D=(D1,n1)) (e2:aV D1 bV (frP 4 (iN x))=(D2,n2)) (e3:syncD D2 bV=(D3,n3)) (e4:kC D3 bV eY=(D4,n4)) (hv:X9=if n1≠0 then (D1,n1) else if n2≠0 then (D2,n2) else if n3≠0 then (D3,n3) else (D4,n4)) :
  Calls Tryz.prog 136 #[.pointer (some ⟨sb,0,none⟩),v] w (zU Q9 sb db mb tb X9 s x w):=by
 have H:=hid h;have HX:=hid hx;have HXK:=hid hxk;have HOK:=hid hok;have D0:=hid hd0;have G0:=hid g0;have G1:=hid g1;have G2:=hid g2;have G3:=hid g3;have E1:=hid e1;have E2:=hid e2;have E3:=hid e3;have E4:=hid e4;have HV:=hid hv;have hgt':¬x.i<=s.i:=by omega
 obtain⟨mv,dv,rfl,hm,hd⟩:=hx;obtain⟨a,c,rfl,_⟩:=hd.shape;obtain⟨am,cm,rfl,_⟩:=hm.shape;have hsl:=h.lt;clear h hm hd hok hd0 g0 g1 g2 g3 e1 e2 e3 e4 hxk hv;go_enter Tryz.func136,Tryz.ntmps136;go_wp2_with fail;generalize hw2:World.alloc (World.alloc w _) _=w2;have B2:Hid (Below w.heap.size w w2):=hid (by subst hw2;exact((Below.refl _ _).alloc (Nat.le_refl _) _).alloc (by simp) _);have c2:w2.cell? ⟨w.heap.size,0,none⟩=some (.pointer (some ⟨sb,0,none⟩)):=by subst hw2;go_cell
 have S2:Hid (bR w2 (w.heap.size+1) x.i x.t (.slice am x.ms.length cm) (.slice a x.d.length c)):=hid (by
  subst hw2;have k:=bR.box (w.alloc (.cells #[.pointer (some ⟨sb,0,none⟩)] 107)) x.i x.t (.slice am x.ms.length cm) (.slice a x.d.length c)
  simpa using k)
 have l2:w.heap.size+1<w2.heap.size:=S2.out.lt;clear hw2;refine(aCU sb db mb tb s w2 (H.out.below B2.out).is).mono ?_;rintro e w2' ⟨rfl,rfl⟩;obtain⟨r0,r1,r2,r3,_,_,_,_⟩:=S2.out;go_wp2_with fail;refine(yI _ x w2 (HX.out.below B2.out) HOK.out).mono ?_;rintro e w3 ⟨bv,rfl,hB3,hb3,ho3⟩;obtain⟨ab,cb,rfl,_⟩:=hB3.shape;have HO3:=hid ho3;have HB3:=hid hB3;have B3:=hid hb3;have c3:=Below.at hb3 c2 (by show w.heap.size<w2.heap.size;omega);have r3':=Below.at hb3 r0 l2;have l3:=hb3.size;have H3:Hid (cQ Q9 w3 sb db mb tb s):=hid ((H.out.below B2.out).below hb3);clear hB3 hb3 ho3 r0 r1 r2 r3 c2;generalize hnb:(frP 4 (iN x)).length=nb at HB3 HO3;go_wp2_with fail;have S3:=H3.out;obtain⟨mv3,dv3,hS3,_⟩:=S3;have y0:=iH c3 (.cells #[.slice ab nb cb] 36);have y1:=iH r3' (.cells #[.slice ab nb cb] 36);have y2:=iH hS3.c1 (.cells #[.slice ab nb cb] 36);have B4:Hid (Below w.heap.size w (w3.alloc (.cells #[.slice ab nb cb] 36))):=hid ((B2.out.trans (B3.out.mono B2.out.size)).alloc (by have:=B2.out.size;omega) _);have Y3:Hid ((w3.alloc (.cells #[.slice ab nb cb] 36)).cell? ⟨w3.heap.size,0,none⟩=some (.slice ab nb cb)):=hid (by go_cell);have X4:Hid (bR (w3.alloc (.cells #[.slice ab nb cb] 36)) (w.heap.size+1) x.i x.t (.slice am x.ms.length cm) (.slice a x.d.length c)):=hid ((S2.out.kept (Kept.aL B3.out (S:=fun _=>False) fun k h1 h2=>by omega) (fun h=>h)).kept (Kept.alloc _ _ (fun _=>False)) (fun h=>h));clear hS3 c3 r3';have hbc:w3.heap.size<(w3.alloc (.cells #[.slice ab nb cb] 36)).heap.size:=by simp
 have HB4:Hid (Bytes (w3.alloc (.cells #[.slice ab nb cb] 36)) (.slice ab nb cb) (frP 4 (iN x))):=hid (HB3.out.alloc _);generalize w3.heap.size=bc at *
 generalize World.alloc w3 _=w4 at *
 go_quiet (fail)
 have IQ:Hid (Below w.heap.size w (w4.drewN nq)):=hid (lP B4.out nq);have YQ:Hid ((w4.drewN nq).cell? ⟨w.heap.size,0,none⟩=some (.pointer (some ⟨sb,0,none⟩))/\(w4.drewN nq).cell? ⟨bc,0,none⟩=some (.slice ab nb cb)/\bR (w4.drewN nq) (w.heap.size+1) x.i x.t (.slice am x.ms.length cm) (.slice a x.d.length c)/\Bytes (w4.drewN nq) (.slice ab nb cb) (frP 4 (iN x))/\bc<(w4.drewN nq).heap.size):=by
  have k:=lP (Below.refl w4.heap.size w4) nq;exact hid ⟨Below.at k y0 (World.block_lt_of_cell? _ _ y0),Below.at k Y3.out hbc,X4.out.below k,HB4.out.below k,Nat.lt_of_lt_of_le hbc k.size⟩
 clear y0 y1 y2 hbc;generalize w4.drewN nq=wq at IQ YQ ⊢;have z0:=YQ.out.1;have hmf:∀(fn:Fn) (first cap:Array Value) (w:World),(Instr.makeFunc fn first cap).run Tryz.prog w = .ok (.func fn first cap) w:=fun _ _ _ _=>rfl;go_wp2_with fail;have l3':w2.heap.size<=bc:=l3;have hW0s:wq.heap.size<=(World.alloc wq (.cells #[.func (Fn.func 146) #[.pointer (some ⟨sb,0,none⟩)] #[],.func (Fn.func 175) #[] #[.pointer (some ⟨w.heap.size,0,none⟩),.pointer (some ⟨bc,0,none⟩)],.func (Fn.func 176) #[] #[.pointer (some ⟨w.heap.size,0,none⟩)],.func (Fn.func 177) #[] #[.pointer (some ⟨w.heap.size,0,none⟩)]] 266)).heap.size:=by simp
 clear hW0s;generalize hW0:World.alloc wq _=W0;have BW0:Below wq.heap.size wq W0:=by subst hW0;exact(Below.refl _ _).alloc (Nat.le_refl _) _
 clear hW0;have T0:Hid (W0.cell? ⟨w.heap.size,0,none⟩=some (.pointer (some ⟨sb,0,none⟩))/\W0.cell? ⟨bc,0,none⟩=some (.slice ab nb cb)/\bR W0 (w.heap.size+1) x.i x.t (.slice am x.ms.length cm) (.slice a x.d.length c)/\Bytes W0 (.slice ab nb cb) (frP 4 (iN x))) :=
  hid ⟨Below.at BW0 YQ.out.1 (World.block_lt_of_cell? _ _ YQ.out.1),Below.at BW0 YQ.out.2.1 YQ.out.2.2.2.2,YQ.out.2.2.1.below BW0,YQ.out.2.2.2.1.below BW0⟩
 have IW:Hid (Below w.heap.size w W0):=hid (IQ.out.trans (BW0.mono IQ.out.size));have DW:=hid (D0.out.below IW.out);have HW:=hid (H.out.below IW.out);have N3:Hid (¬aZ db mb tb w.heap.size /\ ¬aZ db mb tb (w.heap.size+1) /\ ¬aZ db mb tb bc /\ ∀g,(Value.slice ab nb cb).ownBlock=some g -> ¬aZ db mb tb g):=hid ⟨fun e=>by have:=D0.out.lt3 _ e;omega,fun e=>by have:=D0.out.lt3 _ e;omega,fun e=>by have:=D0.out.lt3 _ e;omega,fun g hg e=>by have:=D0.out.lt3 _ e;have:=HO3.out g hg;omega⟩;clear BW0 z0 YQ IQ B4 X4 Y3 HB4 S2 B2 B3 H3 HB3 HO3 l2 l3 l3' hnb
 go_loopw [38] (fun i wr=>∃(j:Nat) (Dc:aA),i = .int .i64 j/\((j=0/\Dc=D)\/(j=1/\Dc=D1/\n1=0)\/(j=2/\Dc=D2/\n1=0/\n2=0)\/(j=3/\Dc=D3/\n1=0/\n2=0/\n3=0)\/(j=4/\Dc=D4/\n1=0/\n2=0/\n3=0/\n4=0))/\aG wr db mb tb Dc/\Kept W0 wr (aZ db mb tb)) (fun i _=>4-(intOf i).toNat)
 case atStart=>exact⟨0,D,rfl,.inl ⟨rfl,rfl⟩,DW.out,Kept.refl _ _⟩
 case round =>
  obtain⟨j,Dc,rfl,hc,hdr,hkr⟩:=hrel;have DR:=hid hdr;have KR:=hid hkr;have HR:Hid (cQ Q9 wr sb db mb tb s):=hid (HW.out.kept hkr);have TR:Hid (wr.cell? ⟨w.heap.size,0,none⟩=some (.pointer (some ⟨sb,0,none⟩))/\wr.cell? ⟨bc,0,none⟩=some (.slice ab nb cb)/\bR wr (w.heap.size+1) x.i x.t (.slice am x.ms.length cm) (.slice a x.d.length c)/\Bytes wr (.slice ab nb cb) (frP 4 (iN x))) :=
   hid ⟨hkr.cell T0.out.1 N3.out.1,hkr.cell T0.out.2.1 N3.out.2.2.1,T0.out.2.2.1.kept hkr N3.out.2.1,T0.out.2.2.2.kept hkr N3.out.2.2.2⟩
  have HC:Hid (wr.cell? ⟨sb,0,none⟩=some (.pointer (some ⟨db,0,none⟩))):=hid (by obtain⟨_,_,h,_⟩:=HR.out;exact h.c0);clear hdr hkr;rcases hc with ⟨rfl,rfl⟩|⟨rfl,rfl,rfl⟩|⟨rfl,rfl,rfl,rfl⟩|⟨rfl,rfl,rfl,rfl,rfl⟩|⟨rfl,rfl,rfl,rfl,rfl,rfl⟩
  ·rw[show ((0:Nat):Int)=0 from rfl];have hix:=fun w0=>aBf (.func (Fn.func 146) #[.pointer (some ⟨sb,0,none⟩)] #[]) (.func (Fn.func 175) #[] #[.pointer (some ⟨w.heap.size,0,none⟩),.pointer (some ⟨bc,0,none⟩)]) (.func (Fn.func 176) #[] #[.pointer (some ⟨w.heap.size,0,none⟩)]) (.func (Fn.func 177) #[] #[.pointer (some ⟨w.heap.size,0,none⟩)]) _ 0 w0 rfl;rw[show ((0:Nat):Int)=0 from rfl]at hix;go_wp2_with fail;refine(nD sb db mb tb _ wr HC.out DR.out G0.out).mono ?_;rintro e w5 ⟨rfl,hd5,hk5⟩;rw[E1.out]at hd5 ⊢;have D5:=hid hd5;have K5:=hid (KR.out.trans hk5);clear hd5 hk5 hix;by_cases hn:n1=0
   ·subst hn;rw[show ((0:Nat):Int)=0 from rfl];go_wp2_with fail
    go_roundw
    case rel=>exact⟨1,D1,by first|rfl|go_num,by simp,D5.out,K5.out⟩
    all_goals (show 4-((1:Int)).toNat<4-((0:Int)).toNat;decide)
   ·have hkb:((n1:Int) != 0)=true:=by simp;omega
    go_wp2_with fail;go_ret;have hR:X9=(D1,n1):=by rw[HV.out];simp[hn]
    rw[hR];refine⟨rfl,D5.out,?_,?_⟩
    ·rw[if_neg hn];exact HW.out.kept K5.out
    ·exact((Kept.cE IW.out).trans K5.out).mono fun k _ h=>.inl h
  ·rw[show ((1:Nat):Int)=1 from rfl];have hix:=fun w0=>aBf (.func (Fn.func 146) #[.pointer (some ⟨sb,0,none⟩)] #[]) (.func (Fn.func 175) #[] #[.pointer (some ⟨w.heap.size,0,none⟩),.pointer (some ⟨bc,0,none⟩)]) (.func (Fn.func 176) #[] #[.pointer (some ⟨w.heap.size,0,none⟩)]) (.func (Fn.func 177) #[] #[.pointer (some ⟨w.heap.size,0,none⟩)]) _ 1 w0 rfl;rw[show ((1:Nat):Int)=1 from rfl]at hix;go_wp2_with fail;refine(aGb w.heap.size bc sb db mb tb _ ab nb cb _ wr TR.out.1 TR.out.2.1 HC.out DR.out G1.out TR.out.2.2.2).mono ?_;rintro e w5 ⟨rfl,hd5,hk5⟩;rw[E2.out]at hd5 ⊢;have D5:=hid hd5;have K5:=hid (KR.out.trans hk5);clear hd5 hk5 hix;by_cases hn:n2=0
   ·subst hn;rw[show ((0:Nat):Int)=0 from rfl];go_wp2_with fail
    go_roundw
    case rel=>exact⟨2,D2,by first|rfl|go_num,by simp,D5.out,K5.out⟩
    all_goals (show 4-((2:Int)).toNat<4-((1:Int)).toNat;decide)
   ·have hkb:((n2:Int) != 0)=true:=by simp;omega
    go_wp2_with fail;go_ret;have hR:X9=(D2,n2):=by rw[HV.out];simp[hn]
    rw[hR];refine⟨rfl,D5.out,?_,?_⟩
    ·rw[if_neg hn];exact HW.out.kept K5.out
    ·exact((Kept.cE IW.out).trans K5.out).mono fun k _ h=>.inl h
  ·rw[show ((2:Nat):Int)=2 from rfl];have hix:=fun w0=>aBf (.func (Fn.func 146) #[.pointer (some ⟨sb,0,none⟩)] #[]) (.func (Fn.func 175) #[] #[.pointer (some ⟨w.heap.size,0,none⟩),.pointer (some ⟨bc,0,none⟩)]) (.func (Fn.func 176) #[] #[.pointer (some ⟨w.heap.size,0,none⟩)]) (.func (Fn.func 177) #[] #[.pointer (some ⟨w.heap.size,0,none⟩)]) _ 2 w0 rfl;rw[show ((2:Nat):Int)=2 from rfl]at hix;go_wp2_with fail;refine(aGc w.heap.size sb db mb tb _ wr TR.out.1 HC.out DR.out G2.out).mono ?_;rintro e w5 ⟨rfl,hd5,hk5⟩;rw[E3.out]at hd5 ⊢;have D5:=hid hd5;have K5:=hid (KR.out.trans hk5);clear hd5 hk5 hix;by_cases hn:n3=0
   ·subst hn;rw[show ((0:Nat):Int)=0 from rfl];go_wp2_with fail
    go_roundw
    case rel=>exact⟨3,D3,by first|rfl|go_num,by simp,D5.out,K5.out⟩
    all_goals (show 4-((3:Int)).toNat<4-((2:Int)).toNat;decide)
   ·have hkb:((n3:Int) != 0)=true:=by simp;omega
    go_wp2_with fail;go_ret;have hR:X9=(D3,n3):=by rw[HV.out];simp[hn]
    rw[hR];refine⟨rfl,D5.out,?_,?_⟩
    ·rw[if_neg hn];exact HW.out.kept K5.out
    ·exact((Kept.cE IW.out).trans K5.out).mono fun k _ h=>.inl h
  ·rw[show ((3:Nat):Int)=3 from rfl];have hix:=fun w0=>aBf (.func (Fn.func 146) #[.pointer (some ⟨sb,0,none⟩)] #[]) (.func (Fn.func 175) #[] #[.pointer (some ⟨w.heap.size,0,none⟩),.pointer (some ⟨bc,0,none⟩)]) (.func (Fn.func 176) #[] #[.pointer (some ⟨w.heap.size,0,none⟩)]) (.func (Fn.func 177) #[] #[.pointer (some ⟨w.heap.size,0,none⟩)]) _ 3 w0 rfl;rw[show ((3:Nat):Int)=3 from rfl]at hix;go_wp2_with fail;refine(aGd w.heap.size sb db mb tb _ wr TR.out.1 HC.out DR.out G3.out).mono ?_;rintro e w5 ⟨rfl,hd5,hk5⟩;rw[E4.out]at hd5 ⊢;have D5:=hid hd5;have K5:=hid (KR.out.trans hk5);clear hd5 hk5 hix;by_cases hn:n4=0
   ·subst hn;rw[show ((0:Nat):Int)=0 from rfl];go_wp2_with fail
    go_roundw
    case rel=>exact⟨4,D4,by first|rfl|go_num,by simp,D5.out,K5.out⟩
    all_goals (show 4-((4:Int)).toNat<4-((3:Int)).toNat;decide)
   ·have hkb:((n4:Int) != 0)=true:=by simp;omega
    go_wp2_with fail;go_ret;have hR:X9=(D4,n4):=by rw[HV.out];simp
    rw[hR];refine⟨rfl,D5.out,?_,?_⟩
    ·rw[if_neg hn];exact HW.out.kept K5.out
    ·exact((Kept.cE IW.out).trans K5.out).mono fun k _ h=>.inl h
  ·rw[show ((4:Nat):Int)=4 from rfl];go_wp2_with fail;obtain⟨mvs,dvs,hS5,hms,hds,_,_,hno,_⟩:=HR.out;have HS5:=hid hS5;have HNO:=hid hno;have HMV:Hid (∀x,mvs ≠ .int .u8 x):=hid (by obtain⟨_,_,e,_⟩:=hms.shape;rw[e];exact fun x h=>by cases h);have HDV:Hid (∀x,dvs ≠ .int .u8 x):=hid (by obtain⟨_,_,e,_⟩:=hds.shape;rw[e];exact fun x h=>by cases h);have hlw:w.heap.size<wr.heap.size:=World.block_lt_of_cell? _ _ TR.out.1;have ST:=aR.from wr;have KW:Hid (Kept w wr (aZ db mb tb)):=hid ((Kept.cE IW.out).trans KR.out);clear hS5 hno hms hds;refine aU [0,0,2,7,15,31] 4 (fun w'=>Below wr.heap.size wr w') (by kernel_rfl) ?_;refine aB [0,1] (by kernel_rfl) (L:=bm 6 3) (by kernel_rfl) (f':=4) rfl (fun _ _ _ _ h=>h) (fun w o h=>ST.alloc h o) (.inr (by first|exact Below.refl _ _|exact(Below.refl _ _).drew)) ?_;simp only[sF,sL]
   iterate 2 (first|(refine aW _ (by rfl) (fun w' hs=>by have y0:=Below.at hs TR.out.1 hlw;obtain⟨r0,r1,r2,r3,_,_,_,_⟩:=TR.out.2.2.1.below hs;go_simp;try with_reducible rfl) rfl ?_;simp only[Act.put,sA])|(refine aC _ (by rfl) (fun w'=>by go_simp;try with_reducible rfl) ?_;simp only[Act.put,sA]))
   refine aI ?_;refine aM 2 (by kernel_rfl) (L:=bm 6 7) (by kernel_rfl) ?_;simp only[sL];go_wp2_with fail;refine(aAM _ x _ ((HXK.out wr KW.out).below (by first|exact Below.refl _ _|exact(Below.refl _ _).drew))).mono ?_;rintro e w6 ⟨v6,rfl,⟨mv6,dv6,rfl,om,od⟩,hb6⟩;obtain⟨am6,cm6,rfl⟩:=om.shape;obtain⟨ad6,cd6,rfl⟩:=od.shape;have OM:Hid (cC w6 wr.heap.size 3 .i64 (.slice am6 x.ms.length cm6) x.ms):=hid om;have OD:Hid (cC w6 wr.heap.size 5 .u8 (.slice ad6 (ints x.d).length cd6) (ints x.d)):=hid od;have I6:Hid (Below wr.heap.size wr w6):=hid (by first|exact hb6|exact((Below.refl _ _).drew).trans hb6);clear om od hb6;go_wp2_with fail;refine aH (fun _=>I6.out) ?_;refine aB [3,4] (by kernel_rfl) (L:=bm 6 31) (by kernel_rfl) (f':=1) rfl (fun _ _ _ _ h=>h) (fun w o h=>ST.alloc h o) (.inl (by kernel_rfl)) ?_;simp only[sF,sL]
   iterate 2 (refine aC _ (by rfl) (fun w'=>by go_simp;try with_reducible rfl) ?_;simp only[Act.put,sA])
   refine aI ?_;refine aM 5 (by kernel_rfl) (L:=bm 6 63) (by kernel_rfl) ?_;simp only[sL];obtain⟨_,k1,k2,k3,k4,f1,f2,f3,f4⟩:=HS5.out.kept (Kept.aL I6.out (S:=fun _=>False) fun k h1 h2=>by omega) (fun h=>h);go_wp2_with fail;refine aH nofun ?_;refine bC (by kernel_rfl) ?_;generalize hwF:World.setCell _ _ _=wF;have S6:Hid (gU w6 sb db s.i s.t mvs dvs):=hid (HS5.out.kept (Kept.aL I6.out (S:=fun _=>False) fun k h1 h2=>by omega) (fun h=>h));have KF:Hid (Kept w6 wF (fun k=>k=sb)):=hid (by subst hwF;exact Kept.aD6 _ _ _ _ _ _);have SF:Hid (gU wF sb db x.i x.t (.slice am6 x.ms.length cm6) (.slice ad6 (ints x.d).length cd6)):=hid (by subst hwF;exact S6.out.eN _ _ _ _);have DF:Hid (aG wF db mb tb Dc):=hid (by subst hwF;exact(DR.out.below I6.out).aD6 S6.out HNO.out HMV.out HDV.out _ _ _ _);have hsw:=HS5.out.lt;have NW:Hid (∀g,wr.heap.size<=g -> ¬aZ db mb tb g/\(g≠sb/\Q9 g)):=hid fun g hg=>⟨fun e=>by have:=DR.out.lt3 _ e;omega,by omega,hQ9 g (Nat.le_trans KW.out.size hg)⟩;have HXD:Hid ((∀c ∈ x.d,c<256)/\x.d.length<=2097152/\x.ms.length<=2097152):=hid (by obtain⟨_,_,_,h1,h2⟩:=HX.out;exact⟨h2.lt,h2.small,h1.small⟩);clear hwF k1 k2 k3 k4 f1 f2 f3 f4;go_wp2_with fail;go_ret;have hR:X9=(Dc,0):=by rw[HV.out];rfl
   rw[hR];refine⟨rfl,DF.out,cQ.mk' SF.out (Ints.dL (OM.out.kept KF.out fun g hg=>(NW.out g (OM.out.lt g hg).1).2.1) HXD.out.2.2) (Bytes.dL (OD.out.kept KF.out fun g hg=>(NW.out g (OD.out.lt g hg).1).2.1) HXD.out.1 HXD.out.2.1) (fun g hg=>NW.out g (OM.out.lt g hg).1) (fun g hg=>NW.out g (OD.out.lt g hg).1) HNO.out,?_⟩;refine(KW.out.mono fun k _ h=>.inl h).trans (Kept.trans ?_ (KF.out.mono fun k _ h=>.inr h));exact Kept.aL I6.out fun k h1 h2=>by omega

theorem aEa (Q9:Nat->Prop)(sb db mb tb:Nat)(s x:bM)(D:aA)(v:Value)(w:World)(hQ9:∀b,w.heap.size<=b->Q9 b)(h:cQ Q9 w sb db mb tb s)(hx:cL w v x)(hxk:∀w',Kept w w' (aZ db mb tb)->cL w' v x)(hd:aG w db mb tb D)(g:aY D)(hs:D.steps+4<=1000000000) :
  Calls Tryz.prog 136 #[.pointer (some ⟨sb,0,none⟩),v] w (zU Q9 sb db mb tb (eC D s x) s x w):=by
 unfold eC;by_cases hok:x.ok
 ·rw[if_neg (not_not_intro hok)];by_cases hle:x.i<=s.i
  ·rw[if_pos hle];exact(aGj sb db mb tb s x v w h.is hx hok hle).mono fun e w' ⟨he,hb⟩=>⟨he,hd.below hb,h.below hb,(Kept.cE hb).mono fun k _ h=>.inl h⟩
  ·rw[if_neg hle];have h1:=kZ g (by omega);have h2:=h1.1.append bV (frP 4 (iN x)) (by omega);have h3:=h2.1.sync bV (by omega);exact aGi Q9 sb db mb tb s x D (bD D).1 (aV (bD D).1 bV (frP 4 (iN x))).1 (syncD (aV (bD D).1 bV (frP 4 (iN x))).1 bV).1 (kC (syncD (aV (bD D).1 bV (frP 4 (iN x))).1 bV).1 bV eY).1
    (bD D).2 (aV (bD D).1 bV (frP 4 (iN x))).2 (syncD (aV (bD D).1 bV (frP 4 (iN x))).1 bV).2 (kC (syncD (aV (bD D).1 bV (frP 4 (iN x))).1 bV).1 bV eY).2 _ v w hQ9 h hx hxk hok (by omega) hd g h1.1 h2.1 h3.1 rfl rfl rfl rfl rfl
 ·rw[if_pos hok];exact(aGh sb db mb tb s x v w h.is hx hok).mono fun e w' ⟨he,hb⟩=>⟨he,hd.below hb,h.below hb,(Kept.cE hb).mono fun k _ h=>.inl h⟩

theorem aB6 (l:bN)(j:Nat)(hj:j<l.length)(u:Value):(aN l).set j (((aN l)[j]'(by rw[aO];exact hj)).set 2 u)=aN (l.set j ((l[j]).1,u)):=by
 unfold aN;rw[List.map_set,List.getElem_map];rfl
structure CpI (w wr:World)(g n c:Nat)(es:List cU)(j:Nat)(el:bN):Prop where
 own:cM wr 38 3 (.slice (some ⟨g,0,none⟩) n c) (aN el)
 es:el.map (·.1)=es
 dat:cA wr (fun _=>False) el
 new:∀i (h:i<el.length),i<j -> ∀b,(el[i]).2.ownBlock=some b->w.heap.size<=b
 bel:Below w.heap.size w wr

theorem tD (v:Value)(l:bN)(w:World)(h:bJ w 3 v (aN l))(hd:cA w (fun _=>False) l)(hl:l.length<=2147483648) :
  Calls Tryz.prog 60 #[v] w fun e w'=>∃v',e = .returned v' /\ ∃l',cM w' 38 3 v' (aN l')/\l'.map (·.1)=l.map (·.1)/\cA w' (fun k=>k<w.heap.size) l'/\(∀b,v'.ownBlock=some b->w.heap.size<=b)/\Below w.heap.size w w':=by
 have H:=hid h;have HD:=hid hd;have HL:=hid hl;obtain⟨a,c,rfl,_⟩:=h.shape;clear h hd;go_enter Tryz.func60,Tryz.ntmps60;go_wp2_with fail;refine(wP _ l w H.out HD.out HL.out).mono ?_;rintro e w1 ⟨v1,rfl,ho1,hb1,hn1⟩;have O1:=hid ho1;have B1:=hid hb1;have N1:=hid hn1;have D1:Hid (cA w1 (fun _=>False) l):=hid (HD.out.kept (Kept.aL hb1 (S:=fun _=>False) fun k h1 h2=>by omega) fun _ h=>h);obtain⟨n,hn⟩:∃n,l.length=n:=⟨_,rfl⟩;have HN:=hid hn;obtain⟨a1,c1,rfl,hc1⟩:=ho1.shape;rw[aO,hn]at O1 N1 hc1 ⊢;have hn':(n:Int)<=2147483648:=by omega
 clear ho1 hb1 hn1 hl hn;by_cases h0:n=0
 ·have hl0:l = []:=List.eq_nil_of_length_eq_zero (HN.out.trans h0);subst hl0;have hn0:(n:Int)=0:=by omega
  have HZ:=hid h0;clear h0 hn';go_wp2_with fail;refine wp_loop_rounds 1 ?_;rw[rounds_succ];go_wp2_with fail;go_ret;exact⟨_,rfl,[],by have h:=O1.out;exact h,rfl,nofun,N1.out,B1.out⟩
 ·obtain⟨g,c',hv,hc,hg⟩:=cM.some O1.out (by intro e;have:=congrArg List.length e;rw[aO]at this;simp at this;exact h0 (by rw[<- HN.out,this];rfl));obtain⟨hv1,hv2,hv3⟩:=Value.slice.inj hv;subst hv1 hv3;clear hv2;have I0:Hid (CpI w w1 g n c1 (l.map (·.1)) 0 l):=hid ⟨O1.out,rfl,D1.out,fun i _ h=>absurd h (Nat.not_lt_zero i),B1.out⟩
  have NG:Hid (w.heap.size<=g):=hid (N1.out g rfl);clear h0 hv hc hg O1 N1 D1;go_wp2_with fail
  go_loopw [4,9] (fun _ y wr=>∃(j:Nat) (el:bN),j<=n/\y = .int .i64 j/\el.length=n/\CpI w wr g n c1 (l.map (·.1)) j el) (fun _ y _=>n-(intOf y).toNat)
  case atStart=>exact⟨0,l,Nat.zero_le _,rfl,HN.out,I0.out⟩
  case round =>
   obtain⟨j,el,hj,rfl,hel,hI⟩:=hrel;have HI:=hid hI;have HE:=hid hel;clear hI hel;by_cases hlt:j<n
   ·have hje:j<el.length:=by rw[HE.out];exact hlt
    obtain⟨p,hp⟩:∃p,el[j]=p:=⟨_,rfl⟩;have hpm:p ∈ el:=hp ▸ List.getElem_mem hje;obtain⟨hpB,hpf,_⟩:=HI.out.dat p hpm;have HPB:=hid hpB;have HPF:=hid hpf;have q2:wr.cell? ⟨g,j*3+2,none⟩=some p.2:=by
     have h1:=HI.out.own.flat (j*3+2) p.2 (kY HI.out.own.each (by rw[aO];exact hje) (by simp[aN,hp,eP]))
     rwa [Addr.add_lit,Nat.zero_add]at h1
    have f2:=cM.yZ HI.out.own (j*3+2);obtain⟨e0,pv⟩:=p;simp only at q2 HPB;obtain⟨pa,pc,rfl,_⟩:=HPB.out.shape;have HP:=hid (show ∃h:j<el.length,el[j]=(e0,Value.slice pa e0.d.length pc) from⟨hje,hp⟩);have j0:(0:Int)<=(j:Int):=by omega
    have j1:(j:Int)<(n:Int):=by omega
    have HDL:Hid ((ints e0.d).length<=2097152):=hid (by rw[aS];exact HPB.out.small);clear hp hpm hpB hpf hje;go_wp2_with fail;refine(nJ _ _ wr HPB.out.rd HDL.out).mono ?_;rintro e w2 ⟨v2,rfl,ho2,hb2⟩;have B2:=hid hb2;have NB2:Hid (∀b,v2.ownBlock=some b->wr.heap.size<=b):=hid fun b hb=>(ho2.lt b hb).1;have HB2:Hid (Bytes w2 v2 e0.d):=hid (Bytes.dL ho2 HPB.out.lt HPB.out.small);obtain⟨a2,n2,c2,rfl⟩:∃a n c,v2=Value.slice a n c:=by obtain⟨a,c,e⟩:=ho2.shape;exact⟨a,_,c,e⟩
    have OW2:=hid (HI.out.own.below hb2);have DW2:Hid (cA w2 (fun _=>False) el):=hid (HI.out.dat.kept (Kept.aL hb2 (S:=fun _=>False) fun k h1 h2=>by omega) fun _ h=>h);have hgl:g<wr.heap.size:=HI.out.own.lt g rfl;have z2:w2.cell? ⟨g,j*3+2,none⟩=some (.slice pa e0.d.length pc):=Below.at hb2 q2 hgl;have y2:w2.frozen? ⟨g,j*3+2,none⟩=false:=by rw[hb2.frozen (p:=⟨g,j*3+2,none⟩) hgl];exact f2
    clear ho2 hb2 q2 f2;go_wp2_with fail
    go_roundw
    case rel =>
     obtain⟨hje,hp⟩:=HP.out;have hk:Kept w2 (w2.setCell ⟨g,j*3+2,none⟩ (.slice a2 n2 c2)) (fun k=>k=g):=Kept.setCell w2 ⟨g,j*3+2,none⟩ _;have hnb:NoB w2 (fun k=>k=g):=fun k hk2=>gB OW2.out k (by rw[hk2];rfl);have hs:=OW2.out.stored (k:=j) (i:=2) (by rw[aO];exact hje) (by decide) (u:=.slice a2 n2 c2) (fun x e=>by cases e);rw[aB6 el j hje,hp]at hs;refine⟨j+1,el.set j (e0,.slice a2 n2 c2),by omega,by go_num,by rw[List.length_set];exact HE.out,hs,?_,?_,?_,?_⟩
     ·rw[List.map_set];have:(el.map (·.1))[j]'(by rw[List.length_map];exact hje)=e0:=by rw[List.getElem_map,hp]
      conv=>lhs;arg 3;rw[<- this]
      rw[List.set_getElem_self];exact HI.out.es
     ·intro q hq;rcases List.mem_or_eq_of_mem_set hq with hq|rfl
      ·obtain⟨h1,h2,_⟩:=DW2.out q hq;exact⟨h1.cR hk hnb,h2,fun _ _ h=>h⟩
      ·exact⟨HB2.out.cR hk hnb,HPF.out,fun _ _ h=>h⟩
     ·intro i hi hij b hb;rw[List.length_set]at hi;by_cases e:i=j
      ·subst e;rw[List.getElem_set_self]at hb;exact Nat.le_trans HI.out.bel.size (NB2.out b hb)
      ·rw[List.getElem_set_ne (fun h=>e h.symm)]at hb;exact HI.out.new i hi (by omega) b hb
     ·exact(HI.out.bel.trans (B2.out.mono HI.out.bel.size)).setCell NG.out _
    case measure=>simp[intOf];omega
   ·have z0:¬(j:Int)<(n:Int):=by omega
    have hjn:j=n:=by omega
    have HJN:=hid hjn;clear hjn hlt;go_wp2_with fail;go_ret;refine⟨_,rfl,el,HI.out.own,HI.out.es,fun q hq=>?_,fun b hb=>by obtain rfl:=Option.some.inj hb;exact NG.out,HI.out.bel⟩;obtain⟨h1,h2,_⟩:=HI.out.dat q hq;refine⟨h1,h2,fun b hb hlt=>?_⟩;obtain⟨i,hi,rfl⟩:=List.getElem_of_mem hq;have:=HI.out.new i hi (by rw[HJN.out,<- HE.out];exact hi) b hb;omega
end Go.Proofs.YtjdglpcnkiioeaaGreat
namespace Go.Proofs.YtjdglpcnkiioeaaGreat
open Go.RowKit Go.Maps Go.Proofs.Own Go.Shelf

inductive nH (N:ByteArray->Prop):aA->aA->Prop
 | refl (D:aA):nH N D D
 | remove (D:aA) (n:ByteArray) (h:N n):nH N D (removeD D n).1
 | sync (D:aA) (n:ByteArray) (h:N n):nH N D (syncD D n).1
 | cut (D:aA) (n:ByteArray) (k:Int) (h:N n):nH N D (cutD D n k).1
 | append (D:aA) (n:ByteArray) (b:List Nat) (h:N n):nH N D (aV D n b).1
 | move (D:aA) (n m:ByteArray) (h:N n) (g:N m):nH N D (kC D n m).1
 | trans {D D1 D2:aA} (h:nH N D D1) (g:nH N D1 D2):nH N D D2
theorem zS {D:aA}(n:ByteArray)(h:bQ D.files):bQ (removeD D n).1.files:=(oE.remove D n).rising h
theorem aC0 {D:aA}(n:ByteArray)(h:bQ D.files):bQ (syncD D n).1.files:=(oE.sync D n).rising h
theorem aDp {D:aA}(n:ByteArray)(k:Int)(h:bQ D.files):bQ (cutD D n k).1.files:=by
 unfold cutD;split
 ·rename_i f _;split
  ·exact h
  ·split
   ·exact h
   ·split
    ·rw[show (bP D,50).1.files=D.files from bE D];exact h
    ·exact h.put ⟨f.name,f.all.take k.toNat,min f.kept k.toNat⟩
 ·exact h
theorem zM {D:aA}(n:ByteArray)(b:List Nat)(h:bQ D.files):bQ (aV D n b).1.files:=by
 unfold aV;split
 ·exact h
 ·rw[show (bP (lL D n b),gJ D).1.files=(lL D n b).files from bE _];exact h.put { cW D n with all:=(cW D n).all++b }
theorem aCq {D:aA}(n to:ByteArray)(h:bQ D.files):bQ (kC D n to).1.files:=by
 unfold kC;split
 ·rename_i f _;split
  ·exact h
  ·split
   ·exact h
   ·split
    ·rw[show (bP D,50).1.files=D.files from bE D];exact h
    ·exact(h.del n).put { f with name:=to }
 ·exact h
theorem nH.rising {N:ByteArray->Prop}{D D':aA}(h:nH N D D')(hr:bQ D.files):bQ D'.files:=by
 induction h with
 | refl=>exact hr
 | remove D n _=>exact zS n hr
 | sync D n _=>exact aC0 n hr
 | cut D n k _=>exact aDp n k hr
 | append D n b _=>exact zM n b hr
 | move D n t _ _=>exact aCq n t hr
 | trans _ _ h1 h2=>exact h2 (h1 hr)
def NV (n:ByteArray):Prop:=n=dR\/n=fH
def NS (n:ByteArray):Prop:=n=eY\/n=bV
theorem pO (D:aA)(n:ByteArray){N:ByteArray->Prop}(h:N n):nH N D (dM D n).1:=.remove _ _ h
theorem zV (D:aA)(n:ByteArray)(b:List Nat){N:ByteArray->Prop}(h:N n):nH N D (aBF D n b).1:=by
 unfold aBF;split
 ·exact .append _ _ _ h
 ·exact .trans (.append _ _ _ h) (.sync _ _ h)
theorem wD (D:aA):nH NV D (aT D).1:=by
 unfold aT;split
 ·exact pO _ _ (.inr rfl)
 ·refine .trans (pO _ _ (.inr rfl)) ?_;have h1:∀E,nH NV E (dD E).1:=fun E=>by
   unfold dD;split
   ·exact .cut _ _ _ (.inl rfl)
   ·exact .refl _
  unfold dI;split
  ·exact .refl _
  ·split
   ·exact .refl _
   ·split
    ·exact h1 _
    ·exact .trans (h1 _) (.sync _ _ (.inl rfl))
theorem qI (D:aA):nH NS D (bD D).1:=.remove _ _ (.inr rfl)
theorem aFa (D:aA)(s x:bM):nH NS D (eC D s x).1:=by
 unfold eC;split
 ·exact .refl _
 ·split
  ·exact .refl _
  ·rw[aD5];unfold aJA;split
   ·exact pO _ _ (.inr rfl)
   ·refine .trans (pO _ _ (.inr rfl)) ?_;split
    ·exact zV _ _ _ (.inr rfl)
    ·exact .trans (zV _ _ _ (.inr rfl)) (.move _ _ _ (.inr rfl) (.inl rfl))

def xE:cU:=⟨1,1,[]⟩
def dX:aA:=⟨1000,[],false,-1,0⟩
def lX:aQ:=⟨0,[],[],0⟩
theorem aKt:dP dX 0=(dX,some lX,0):=by kernel_rfl
theorem aIg:aY dX:=⟨⟨by decide,by decide,by decide,by decide,by decide,by decide,by decide,fun f h=>by cases h⟩,by decide,by decide⟩
theorem aK8:fN dX lX []:=(aFQ (D:=dX) (b:=0) ⟨rfl,rfl⟩ (by decide) rfl).2
theorem aKu:bQ dX.files:=List.Pairwise.nil
end Go.Proofs.YtjdglpcnkiioeaaGreat
namespace Go.Proofs.YtjdglpcnkiioeaaGreat
open Go.Lib (hid)
open Go.RowKit Go.Maps Go.Proofs.Own

theorem aFZ (w:World)(f:aJ):∀j u,(rfV f)[j]? = some u->(w.alloc (.cells #[.string f.name,.string (bX f.all),.int .i64 f.kept] 159)).cell? ⟨w.heap.size,j,none⟩=some u:=by
 intro j u hu
 match j,hu with
 | 0,hu=>obtain rfl:Value.string f.name=u:=Option.some.inj hu;go_cell
 | 1,hu=>obtain rfl:Value.string (bX f.all)=u:=Option.some.inj hu;go_cell
 | 2,hu=>obtain rfl:Value.int .i64 f.kept=u:=Option.some.inj hu;go_cell
theorem aKM {w:World}{B n c:Nat}{a:Option Addr}{P:List (aJ × Value × Value)}{L:List aJ}(hP:P.map (·.1)=L)(hr:bJ w 3 (.slice a n c) (P.map fiV))(hk:∀p ∈ P,vG w B p)
  (hl:∀f ∈ L,((∀c ∈ f.all,c<256)/\f.all.length<=2097152)/\f.kept<=f.all.length) {j:Nat} {f:aJ} (hj:L[j]? = some f) :
  ∃b o ka kc la lc,a=some ⟨b,o,none⟩/\b<w.heap.size/\w.cell? ⟨b,o+j*3,none⟩=some (.string f.name)/\w.cell? ⟨b,o+j*3+1,none⟩=some (.slice ka f.kept kc)/\w.cell? ⟨b,o+j*3+2,none⟩=some (.slice la (f.all.length-f.kept) lc) /\
   Bytes w (.slice ka f.kept kc) (f.all.take f.kept)/\Bytes w (.slice la (f.all.length-f.kept) lc) (f.all.drop f.kept):=by
 have hf:=hl f (List.mem_of_getElem? hj);rw[<- hP,List.getElem?_map]at hj;obtain⟨p,hp,rfl⟩:=Option.map_eq_some_iff.1 hj;obtain⟨hlt,he⟩:=List.getElem?_eq_some_iff.1 hp;obtain⟨b,o,h1,h2,h3⟩:=hr.at (j:=j) (by rw[List.length_map];exact hlt);rw[List.getElem_map,he]at h3;have ho:=hk p (List.mem_of_getElem? hp);have b1:=Bytes.dL ho.k (fun c hc=>hf.1.1 c (List.mem_of_mem_take hc)) (by rw[List.length_take];omega);have b2:=Bytes.dL ho.l (fun c hc=>hf.1.1 c (List.mem_of_mem_drop hc)) (by rw[List.length_drop];omega);obtain⟨p1,p2,p3⟩:=p;obtain⟨ka,kc,e1,_⟩:=b1.shape;obtain⟨la,lc,e2,_⟩:=b2.shape;rw[List.length_take,Nat.min_eq_left hf.2]at e1;rw[List.length_drop]at e2;simp only at e1 e2 b1 b2 h3 ⊢;subst e1;subst e2;exact⟨b,o,ka,kc,la,lc,h1,h2,by have:=h3 0 _ rfl;rwa [Nat.add_zero]at this,h3 1 _ rfl,h3 2 _ rfl,b1,b2⟩

theorem nO (db mb tb:Nat)(D:aA)(w:World)(h:aG w db mb tb D)(hw:DWf D) :
  Calls Tryz.prog 38 #[.pointer (some ⟨db,0,none⟩)] w fun e w'=>∃v,e = .returned v/\bJ w' 3 v (D.files.map rfV)/\Below w.heap.size w w':=by
 have H:=hid h;have HW:=hid hw;have HLL:Hid (∀f ∈ D.files,((∀c ∈ f.all,c<256)/\f.all.length<=2097152)/\f.kept<=f.all.length):=hid fun f hf=>⟨h.byt f hf,(hw.each f hf).2⟩;obtain⟨m,hm⟩:∃m,D.files.length=m:=⟨_,rfl⟩;have HM:=hid hm;have many:m<=1000:=by rw[<- hm];exact hw.many
 clear h hw hm;go_enter Tryz.func38,Tryz.ntmps38;go_wp2_with fail;refine(aDq db mb tb D _ H.out HW.out).mono ?_;rintro e w1 ⟨v,rfl,P,hP,hr,hk,hb⟩;have HP:=hid hP;have HR:=hid hr;have HK:=hid hk;have B1:=hid hb;obtain⟨a,c,rfl,_⟩:=hr.shape;have hlen:(P.map fiV).length=m:=by
  have:=congrArg List.length hP;rw[List.length_map]at this ⊢;rw[this];exact HM.out
 rw[hlen]at HR ⊢;clear hP hr hk hb hlen;go_wp2_with fail
 go_loopw [3,9] (fun lv y wr=>∃j:Nat,j<=m/\y = .int .i64 j/\dU wr w1.heap.size 159 3 lv ((D.files.take j).map rfV)/\Below w1.heap.size w1 wr) (fun _ y _=>m-(intOf y).toNat)
 case atStart=>exact⟨0,Nat.zero_le _,rfl,dU.nil _ _ _ _,Below.refl _ _⟩
 case round =>
  obtain⟨j,hj,rfl,ho,hb⟩:=hrel;obtain⟨la,lc,rfl⟩:=ho.shape;have hlen:((D.files.take j).map rfV).length=j:=by rw[List.length_map,List.length_take];have:=HM.out;omega
  have OW:=hid ho;have BR:=hid hb;rw[hlen]at OW ⊢;clear ho hb;by_cases hlt:j<m
  ·obtain⟨f,hf,_⟩:=aAl (l:=D.files) (j:=j) (by rw[HM.out];exact hlt);obtain⟨b,o,ka,kc,ra,rc,rfl,hbl,c0,c1,c2,hB1,hB2⟩:=aKM HP.out (HR.out.below BR.out) (fun p hp=>(HK.out p hp).below BR.out) HLL.out hf;have HF:=hid hf;have HX:Hid (D.files.take (j+1)=D.files.take j ++ [f]):=hid (by rw[List.take_add_one,hf];rfl);have hcat:bX (f.all.take f.kept)++bX (f.all.drop f.kept)=bX f.all:=by rw[yR,List.take_append_drop]
   have hs1:=hB1.small;have hs2:=hB2.small;have hcl:((bX (f.all.take f.kept)).size:Int)+((bX (f.all.drop f.kept)).size:Int)<=9223372036854775807:=by rw[cH,cH];omega
   generalize f.all.take f.kept=l1 at *
   generalize f.all.drop f.kept=l2 at *
   generalize f.all.length-f.kept=n2 at *
   have y1:=(hB1.alloc (.cells #[.string f.name,.slice ka f.kept kc,.slice ra n2 rc] 168)).str Tryz.underlying36 Tryz.underlying5 Tryz.underlying9;have y2:=(hB2.alloc (.cells #[.string f.name,.slice ka f.kept kc,.slice ra n2 rc] 168)).str Tryz.underlying36 Tryz.underlying5 Tryz.underlying9;have HOA:Hid (dU ((wr.alloc (.cells #[.string f.name,.slice ka f.kept kc,.slice ra n2 rc] 168)).alloc (.cells #[.string f.name,.string (bX f.all),.int .i64 f.kept] 159)) w1.heap.size 159 3 (.slice la j lc) ((D.files.take j).map rfV)):=hid ((OW.out.alloc _).alloc _);have hce:=aFZ (wr.alloc (.cells #[.string f.name,.slice ka f.kept kc,.slice ra n2 rc] 168)) f;rw[World.size_alloc]at hce;have HCE:=hid hce;have hsz:=BR.out.size;have HBS:Hid (w1.heap.size<=((wr.alloc (.cells #[.string f.name,.slice ka f.kept kc,.slice ra n2 rc] 168)).alloc (.cells #[.string f.name,.string (bX f.all),.int .i64 f.kept] 159)).heap.size):=hid (by simp only[World.size_alloc];omega);have HLE:Hid (((D.files.take j).map rfV).length<=4294967296):=hid (by omega);have j0:(0:Int)<=(j:Int):=by omega
   have j1:(j:Int)<(m:Int):=by omega
   clear hf hB1 hB2 hs1 hs2 hlen hce
   go_wp2_with (at_builtin;refine fA rC _ _ rfl w1.heap.size _ _ _ _ rfl rfl HOA.out (show (rfV f).length=3 from rfl) HCE.out (nW f) HLE.out HBS.out rfl ?_;intro v2 w2 ho2 hg2 hat2 hb2;have O2:=hid ho2;have B2:=hid hb2;clear ho2 hg2 hat2 hb2)
   go_roundw
   case rel=>exact⟨j+1,by omega,by first|rfl|go_num,by rw[HX.out,List.map_append];exact O2.out,((BR.out.alloc hsz _).alloc (by simp only[World.size_alloc];omega) _).trans B2.out⟩
   case measure=>simp[intOf];omega
  ·obtain rfl:j=m:=by omega
   have j1:¬(j:Int)<(j:Int):=by omega
   go_wp2_with fail;go_ret;have HO:=bJ.gH OW.out;rw[List.take_of_length_le (by rw[HM.out];exact Nat.le_refl _)]at HO;exact⟨.slice la j lc,rfl,HO,B1.out.trans (BR.out.mono B1.out.size)⟩

theorem nX (v1 v2:Value)(L:List aJ)(w:World)(h1:bJ w 3 v1 (L.map rfV))(h2:bJ w 3 v2 (L.map rfV))(hm:L.length<=1000) :
  Calls Tryz.prog 37 #[v1,v2] w fun e w'=>e = .returned (.bool true)/\Below w.heap.size w w':=by
 have H1:=hid h1;have H2:=hid h2;obtain⟨a1,c1,rfl,_⟩:=h1.shape;obtain⟨a2,c2,rfl,_⟩:=h2.shape;obtain⟨m,hlm⟩:∃m,L.length=m:=⟨_,rfl⟩;have HL:=hid hlm;have hl2:(L.map rfV).length=m:=by rw[List.length_map];exact hlm
 rw[hl2]at H1 H2 ⊢;rw[hlm]at hm;clear h1 h2 hlm hl2;go_enter Tryz.func37,Tryz.ntmps37;go_wp2_with fail
 go_loopw [5] (fun y wr=>∃j:Nat,j<=m/\y = .int .i64 j/\Below w.heap.size w wr) (fun y _=>m-(intOf y).toNat)
 case atStart=>exact⟨0,Nat.zero_le _,rfl,Below.refl _ _⟩
 case round =>
  obtain⟨j,hj,rfl,hb⟩:=hrel;have BR:=hid hb;clear hb;by_cases hlt:j<m
  ·obtain⟨f,hf,_⟩:=aAl (l:=L) (j:=j) (by rw[HL.out];exact hlt);obtain⟨b,o,rfl,hbl,c0,c1,c2⟩:=(H1.out.below BR.out).file hf;obtain⟨b',o',rfl,hbl',d0,d1,d2⟩:=(H2.out.below BR.out).file hf;have e1:(f.name.toList==f.name.toList)=true:=by simp
   have e2:((bX f.all).toList==(bX f.all).toList)=true:=by simp
   have j0:(0:Int)<=(j:Int):=by omega
   have j1:(j:Int)<(m:Int):=by omega
   clear hf hbl hbl';go_wp2_with fail
   go_quiet (fail)
   go_wp2_with fail
   go_roundw
   case rel=>exact⟨j+1,by omega,by first|rfl|go_num,lP BR.out _⟩
   case measure=>simp[intOf];omega
  ·obtain rfl:j=m:=by omega
   have j1:¬(j:Int)<(j:Int):=by omega
   go_wp2_with fail;go_ret;exact⟨rfl,BR.out⟩

def qL (a b:cU):Bool:=decide (a.t=b.t)&&(decide (a.k=b.k)&&decide (a.d=b.d))
theorem aAL (a b:cU):qL a b=true ↔ a=b:=by
 unfold qL;obtain⟨t,k,d⟩:=a;obtain⟨t',k',d'⟩:=b;simp
theorem aJ2 (a b:cU)(av bv:Value)(w:World)(ha:Bytes w av a.d)(hb:Bytes w bv b.d) :
  Calls Tryz.prog 78 #[.agg #[.int .u64 a.t,.int .i64 a.k,av],.agg #[.int .u64 b.t,.int .i64 b.k,bv]] w fun e w'=>e = .returned (.bool (qL a b))/\Below w.heap.size w w':=by
 have HA:=hid ha;have HB:=hid hb;obtain⟨t,k,d⟩:=a;obtain⟨t',k',d'⟩:=b;simp only at HA HB ha hb ⊢;obtain⟨aa,ac,rfl,_⟩:=ha.shape;obtain⟨ba,bc,rfl,_⟩:=hb.shape;have B2:Hid (Below w.heap.size w ((w.alloc (.cells #[.int .u64 t,.int .i64 k,.slice aa d.length ac] 38)).alloc (.cells #[.int .u64 t',.int .i64 k',.slice ba d'.length bc] 38))):=hid (((Below.refl _ _).alloc (Nat.le_refl _) _).alloc (by simp) _);clear ha hb;by_cases ht:t=t'
 ·subst ht;by_cases hk:k=k'
  ·subst hk;have HV:Hid (qL ⟨t,k,d⟩ ⟨t,k,d'⟩=decide (d=d')):=hid (by unfold qL;simp);go_enter Tryz.func78,Tryz.ntmps78;go_wp2_with fail;refine(aIq _ _ d d' _ (HA.out.below B2.out) (HB.out.below B2.out)).mono ?_;rintro e w1 ⟨rfl,rfl⟩;obtain⟨r,hr⟩:∃r,decide (d=d')=r:=⟨_,rfl⟩;have HR:=hid hr;rw[hr];clear hr;go_wp2_with fail;go_ret;rw[HV.out,HR.out];exact⟨rfl,B2.out⟩
  ·have hkb:(k==k')=false:=beq_eq_false_iff_ne.2 hk;have HV:Hid (qL ⟨t,k,d⟩ ⟨t,k',d'⟩=false):=hid (by unfold qL;simp[hk]);clear hk;go_enter Tryz.func78,Tryz.ntmps78;go_wp2_with fail;go_ret;rw[HV.out];exact⟨rfl,B2.out⟩
 ·have htb:(t==t')=false:=beq_eq_false_iff_ne.2 ht;have HV:Hid (qL ⟨t,k,d⟩ ⟨t',k',d'⟩=false):=hid (by unfold qL;simp[ht]);clear ht;go_enter Tryz.func78,Tryz.ntmps78;go_wp2_with fail;go_ret;rw[HV.out];exact⟨rfl,B2.out⟩

def aJu (l1 l2:bN)(w:World):Ending->World->Prop:=fun e w'=>∃r,e = .returned (.bool r)/\(r=true ↔ l1.map (·.1)=l2.map (·.1))/\Below w.heap.size w w'
theorem aJ0 {v1 v2:Value}{l1 l2:bN}{w:World}(h1:bJ w 3 v1 (aN l1))(d1:cA w (fun _=>False) l1)(h2:bJ w 3 v2 (aN l2))(d2:cA w (fun _=>False) l2)(hn1:l1.length<=2147483648)(hn2:l2.length<=2147483648) :
  Calls Tryz.prog 77 #[v1,v2,.func (.func 78) #[] #[]] w (aJu l1 l2 w):=by
 have H1:=hid h1;have H2:=hid h2;have D1:=hid d1;have D2:=hid d2;obtain⟨a1,c1,rfl,_⟩:=h1.shape;obtain⟨a2,c2,rfl,_⟩:=h2.shape;obtain⟨n,hn⟩:∃n,l1.length=n:=⟨_,rfl⟩;obtain⟨m,hm⟩:∃m,l2.length=m:=⟨_,rfl⟩;have HN:=hid hn;have HM:=hid hm;rw[aO,hn]at H1 ⊢;rw[aO,hm]at H2 ⊢;have hn':(n:Int)<=2147483648:=by omega
 have hm':(m:Int)<=2147483648:=by omega
 clear h1 h2 d1 d2 hn1 hn2 hn hm;by_cases hnm:n=m
 ·have bq:((n:Int) != (m:Int))=false:=by rw[hnm];simp
  have HNM:=hid hnm;clear hnm;go_enter Tryz.func77,Tryz.ntmps77;go_wp2_with fail;clear bq
  go_loopw [7,8,9,17] (fun _ _ _ y wr=>∃j:Nat,j<=n/\y = .int .i64 j/\(l1.map (·.1)).take j=(l2.map (·.1)).take j/\Below w.heap.size w wr) (fun _ _ _ y _=>n-(intOf y).toNat)
  case atStart=>exact⟨0,Nat.zero_le _,rfl,by simp,Below.refl _ _⟩
  case round =>
   obtain⟨j,hj,rfl,htk,hb⟩:=hrel;have HTK:=hid htk;have HB:=hid hb;clear htk hb;by_cases hlt:j<n
   ·have hj1:j<l1.length:=by rw[HN.out];exact hlt
    have hj2:j<l2.length:=by rw[HM.out,<- HNM.out];exact hlt
    obtain⟨p,hp⟩:∃p,l1[j]=p:=⟨_,rfl⟩;obtain⟨q,hq⟩:∃q,l2[j]=q:=⟨_,rfl⟩;have HPB:=hid ((D1.out p (hp ▸ List.getElem_mem hj1)).1.below HB.out);have HQB:=hid ((D2.out q (hq ▸ List.getElem_mem hj2)).1.below HB.out);have r1:(aN l1)[j]'(by rw[aO];exact hj1)=eP p:=by simp[aN,hp]
    have r2:(aN l2)[j]'(by rw[aO];exact hj2)=eP q:=by simp[aN,hq]
    obtain⟨b1,o1,rfl,g1,hc1⟩:=H1.out.at (j:=j) (by rw[aO];exact hj1);obtain⟨b2,o2,rfl,g2,hc2⟩:=H2.out.at (j:=j) (by rw[aO];exact hj2);rw[r1]at hc1;rw[r2]at hc2;have x0:wr.cell? ⟨b1,o1+j*3,none⟩=some (.int .u64 p.1.t):=Below.at HB.out (hc1 0 _ rfl) g1;have x1:=Below.at HB.out (hc1 1 _ rfl) g1;have x2:=Below.at HB.out (hc1 2 _ rfl) g1;have y0:wr.cell? ⟨b2,o2+j*3,none⟩=some (.int .u64 q.1.t):=Below.at HB.out (hc2 0 _ rfl) g2;have y1:=Below.at HB.out (hc2 1 _ rfl) g2;have y2:=Below.at HB.out (hc2 2 _ rfl) g2;have HT1:Hid ((l1.map (·.1)).take (j+1)=(l1.map (·.1)).take j ++ [p.1]):=hid (by rw[List.take_succ_eq_append_getElem (by rw[List.length_map];exact hj1),List.getElem_map,hp])
    have HT2:Hid ((l2.map (·.1)).take (j+1)=(l2.map (·.1)).take j ++ [q.1]):=hid (by rw[List.take_succ_eq_append_getElem (by rw[List.length_map];exact hj2),List.getElem_map,hq])
    obtain⟨pe,pv⟩:=p;obtain⟨qe,qv⟩:=q;simp only at x0 x1 x2 y0 y1 y2 HPB HQB HT1 HT2;obtain⟨pa,pc,rfl,_⟩:=HPB.out.shape;obtain⟨qa,qc,rfl,_⟩:=HQB.out.shape;obtain⟨r,hr⟩:∃r,qL pe qe=r:=⟨_,rfl⟩;have HR:=hid hr;have j0:(0:Int)<=(j:Int):=by omega
    have j1:(j:Int)<(n:Int):=by omega
    have j2:(j:Int)<(m:Int):=by have:=HNM.out;omega
    have hb1:b1<wr.heap.size:=World.block_lt_of_cell? _ _ x0;have hb2:b2<wr.heap.size:=World.block_lt_of_cell? _ _ y0;clear hp hq r1 r2 hc1 hc2 hr g1 g2 hj1 hj2;go_wp2_with fail;generalize hwa:World.alloc (World.alloc wr _) _=wa;have BA:Hid (Below wr.heap.size wr wa):=hid (by subst hwa;exact((Below.refl _ _).alloc (Nat.le_refl _) _).alloc (by simp) _);clear hwa;refine(aJ2 pe qe _ _ wa (HPB.out.below BA.out) (HQB.out.below BA.out)).mono ?_;rintro e w1 ⟨rfl,hbb⟩;rw[HR.out];have B1:Hid (Below w.heap.size w w1):=hid (HB.out.trans ((BA.out.trans (hbb.mono BA.out.size)).mono HB.out.size));clear hbb x0 x1 x2 y0 y1 y2;cases r with
    | true =>
     have HE:Hid (pe=qe):=hid ((aAL pe qe).1 HR.out);go_wp2_with fail
     go_roundw
     case rel=>exact⟨j+1,by omega,by go_num,by rw[HT1.out,HT2.out,HTK.out,HE.out],B1.out⟩
     case measure=>simp[intOf];omega
    | false =>
     have HNE:Hid (¬l1.map (·.1)=l2.map (·.1)):=hid (fun h=>by
      have h1:=HT1.out;have h2:=HT2.out;rw[h]at h1;rw[h1]at h2;have h3:=List.append_inj_right h2 rfl;have h4:=(aAL pe qe).2 (List.singleton_inj.1 h3);rw[HR.out]at h4;cases h4)
     go_wp2_with fail;go_ret;exact⟨false,rfl,⟨fun h=>(by cases h),fun h=>absurd h HNE.out⟩,B1.out⟩
   ·have hjn:j=n:=by omega
    have HE:Hid (l1.map (·.1)=l2.map (·.1)):=hid (by
     have h:=HTK.out;rw[List.take_of_length_le (by rw[List.length_map,HN.out,hjn];exact Nat.le_refl _),List.take_of_length_le (by rw[List.length_map,HM.out,hjn,HNM.out];exact Nat.le_refl _)]at h;exact h)
    have z0:¬(j:Int)<(n:Int):=by omega
    clear hlt hjn;go_wp2_with fail;go_ret;exact⟨true,rfl,⟨fun _=>HE.out,fun _=>rfl⟩,HB.out⟩
 ·have bq:((n:Int) != (m:Int))=true:=by simp;omega
  have HNE:Hid (¬l1.map (·.1)=l2.map (·.1)):=hid (fun h=>hnm (by rw[<- HN.out,<- HM.out,<- List.length_map (f:=fun x:cU × Value=>x.1),h,List.length_map]))
  clear hnm;go_enter Tryz.func77,Tryz.ntmps77;go_wp2_with fail;go_ret;exact⟨false,rfl,⟨fun h=>(by cases h),fun h=>absurd h HNE.out⟩,Below.refl _ _⟩
theorem pR {v1 v2:Value}{l1 l2:bN}{w:World}(h1:bJ w 3 v1 (aN l1))(d1:cA w (fun _=>False) l1)(h2:bJ w 3 v2 (aN l2))(d2:cA w (fun _=>False) l2)(hn1:l1.length<=2147483648)(hn2:l2.length<=2147483648) :
  Calls Tryz.prog 26 #[v1,v2] w (aJu l1 l2 w):=by
 have H:=hid (aJ0 h1 d1 h2 d2 hn1 hn2);obtain⟨a1,c1,rfl,_⟩:=h1.shape;obtain⟨a2,c2,rfl,_⟩:=h2.shape;clear h1 h2 d1 d2 hn1 hn2;generalize (aN l1).length=n at *
 generalize (aN l2).length=m at *
 go_enter Tryz.func26,Tryz.ntmps26;go_wp2_with fail;refine H.out.mono ?_;rintro e w1 ⟨r,rfl,hr,hb⟩;have HR:=hid hr;have HB:=hid hb;clear hr hb;go_wp2_with fail;go_ret;exact⟨r,rfl,HR.out,HB.out⟩
