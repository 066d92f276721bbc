/- For vltopens_law_holds. -/
import Derived.Test.YtjdglpcnkiioeaaGreatVob25
import Derived.Test.YtjdglpcnkiioeaaGreatVob29
set_option maxHeartbeats 16000000
set_option maxRecDepth 100000
namespace Go.Proofs.YtjdglpcnkiioeaaGreat
open Go.Lib (hid)
open Go.RowKit Go.Maps Go.Proofs.Own

structure SC (W:World)(b:Nat)(t v:Int):Prop where
 c0:W.cell? ⟨b,0,none⟩=some (.int .u64 t)
 c1:W.cell? ⟨b,1,none⟩=some (.int .i64 v)
 f0:W.frozen? ⟨b,0,none⟩=false
 f1:W.frozen? ⟨b,1,none⟩=false
theorem SC.lt {W:World}{b:Nat}{t v:Int}(h:SC W b t v):b<W.heap.size:=World.block_lt_of_cell? _ _ h.c0
theorem SC.kept {W W':World}{b:Nat}{t v:Int}{S:Nat->Prop}(h:SC W b t v)(hk:Kept W W' S)(hs:¬S b):SC W' b t v :=
 ⟨hk.cell h.c0 hs,hk.cell h.c1 hs,(hk.frozen (a:=⟨b,0,none⟩) h.lt hs).trans h.f0,(hk.frozen (a:=⟨b,1,none⟩) h.lt hs).trans h.f1⟩
theorem SC.below {W W':World}{b:Nat}{t v:Int}(h:SC W b t v)(hb:Below W.heap.size W W'):SC W' b t v :=
 h.kept (Kept.aL hb (S:=fun _=>False) fun k h1 h2=>by omega) fun h=>h
theorem SC.box (w:World)(t v:Int):SC (w.alloc (.cells #[.int .u64 t,.int .i64 v] 97)) w.heap.size t v:=⟨by go_cell,by go_cell,by simp,by simp⟩
theorem SC.set {W:World}{b:Nat}{t v:Int}(h:SC W b t v)(t' v':Int):SC ((W.setCell ⟨b,0,none⟩ (.int .u64 t')).setCell ⟨b,1,none⟩ (.int .i64 v')) b t' v':=by
 refine⟨?_,?_,?_,?_⟩
 ·rw[cso (by simp)];exact css h.c0
 ·exact css (by rw[cso (by simp)];exact h.c1)
 ·rw[World.frozen?_setCell,World.frozen?_setCell];exact h.f0
 ·rw[World.frozen?_setCell,World.frozen?_setCell];exact h.f1
theorem Kept.iO (W:World)(b:Nat)(x y:Value):Kept W ((W.setCell ⟨b,0,none⟩ x).setCell ⟨b,1,none⟩ y) (fun k=>k=b):=(Kept.setCell W ⟨b,0,none⟩ x).trans (Kept.setCell _ ⟨b,1,none⟩ y)
theorem aG.sc {W:World}{db mb tb b:Nat}{D:aA}{t v:Int}(h:aG W db mb tb D)(s:SC W b t v)(hn:¬aZ db mb tb b)(t' v':Int):aG ((W.setCell ⟨b,0,none⟩ (.int .u64 t')).setCell ⟨b,1,none⟩ (.int .i64 v')) db mb tb D :=
 (h.setOther (p:=⟨b,0,none⟩) _ hn (fun x e=>by rw[s.c0]at e;cases e)).setOther (p:=⟨b,1,none⟩) _ hn (fun x e=>by rw[cso (by simp),s.c1]at e;cases e)

theorem aCj:∀n l (s:lN),(lastF n l s).g<=s.g+l.length
 | 0,_,s=>Nat.le_add_right _ _
 | n+1,l,s=>by
  unfold lastF;split
  ·rename_i h;have h1:=aCj n (mT l) ⟨vT l,(vV l:Int)-1,s.g+(aF l).length+8⟩;have h2:=(fW h.1).2.2;simp only at h1;omega
  ·exact Nat.le_add_right _ _
theorem aCk (l:List Nat):(eF l).g<=l.length:=by
 have:=aCj l.length l ⟨0,-1,0⟩;unfold eF
 simpa using this
theorem aY.cut {D:aA}(h:aY D)(n:ByteArray)(k:Int)(hs:D.steps+1<=1000000000):aY (cutD D n k).1/\(cutD D n k).1.steps<=D.steps+1:=by
 unfold cutD;cases e:aE n D.files with
 | none=>exact⟨h,by simp only;omega⟩
 | some f =>
  simp only;split
  ·exact⟨h,by simp only;omega⟩
  ·split
   ·exact⟨h,by simp only;omega⟩
   ·split
    ·exact⟨h.step hs,by simp only;rw[eG];omega⟩
    ·obtain⟨e1,e2⟩:=cK e;have e3:=gK e;have e4:=h.wf.each f e2;refine⟨h.qD hs _ ?_ ?_ ?_,by simp only;rw[eG];omega⟩
     ·unfold bL;rw[kQ];simp only[List.length_take];rw[e1];have:=h.tot;omega
     ·unfold bL;rw[gG];simp only;rw[e1];have:=h.few;omega
     ·intro g hg;rcases kF.1 hg with rfl|⟨hg,_⟩
      ·exact⟨e4.1,by simp only[List.length_take];omega⟩
      ·exact h.wf.each g hg

def gC (D:aA):lN:=if bI D dR=31 then ⟨0,-1,0⟩ else if bI D dR≠0 then ⟨0,0,0⟩ else eF (cW D dR).all
def dD (D:aA):aA × Nat:=if (eF (cW D dR).all).g<(cW D dR).all.length then cutD D dR (eF (cW D dR).all).g else (D,0)
def dI (D:aA):aA × Nat :=
 if bI D dR=31 then (D,0) else if bI D dR≠0 then (D,bI D dR) else if (dD D).2≠0 then dD D else syncD (dD D).1 dR
def kS (db mb tb:Nat)(D:aA)(w:World):Ending->World->Prop:=fun e w' =>
 e = .returned (.tuple #[.agg #[.int .u64 (gC D).t,.int .i64 (gC D).v],.int .i64 (dI D).2])/\aG w' db mb tb (dI D).1/\Kept w w' (aZ db mb tb)

theorem aEp (db mb tb:Nat)(D:aA)(w:World)(hd:aG w db mb tb D)(hf:bI D dR≠0) :
  Calls Tryz.prog 145 #[.pointer (some ⟨db,0,none⟩)] w (kS db mb tb D w):=by
 have HD:=hid hd;have HF:=hid hf;obtain⟨k,hk⟩:∃k,bI D dR=k:=⟨_,rfl⟩;have HK:=hid hk;have HV:Hid (gC D=(if k=31 then ⟨0,-1,0⟩ else ⟨0,0,0⟩)/\dI D=(D,if k=31 then 0 else k)):=hid (by
  unfold gC dI;rw[hk];rw[hk]at hf;by_cases h:k=31
  ·rw[if_pos h,if_pos h,if_pos h,if_pos h];exact⟨rfl,rfl⟩
  ·rw[if_neg h,if_neg h,if_neg h,if_neg h,if_pos hf,if_pos hf];exact⟨rfl,rfl⟩)
 clear hd hf hk;unfold kS;rw[HV.out.1,HV.out.2];by_cases h31:k=31
 ·subst h31;go_enter Tryz.func145,Tryz.ntmps145;go_wp2_with fail;have S0:=hid (SC.box w 0 0);have B0:Hid (Below w.heap.size w (w.alloc (.cells #[.int .u64 0,.int .i64 0] 97))):=hid ((Below.refl _ _).alloc (Nat.le_refl _) _);generalize World.alloc w _=w1 at *
  refine(kJ db mb tb D dR w1 (HD.out.below B0.out) (by decide) HF.out).mono ?_;rintro e w2 ⟨rfl,hb2⟩;rw[HK.out];have S2:=hid (S0.out.below hb2);have B2:Hid (Below w.heap.size w w2):=hid (B0.out.trans (hb2.mono B0.out.size));clear hb2;obtain⟨x0,x1,g0,g1⟩:=S2.out;go_wp2_with fail;have S3:=hid (S2.out.set 0 (-1));have B3:=hid (B2.out.trans ((Kept.iO w2 w.heap.size (.int .u64 0) (.int .i64 (-1))).below B2.out.size (fun k h=>by omega)));generalize World.setCell _ _ _=w3 at *
  obtain⟨y0,y1,_,_⟩:=S3.out;refine bodyPost_ret (v:=.tuple #[.agg #[.int .u64 0,.int .i64 (-1)],.int .i64 0]) (by simp[results,Tryz.results145,go_sem,y0,y1]) rfl ?_;exact⟨rfl,HD.out.below B3.out,Kept.cE B3.out⟩
 ·have h31b:((k:Int)==31)=false:=by simp;omega
  have h0b:((k:Int) != 0)=true:=by have:=HF.out;rw[HK.out]at this;simp;omega
  have HN:=hid h31;clear h31;go_enter Tryz.func145,Tryz.ntmps145;go_wp2_with fail;have S0:=hid (SC.box w 0 0);have B0:Hid (Below w.heap.size w (w.alloc (.cells #[.int .u64 0,.int .i64 0] 97))):=hid ((Below.refl _ _).alloc (Nat.le_refl _) _);generalize World.alloc w _=w1 at *
  refine(kJ db mb tb D dR w1 (HD.out.below B0.out) (by decide) HF.out).mono ?_;rintro e w2 ⟨rfl,hb2⟩;rw[HK.out];have S2:=hid (S0.out.below hb2);have B2:Hid (Below w.heap.size w w2):=hid (B0.out.trans (hb2.mono B0.out.size));clear hb2;obtain⟨x0,x1,g0,g1⟩:=S2.out;go_wp2_with fail;have S3:=hid (S2.out.set 0 0);have B3:=hid (B2.out.trans ((Kept.iO w2 w.heap.size (.int .u64 0) (.int .i64 0)).below B2.out.size (fun k h=>by omega)));generalize World.setCell _ _ _=w3 at *
  obtain⟨y0,y1,_,_⟩:=S3.out;refine bodyPost_ret (v:=.tuple #[.agg #[.int .u64 0,.int .i64 0],.int .i64 k]) (by simp[results,Tryz.results145,go_sem,y0,y1]) rfl ?_;exact⟨rfl,HD.out.below B3.out,Kept.cE B3.out⟩

theorem aDc (db mb tb:Nat)(D:aA)(w:World)(hd:aG w db mb tb D)(hw:aY D)(hs:D.steps+1<=1000000000)(hf:bI D dR=0) :
  Calls Tryz.prog 145 #[.pointer (some ⟨db,0,none⟩)] w (kS db mb tb D w):=by
 obtain⟨hdn,f,hfi⟩:=oR hf;have HD:=hid hd;have HF:=hid hfi;have HDN:=hid hdn;have HW:=hid hw;have H3:=hid hd.lt3;have HG:Hid (cW D dR=f):=hid (by unfold cW;rw[hfi];rfl);have HV:Hid (gC D=eF f.all/\dD D=(if (eF f.all).g<f.all.length then cutD D dR (eF f.all).g else (D,0))/\dI D=if (dD D).2≠0 then dD D else syncD (dD D).1 dR):=hid (by
  have h1:gC D=eF (cW D dR).all:=by
   unfold gC;rw[hf,if_neg (by decide),if_neg (by decide)]
  have h2:dI D=if (dD D).2≠0 then dD D else syncD (dD D).1 dR:=by
   unfold dI;rw[hf,if_neg (by decide),if_neg (by decide)]
  refine⟨by rw[h1,HG.out],?_,h2⟩;unfold dD;rw[HG.out])
 have HGW:Hid (aY (cutD D dR (eF f.all).g).1):=hid (hw.cut dR _ hs).1;clear hd hf hfi hdn hw;unfold kS;go_enter Tryz.func145,Tryz.ntmps145;go_wp2_with fail;have S0:=hid (SC.box w 0 0);have B0:Hid (Below w.heap.size w (w.alloc (.cells #[.int .u64 0,.int .i64 0] 97))):=hid ((Below.refl _ _).alloc (Nat.le_refl _) _);generalize World.alloc w _=w1 at *
 refine(kX db mb tb D dR f w1 (HD.out.below B0.out) HDN.out (by decide) HF.out).mono ?_;rintro e w2 ⟨v,rfl,hB2,hb2⟩;have S2:=hid (S0.out.below hb2);have B2:Hid (Below w.heap.size w w2):=hid (B0.out.trans (hb2.mono B0.out.size));obtain⟨a,c,rfl,_⟩:=hB2.shape;have HB2:=hid hB2;clear hb2 hB2;go_wp2_with fail;refine(aGr _ f.all w2 HB2.out).mono ?_;rintro e w3 ⟨rfl,hb3⟩;have S3:=hid (S2.out.below hb3);have B3:Hid (Below w.heap.size w w3):=hid (B2.out.trans (hb3.mono B2.out.size));have HLE:Hid ((eF f.all).g<=f.all.length):=hid (aCk _);clear hb3;generalize eF f.all=s at *
 obtain⟨t,u,g⟩:=s;generalize f.all.length=len at *
 simp only at *
 have L3:w.heap.size<w3.heap.size:=S3.out.lt;have N6:Hid (¬aZ db mb tb w3.heap.size):=hid (fun h=>by have:=H3.out _ h;omega);have NB:Hid (¬aZ db mb tb w.heap.size):=hid (fun h=>by have:=H3.out _ h;omega);by_cases hlt:g<len
 ·have hlti:(g:Int)<(len:Int):=by omega
  have HV2:Hid (dD D=cutD D dR g):=hid (by rw[HV.out.2.1,if_pos hlt]);clear hlt;go_wp2_with fail;have S4:=hid (SC.box w3 t u);have A4:Below w3.heap.size w3 (w3.alloc (.cells #[.int .u64 t,.int .i64 u] 97)):=(Below.refl _ _).alloc (Nat.le_refl _) _;generalize World.alloc w3 _=w4 at *
  have B4:Hid (Below w.heap.size w w4):=hid (B3.out.trans (A4.mono B3.out.size));have T4:=hid (S3.out.below A4);clear A4;refine(aBZ db mb tb D dR g w4 (HD.out.below B4.out) HW.out.wf (by decide)).mono ?_;rintro e w5 ⟨rfl,hd5,hk5⟩;have KW:Hid (Kept w w5 (aZ db mb tb)):=hid ((Kept.cE B4.out).trans hk5);have SCB:Hid (SC w5 w.heap.size 0 0):=hid (T4.out.kept hk5 NB.out);have SC6:Hid (SC w5 w3.heap.size t u):=hid (S4.out.kept hk5 N6.out);have DW:=hid hd5;clear hd5 hk5;obtain⟨r,hr⟩:∃r,cutD D dR g=r:=⟨_,rfl⟩;obtain⟨D1,e1⟩:=r;have GD:=HGW;rw[hr]at HV2 DW GD ⊢;simp only at DW GD ⊢;by_cases he:e1=0
  ·subst he;have HVF:Hid (dI D=syncD D1 dR):=hid (by rw[HV.out.2.2,HV2.out];rfl);clear hr;go_wp2_with fail;obtain⟨x0,x1,_,_⟩:=SC6.out;obtain⟨p0,p1,q0,q1⟩:=SCB.out;obtain⟨r,hr⟩:∃r,syncD D1 dR=r:=⟨_,rfl⟩;obtain⟨D2,e2⟩:=r;have HR:=hid hr;clear hr
   go_region_with (refine(iY db mb tb D1 dR _ (by first|exact DW.out|exact DW.out.below ((Below.refl _ _).drew)) GD.out.wf (by decide)).mono ?_;rintro e w9 ⟨rfl,hd9,hk9⟩;have D9:=hid hd9;have K9:Hid (Kept w w9 (aZ db mb tb)):=hid (KW.out.trans (by first|exact hk9|exact(Kept.drew _ _).trans hk9));have SB9:Hid (SC w9 w.heap.size 0 0):=hid (SCB.out.kept (by first|exact hk9|exact(Kept.drew _ _).trans hk9) NB.out);have SC9:Hid (SC w9 w3.heap.size t u):=hid (SC6.out.kept (by first|exact hk9|exact(Kept.drew _ _).trans hk9) N6.out);clear hd9 hk9 p0 p1 q0 q1 x0 x1;obtain⟨x0,x1,_,_⟩:=SC9.out;obtain⟨p0,p1,q0,q1⟩:=SB9.out;rw[HR.out]at D9 ⊢)
   all_goals
    go_wp2_with fail;have SF:=hid (SB9.out.set t u);have KF:Hid (Kept w ((w9.setCell ⟨w.heap.size,0,none⟩ (.int .u64 t)).setCell ⟨w.heap.size,1,none⟩ (.int .i64 u)) (aZ db mb tb)):=hid (K9.out.eU (Kept.iO w9 w.heap.size (.int .u64 t) (.int .i64 u)) (Nat.le_refl _));have DF:=hid (D9.out.sc SB9.out NB.out t u);generalize World.setCell _ _ _=wF at *
    obtain⟨y0,y1,_,_⟩:=SF.out;simp only[Act.put,List.getElem_toArray,List.getElem_cons_succ,List.getElem_cons_zero,List.setIfInBounds_toArray,List.set_cons_zero,List.set_cons_succ];refine bodyPost_ret (v:=.tuple #[.agg #[.int .u64 t,.int .i64 u],.int .i64 e2]) ?_ rfl ?_
    ·simp[results,Tryz.results145,go_sem,y0,y1]
    ·rw[HV.out.1,HVF.out,HR.out];exact⟨rfl,DF.out,KF.out⟩
  ·have he1:((e1:Int) != 0)=true:=by simp;omega
   have HVF:Hid (dI D=(D1,e1)):=hid (by rw[HV.out.2.2,HV2.out];exact if_pos he);clear hr he;obtain⟨x0,x1,_,_⟩:=SC6.out;obtain⟨p0,p1,q0,q1⟩:=SCB.out;go_wp2_with fail;have SF:=hid (SCB.out.set t u);have KF:Hid (Kept w ((w5.setCell ⟨w.heap.size,0,none⟩ (.int .u64 t)).setCell ⟨w.heap.size,1,none⟩ (.int .i64 u)) (aZ db mb tb)):=hid (KW.out.eU (Kept.iO w5 w.heap.size (.int .u64 t) (.int .i64 u)) (Nat.le_refl _));have DF:=hid (DW.out.sc SCB.out NB.out t u);generalize World.setCell _ _ _=wF at *
   obtain⟨y0,y1,_,_⟩:=SF.out;refine bodyPost_ret (v:=.tuple #[.agg #[.int .u64 t,.int .i64 u],.int .i64 e1]) (by simp[results,Tryz.results145,go_sem,y0,y1]) rfl ?_;rw[HV.out.1,HVF.out];exact⟨rfl,DF.out,KF.out⟩
 ·have hlti:¬((g:Int)<(len:Int)):=by omega
  have HVF':Hid (dI D=syncD D dR):=hid (by rw[HV.out.2.2,HV.out.2.1,if_neg hlt];rfl);clear hlt;go_wp2_with fail;have S4:=hid (SC.box w3 t u);have A4:Below w3.heap.size w3 (w3.alloc (.cells #[.int .u64 t,.int .i64 u] 97)):=(Below.refl _ _).alloc (Nat.le_refl _) _;generalize World.alloc w3 _=w4 at *
  have B4:Hid (Below w.heap.size w w4):=hid (B3.out.trans (A4.mono B3.out.size));have SCB:=hid (S3.out.below A4);have SC6:=S4;have KW:Hid (Kept w w4 (aZ db mb tb)):=hid (Kept.cE B4.out);have DW:=hid (HD.out.below B4.out);clear A4;obtain⟨D1,hD1⟩:∃D1,D=D1:=⟨_,rfl⟩;have GD:=HW;have HVF:Hid (dI D=syncD D1 dR):=hid (by rw[HVF'.out,hD1]);rw[hD1]at DW GD;clear hD1;obtain⟨x0,x1,_,_⟩:=SC6.out;obtain⟨p0,p1,q0,q1⟩:=SCB.out;obtain⟨r,hr⟩:∃r,syncD D1 dR=r:=⟨_,rfl⟩;obtain⟨D2,e2⟩:=r;have HR:=hid hr;clear hr
  go_region_with (refine(iY db mb tb D1 dR _ (by first|exact DW.out|exact DW.out.below ((Below.refl _ _).drew)) GD.out.wf (by decide)).mono ?_;rintro e w9 ⟨rfl,hd9,hk9⟩;have D9:=hid hd9;have K9:Hid (Kept w w9 (aZ db mb tb)):=hid (KW.out.trans (by first|exact hk9|exact(Kept.drew _ _).trans hk9));have SB9:Hid (SC w9 w.heap.size 0 0):=hid (SCB.out.kept (by first|exact hk9|exact(Kept.drew _ _).trans hk9) NB.out);have SC9:Hid (SC w9 w3.heap.size t u):=hid (SC6.out.kept (by first|exact hk9|exact(Kept.drew _ _).trans hk9) N6.out);clear hd9 hk9 p0 p1 q0 q1 x0 x1;obtain⟨x0,x1,_,_⟩:=SC9.out;obtain⟨p0,p1,q0,q1⟩:=SB9.out;rw[HR.out]at D9 ⊢)
  all_goals
   go_wp2_with fail;have SF:=hid (SB9.out.set t u);have KF:Hid (Kept w ((w9.setCell ⟨w.heap.size,0,none⟩ (.int .u64 t)).setCell ⟨w.heap.size,1,none⟩ (.int .i64 u)) (aZ db mb tb)):=hid (K9.out.eU (Kept.iO w9 w.heap.size (.int .u64 t) (.int .i64 u)) (Nat.le_refl _));have DF:=hid (D9.out.sc SB9.out NB.out t u);generalize World.setCell _ _ _=wF at *
   obtain⟨y0,y1,_,_⟩:=SF.out;simp only[Act.put,List.getElem_toArray,List.getElem_cons_succ,List.getElem_cons_zero,List.setIfInBounds_toArray,List.set_cons_zero,List.set_cons_succ];refine bodyPost_ret (v:=.tuple #[.agg #[.int .u64 t,.int .i64 u],.int .i64 e2]) ?_ rfl ?_
   ·simp[results,Tryz.results145,go_sem,y0,y1]
   ·rw[HV.out.1,HVF.out,HR.out];exact⟨rfl,DF.out,KF.out⟩

theorem fB.box (w:World)(db:Nat)(t v:Int):fB (w.alloc (.cells #[.pointer (some ⟨db,0,none⟩),.int .u64 t,.int .i64 v] 231)) w.heap.size db t v :=
 ⟨by go_cell,by go_cell,by go_cell,by simp,by simp,iF.alloc (by simp)⟩
theorem vB (db mb tb:Nat)(D:aA)(w:World)(hd:aG w db mb tb D)(hw:aY D)(hs:D.steps+1<=1000000000) :
  Calls Tryz.prog 145 #[.pointer (some ⟨db,0,none⟩)] w (kS db mb tb D w):=by
 by_cases h:bI D dR=0
 ·exact aDc db mb tb D w hd hw hs h
 ·exact aEp db mb tb D w hd h
theorem aBy {D:aA}(h:aY D)(hs:D.steps+2<=1000000000):aY (dI D).1/\(dI D).1.steps<=D.steps+2:=by
 have h1:aY (dD D).1/\(dD D).1.steps<=D.steps+1:=by
  unfold dD;split
  ·exact h.cut _ _ (by omega)
  ·exact⟨h,by simp only;omega⟩
 unfold dI;split
 ·exact⟨h,by simp only;omega⟩
 ·split
  ·exact⟨h,by simp only;omega⟩
  ·split
   ·exact⟨h1.1,by omega⟩
   ·have h2:=h1.1.sync dR (by omega);exact⟨h2.1,by omega⟩

def aT (D:aA):aA × Nat:=if (dM D fH).2≠0 then dM D fH else dI (dM D fH).1
def cO (D:aA):lN:=gC (dM D fH).1
def aBK (db mb tb:Nat)(D:aA)(w:World):Ending->World->Prop:=fun e w' =>
 ((aT D).2≠0->e = .returned (.tuple #[.pointer none,.int .i64 (aT D).2])) /\
 ((aT D).2=0 -> ∃bb,e = .returned (.tuple #[.pointer (some ⟨bb,0,none⟩),.int .i64 0])/\fB w' bb db (cO D).t (cO D).v/\w.heap.size<=bb) /\
 aG w' db mb tb (aT D).1/\Kept w w' (aZ db mb tb)
theorem mC {D:aA}(h:aY D)(hs:D.steps+3<=1000000000):aY (aT D).1/\(aT D).1.steps<=D.steps+3:=by
 have h1:=pI fH h (by omega);unfold aT;split
 ·exact⟨h1.1,by omega⟩
 ·have h2:=aBy h1.1 (by omega);exact⟨h2.1,by omega⟩

theorem uB (db mb tb:Nat)(D:aA)(w:World)(hd:aG w db mb tb D)(hw:aY D)(hs:D.steps+2<=1000000000) :
  Calls Tryz.prog 99 #[.pointer (some ⟨db,0,none⟩)] w (aBK db mb tb D w):=by
 have HD:=hid hd;have HW:=hid hw;have HG1:=hid (pI fH hw (by omega));have HS:=hid hs;have H3:=hid hd.lt3;clear hd hw hs;unfold aBK;obtain⟨r,hr⟩:∃r,dM D fH=r:=⟨_,rfl⟩;obtain⟨D1,e1⟩:=r;have HR:=hid hr;have HV:Hid (aT D=(if e1≠0 then (D1,e1) else dI D1)/\cO D=gC D1):=hid (by unfold aT cO;rw[hr];exact⟨rfl,rfl⟩);rw[hr]at HG1;clear hr;rw[HV.out.1,HV.out.2];clear HV;by_cases he:e1=0
 ·subst he;rw[if_neg (by simp)];obtain⟨r2,hr2⟩:∃r,dI D1=r:=⟨_,rfl⟩;obtain⟨D2,e2⟩:=r2;obtain⟨s,hs⟩:∃s,gC D1=s:=⟨_,rfl⟩;obtain⟨t,v,g⟩:=s;have HR2:=hid hr2;have HS2:=hid hs;rw[hr2,hs];clear hr2 hs;simp only;by_cases he2:e2=0
  ·subst he2;go_enter Tryz.func99,Tryz.ntmps99;go_wp2_with fail;refine(uA db mb tb D fH w HD.out HW.out (by decide)).mono ?_;rintro e w1 ⟨rfl,hd1,hk1⟩;rw[HR.out]at hd1 ⊢;have DD1:=hid hd1;have K1:=hid hk1;clear hd1 hk1;go_wp2_with fail;refine(vB db mb tb D1 w1 DD1.out HG1.out.1 (by have h1:D1.steps<=D.steps+1:=HG1.out.2;have:=HS.out;omega)).mono ?_;rintro e w2 ⟨rfl,hd2,hk2⟩;rw[HR2.out]at hd2 ⊢;rw[HS2.out];have DD2:=hid hd2;have K2:=hid (K1.out.trans hk2);clear hd2 hk2;go_wp2_with fail;have S3:=hid (SC.box w2 t v);have A3:Below w2.heap.size w2 (w2.alloc (.cells #[.int .u64 t,.int .i64 v] 97)):=(Below.refl _ _).alloc (Nat.le_refl _) _;have A4:Below w2.heap.size w2 ((w2.alloc (.cells #[.int .u64 t,.int .i64 v] 97)).alloc (.cells #[.pointer (some ⟨db,0,none⟩),.int .u64 t,.int .i64 v] 231)):=A3.alloc (by simp) _;have BK:=fB.box (w2.alloc (.cells #[.int .u64 t,.int .i64 v] 97)) db t v
   go_ret2
   refine⟨fun h=>absurd rfl h,fun _=>⟨_,rfl,?_,?_⟩,?_,?_⟩
   ·simpa using BK
   ·have:=K2.out.size;omega
   ·exact DD2.out.below A4
   ·exact K2.out.trans (Kept.cE A4)
  ·have he2b:((e2:Int) != 0)=true:=by simp;omega
   have HE2:=hid he2;clear he2;go_enter Tryz.func99,Tryz.ntmps99;go_wp2_with fail;refine(uA db mb tb D fH w HD.out HW.out (by decide)).mono ?_;rintro e w1 ⟨rfl,hd1,hk1⟩;rw[HR.out]at hd1 ⊢;have DD1:=hid hd1;have K1:=hid hk1;clear hd1 hk1;go_wp2_with fail;refine(vB db mb tb D1 w1 DD1.out HG1.out.1 (by have h1:D1.steps<=D.steps+1:=HG1.out.2;have:=HS.out;omega)).mono ?_;rintro e w2 ⟨rfl,hd2,hk2⟩;rw[HR2.out]at hd2 ⊢;rw[HS2.out];have DD2:=hid hd2;have K2:=hid (K1.out.trans hk2);clear hd2 hk2;go_wp2_with fail;have S3:=hid (SC.box w2 t v);have A3:Below w2.heap.size w2 (w2.alloc (.cells #[.int .u64 t,.int .i64 v] 97)):=(Below.refl _ _).alloc (Nat.le_refl _) _
   go_ret2
   exact⟨fun _=>rfl,fun h=>absurd h HE2.out,DD2.out.below A3,K2.out.trans (Kept.cE A3)⟩
 ·have he1:((e1:Int) != 0)=true:=by simp;omega
  have HE:=hid he;clear he;go_enter Tryz.func99,Tryz.ntmps99;go_wp2_with fail;refine(uA db mb tb D fH w HD.out HW.out (by decide)).mono ?_;rintro e w1 ⟨rfl,hd1,hk1⟩;have D1:=hid hd1;have K1:=hid hk1;clear hd1 hk1;rw[HR.out]at D1 ⊢;go_wp2_with fail
  go_ret2
  exact⟨rfl,D1.out,K1.out⟩
end Go.Proofs.YtjdglpcnkiioeaaGreat
namespace Go.Proofs.YtjdglpcnkiioeaaGreat
open Go.RowKit Go.Maps Go.Proofs.Own

def aBF (D:aA)(n:ByteArray)(b:List Nat):aA × Nat:=if (aV D n b).2≠0 then aV D n b else syncD (aV D n b).1 n
