/- For vltopens_law_holds. -/
import Derived.Test.YtjdglpcnkiioeaaGreatVob43
set_option maxHeartbeats 16000000
set_option maxRecDepth 100000
namespace Go.Proofs.YtjdglpcnkiioeaaGreat
open Go.Lib (hid)
open Go.RowKit Go.Maps Go.Proofs.Own Go.Shelf

theorem aJJ {lb db mb tb:Nat}{ev fv:Value}{el:bN}{D:aA}{L:aQ}{w:World}(h:bF w lb db mb tb ev fv el D L)(hw:DWf D)(hok:LOk L)(hs:L.fs.length<=1000000)(hne:L.safe≠L.es.length->L.fs ≠ []) :
  Calls Tryz.prog 58 #[.pointer (some ⟨lb,0,none⟩)] w (gM lb db mb tb ev fv (cB D L) w):=by
 by_cases hq:L.safe=L.es.length
 ·exact aEv h hq
 ·cases e:L.fs.getLast? with
  | none=>exact absurd (List.getLast?_eq_none_iff.1 e) (hne hq)
  | some f=>exact aIf h hw hok.nm e hq hs
theorem aGm (D:aA)(L:aQ):(cB D L).2.1.b=L.b/\(cB D L).2.1.es=L.es/\(cB D L).2.1.fs=L.fs:=by
 unfold cB;split
 ·exact⟨rfl,rfl,rfl⟩
 ·split
  ·exact⟨rfl,rfl,rfl⟩
  ·split<;>exact⟨rfl,rfl,rfl⟩
theorem aEf {D:aA}(L:aQ)(h:aY D)(hs:D.steps+1<=1000000000):aY (cB D L).1:=by
 have:=(lG D L).fX h (by simpa using hs);exact this.1
structure FC (W:World)(b:Nat)(x:Int):Prop where
 c0:W.cell? ⟨b,0,none⟩=some (.int .u64 x)
 c1:W.cell? ⟨b,1,none⟩=some (.int .i64 0)
 c2:W.cell? ⟨b,2,none⟩=some (.int .i64 0)
theorem FC.kept {W W':World}{b:Nat}{x:Int}{S:Nat->Prop}(h:FC W b x)(hk:Kept W W' S)(hs:¬S b):FC W' b x:=⟨hk.cell h.c0 hs,hk.cell h.c1 hs,hk.cell h.c2 hs⟩
theorem FC.below {W W':World}{b:Nat}{x:Int}(h:FC W b x)(hb:Below W.heap.size W W'):FC W' b x:=h.kept (Kept.aL hb (S:=fun _=>False) fun k h1 h2=>by omega) id
theorem bF.mI {w:World}{lb db mb tb:Nat}{ev fv:Value}{el:bN}{D:aA}{L:aQ}(h:bF w lb db mb tb ev fv el D L){b:Nat}(hb:mE lb db mb tb ev fv b):b<w.heap.size:=by
 rcases hb with rfl|hb|hb|hb
 ·exact h.lt
 ·exact h.dZ.lt3 b hb
 ·exact h.er.lt b hb
 ·exact h.fr.lt b hb
theorem aCc {n:Nat}(hn:(n:Int)<18446744073709551616):(iW n).length<=100 /\ ∀c ∈ iW n,c<256:=by
 have h1:=jP hn;unfold iW;exact⟨by rw[lB];omega,aG7 (by decide) (by omega) (rW hn)⟩
theorem aEt {lb db mb tb:Nat}{ev fv:Value}{el:bN}{D:aA}{L:aQ}{w:World}(h:bF w lb db mb tb ev fv el D L)(hnf:∀f,L.fs.getLast? = some f->1024<=f.s)(hs:L.fs.length<=1000000) :
  Calls Tryz.prog 113 #[.pointer (some ⟨lb,0,none⟩)] w fun e w'=>∃p,e = .returned (.pointer p)/\Below w.heap.size w w'/\(p=none \/ ∃g m s:Nat,p=some ⟨g,m*3,none⟩/\w'.cell? ⟨g,m*3+2,none⟩=some (.int .i64 s)/\1024<=s):=by
 by_cases hn:L.fs = []
 ·refine(aAY h hn).mono ?_;rintro e w' ⟨rfl,rfl⟩;exact⟨_,rfl,Below.refl _ _,.inl rfl⟩
 ·obtain⟨m,hmm⟩:∃m,L.fs.length=m+1:=⟨L.fs.length-1,by have:=List.length_pos_iff.2 hn;omega⟩;obtain⟨f,hf⟩:∃f,L.fs.getLast? = some f:=⟨_,List.getLast?_eq_some_getLast hn⟩;obtain⟨g,c,rfl,hcc,hgg⟩:=cM.some h.fr (by simpa using hn);refine(iK h (m:=m) (by rw[List.length_map];exact hmm) (by rw[List.length_map];omega)).mono ?_;rintro e w' ⟨rfl,hb⟩;exact⟨_,rfl,hb,.inr ⟨g,m,f.s,rfl,((h.below hb).jZ hf hmm).2.2,hnf f hf⟩⟩

theorem aDd {lb db mb tb:Nat}{ev fv mv:Value}{el ml:bN}{D:aA}{L:aQ}{w:World}(h:bF w lb db mb tb ev fv el D L)(hm:aA0 w (mE lb db mb tb ev fv) mv ml)(hl:L.last<=H59)(hlen:(linesW (L.last+1) (ml.map (·.1))).length<=2000000)(hn:ml.length<=2147483648)
  (hg:aY D) (hst:D.steps+1<=1000000000) (hok:LOk L) (hfs:L.fs.length<=1000000) (hes:L.es.length+ml.length<=4294967296) (hsy:L.safe≠L.es.length->L.fs ≠ []) (hnf:∀f,L.fs.getLast? = some f->1024<=f.s) (hall:∀e ∈ ml.map (·.1),e.ok) (hbig:¬H59<L.last+ml.length) (hml:ml ≠ []) :
  Calls Tryz.prog 57 #[.pointer (some ⟨lb,0,none⟩),mv] w (gM lb db mb tb ev fv (bY D L (ml.map (·.1))) w):=by
 have HR:Hid (bY D L (ml.map (·.1))=aBq D L (ml.map (·.1))):=hid (by
  unfold bY;rw[if_neg (fun q=>q hall),if_neg (by have:uN L.last=H59-L.last:=(by unfold uN H59 at *;omega);rw[this,List.length_map];omega),if_neg (by simpa using hml)];cases e:L.fs.getLast? with
  | none=>rfl
  | some f =>
   simp only;rw[if_neg (by have:=hnf f e;omega)])
 have HNEW:Hid (aBq D L (ml.map (·.1))=if (cB D L).2.2≠0 then ((cB D L).1,(cB D L).2.1,(cB D L).2.2)
 else if (aV (cB D L).1 (aK (L.last+1)) (fF (L.last+1) (ml.map (·.1)))).2≠0 then ((aV (cB D L).1 (aK (L.last+1)) (fF (L.last+1) (ml.map (·.1)))).1,(cB D L).2.1,(aV (cB D L).1 (aK (L.last+1)) (fF (L.last+1) (ml.map (·.1)))).2)
 else ((aV (cB D L).1 (aK (L.last+1)) (fF (L.last+1) (ml.map (·.1)))).1,⟨L.b,L.es++ml.map (·.1),L.fs ++ [⟨L.last+1,(ml.map (·.1)).length,(fF (L.last+1) (ml.map (·.1))).length⟩],(cB D L).2.1.safe⟩,0)):=hid rfl
 have HG1:=hid (aEf L hg hst);have HSL:=hid (aGm D L);have HGW:=hid hg.wf;have HOK:=hid hok;have HFL:=hid hfs;have HSY:=hid hsy;have HNF:=hid hnf;have HNX1:Hid (1<=L.last+1):=hid (by omega);have HNX2:Hid (L.last+1<1152921504606846976):=hid (by unfold H59 at hl;omega);have HNS:Hid ((aK (L.last+1)).size<=maxLen):=hid (Nat.le_trans (fG _) (by decide));have HES:=hid hes;have HMLN:Hid (ml.length<=2147483648):=hid hn;have HALL:=hid hall;have HL20:=hid hlen;have hlen:(linesW (L.last+1) (ml.map (·.1))).length<=2097152:=by omega
 have hc:True:=trivial;have hbig':¬H59<L.last+ml.length:=hbig;have hmlen:0<ml.length:=List.length_pos_iff.2 hml;clear hg hst hok hfs hes hsy hnf hall;have HH:=hid h;have HM:=hid hm;obtain⟨ma,mc,rfl,_⟩:=hm.row.shape;obtain⟨la,hla⟩:∃la,L.last=la:=⟨_,rfl⟩;have HLA:=hid hla;have hlf:uN L.last=H59-la:=by unfold uN H59 at *;omega
 have HLF:=hid hlf;obtain⟨lz,hlz⟩:∃lz:Int,(la:Int)=lz:=⟨_,rfl⟩;have HLZ:=hid hlz;have hl0:0<=lz:=by omega
 have hl1:lz<=576460752303423488:=by unfold H59 at hl;omega
 have HB:=hid (show (L.last:Int)<18446744073709551616 by omega);obtain⟨n,hnn⟩:∃n,ml.length=n:=⟨_,rfl⟩;have HN:=hid hnn;rw[aO,hnn]at HM ⊢;have hn':(n:Int)<=2147483648:=by omega
 have HLN:=hid hlen;have HBIG:Hid (¬H59<la+n):=hid (by rw[<- hla,<- hnn];exact hbig');have hn0:((n:Int)==0)=false:=beq_eq_false_iff_ne.2 (by omega);have HN2:Hid ((ml.map (·.1)).length<=2147483648):=hid (by rw[List.length_map];exact hn)
 have HL6:Hid (L.last+1<=1152921506754330625):=hid (by unfold H59 at hl;omega);have hnx:((L.last+1:Nat):Int)=lz+1:=by rw[<- hlz,<- hla];rfl
 have HNX:=hid hnx;have ew:IntKind.u64.wrap (n:Int)=(n:Int):=by rw[wrap_u64];omega
 have es:IntKind.u64.wrap (576460752303423488-lz)=576460752303423488-lz:=by rw[wrap_u64];omega
 have HNC:Hid (H59<la+n ↔ 576460752303423488-lz<(n:Int)):=hid (by unfold H59;omega);have HNL:Hid (H59-la<n ↔ H59<la+n):=hid (by unfold H59 at *;omega);have hbd:decide (576460752303423488-lz<(n:Int))=false:=decide_eq_false (fun q=>HBIG.out (HNC.out.2 q));clear h hm hla hlf hlz hlen hn hc hnn hnx hl hbig' hbig hml hmlen;go_enter Tryz.func57,Tryz.ntmps57;go_wp2_with fail;refine(mD HH.out).mono ?_;rintro e w1 ⟨rfl,rfl⟩;go_wp2_with fail;refine(nG HH.out HB.out).mono ?_;rintro e w2 ⟨rfl,hb2⟩;rw[HLA.out,HLZ.out];have B2:=hid hb2;have L2:=hid (HH.out.below hb2);have M2:=hid (HM.out.kept (Kept.aL hb2 fun k h1 h2=>by omega));clear hb2;go_wp2_with fail;have WL:=aKs M2.out.row M2.out.loose rfl HLN.out HN2.out HL6.out;rw[HNX.out]at WL;refine WL.mono ?_;clear WL;rintro e w3 ⟨hb3,hyes,hno⟩;have B3:Hid (Below w.heap.size w w3):=hid (B2.out.trans (hb3.mono B2.out.size));have L3:=hid (HH.out.below B3.out);clear hb3;obtain⟨bv,rfl,hown,hblt⟩:=hyes HALL.out;have BV3:Hid (Bytes w3 bv (linesW (L.last+1) (ml.map (·.1)))):=hid (Bytes.dL hown hblt HLN.out)
 have HNB:Hid (∀b,bv.ownBlock=some b->w.heap.size<=b):=hid (fun b hb=>Nat.le_trans B2.out.size (hown.lt b hb).1);have HBL:=hid hblt;obtain⟨ba,bc,rfl⟩:=hown.shape;obtain⟨bn,hbn⟩:∃bn,(ints (linesW (L.last+1) (ml.map (·.1)))).length=bn:=⟨_,rfl⟩
 have HBN:Hid ((linesW (L.last+1) (ml.map (·.1))).length=bn):=hid (by rw[<- hbn,aS])
 rw[hbn]at BV3 HNB ⊢;clear hyes hno hown hblt hbn;go_wp2_with fail;refine(nG L3.out HB.out).mono ?_;rintro e w4 ⟨rfl,hb4⟩;rw[HLA.out,HLZ.out];have B4:Hid (Below w.heap.size w w4):=hid (B3.out.trans (hb4.mono B3.out.size));have L4:=hid (HH.out.below B4.out);have BV4:=hid (BV3.out.below hb4);clear hb4;go_wp2_with fail;refine(aEt L4.out HNF.out HFL.out).mono ?_;rintro e w5 ⟨p,rfl,hb5,hp⟩;have B5:Hid (Below w.heap.size w w5):=hid (B4.out.trans (hb5.mono B4.out.size));have L5:=hid (HH.out.below B5.out);have BV5:=hid (BV4.out.below hb5);clear hb5;rcases hp with rfl|⟨pg,pm,ps,rfl,q2,hs1⟩
 rotate_left
 have hz1:decide (1024<=(ps:Int))=true:=decide_eq_true (by omega);clear hs1;go_wp2_with fail;clear q2 hz1
 all_goals
  refine(aJJ L5.out HGW.out HOK.out HFL.out HSY.out).mono ?_;rintro e w6 ⟨rfl,ev1,fv1,el1,hl6,hs6⟩;have HFSL:Hid ((cB D L).2.1.fs.length=L.fs.length):=hid (by rw[HSL.out.2.2]);have HESL:Hid ((cB D L).2.1.es.length=L.es.length):=hid (by rw[HSL.out.2.1]);have S6:Hid (aX lb db mb tb w ev fv w6 ev1 fv1):=hid ((aX.below B5.out).trans hs6);have HNO:Hid (∀b,(Value.slice ba bn bc).ownBlock=some b -> ¬mE lb db mb tb ev fv b):=hid (fun b hb hs=>by have:=HNB.out b hb;have:=HH.out.mI hs;omega);have BV6:Hid (Bytes w6 (.slice ba bn bc) (linesW (L.last+1) (ml.map (·.1)))):=hid (BV5.out.kept hs6.1 HNO.out)
  have L6:=hid hl6;clear hl6 hs6;generalize (cB D L).1=D1 at *
  generalize (cB D L).2.1=L1 at *
  generalize (cB D L).2.2=k1 at *
  by_cases hk1:k1=0
  ·have hkb:((k1:Int) != 0)=false:=by rw[hk1];rfl
   have HK1:=hid hk1;clear hk1;go_wp2_with fail;have X7:Hid (FC (w6.alloc (.cells #[.int .u64 (lz+1),.int .i64 0,.int .i64 0] 188)) w6.heap.size (lz+1)):=hid ⟨by go_cell,by go_cell,by go_cell⟩;have WG:=aFA (L.last+1) (w6.alloc (.cells #[.int .u64 (lz+1),.int .i64 0,.int .i64 0] 188)) (by have:=HNX2.out;omega);rw[HNX.out]at WG;refine WG.mono ?_;clear WG;rintro e w7 ⟨hv,rfl,ho7,hb7⟩;have HG7:Hid (Below w6.heap.size w6 w7):=hid (((Below.refl w6.heap.size w6).alloc (Nat.le_refl _) _).trans (hb7.mono (by simp)));have HLT7:Hid (w6.heap.size<(w6.alloc (.cells #[.int .u64 (lz+1),.int .i64 0,.int .i64 0] 188)).heap.size):=hid (by simp);have HSZ7:Hid ((w6.alloc (.cells #[.int .u64 (lz+1),.int .i64 0,.int .i64 0] 188)).heap.size<=w7.heap.size):=hid hb7.size;have X8a:=hid (X7.out.below hb7);have O7:=hid ho7;have BV7:=hid (BV6.out.below HG7.out);have HHL:Hid ((iW (L.last+1)).length<=100 /\ ∀c ∈ iW (L.last+1),c<256):=hid (aCc (by have:=HNX2.out;omega));have HL2:Hid ((ints (iW (L.last+1))).length+(ints (linesW (L.last+1) (ml.map (·.1)))).length<=4294967296):=hid (by rw[aS,aS];have:=HHL.out.1;have:=HLN.out;omega)
   clear ho7 hb7 X7
   go_wp2_with (at_builtin;refine bS Tryz.u8s _ _ rfl (w6.alloc (.cells #[.int .u64 (lz+1),.int .i64 0,.int .i64 0] 188)).heap.size hv (.slice ba bn bc) (ints (iW (L.last+1))) (ints (linesW (L.last+1) (ml.map (·.1)))) rfl rfl O7.out BV7.out.rd (by decide) HL2.out HSZ7.out rfl ?_;intro v8 w8 hown8 hgr8 hat8 hnil8 hbel8;have HO8:=hid hown8;have B8:=hid hbel8;obtain⟨sa,sc,rfl⟩:=hown8.shape;obtain⟨sn,hsn⟩:∃sn,(ints (iW (L.last+1))++ints (linesW (L.last+1) (ml.map (·.1)))).length=sn:=⟨_,rfl⟩;have HSN0:=hid hsn;rw[hsn]at HO8 ⊢;clear hown8 hgr8 hat8 hnil8 hbel8 hsn)
   have HS8:Hid ((fF (L.last+1) (ml.map (·.1))).length<=2001000):=hid (by unfold fF;rw[List.length_append];have:=HHL.out.1;have:=HL20.out;omega)
   have BV8:Hid (Bytes w8 (.slice sa sn sc) (fF (L.last+1) (ml.map (·.1)))):=hid (by
    have e:ints (iW (L.last+1))++ints (linesW (L.last+1) (ml.map (·.1)))=ints (fF (L.last+1) (ml.map (·.1))):=by unfold fF ints;rw[List.map_append]
    have h:=HO8.out;rw[e]at h;refine Bytes.dL h (fun c hc=>?_) (by have:=HS8.out;omega);rcases List.mem_append.1 hc with hc|hc
    ·exact HHL.out.2 c hc
    ·exact HBL.out c hc)
   have HSN:Hid ((fF (L.last+1) (ml.map (·.1))).length=sn):=hid (by rw[<- HSN0.out];unfold fF;rw[List.length_append,List.length_append,aS,aS])
   have hsn2:(sn:Int)<=2001000:=by have:=HSN.out;have:=HS8.out;omega
   have B68:Hid (Below w6.heap.size w6 w8):=hid (HG7.out.trans (B8.out.mono (Nat.le_of_lt HLT7.out)));have X8:Hid (FC w8 w6.heap.size (lz+1)):=hid (X8a.out.kept (Kept.aL B8.out (S:=fun b=>(w6.alloc (.cells #[.int .u64 (lz+1),.int .i64 0,.int .i64 0] 188)).heap.size<=b) fun k h1 h2=>h2) (by have:=HLT7.out;omega));have HNB3:Hid (¬aZ db mb tb w6.heap.size):=hid (fun h=>by have:=L6.out.dZ.lt3 _ h;omega);have HGL:Hid (w.heap.size<=w6.heap.size):=hid S6.out.1.size;have L8:=hid (L6.out.below B68.out);have S8:Hid (aX lb db mb tb w ev fv w8 ev1 fv1):=hid (S6.out.trans (aX.below B68.out));have HG6:Hid (w6.heap.size<w8.heap.size):=hid (by have:=HLT7.out;have:=HSZ7.out;have:=B8.out.size;omega);have ST:=aR.from w8;clear HSN0 HG7 HLT7 HSZ7 X8a O7 BV7 HHL HL2 HO8 B8 B68 BV6;generalize w6.heap.size=g at *
   go_wp2_with fail;refine aU [0,1,3,7,0,16,48,112,0,511,1023] 128 (fun w'=>Below w8.heap.size w8 w') (by kernel_rfl) ?_;refine aB [0,1,2,3,4,5,6,8] (by kernel_rfl) (L:=bm 11 383) (by kernel_rfl) (f':=3) rfl (fun _ _ _ _ h=>h) (fun w o h=>ST.alloc h o) (.inr (by first|exact Below.refl _ _|exact(Below.refl _ _).drew)) ?_;simp only[sF,sL]
   iterate 8 (first|(refine aW _ (by rfl) (fun w' hs=>by have Y:=L8.out.below hs;have b0:=Y.c0;obtain⟨q0,q1,q2⟩:=X8.out.below hs;go_simp;try with_reducible rfl) rfl ?_;simp only[Act.put,sA])|(refine aC _ (by rfl) (fun w'=>by go_simp;try with_reducible rfl) ?_;simp only[Act.put,sA]))
   refine aI ?_;refine aM 7 (by kernel_rfl) (L:=bm 11 511) (by kernel_rfl) ?_;simp only[sL];go_wp2_with fail;have WN:=qS (L.last+1) 0 0 w8.drew HNX1.out HNX2.out;rw[HNX.out]at WN;refine WN.mono ?_;clear WN;rintro e u9 ⟨rfl,hb9⟩;have I9:Hid (Below w8.heap.size w8 u9):=hid (((Below.refl w8.heap.size w8).drew).trans hb9);clear hb9;go_wp2_with fail;refine aH (fun _=>I9.out) ?_;refine aM 9 (by kernel_rfl) (L:=bm 11 1023) (by kernel_rfl) ?_;simp only[sL];go_wp2_with fail;have L9:=hid (L8.out.below I9.out);refine(wJ db mb tb D1 (aK (L.last+1)) _ (fF (L.last+1) (ml.map (·.1))) u9 L9.out.dZ HG1.out (BV8.out.below I9.out) HNS.out).mono ?_;rintro e w10 ⟨rfl,hd10,hk10⟩;have L10:Hid (bF w10 lb db mb tb ev1 fv1 el1 (aV D1 (aK (L.last+1)) (fF (L.last+1) (ml.map (·.1)))).1 L1):=hid (L9.out.oQ hd10 hk10);have S10:Hid (aX lb db mb tb w ev fv w10 ev1 fv1):=hid (S8.out.trans ((aX.below I9.out).trans (aX.dZ hk10)));have X10:=hid ((X8.out.below I9.out).kept hk10 HNB3.out);clear hd10 hk10;generalize (aV D1 (aK (L.last+1)) (fF (L.last+1) (ml.map (·.1)))).1=D10 at *;generalize (aV D1 (aK (L.last+1)) (fF (L.last+1) (ml.map (·.1)))).2=k10 at *;go_wp2_with fail
   refine aH nofun ?_;refine aB [10] (by kernel_rfl) (L:=bm 11 2047) (by kernel_rfl) (f':=0) rfl (fun _ _ _ _ h=>h) (fun w o h=>ST.alloc h o) (.inl (by kernel_rfl)) ?_;simp only[sF,sL]
   iterate 1 (refine aC _ (by rfl) (fun w'=>by go_simp;try with_reducible rfl) ?_;simp only[Act.put,sA])
   refine aI ?_;refine bC (by kernel_rfl) ?_;by_cases hk0:k10=0
   ·have hkb:((k10:Int) != 0)=false:=by rw[hk0];rfl
    have HK0:=hid hk0;have y6:=X10.out.c2;clear hk0;go_wp2_with fail;obtain⟨fa,fc,rfl,_⟩:=L10.out.rF;obtain⟨ea,ec,rfl,_⟩:=L10.out.gA;obtain⟨fn,hfn⟩:∃fn,L1.fs.length=fn:=⟨_,rfl⟩;have HFN:=hid hfn;obtain⟨en,hen⟩:∃en,L1.es.length=en:=⟨_,rfl⟩;have HEN:=hid hen;obtain⟨ff,hff⟩:∃ff:WF,ff=⟨L.last+1,0,0⟩:=⟨_,rfl⟩;have HFF:=hid hff;have hf1:(ff.f:Int)=lz+1:=by rw[hff];exact HNX.out
    have hf2:(ff.m:Int)=0:=by rw[hff];rfl
    have hf3:(ff.s:Int)=0:=by rw[hff];rfl
    have SR:Hid (∀W:World,W.heap.size=w10.heap.size->bJ (W.alloc (.cells #[.int .u64 (lz+1),.int .i64 0,.int .i64 0] 188)) 3 (.slice (some ⟨w10.heap.size,0,none⟩) 1 1) [cY ff]):=hid (fun W hW=>by
     have h:=tY W (.int .u64 (lz+1)) (.int .i64 0) (.int .i64 0) 188;rw[hW]at h;unfold cY;rw[hf1,hf2,hf3];exact h)
    rw[hfn]at L10 S10;rw[hen]at L10 S10;have ST10:=aR.from w10;have M10:=hid (HM.out.kept S10.out.1);have HF1:=hid hf1;have HF2:=hid hf2;have HF3:=hid hf3;clear hff hfn hen y6 hf1 hf2 hf3;refine aU [0,0,2,6,14,0,32,96,224,510,1023,2047,4095] 0 (fun w'=>Below w10.heap.size w10 w') (by kernel_rfl) ?_;refine aB [0,1,2,3,4,5,6,7] (by kernel_rfl) (L:=bm 13 255) (by kernel_rfl) (f':=5) rfl (fun _ _ _ _ h=>h) (fun w o h=>ST10.alloc h o) (.inr (by first|exact Below.refl _ _|exact(Below.refl _ _).drew)) ?_;simp only[sF,sL]
    iterate 8 (first|(refine aW _ (by rfl) (fun w' hs=>by have Y:=L10.out.below hs;have b3:=Y.c3;obtain⟨q0,q1,q2⟩:=X10.out.below hs;go_simp;try with_reducible rfl) rfl ?_;simp only[Act.put,sA])|(refine aC _ (by rfl) (fun w'=>by go_simp;try with_reducible rfl) ?_;simp only[Act.put,sA]))
    refine aI ?_;refine aM 8 (by kernel_rfl) (L:=bm 13 511) (by kernel_rfl) ?_;simp only[sL];go_wp2_with fail;refine aH nofun ?_;refine aM 9 (by kernel_rfl) (L:=bm 13 1023) (by kernel_rfl) ?_;simp only[sL]
    go_wp2_with (at_builtin;refine dF aBD _ _ rfl (.slice fa fn fc) (.slice (some ⟨w10.heap.size,0,none⟩) 1 1) (L1.fs.map cY) [cY ff] rfl rfl (L10.out.fr.below ((Below.refl _ _).drew.alloc (Nat.le_refl _) _)) (SR.out _ (by simp)) (by intro r hr;obtain rfl:=List.mem_singleton.1 hr;rfl) (by intro r hr u hu;obtain rfl:=List.mem_singleton.1 hr;simp only[cY,List.mem_cons,List.not_mem_nil,or_false]at hu;rcases hu with rfl|rfl|rfl<;>rfl) (by intro x hx;simp[cY]at hx) aBE (by rw[List.length_map];have:=HFL.out;have:=HFSL.out;simp only[List.length_cons,List.length_nil];omega) rfl ?_;intro v11 w11 ho11 hg11 ha11;obtain⟨g11,c11,rfl,hc11,hl11⟩:=cM.some ho11 (by simp);obtain⟨kf,hkf⟩:∃kf,(L1.fs.map cY ++ [cY ff]).length=kf:=⟨_,rfl⟩;have HKF:=hid hkf;rw[hkf]at ho11 ha11 ⊢;have LA:=(L10.out.below ((Below.refl w10.heap.size w10).drew.alloc (Nat.le_refl _) (.cells #[.int .u64 (lz+1),.int .i64 0,.int .i64 0] 188)));have G11:=hid (LA.aDG (fs:=L1.fs ++ [ff]) hg11 (by rw[List.map_append];exact ho11) ha11);have A11:=hid ha11;have q2:=(LA.tG hg11).1;have q3:=(LA.tG hg11).2;clear ho11 hg11 ha11 LA hc11 hl11 hkf)
    refine aH nofun ?_;refine aB [10,11] (by kernel_rfl) (L:=bm 13 4095) (by kernel_rfl) (f':=1) rfl (fun _ _ _ _ h=>h) (fun w o h=>ST10.alloc h o) (.inl (by kernel_rfl)) ?_;simp only[sF,sL]
    iterate 2 (refine aC _ (by rfl) (fun w'=>by go_simp;try with_reducible rfl) ?_;simp only[Act.put,sA])
    refine aI ?_;refine aM 12 (by kernel_rfl) (L:=bm 13 8191) (by kernel_rfl) ?_;simp only[sL];go_wp2_with fail;refine aH nofun ?_;refine bC (by kernel_rfl) ?_;have sA:aX lb db mb tb w10 (.slice ea en ec) (.slice fa fn fc) (w10.drew.alloc (.cells #[.int .u64 (lz+1),.int .i64 0,.int .i64 0] 188)) (.slice ea en ec) (.slice fa fn fc):=aX.below ((Below.refl _ _).drew.alloc (Nat.le_refl _) _);have sF:aX lb db mb tb (w10.drew.alloc (.cells #[.int .u64 (lz+1),.int .i64 0,.int .i64 0] 188)) (.slice ea en ec) (.slice fa fn fc) (w11.setCell ⟨lb,3,none⟩ (.slice (some ⟨g11,0,none⟩) kf c11)) (.slice ea en ec) (.slice (some ⟨g11,0,none⟩) kf c11):=⟨G11.out.2,fun b hb=>.inl hb,pX A11.out⟩;have S12:=hid (S10.out.trans (sA.trans sF));obtain⟨L2,hL2⟩:∃L2:aQ,L2=⟨L1.b,L1.es,L1.fs ++ [ff],L1.safe⟩:=⟨_,rfl⟩;have HL2:Hid (L2.b=L.b/\L2.es=L.es/\L2.fs=L.fs ++ [ff]/\L2.safe=L1.safe):=hid (by rw[hL2];exact⟨HSL.out.1,HSL.out.2.1,by rw[<- HSL.out.2.2],rfl⟩);have L12:Hid (bF (w11.setCell ⟨lb,3,none⟩ (.slice (some ⟨g11,0,none⟩) kf c11)) lb db mb tb (.slice ea en ec) (.slice (some ⟨g11,0,none⟩) kf c11) el1 D10 L2):=hid (by rw[hL2];exact G11.out.1);obtain⟨m,hmm⟩:∃m,L2.fs.length=m+1:=⟨L2.fs.length-1,by rw[hL2];simp⟩;have HMM:=hid hmm;have HF:Hid (L2.fs.getLast? = some ff):=hid (by rw[hL2];simp);have hkm:kf=m+1:=by rw[<- HKF.out,<- hmm,hL2];simp
    have HM6:Hid (m<=1000000):=hid (by have h1:L2.fs.length=L1.fs.length+1:=(by rw[hL2];simp);have:=HFL.out;have:=HFSL.out;omega);have hs':(kf:Int)<=4294967296:=by have:=HM6.out;omega
    generalize w11.setCell ⟨lb,3,none⟩ (.slice (some ⟨g11,0,none⟩) kf c11)=w12 at *
    clear sA sF G11 A11 q2 q3 hL2 hmm SR;go_wp2_with fail;refine(iK L12.out hkm hs').mono ?_;rintro e w13 ⟨rfl,hb13⟩;have L13:=hid (L12.out.below hb13);have S13:=hid (S12.out.trans (aX.below hb13));clear hb13;have y6:=(L13.out.jZ HF.out HMM.out).2.2;obtain⟨mA,hmA⟩:∃mA:Nat,ff.m+n=mA:=⟨_,rfl⟩;obtain⟨sB,hsB⟩:∃sB:Nat,ff.s+sn=sB:=⟨_,rfl⟩;have HMA:=hid hmA;have HSB:=hid hsB;have hf2:=HF2.out;have hf3:=HF3.out;have am:(ff.m:Int)+(n:Int)=(mA:Int):=by omega
    have asb:(ff.s:Int)+(sn:Int)=(sB:Int):=by omega
    have wm:IntKind.i64.wrap (mA:Int)=(mA:Int):=by simp only[IntKind.wrap_i64];omega
    have ws:IntKind.i64.wrap (sB:Int)=(sB:Int):=by simp only[IntKind.wrap_i64];omega
    have ST6:=aR.from w13;clear hmA hsB hf2 hf3;go_wp2_with fail;refine aU [0,0,0,4,12,28,0,64,252,0,512,1536,3584,0,8192,32256,8189,73725,204797,524287,1048575,2097151] 0 (fun w'=>Below w13.heap.size w13 w') (by kernel_rfl) ?_;refine aB [0,1,2,3,4,5,6,7,8,9,10,11,12,13,14,15,16,17] (by kernel_rfl) (L:=bm 22 262143) (by kernel_rfl) (f':=4) rfl (fun _ _ _ _ h=>h) (fun w o h=>ST6.alloc h o) (.inr (by first|exact Below.refl _ _|exact(Below.refl _ _).drew)) ?_;simp only[sF,sL]
    iterate 18 (first|(refine aW _ (by rfl) (fun w' hs=>by have Y:=L13.out.below hs;obtain⟨q0,q1,q2⟩:=Y.jZ HF.out HMM.out;go_simp;try with_reducible rfl) rfl ?_;simp only[Act.put,sA])|(refine aC _ (by rfl) (fun w'=>by go_simp;try with_reducible rfl) ?_;simp only[Act.put,sA]))
    refine aI ?_;refine aM 18 (by kernel_rfl) (L:=bm 22 524287) (by kernel_rfl) ?_;simp only[sL];obtain⟨y0,y1,y2⟩:=L13.out.jZ HF.out HMM.out;have z1:=cM.yZ L13.out.fr (m*3+1);have z2:=cM.yZ L13.out.fr (m*3+2);go_wp2_with fail;refine aH nofun ?_;refine aB [19,20] (by kernel_rfl) (L:=bm 22 2097151) (by kernel_rfl) (f':=1) rfl (fun _ _ _ _ h=>h) (fun w o h=>ST6.alloc h o) (.inl (by kernel_rfl)) ?_;simp only[sF,sL]
    iterate 2 (refine aC _ (by rfl) (fun w'=>by go_simp;try with_reducible rfl) ?_;simp only[Act.put,sA])
    refine aI ?_;refine aM 21 (by kernel_rfl) (L:=bm 22 4194303) (by kernel_rfl) ?_;simp only[sL];go_wp2_with fail;refine aH nofun ?_;refine bC (by kernel_rfl) ?_;clear y0 y1 y2 z1 z2 y6;have L7x:=hid (L13.out.aJf HF.out HMM.out mA sB);have K7x:Hid (Kept w13 ((w13.setCell ⟨g11,m*3+1,none⟩ (.int .i64 (mA:Nat))).setCell ⟨g11,m*3+2,none⟩ (.int .i64 (sB:Nat))) (fun b=>b=g11)):=hid ((Kept.setCell w13 ⟨g11,m*3+1,none⟩ _).trans (Kept.setCell _ ⟨g11,m*3+2,none⟩ _));have L8':=hid (L7x.out.below ((Below.refl _ _).drew));have S8':Hid (aX lb db mb tb w13 (.slice ea en ec) (.slice (some ⟨g11,0,none⟩) kf c11) ((w13.setCell ⟨g11,m*3+1,none⟩ (.int .i64 (mA:Nat))).setCell ⟨g11,m*3+2,none⟩ (.int .i64 (sB:Nat))).drew (.slice ea en ec) (.slice (some ⟨g11,0,none⟩) kf c11)):=hid ⟨((K7x.out.trans (Kept.drew _ _))).mono fun b _ e=>.inr (.inr (.inr (by rw[e];rfl))),fun b hb=>.inl hb,fun b hb=>.inl hb⟩;generalize hw14:((w13.setCell ⟨g11,m*3+1,none⟩ (.int .i64 (mA:Nat))).setCell ⟨g11,m*3+2,none⟩ (.int .i64 (sB:Nat))).drew=w14 at *
    have L14:=L8';have S14:=hid (S13.out.trans S8'.out);have M14:=hid (HM.out.kept S14.out.1);have ST8:=aR.from w14;clear hw14 L7x K7x L8' S8';go_wp2_with fail;refine aU [0,0,2,6,14,0,32,126,255,511,1023] 64 (fun w'=>Below w14.heap.size w14 w') (by kernel_rfl) ?_;refine aB [0,1,2,3,4,5] (by kernel_rfl) (L:=bm 11 63) (by kernel_rfl) (f':=5) rfl (fun _ _ _ _ h=>h) (fun w o h=>ST8.alloc h o) (.inr (by first|exact Below.refl _ _|exact(Below.refl _ _).drew)) ?_;simp only[sF,sL]
    iterate 6 (first|(refine aW _ (by rfl) (fun w' hs=>by have Y:=L14.out.below hs;have b2:=Y.c2;go_simp;try with_reducible rfl) rfl ?_;simp only[Act.put,sA])|(refine aC _ (by rfl) (fun w'=>by go_simp;try with_reducible rfl) ?_;simp only[Act.put,sA]))
    refine aI ?_;refine aM 6 (by kernel_rfl) (L:=bm 11 127) (by kernel_rfl) ?_;simp only[sL];go_wp2_with fail;refine(tD _ ml _ (M14.out.row.below ((Below.refl w14.heap.size w14).drew)) ((aA0.kept M14.out (Kept.drew w14 _)).loose) HMLN.out).mono ?_;rintro e w15 ⟨cv,rfl,cl,hoc,hcm,hcd,hcb,hbc⟩;have B9:Hid (Below w14.heap.size w14 w15):=hid (((Below.refl w14.heap.size w14).drew).trans hbc);have OC:=hid hoc;have CM:=hid hcm;have L15:=hid (L14.out.below B9.out);have DC:Hid (cA w15 (aZ db mb tb) cl):=hid (hcd.mono fun p _ b _ hb=>L14.out.dZ.lt3 b hb);have H32:Hid ((aN el1).length+(aN cl).length<=4294967296):=hid (by rw[aO,aO,L14.out.zO,show cl.length=ml.length by rw[<- List.length_map (f:=fun x:cU × Value=>x.1),hcm,List.length_map]];have h1:L2.es.length=L.es.length:=(by rw[HL2.out.2.1]);have:=HES.out;simp only;omega);obtain⟨ca,cn,cc,rfl⟩:=eT hoc;clear hoc hcm hcd hcb hbc;go_wp2_with fail;refine aH (fun _=>B9.out) ?_;refine aM 7 (by kernel_rfl) (L:=bm 11 255) (by kernel_rfl) ?_;simp only[sL]
    go_wp2_with (at_builtin;refine dF nK _ _ rfl (.slice ea en ec) (.slice ca cn cc) (aN el1) (aN cl) rfl rfl L15.out.er OC.out.qG (gP cl) DC.out.lV (lQ DC.out) wQ H32.out rfl ?_;intro v10 w16 ho10 hg10 ha10;obtain⟨a10,n10,c10,rfl⟩:=eT ho10;have G10:=hid (L15.out.aDF (el':=el1++cl) hg10 (by rw[gF];exact ho10) ha10 ((L15.out.dat.cR (Kept.cJ hg10) (gB L15.out.er)).app (DC.out.cR (Kept.cJ hg10) (gB L15.out.er))));have A10:=hid ha10;have e2:=(L15.out.tF hg10).1;have e3:=(L15.out.tF hg10).2;clear ho10 hg10 ha10)
    refine aH nofun ?_;refine aB [8,9] (by kernel_rfl) (L:=bm 11 1023) (by kernel_rfl) (f':=1) rfl (fun _ _ _ _ h=>h) (fun w o h=>ST8.alloc h o) (.inl (by kernel_rfl)) ?_;simp only[sF,sL]
    iterate 2 (refine aC _ (by rfl) (fun w'=>by go_simp;try with_reducible rfl) ?_;simp only[Act.put,sA])
    refine aI ?_;refine aM 10 (by kernel_rfl) (L:=bm 11 2047) (by kernel_rfl) ?_;simp only[sL];go_wp2_with fail;refine aH nofun ?_;refine bC (by kernel_rfl) ?_;go_wp2_with fail;go_ret;rw[HR.out,HNEW.out,if_neg fun q=>q HK1.out,if_neg fun q=>q HK0.out];have hfin:=G10.out.1;have eL:(⟨L2.b,(el1++cl).map (·.1),L2.fs.dropLast ++ [⟨ff.f,mA,sB⟩],L2.safe⟩:aQ)=⟨L.b,L.es++ml.map (·.1),L.fs ++ [⟨L.last+1,(ml.map (·.1)).length,(fF (L.last+1) (ml.map (·.1))).length⟩],L1.safe⟩:=by
     have h1:el1.map (·.1)=L2.es:=L14.out.es
     have h2:(ml.map (·.1)).length=mA:=by rw[List.length_map,HN.out,<- HMA.out,HFF.out];simp
     have h3:(fF (L.last+1) (ml.map (·.1))).length=sB:=by rw[HSN.out,<- HSB.out,HFF.out];simp
     have h4:ff.f=L.last+1:=by rw[HFF.out]
     rw[List.map_append,h1,CM.out,HL2.out.1,HL2.out.2.1,HL2.out.2.2.1,HL2.out.2.2.2,List.dropLast_concat,h2,h3,h4]
    have hL:bF (w16.setCell ⟨lb,2,none⟩ (.slice a10 n10 c10)) lb db mb tb (.slice a10 n10 c10) (.slice (some ⟨g11,0,none⟩) kf c11) (el1++cl) D10 ⟨L.b,L.es++ml.map (·.1),L.fs ++ [⟨L.last+1,(ml.map (·.1)).length,(fF (L.last+1) (ml.map (·.1))).length⟩],L1.safe⟩:=by
     rw[<- eL];exact hfin
    have sE:aX lb db mb tb w15 (.slice ea en ec) (.slice (some ⟨g11,0,none⟩) kf c11) (w16.setCell ⟨lb,2,none⟩ (.slice a10 n10 c10)) (.slice a10 n10 c10) (.slice (some ⟨g11,0,none⟩) kf c11):=⟨G10.out.2,pX A10.out,fun b hb=>.inl hb⟩;have sF:=S14.out.trans ((aX.below B9.out).trans sE)
    first
     | exact⟨rfl,_,_,_,hL,sF.1,sF.2.1,sF.2.2⟩
     | (have sG:=sF.trans (aX.below ((Below.refl (w16.setCell ⟨lb,2,none⟩ (.slice a10 n10 c10)).heap.size (w16.setCell ⟨lb,2,none⟩ (.slice a10 n10 c10))).drew));exact⟨rfl,_,_,_,hL.below ((Below.refl _ _).drew),sG.1,sG.2.1,sG.2.2⟩)
   ·have hkb:((k10:Int) != 0)=true:=by simp;omega
    have HK0:=hid hk0;clear hk0;go_wp2_with fail;go_ret;rw[HR.out,HNEW.out,if_neg fun q=>q HK1.out,if_pos HK0.out];exact⟨rfl,_,_,_,L10.out,S10.out.1,S10.out.2.1,S10.out.2.2⟩
  ·have hkb:((k1:Int) != 0)=true:=by simp;omega
   have HK1:=hid hk1;clear hk1;go_wp2_with fail;go_ret;rw[HR.out,HNEW.out,if_pos HK1.out];exact⟨rfl,_,_,_,L6.out,S6.out.1,S6.out.2.1,S6.out.2.2⟩
end Go.Proofs.YtjdglpcnkiioeaaGreat
namespace Go.Proofs.YtjdglpcnkiioeaaGreat
open Go.RowKit Go.Maps Go.Proofs.Own Go.Shelf

theorem aHi (i:Nat)(e:cU):8<=(jN i e).length:=by unfold jN;rw[lB];omega
theorem aAz:∀(es:List cU) (i:Nat),8*es.length<=(linesW i es).length
 | [],_=>Nat.le_refl _
 | e::es,i=>by
  show _<=(jN i e++linesW (i+1) es).length;rw[List.length_append,List.length_cons];have:=aHi i e;have:=aAz es (i+1);omega
theorem aHj {i:Nat}{e:cU}(hi:(i:Int)<18446744073709551616)(ht:e.t<18446744073709551616)(hk:e.k<18446744073709551616)(hd:e.d.length<=5000):(jN i e).length<=5060:=by
 have h1:(dW [i,e.t.toNat,e.k.toNat]).length<=27:=nA [i,e.t.toNat,e.k.toNat] (by
  intro x hx;simp only[List.mem_cons,List.not_mem_nil,or_false]at hx;rcases hx with rfl|rfl|rfl<;>omega)
 have h2:(mZ e.d.length).length<=9:=jP (by omega);unfold jN rU;rw[lB,List.length_append,List.length_append];omega
theorem aDK (es:List cU):∀(i:Nat),(∀e ∈ es,e.t<18446744073709551616/\e.k<18446744073709551616/\e.d.length<=5000)->(i:Int)+es.length<18446744073709551616->(linesW i es).length<=5060*es.length:=by
 induction es with
 | nil =>
  intro i _ _;simp[linesW]
 | cons e es ih =>
  intro i h hi;show (jN i e++linesW (i+1) es).length<=_;rw[List.length_append,List.length_cons];rw[List.length_cons]at hi;obtain⟨h1,h2,h3⟩:=h e (List.mem_cons_self ..);have:=aHj (i:=i) (by omega) h1 h2 h3;have:=ih (i+1) (fun e he=>h e (List.mem_cons_of_mem _ he)) (by omega);omega
theorem aEX (f:Nat)(es:List cU):8+8*es.length<=(fF f es).length:=by
 unfold fF iW;rw[List.length_append,lB];have:=aAz es f;omega
theorem sS (p:aJ->Bool):∀L:List aJ,total (L.filter p)<=total L
 | []=>Nat.le_refl _
 | f::L=>by
  rw[List.filter_cons,eE];have:=sS p L;split
  ·rw[eE];omega
  ·omega
theorem aB7:∀P:List Pc,8*(fL P).length<=total (P.map Pc.file)
 | []=>Nat.le_refl _
 | p::P=>by
  rw[kK,List.length_append,List.map_cons,eE];have h1:p.file.all.length=(fF p.f p.es).length:=rfl;have:=aEX p.f p.es;have:=aB7 P;omega
theorem aEQ:∀P:List Pc,oW (P.map Pc.wf)=(fL P).length
 | []=>rfl
 | p::P=>by
  rw[List.map_cons,show p.wf::P.map Pc.wf = [p.wf]++P.map Pc.wf from rfl,mV,pV,aEQ P,kK,List.length_append];rfl
theorem fN.lok {D:aA}{L:aQ}{P:List Pc}(h:fN D L P)(hg:aY D):LOk L/\L.es.length<=131072:=by
 have ht:total (P.map Pc.file)<=1048576:=by
  rw[<- h.fil];exact Nat.le_trans (sS _ _) hg.tot
 have he:=aB7 P;have hes:L.es.length=(fL P).length:=by rw[h.es]
 refine⟨⟨fun f hf=>?_,?_,by omega,?_,h.safe,fun f hf=>?_⟩,by omega⟩
 ·rw[h.fs]at hf;obtain⟨p,hp,rfl⟩:=List.mem_map.1 hf;exact(aIY h hp).aCg
 ·rw[h.fs,aEQ,hes];exact Nat.le_refl _
 ·have:=h.lo.1;unfold H59 at this;omega
 ·rw[h.fs]at hf;obtain⟨p,hp,rfl⟩:=List.mem_map.1 hf;have:=tA (L:=P.map Pc.file) (List.mem_map_of_mem hp);show p.w.length<=_;have h1:p.file.all.length=p.w.length:=rfl;omega
theorem fN.size {D:aA}{L:aQ}{P:List Pc}(h:fN D L P){f:WF}(hf:f ∈ L.fs):f.s≠0:=by
 rw[h.fs]at hf;obtain⟨p,hp,rfl⟩:=List.mem_map.1 hf;show (fF p.f p.es).length≠0;have:=aEX p.f p.es;omega
theorem fN.empty {D:aA}{L:aQ}{P:List Pc}(h:fN D L P)(hs:L.safe≠L.es.length):L.fs ≠ []:=fun e=>by
 rw[h.fs]at e;have hP:P = []:=List.map_eq_nil_iff.1 e;have he:=h.es;have:=h.safe;rw[hP]at he;rw[he]at hs this;exact hs (Nat.le_zero.1 this)
structure Few (ml:bN):Prop where
 many:ml.length<=100
 each:∀p ∈ ml,p.1.t<18446744073709551616/\p.1.k<18446744073709551616/\p.1.d.length<=5000

end Go.Proofs.YtjdglpcnkiioeaaGreat
namespace Go.Proofs.YtjdglpcnkiioeaaGreat
open Go.Lib (hid)
open Go.RowKit Go.Maps Go.Proofs.Own Go.Shelf

section
variable {P:Program} {t e:TypeId} {sz:Nat} (ht:P.underlying t=some (.slice e)) (hz:(P.info? e).map (·.size)=some sz)
include ht hz
theorem bJ.aJy (q:IntKind){w:World}{v:Value}{rs:List (List Value)}(h:bJ w sz v rs)(lo:Nat)(h1:lo<=rs.length) :
  ∃v',bJ w sz v' (rs.drop lo)/\v'.ownBlock=v.ownBlock /\ ∀w',(Instr.slice t v (Option.some (Value.int q lo)) none none).run P w' = .ok v' w':=by
 obtain⟨a,c,rfl,hl⟩:=h.shape;obtain⟨i,hi',hs⟩:=Option.map_eq_some_iff.1 hz;have hel:P.elem t=e:=by simp[Program.elem,ht]
 have hh:=h.sliced lo rs.length c h1 (Nat.le_refl _) (by omega);rw[List.take_length]at hh;refine⟨_,hh,lW _ _ _ _ _ _ _,fun w'=>?_⟩;rw[run_slice_l w' t a rs.length c (by rw[hel];exact ht) q lo (by omega) (by omega),hel];simp[sizeOf,typeInfo,hi',hs,Result.andThen,go_sem]
theorem bJ.aJS (q r:IntKind){w:World}{v:Value}{rs:List (List Value)}(h:bJ w sz v rs)(lo hi:Nat)(h1:lo<=hi)(h2:hi<=rs.length) :
  ∃v',bJ w sz v' ((rs.take hi).drop lo)/\v'.ownBlock=v.ownBlock /\ ∀w',(Instr.slice t v (Option.some (Value.int q lo)) (Option.some (Value.int r hi)) none).run P w' = .ok v' w':=by
 obtain⟨a,c,rfl,hl⟩:=h.shape;obtain⟨i,hi',hs⟩:=Option.map_eq_some_iff.1 hz;have hel:P.elem t=e:=by simp[Program.elem,ht]
 refine⟨_,h.sliced lo hi c h1 h2 (by omega),lW _ _ _ _ _ _ _,fun w'=>?_⟩;rw[run_slice_lh w' t a rs.length c (by rw[hel];exact ht) q r lo hi (by omega) (by omega) (by omega),hel];simp[sizeOf,typeInfo,hi',hs,Result.andThen,go_sem]
end
def HX:Nat:=1152921506754330624
theorem aJ3 {n:Nat}(h:n<=H59):n<=HX:=by unfold H59 at h;unfold HX;omega
def oF (L:aQ)(index:Nat)(most:Int):List cU:=(L.es.drop (max index (L.b+1)-(L.b+1))).take most.toNat
def aJs (L:aQ)(index:Nat)(most:Int)(w:World):Ending->World->Prop:=fun e w'=>∃v' l',e = .returned v'/\cM w' 38 3 v' (aN l')/\l'.map (·.1)=oF L index most/\cA w' (fun k=>k<w.heap.size) l'/\(∀b,v'.ownBlock=some b->w.heap.size<=b)/\Below w.heap.size w w'

theorem aK5 {lb db mb tb:Nat}{ev fv:Value}{el:bN}{D:aA}{L:aQ}{w:World}(h:bF w lb db mb tb ev fv el D L)(hl:L.last<=HX)(hn:L.es.length<=2147483648)(index:Nat)(hi:(index:Int)<18446744073709551616)(most:Int)(hmo:most<=9223372036854775807) :
  Calls Tryz.prog 18 #[.pointer (some ⟨lb,0,none⟩),.int .u64 index,.int .i64 most] w (aJs L index most w):=by
 have HH:=hid h;have hla:L.last=L.b+L.es.length:=rfl;have HB1:=hid (show (L.b:Int)+1<18446744073709551616 by unfold HX at hl;omega);have HB:=hid (show (L.last:Int)<18446744073709551616 by unfold HX at hl;omega);obtain⟨lz,hlz⟩:∃lz:Int,(L.last:Int)=lz:=⟨_,rfl⟩;have HLZ:=hid hlz;obtain⟨ix,hix⟩:∃ix:Int,(index:Int)=ix:=⟨_,rfl⟩;obtain⟨fz,hfz⟩:∃fz:Int,(L.b:Int)+1=fz:=⟨_,rfl⟩;have HFZ:=hid hfz;rw[hix];by_cases hx:L.last<index
 ·have hxz:lz<ix:=by omega
  have HF:Hid (oF L index most = []):=hid (by
   unfold oF;rw[List.drop_eq_nil_of_le (by omega),List.take_nil])
  clear h hla hl hn hi hmo hlz hix hfz hx;go_enter Tryz.func18,Tryz.ntmps18;go_wp2_with fail;refine(mD HH.out).mono ?_;rintro e w1 ⟨rfl,rfl⟩;go_wp2_with fail;refine(nG HH.out HB.out).mono ?_;rintro e w2 ⟨rfl,hb2⟩;rw[HLZ.out];have B2:=hid hb2;clear hb2;go_wp2_with fail;go_ret;exact⟨_,[],rfl,cM.nil _ _ _,HF.out.symm,nofun,nofun,B2.out⟩
 ·have hxz:decide (lz<ix)=false:=decide_eq_false (by omega);obtain⟨k,hk⟩:∃k,max index (L.b+1)-(L.b+1)=k:=⟨_,rfl⟩;have hkl:k<=L.es.length:=by omega
  obtain⟨n,hnn⟩:∃n,min most.toNat (L.es.length-k)=n:=⟨_,rfl⟩;have hll:(el.drop k).length=L.es.length-k:=by rw[List.length_drop,h.zO]
  have HF:Hid (oF L index most=((el.drop k).take n).map (·.1)):=hid (by
   unfold oF;rw[hk,List.map_take,List.map_drop,h.es,<- hnn];have e:(L.es.drop k).length=L.es.length-k:=List.length_drop;rw[<- e];by_cases hc:most.toNat<=(L.es.drop k).length
   ·rw[Nat.min_eq_left hc]
   ·rw[Nat.min_eq_right (by omega),List.take_length,List.take_of_length_le (by omega)])
  have hlen:k<=(aN el).length:=by rw[aO,h.zO];exact hkl
  obtain⟨v1,hs1,ho1,hcut1⟩:=bJ.aJy (P:=Tryz.prog) (t:=23) Tryz.underlying23 (by kernel_rfl) .u64 h.er.qG k hlen;have hr1:(aN el).drop k=aN (el.drop k):=by unfold aN;rw[List.map_drop]
  rw[hr1]at hs1;obtain⟨v2,hs2,ho2,hcut2⟩:=bJ.aGS (P:=Tryz.prog) (t:=23) Tryz.underlying23 (by kernel_rfl) hs1 n (by rw[aO,hll];omega);have hr2:(aN (el.drop k)).take n=aN ((el.drop k).take n):=by unfold aN;rw[List.map_take]
  rw[hr2]at hs2;have HS2:=hid hs2;have HD2:Hid (cA w (fun _=>False) ((el.drop k).take n)):=hid ((h.dat.sub fun p hp=>List.mem_of_mem_drop (List.mem_of_mem_take hp)).mono fun _ _ _ _ hf=>hf.elim);have HL2:Hid (((el.drop k).take n).length<=2147483648):=hid (by rw[List.length_take,hll];omega);obtain⟨a1,c1,rfl,_⟩:=hs1.shape;rw[aO,hll]at hcut1 hcut2;obtain⟨m,hm⟩:∃m,L.es.length-k=m:=⟨_,rfl⟩;rw[hm]at hcut1 hcut2;obtain⟨a2,n2,c2,rfl⟩:∃a n c,v2=Value.slice a n c:=by obtain⟨a,c,e,_⟩:=hs2.shape;exact⟨a,_,c,e⟩
  have c2':=h.c2;obtain⟨ea,ec,rfl,_⟩:=h.gA;obtain⟨mx,hmx⟩:∃mx:Int,max ix fz=mx:=⟨_,rfl⟩;have hxz':=of_decide_eq_false hxz;have e1:IntKind.u64.wrap (mx-fz)=(k:Int):=by rw[wrap_u64];omega
  obtain⟨my,hmy⟩:∃my:Int,max most 0=my:=⟨_,rfl⟩;have e2:min my (m:Int)=(n:Int):=by omega
  have i1:(if ix<fz then fz else ix)=mx:=by rw[<- hmx];omega
  have i2:(if most<0 then 0 else most)=my:=by rw[<- hmy];omega
  have E1:=hid e1;have E2:=hid e2;have I1:=hid i1;have I2:=hid i2;have HMX:=hid hmx;have HMY:=hid hmy;have CUT1:=hid hcut1;have CUT2:=hid hcut2;clear hxz' e1 e2 i1 i2 hmx hmy hcut1 hcut2;clear h hla hl hn hi hmo hlz hix hfz hx hk hkl hnn hll hlen hs1 ho1 hr1 hs2 ho2 hr2 hm;go_enter Tryz.func18,Tryz.ntmps18;go_wp2_with fail;refine(mD HH.out).mono ?_;rintro e w1 ⟨rfl,rfl⟩;go_wp2_with fail;refine(nG HH.out HB.out).mono ?_;rintro e w2 ⟨rfl,hb2⟩;rw[HLZ.out];have B2:=hid hb2;have L2:=hid (HH.out.below hb2);have c22:=L2.out.c2;clear hb2;go_wp2_with fail;refine(aEs L2.out HB1.out).mono ?_;rintro e w3 ⟨rfl,rfl⟩;rw[HFZ.out];go_wp2_with fail;refine(aEs L2.out HB1.out).mono ?_;rintro e w3 ⟨rfl,rfl⟩;rw[HFZ.out,HMX.out];have e1:=E1.out;have e2:=E2.out;have hmy:=HMY.out;have hcut1:=CUT1.out;have hcut2:=CUT2.out;go_wp2_with fail;refine(tD _ _ w2 (HS2.out.below B2.out) (HD2.out.kept (Kept.aL B2.out (S:=fun _=>False) fun k h1 h2=>by omega) fun _ h=>h) HL2.out).mono ?_;rintro e w4 ⟨v4,rfl,l4,ho4,hm4,hd4,hn4,hb4⟩;obtain⟨a4,n4,c4,rfl⟩:=eT ho4;go_wp2_with fail;go_ret;exact⟨_,l4,rfl,ho4,by rw[HF.out];exact hm4,hd4.mono fun p hp b _ h=>Nat.lt_of_lt_of_le h B2.out.size,fun b hb=>Nat.le_trans B2.out.size (hn4 b hb),B2.out.trans (hb4.mono B2.out.size)⟩

theorem EC.box (w:World):EC (w.alloc (.cells #[.int .u64 0,.int .i64 0,.slice none 0 0] 38)) w.heap.size 0 0 (.slice none 0 0):=⟨by go_cell,by go_cell,by go_cell,by simp,by simp,by simp⟩
theorem aIb {lb db mb tb:Nat}{ev fv:Value}{el:bN}{D:aA}{L:aQ}{w:World}(h:bF w lb db mb tb ev fv el D L)(hl:L.last<=HX)(index:Nat)(hc:index<=L.b\/L.last<index) :
  Calls Tryz.prog 13 #[.pointer (some ⟨lb,0,none⟩),.int .u64 index] w fun e w'=>e = .returned (.tuple #[.agg #[.int .u64 0,.int .i64 0,.slice none 0 0],.bool false])/\Below w.heap.size w w':=by
 have HB:=hid (show (L.last:Int)<18446744073709551616 by unfold HX at hl;omega);have HH:=hid h;obtain⟨ix,hix⟩:∃ix:Int,(index:Int)=ix:=⟨_,rfl⟩;obtain⟨bz,hbz⟩:∃bz:Int,(L.b:Int)=bz:=⟨_,rfl⟩;obtain⟨lz,hlz⟩:∃lz:Int,(L.last:Int)=lz:=⟨_,rfl⟩;have HLZ:=hid hlz;have HBZ:=hid hbz;rw[hix];have hlast:L.last=L.b+L.es.length:=rfl;clear h hl;by_cases ha:index<=L.b
 ·have haz:decide (ix<=bz)=true:=decide_eq_true (by omega);clear hc ha hix hbz hlz hlast;go_enter Tryz.func13,Tryz.ntmps13;go_wp2_with fail;generalize hW1:World.alloc w _=W1;have B1:Hid (Below w.heap.size w W1):=hid (by subst hW1;exact(Below.refl _ _).alloc (Nat.le_refl _) _);have X1:Hid (EC W1 w.heap.size 0 0 (.slice none 0 0)):=hid (by subst hW1;exact EC.box w);have H1:=hid (HH.out.below B1.out);have c1:=H1.out.c1;rw[HBZ.out]at c1;clear hW1;refine(mD H1.out).mono ?_;rintro e w2 ⟨rfl,rfl⟩;obtain⟨x0,x1,x2,f0,f1,f2⟩:=X1.out;go_wp2_with fail;have E3:=X1.out.pF;have K3:=EC.oH W1 w.heap.size (.int .u64 0) (.int .i64 0) (.slice none 0 0);obtain⟨r0,r1,r2,_,_,_⟩:=E3;refine bodyPost_ret (v:=.tuple #[.agg #[.int .u64 0,.int .i64 0,.slice none 0 0],.bool false]) (by simp[results,Tryz.results13,go_sem,r0,r1,r2]) rfl ?_;exact⟨rfl,B1.out.trans (K3.below B1.out.size fun k e=>by omega)⟩
 ·have haz:decide (ix<=bz)=false:=decide_eq_false (by omega);have hbx:decide (lz<ix)=true:=decide_eq_true (by omega);clear hc ha hix hbz hlz hlast;go_enter Tryz.func13,Tryz.ntmps13;go_wp2_with fail;generalize hW1:World.alloc w _=W1;have B1:Hid (Below w.heap.size w W1):=hid (by subst hW1;exact(Below.refl _ _).alloc (Nat.le_refl _) _);have X1:Hid (EC W1 w.heap.size 0 0 (.slice none 0 0)):=hid (by subst hW1;exact EC.box w);have H1:=hid (HH.out.below B1.out);have c1:=H1.out.c1;rw[HBZ.out]at c1;clear hW1;refine(mD H1.out).mono ?_;rintro e w2 ⟨rfl,rfl⟩;go_wp2_with fail;refine(nG H1.out HB.out).mono ?_;rintro e w2 ⟨rfl,hb2⟩;rw[HLZ.out];have B2:Hid (Below w.heap.size w w2):=hid (B1.out.trans (hb2.mono B1.out.size));have X2:=hid (X1.out.below hb2);obtain⟨x0,x1,x2,f0,f1,f2⟩:=X2.out;clear hb2 c1;go_wp2_with fail;have E3:=X2.out.pF;have K3:=EC.oH w2 w.heap.size (.int .u64 0) (.int .i64 0) (.slice none 0 0);obtain⟨r0,r1,r2,_,_,_⟩:=E3;refine bodyPost_ret (v:=.tuple #[.agg #[.int .u64 0,.int .i64 0,.slice none 0 0],.bool false]) (by simp[results,Tryz.results13,go_sem,r0,r1,r2]) rfl ?_;exact⟨rfl,B2.out.trans (K3.below B2.out.size fun k e=>by omega)⟩
theorem aIV {l:bN}{x:cU}{xv:Value}(h:l.map (·.1) = [(x,xv)].map (·.1)):∃yv,l = [(x,yv)]:=by
 match l,h with
 | [(y,yv)],h =>
  simp only[List.map_cons,List.map_nil,List.cons.injEq,and_true]at h;subst h;exact⟨yv,rfl⟩
theorem aJn {lb db mb tb:Nat}{ev fv:Value}{el:bN}{D:aA}{L:aQ}{w:World}(h:bF w lb db mb tb ev fv el D L)(hl:L.last<=HX)(hn:L.es.length<=2147483648)(index:Nat)(hb:L.b<index){x:cU}(hx:L.es[index-L.b-1]? = some x) :
  Calls Tryz.prog 13 #[.pointer (some ⟨lb,0,none⟩),.int .u64 index] w fun e w'=>∃dv,e = .returned (.tuple #[.agg #[.int .u64 x.t,.int .i64 x.k,dv],.bool true])/\Bytes w' dv x.d/\(∀b,dv.ownBlock=some b->w.heap.size<=b)/\Below w.heap.size w w':=by
 have HB:=hid (show (L.last:Int)<18446744073709551616 by unfold HX at hl;omega);obtain⟨k,hk⟩:∃k,index-L.b-1=k:=⟨_,rfl⟩;rw[hk]at hx;have hkl:=(List.getElem?_eq_some_iff.1 hx).1;have hke:k<el.length:=by rw[h.zO];exact hkl
 obtain⟨p,hp⟩:∃p,el[k]=p:=⟨_,rfl⟩;have hpx:p.1=x:=by
  have h1:=hx;rw[<- h.es,List.getElem?_map,List.getElem?_eq_getElem hke,hp]at h1;exact Option.some.inj h1
 obtain⟨px,xv⟩:=p;simp only at hpx;subst hpx;have hlen:k+1<=(aN el).length:=by rw[aO];omega
 obtain⟨v1,hs1,ho1,hcut1⟩:=bJ.aJS (P:=Tryz.prog) (t:=23) Tryz.underlying23 (by kernel_rfl) .u64 .u64 h.er.qG k (k+1) (by omega) hlen;have hr1:((aN el).take (k+1)).drop k=aN [(px,xv)]:=by
  unfold aN;rw[<- List.map_take,<- List.map_drop]
  congr 1
  rw[List.take_succ_eq_append_getElem hke,List.drop_left' (by rw[List.length_take];omega),hp]
 rw[hr1]at hs1;have HS1:=hid hs1;have HD1:Hid (cA w (fun _=>False) [(px,xv)]):=hid ((h.dat.sub fun q hq=>by obtain rfl:=List.mem_singleton.1 hq;rw[<- hp];exact List.getElem_mem hke).mono fun _ _ _ _ hf=>hf.elim);obtain⟨v1a,v1n,v1c,rfl⟩:∃a n c,v1=Value.slice a n c:=by obtain⟨a,c,e,_⟩:=hs1.shape;exact⟨a,_,c,e⟩
 obtain⟨ix,hix⟩:∃ix:Int,(index:Int)=ix:=⟨_,rfl⟩;obtain⟨bz,hbz⟩:∃bz:Int,(L.b:Int)=bz:=⟨_,rfl⟩;obtain⟨lz,hlz⟩:∃lz:Int,(L.last:Int)=lz:=⟨_,rfl⟩;have HLZ:=hid hlz;have HBZ:=hid hbz;have HH:=hid h;have hlast:L.last=L.b+L.es.length:=rfl;rw[hix];have haz:decide (ix<=bz)=false:=decide_eq_false (by omega);have hbx:decide (lz<ix)=false:=decide_eq_false (by omega);obtain⟨k1,hk1⟩:∃k1:Nat,k+1=k1:=⟨_,rfl⟩;rw[hk1]at hcut1;have e0:ix-bz=(k1:Int):=by omega
 have e1:(k1:Int)-1=(k:Int):=by omega
 have hk2:(k1:Int)<=2147483648:=by omega
 have w1:IntKind.u64.wrap (k1:Int)=(k1:Int):=by rw[wrap_u64];omega
 have w2:IntKind.u64.wrap (k:Int)=(k:Int):=by rw[wrap_u64];omega
 have E0:=hid e0;have E1:=hid e1;have W1':=hid w1;have W2':=hid w2;obtain⟨ea,ec,rfl,_⟩:=h.gA;obtain⟨en,hen⟩:∃en,L.es.length=en:=⟨_,rfl⟩;rw[hen]at HH hcut1;have CUT:=hid hcut1;clear h hl hn hb hx hk hkl hke hp hlen hs1 ho1 hr1 hix hbz hlz hlast hk1 e0 e1 hk2 w1 w2 hen hcut1;go_enter Tryz.func13,Tryz.ntmps13;go_wp2_with fail;generalize hW1:World.alloc w _=W1;have B1:Hid (Below w.heap.size w W1):=hid (by subst hW1;exact(Below.refl _ _).alloc (Nat.le_refl _) _);have X1:Hid (EC W1 w.heap.size 0 0 (.slice none 0 0)):=hid (by subst hW1;exact EC.box w);have H1:=hid (HH.out.below B1.out);have c1:=H1.out.c1;rw[HBZ.out]at c1;clear hW1;refine(mD H1.out).mono ?_;rintro e w2 ⟨rfl,rfl⟩;go_wp2_with fail;refine(nG H1.out HB.out).mono ?_;rintro e w3 ⟨rfl,hb3⟩;rw[HLZ.out];have B3:Hid (Below w.heap.size w w3):=hid (B1.out.trans (hb3.mono B1.out.size));have L3:=hid (H1.out.below hb3);have X3:=hid (X1.out.below hb3);have HS3:=hid (HS1.out.below B3.out);have HD3:Hid (cA w3 (fun _=>False) [(px,xv)]):=hid (HD1.out.kept (Kept.aL B3.out (S:=fun _=>False) fun k h1 h2=>by omega) fun _ h=>h);clear hb3 c1;have ST:=aR.from w3;have e0:=E0.out;have e1:=E1.out;have w1:=W1'.out;have w2:=W2'.out;have hcut1:=CUT.out;go_wp2_with fail;refine aU [0,1,3,7,0,0,32,96,224,496,1008,0,0,4096,12288,28672,63488,131071,262143,524287,1048575,2097151,4194303] 0 (fun w'=>Below w3.heap.size w3 w') (by kernel_rfl) ?_;refine aB [0,1,2,3,4,5,6,7,8,9,10,11,12,13,14,15,16,17] (by kernel_rfl) (L:=bm 23 262143) (by kernel_rfl) (f':=5) rfl (fun _ _ _ _ h=>h) (fun w o h=>ST.alloc h o) (.inr (by first|exact Below.refl _ _|exact(Below.refl _ _).drew)) ?_;simp only[sF,sL]
 iterate 18 (first|(refine aW _ (by rfl) (fun w' hs=>by have Y:=L3.out.below hs;have b2:=Y.c2;have b1:=Y.c1;rw[HBZ.out]at b1;go_simp;try with_reducible rfl) rfl ?_;simp only[Act.put,sA])|(refine aC _ (by rfl) (fun w'=>by go_simp;try with_reducible rfl) ?_;simp only[Act.put,sA]))
 refine aI ?_;refine aM 18 (by kernel_rfl) (L:=bm 23 524287) (by kernel_rfl) ?_;simp only[sL];go_wp2_with fail;refine(tD _ [(px,xv)] w3.drew (HS3.out.below ((Below.refl w3.heap.size w3).drew)) (HD3.out.kept (Kept.aL ((Below.refl w3.heap.size w3).drew) (S:=fun _=>False) fun k h1 h2=>by omega) fun _ h=>h) (by simp)).mono ?_;rintro e w4 ⟨v4,rfl,l4,ho4,hm4,hd4,hn4,hb4⟩;obtain⟨yv,rfl⟩:=aIV hm4;have B4:Hid (Below w3.heap.size w3 w4):=hid (((Below.refl w3.heap.size w3).drew).trans hb4);obtain⟨g4,c4,he4,hc4,hg4⟩:=cM.some ho4 (by simp[aN]);rw[show (aN [(px,yv)]).length=1 from rfl]at he4 hc4;subst he4;have hq:∀j u,(eP (px,yv))[j]? = some u->w4.cell? ⟨g4,j,none⟩=some u:=(fun j u hu=>by have h:=ho4.flat j u (by simpa [aN] using hu);rwa [Addr.add_lit,Nat.zero_add]at h);have q0:=hq 0 _ rfl;have q1:=hq 1 _ rfl;have q2:=hq 2 _ rfl;have HB4:Hid (Bytes w4 yv px.d):=hid (hd4 _ (List.mem_singleton_self _)).1;have HN4:Hid (∀b,yv.ownBlock=some b->w3.heap.size<=b):=hid (fun b hb=>Nat.not_lt.1 ((hd4 _ (List.mem_singleton_self _)).2.2 b hb));obtain⟨ya,yc,rfl,_⟩:=HB4.out.shape;have X4:=hid (X3.out.below B4.out);obtain⟨x0,x1,x2,f0,f1,f2⟩:=X4.out;clear ho4 hm4 hd4 hn4 hb4 hq e0 e1 w1 w2 hcut1 haz hbx;go_wp2_with fail;refine aH nofun ?_;refine aM 19 (by kernel_rfl) (L:=bm 23 1048575) (by kernel_rfl) ?_;simp only[sL];go_wp2_with fail;refine aH nofun ?_;refine aM 20 (by kernel_rfl) (L:=bm 23 2097151) (by kernel_rfl) ?_;simp only[sL];go_wp2_with fail;refine aH nofun ?_;refine aM 21 (by kernel_rfl) (L:=bm 23 4194303) (by kernel_rfl) ?_;simp only[sL];go_wp2_with fail;refine aH nofun ?_;refine aB [22] (by kernel_rfl) (L:=bm 23 8388607) (by kernel_rfl) (f':=0) rfl (fun _ _ _ _ h=>h) (fun w o h=>ST.alloc h o) (.inl (by kernel_rfl)) ?_;simp only[sF,sL]
 iterate 1 (refine aC _ (by rfl) (fun w'=>by go_simp;try with_reducible rfl) ?_;simp only[Act.put,sA])
 refine aI ?_;refine bC (by kernel_rfl) ?_;go_wp2_with fail;have hlt:w.heap.size<w3.heap.size:=X3.out.lt;have E3:=(X4.out.set px.t px.k).put (.slice ya px.d.length yc);have K3:=EC.oH w4 w.heap.size (.int .u64 px.t) (.int .i64 px.k) (.slice ya px.d.length yc);obtain⟨r0,r1,r2,_,_,_⟩:=E3;refine bodyPost_ret (v:=.tuple #[.agg #[.int .u64 px.t,.int .i64 px.k,.slice ya px.d.length yc],.bool true]) (by simp[results,Tryz.results13,go_sem,r0,r1,r2]) rfl ?_;have hB:=HB4.out.kept K3 (fun b hb e=>by have:=HN4.out b hb;omega);have b4:=B3.out.trans (B4.out.mono B3.out.size);have bK:=b4.trans (K3.below b4.size fun k e=>by omega);have hN:∀b,(Value.slice ya px.d.length yc).ownBlock=some b->w.heap.size<=b:=fun b hb=>by have:=HN4.out b hb;omega
 first
  | exact⟨_,rfl,hB,hN,bK⟩
  | exact⟨_,rfl,hB.drew,hN,bK.drew⟩
end Go.Proofs.YtjdglpcnkiioeaaGreat
namespace Go.Proofs.YtjdglpcnkiioeaaGreat
open Go.RowKit Go.Maps Go.Proofs.Own Go.Shelf

structure rJ (D:aA)(L:aQ):Prop where
 inv:∃P,fN D L P
 up:D.down=false
 ris:bQ D.files
 fX:aY D
end Go.Proofs.YtjdglpcnkiioeaaGreat
namespace Go.Proofs.YtjdglpcnkiioeaaGreat
open Go.Lib (hid)
open Go.RowKit Go.Maps Go.Proofs.Own Go.Shelf

theorem aFp {D:aA}{L:aQ}{p q:Pc}{s:List Pc}(h:fN D L (p::q::s))(hd:D.down=false)(hr:bQ D.files) :
  ((removeD D (aK p.f)).2=50/\(removeD D (aK p.f)).1.down=true) \/
  ((removeD D (aK p.f)).2=0/\(removeD D (aK p.f)).1.down=false/\bQ (removeD D (aK p.f)).1.files/\fN (removeD D (aK p.f)).1 ⟨L.b+p.es.length,L.es.drop p.es.length,(q::s).map Pc.wf,L.safe-p.es.length⟩ (q::s)/\p.es.length<=L.safe/\p.es.length<=L.es.length):=by
 have hf:=xI (A:=[]) hr h.fil (h.aCg (List.mem_cons_self ..));have hel:L.es=p.es++fL (q::s):=h.es;rcases aBw hd hf with ⟨k1,k2,k3⟩|⟨k1,k2,k3⟩
 ·exact .inl ⟨k1,k2⟩
 ·have hes:L.es.drop p.es.length=fL (q::s):=by
   rw[hel];exact List.drop_left' rfl
  have hlen:L.es.length=p.es.length+(fL (q::s)).length:=by rw[hel,List.length_append]
  have hqf:q.f=L.b+1+p.es.length:=h.ch.2.1;have hq59:=h.lo.2 q (List.mem_cons_of_mem _ (List.mem_cons_self ..));have hsafe:p.es.length<=L.safe:=by
   obtain⟨A,z,e⟩:=oA (P:=q::s) (by simp);have:=(h.kept (p::A) z (by rw[e];rfl)).1;rw[kK,List.length_append]at this;omega
  refine .inr ⟨k1,k2,?_,⟨?_,rfl,hes,?_,?_,?_,?_,?_,?_,(by show L.b+p.es.length<H59;omega),fun x hx=>h.lo.2 x (List.mem_cons_of_mem _ hx)⟩,hsafe,by omega⟩
  ·rw[k3];exact hr.del _
  ·show (removeD D (aK p.f)).1.files.filter isW=_;rw[k3];exact aIM (A:=[]) hr h.fil
  ·have:=h.ch.2;rw[show L.b+1+p.es.length=L.b+p.es.length+1 by omega]at this;exact this
  ·intro e he;exact h.ok e (List.mem_of_mem_drop he)
  ·show L.b+p.es.length+(L.es.drop p.es.length).length<=H59;have:=h.hi;rw[hes];omega
  ·intro x hx;refine h.full x ?_;show x ∈ p::(q::s).dropLast;exact List.mem_cons_of_mem _ hx
  ·show L.safe-p.es.length<=(L.es.drop p.es.length).length;have:=h.safe;rw[hes];omega
  ·intro B y e;have hB:p::q::s=(p::B) ++ [y]:=by rw[List.cons_append,<- e]
   obtain⟨s1,s2⟩:=h.kept (p::B) y hB;rw[kK,List.length_append]at s1 s2;show (fL B).length<=L.safe-p.es.length/\_;refine⟨by omega,?_⟩;rcases s2 with ⟨p0,p1,p2⟩|⟨j,j1,j2,j3⟩
   ·exact .inl ⟨p0,by show L.safe-p.es.length=_;omega,p2⟩
   ·exact .inr ⟨j,j1,by show L.safe-p.es.length<=_;omega,j3⟩
def aAg (L:aQ)(f:WF)(r:List WF):aQ:=⟨L.b+f.m,L.es.drop f.m,r,L.safe-f.m⟩
theorem rJ.dropped {D:aA}{L:aQ}(h:rJ D L){f g:WF}{r:List WF}(hf:L.fs=f::g::r)(hs:D.steps+1<=1000000000)(he:(removeD D (aK f.f)).2=0) :
  rJ (removeD D (aK f.f)).1 (aAg L f (g::r))/\(removeD D (aK f.f)).1.steps<=D.steps+1/\f.m<=L.safe/\f.m<=L.es.length:=by
 obtain⟨⟨P,hi⟩,hd,hr,hg⟩:=h;have hfs:=hi.fs;rw[hf]at hfs
 match P,hfs with
 | p::q::s,hfs =>
  simp only[List.map_cons,List.cons.injEq]at hfs;obtain⟨rfl,rfl,rfl⟩:=hfs;have hg2:=hg.remove (aK p.f) hs;rcases aFp hi hd hr with ⟨h1,_⟩|⟨_,h2,h3,h4,h5,h6⟩
  ·have he':(removeD D (aK p.f)).2=0:=he;rw[h1]at he';cases he'
  ·exact⟨⟨⟨q::s,h4⟩,h2,h3,hg2.1⟩,hg2.2,h5,h6⟩
theorem aB4 {upto:Nat}{D:aA}{L:aQ}{f g:WF}{r:List WF}(hf:L.fs=f::g::r)(hc:g.f<=upto+1)(he:(removeD D (aK f.f)).2=0):dropF upto L.fs.length D L=dropF upto (aAg L f (g::r)).fs.length (removeD D (aK f.f)).1 (aAg L f (g::r)):=by
 have hl:L.fs.length=(g::r).length+1:=by rw[hf];rfl
 rw[hl];show (match L.fs with|f::g::r=>_|_=>_)=_;rw[hf];simp only;rw[if_pos hc,if_neg (fun h=>h he)];rfl
theorem aDw {upto:Nat}{D:aA}{L:aQ}{f g:WF}{r:List WF}(hf:L.fs=f::g::r)(hc:g.f<=upto+1)(he:(removeD D (aK f.f)).2≠0):dropF upto L.fs.length D L=((removeD D (aK f.f)).1,L,(removeD D (aK f.f)).2):=by
 have hl:L.fs.length=(g::r).length+1:=by rw[hf];rfl
 rw[hl];show (match L.fs with|f::g::r=>_|_=>_)=_;rw[hf];simp only;rw[if_pos hc,if_pos he]
theorem aDv {upto:Nat}{D:aA}{L:aQ}{f g:WF}{r:List WF}(hf:L.fs=f::g::r)(hc:¬g.f<=upto+1)(n:Nat):dropF upto n D L=(D,L,0):=by
 cases n with
 | zero=>rfl
 | succ n =>
  show (match L.fs with|f::g::r=>_|_=>_)=_;rw[hf];simp only;rw[if_neg hc]
theorem dropF_few {upto:Nat}{D:aA}{L:aQ}(hf:L.fs.length<=1)(n:Nat):dropF upto n D L=(D,L,0):=by
 cases n with
 | zero=>rfl
 | succ n =>
  show (match L.fs with|f::g::r=>_|_=>_)=_;split
  ·rename_i h;rw[h]at hf;simp at hf
  ·rfl
structure FB (W:World)(b:Nat)(f:WF):Prop where
 c0:W.cell? ⟨b,0,none⟩=some (.int .u64 f.f)
 c1:W.cell? ⟨b,1,none⟩=some (.int .i64 f.m)
 c2:W.cell? ⟨b,2,none⟩=some (.int .i64 f.s)
theorem FB.kept {W W':World}{b:Nat}{f:WF}{S:Nat->Prop}(h:FB W b f)(hk:Kept W W' S)(hs:¬S b):FB W' b f:=⟨hk.cell h.c0 hs,hk.cell h.c1 hs,hk.cell h.c2 hs⟩
theorem FB.below {W W':World}{b:Nat}{f:WF}(h:FB W b f)(hb:Below W.heap.size W W'):FB W' b f:=h.kept (Kept.aL hb (S:=fun _=>False) fun k h1 h2=>by omega) id
structure FB4 (W:World)(b:Nat)(f:WF)(lb s:Nat):Prop where
 fb:FB W b f
 c4:W.cell? ⟨lb,4,none⟩=some (.int .i64 s)
theorem FB4.below {W W':World}{b:Nat}{f:WF}{lb s:Nat}(h:FB4 W b f lb s)(hb:Below W.heap.size W W'):FB4 W' b f lb s:=⟨h.fb.below hb,Below.at hb h.c4 (World.block_lt_of_cell? _ _ h.c4)⟩
theorem FB4.pE {W:World}{b:Nat}{f:WF}{lb s:Nat}(h:FB4 W b f lb s)(v:Value)(hb:b≠lb):FB4 (W.setCell ⟨lb,1,none⟩ v) b f lb s:=⟨h.fb.kept (Kept.setCell W ⟨lb,1,none⟩ v) hb,by rw[cso (by simp)];exact h.c4⟩

theorem aJI {lb db mb tb:Nat}{ev fv:Value}{el:bN}{D:aA}{L:aQ}{w:World}(h:bF w lb db mb tb ev fv el D L)(hi:rJ D L)(hst:D.steps+200<=1000000000)(upto:Nat)(hup:(upto:Int)<18446744073709551616) :
  Calls Tryz.prog 62 #[.pointer (some ⟨lb,0,none⟩),.int .u64 upto] w (gM lb db mb tb ev fv (mS D L upto) w):=by
 have HH:=hid h;have HI:=hid hi;obtain⟨P0,hinv⟩:=hi.inv;have hl:L.last<=H59:=hinv.hi;have hfew:=hinv.few hi.fX;have HST:Hid (D.steps+L.fs.length+10<=1000000000):=hid (by omega);have HFW:Hid (L.fs.length<=128):=hid hfew;have HB:=hid (show (L.last:Int)<18446744073709551616 by unfold H59 at hl;omega);obtain⟨lz,hlz⟩:∃lz:Int,(L.last:Int)=lz:=⟨_,rfl⟩;have HLZ:=hid hlz;obtain⟨up,hupz⟩:∃up:Int,(upto:Int)=up:=⟨_,rfl⟩;have HUP:=hid hupz;have hl1:lz<=576460752303423488:=by unfold H59 at hl;omega
 rw[hupz];by_cases ha:L.last<upto
 ·have haz:decide (lz<up)=true:=decide_eq_true (by omega);have HR:Hid (mS D L upto=(D,L,2)):=hid (by unfold mS;rw[if_pos ha]);clear h hi hinv hl hfew hst hup hlz hupz ha hl1;go_enter Tryz.func62,Tryz.ntmps62;go_wp2_with fail;refine(mD HH.out).mono ?_;rintro e w1 ⟨rfl,rfl⟩;go_wp2_with fail;refine(nG HH.out HB.out).mono ?_;rintro e w2 ⟨rfl,hb2⟩;rw[HLZ.out];have L2:=hid (HH.out.below hb2);have B2:Hid (aX lb db mb tb w ev fv w2 ev fv):=hid (aX.below hb2);clear hb2;go_wp2_with fail;go_ret;rw[HR.out];exact⟨rfl,_,_,_,L2.out,B2.out⟩
 ·have haz:decide (lz<up)=false:=decide_eq_false (by omega);have HU:Hid (0<=up/\up<=576460752303423488):=hid ⟨by omega,by omega⟩;have hu1:=HU.out;have wz:IntKind.u64.wrap (up+1)=up+1:=by rw[wrap_u64];omega
  have HR:Hid (mS D L upto=dropF upto L.fs.length D L):=hid (by unfold mS;rw[if_neg ha]);clear hu1 h hi hinv hl hfew hst hup hlz hupz ha hl1;go_enter Tryz.func62,Tryz.ntmps62;go_wp2_with fail;refine(mD HH.out).mono ?_;rintro e w1 ⟨rfl,rfl⟩;go_wp2_with fail;refine(nG HH.out HB.out).mono ?_;rintro e w2 ⟨rfl,hb2⟩;rw[HLZ.out];have L2:=hid (HH.out.below hb2);have S2:Hid (aX lb db mb tb w ev fv w2 ev fv):=hid (aX.below hb2);clear hb2;go_wp2_with fail
  go_loopw [] (fun wr=>∃D' L' ev' fv' el',bF wr lb db mb tb ev' fv' el' D' L'/\aX lb db mb tb w ev fv wr ev' fv'/\dropF upto L'.fs.length D' L'=dropF upto L.fs.length D L/\rJ D' L'/\D'.steps+L'.fs.length+10<=1000000000/\L'.fs.length<=128) (fun wr=>rV lb wr)
  case atStart=>exact⟨D,L,ev,fv,el,L2.out,S2.out,rfl,HI.out,HST.out,HFW.out⟩
  case round =>
   obtain⟨D',L',ev',fv',el',hl,hst,hr,hi,hs,hf⟩:=hrel;have HL:=hid hl;have HS:=hid hst;have HRF:=hid hr;have HI':=hid hi;have HS':=hid hs;have HF':=hid hf;have HOK:=hid ((hi.inv.choose_spec.lok hi.fX).1);have c3:=hl.c3;obtain⟨fa,fc,rfl,hfc⟩:=hl.rF;obtain⟨n,hn⟩:∃n,L'.fs.length=n:=⟨_,rfl⟩;have HN:=hid hn;rw[hn]at c3 HL HS hfc;clear hl hst hr hi hs hf;by_cases h1:n<=1
   ·have hn1:decide ((1:Int)<(n:Int))=false:=decide_eq_false (by omega);have HE:Hid (dropF upto L.fs.length D L=(D',L',0)):=hid (by rw[<- HRF.out,dropF_few (by omega)]);clear h1 hfc hn;go_wp2_with fail;go_ret;rw[HR.out,HE.out];exact⟨rfl,_,_,_,HL.out,HS.out.1,HS.out.2.1,HS.out.2.2⟩
   ·have hn1:decide ((1:Int)<(n:Int))=true:=decide_eq_true (by omega);have hn1':(1:Int)<(n:Int):=by omega
    have hn0':(0:Int)<(n:Int):=by omega
    obtain⟨f,g1,r,hfs⟩:∃f g1 r,L'.fs=f::g1::r:=by
     match e:L'.fs with
     | []=>rw[e]at hn;simp at hn;omega
     | [x]=>rw[e]at hn;simp at hn;omega
     | x::y::r=>exact⟨x,y,r,rfl⟩
    obtain⟨g,c',e1,hc',hg'⟩:=cM.some HL.out.fr (by rw[hfs];simp);have e3:=(Value.slice.inj e1).1;have e4:=(Value.slice.inj e1).2.2;clear e1 hc' hg';subst e3 e4;have HFS:=hid hfs;obtain⟨x0,x1,x2⟩:=HL.out.aGN (k:=0) (by omega);have q0:=(HL.out.aGN (k:=1) (by omega)).1;simp only[hfs,List.getElem_cons_zero,List.getElem_cons_succ,Nat.zero_mul,Nat.zero_add,Nat.one_mul]at x0 x1 x2 q0;obtain⟨gf,hgf⟩:∃gf:Int,(g1.f:Int)=gf:=⟨_,rfl⟩;rw[hgf]at q0;by_cases hc:g1.f<=upto+1
    ·have hcz:decide (gf<=up+1)=true:=decide_eq_true (by have:=HUP.out;omega);have HC:=hid hc;have HNM:=hid ((HOK.out).nm f (by rw[hfs];exact List.mem_cons_self ..));have HNS:Hid ((aK f.f).size<=maxLen):=hid (Nat.le_trans (fG f.f) (by decide));have HFM:Hid (f.m<=L'.es.length):=hid ((HOK.out).m (by rw[hfs];exact List.mem_cons_self ..));have HB59:Hid ((L'.b:Int)<=1152921504606846976/\(L'.es.length:Int)<=2147483648):=hid ⟨by have:=(HOK.out).b;omega,by have:=(HOK.out).few;omega⟩;obtain⟨ea,ec,rfl,_⟩:=HL.out.gA;obtain⟨en,hen⟩:∃en,L'.es.length=en:=⟨_,rfl⟩;have HEN:=hid hen;rw[hen]at HL HS;have hgc:=HL.out.lt;clear h1 hn hfc hfs hgf hc hen;go_wp2_with fail;generalize hwa:World.alloc wr _=wa;have BA:Below wr.heap.size wr wa:=by subst hwa;exact(Below.refl _ _).alloc (Nat.le_refl _) _
     have FA:Hid (FB wa wr.heap.size f):=hid (by subst hwa;exact⟨by go_cell,by go_cell,by go_cell⟩);have LA:=hid (HL.out.below BA);have SA:=hid (HS.out.trans (aX.below BA));have HNB:Hid (¬aZ db mb tb wr.heap.size):=hid (fun h=>by have:=HL.out.dZ.lt3 _ h;omega);have HFB:Hid (wr.heap.size≠lb):=hid (by omega);clear BA hwa q0 x0 x1 x2 c3 hgc;generalize wr.heap.size=fb at *
     have STa:=aR.from wa;go_wp2_with fail;refine aU [0,1,3,7,0,16,63,127] 32 (fun w'=>Below wa.heap.size wa w') (by kernel_rfl) ?_;refine aB [0,1,2,3,4] (by kernel_rfl) (L:=Go.Proofs.Own.bm 8 31) (by kernel_rfl) (f':=3) rfl (fun _ _ _ _ h=>h) (fun w o h=>STa.alloc h o) (.inr (by first|exact Below.refl _ _|exact(Below.refl _ _).drew)) ?_;simp only[sF,sL]
     iterate 5 (first|(refine aW _ (by rfl) (fun w' hs=>by have Y:=LA.out.below hs;have b0:=Y.c0;obtain⟨y0,y1,y2⟩:=FA.out.below hs;go_simp;try with_reducible rfl) rfl ?_;simp only[Act.put,sA])|(refine aC _ (by rfl) (fun w'=>by go_simp;try with_reducible rfl) ?_;simp only[Act.put,sA]))
     refine aI ?_;refine aM 5 (by kernel_rfl) (L:=Go.Proofs.Own.bm 8 63) (by kernel_rfl) ?_;simp only[sL];go_wp2_with fail;refine(qS f.f f.m f.s _ HNM.out.1 HNM.out.2).mono ?_;rintro e u5 ⟨rfl,hb5⟩;have I5:Hid (Below wa.heap.size wa u5):=hid (by first|exact hb5|exact((Below.refl _ _).drew).trans hb5);clear hb5;go_wp2_with fail;refine aH (fun _=>I5.out) ?_;refine aM 6 (by kernel_rfl) (L:=Go.Proofs.Own.bm 8 127) (by kernel_rfl) ?_;simp only[sL];go_wp2_with fail;have L5:=hid (LA.out.below I5.out);refine(jK db mb tb D' (aK f.f) u5 L5.out.dZ HI'.out.fX.wf HNS.out).mono ?_;rintro e w6 ⟨rfl,hd6,hk6⟩;have L6:Hid (bF w6 lb db mb tb (.slice ea en ec) (.slice (some ⟨g,0,none⟩) n fc) el' (removeD D' (aK f.f)).1 L'):=hid (L5.out.oQ hd6 hk6);have S6:Hid (aX lb db mb tb w ev fv w6 (.slice ea en ec) (.slice (some ⟨g,0,none⟩) n fc)):=hid (SA.out.trans ((aX.below I5.out).trans (aX.dZ hk6)));have F6:=hid ((FA.out.below I5.out).kept hk6 HNB.out);clear hd6 hk6;obtain⟨k,hk⟩:∃k,(removeD D' (aK f.f)).2=k:=⟨_,rfl⟩;have HK:=hid hk;rw[hk];clear hk;go_wp2_with fail;refine aH nofun ?_;refine aB [7] (by kernel_rfl) (L:=Go.Proofs.Own.bm 8 255) (by kernel_rfl) (f':=0) rfl (fun _ _ _ _ h=>h) (fun w o h=>STa.alloc h o) (.inl (by kernel_rfl)) ?_;simp only[sF,sL]
     iterate 1 (refine aC _ (by rfl) (fun w'=>by go_simp;try with_reducible rfl) ?_;simp only[Act.put,sA])
     refine aI ?_;refine bC (by kernel_rfl) ?_

     by_cases hk0:k=0
     ·have hkb:((k:Int) != 0)=false:=by rw[hk0];rfl
      have HK0:Hid ((removeD D' (aK f.f)).2=0):=hid (HK.out.trans hk0);have HD:=hid (HI'.out.dropped HFS.out (by have:=HS'.out;omega) HK0.out);clear hk0;have hm1:f.m<=(aN el').length:=by rw[aO,L6.out.zO,];exact HFM.out
      obtain⟨v7',hs7,ho7,hcut7⟩:=bJ.aFi (P:=Tryz.prog) (t:=32) Tryz.underlying32 (by kernel_rfl) L6.out.fr.qG 1 (by rw[List.length_map,HFS.out];simp);have hr7:(L'.fs.map cY).drop 1=(g1::r).map cY:=by rw[HFS.out];rfl
      rw[hr7]at hs7;have H7:=hid hs7;obtain⟨v8',hs8,ho8,hcut8⟩:=bJ.aJy (P:=Tryz.prog) (t:=23) Tryz.underlying23 (by kernel_rfl) .i64 L6.out.er.qG f.m hm1;have hr8:(aN el').drop f.m=aN (el'.drop f.m):=by unfold aN;rw[List.map_drop]
      rw[hr8]at hs8;have H8:=hid hs8;have HD8:Hid (cA w6 (fun _=>False) (el'.drop f.m)):=hid ((L6.out.dat.sub fun p hp=>List.mem_of_mem_drop hp).mono fun _ _ _ _ hf=>hf.elim);have HLN:Hid ((g1::r).length<=2147483648):=hid (by have:=HF'.out;have:=HFS.out;have e:L'.fs.length=(g1::r).length+1:=(by rw[HFS.out];rfl);omega);have HLE:Hid ((el'.drop f.m).length<=2147483648):=hid (by rw[List.length_drop,L6.out.zO];have:=(HOK.out).few;omega);have hcut7':∀w',(Instr.slice 32 (.slice (some ⟨g,0,none⟩) n fc) (some (.int .i64 1)) none none).run Tryz.prog w' = .ok v7' w':=hcut7;obtain⟨p7,n7',c7',rfl⟩:∃a n c,v7'=Value.slice a n c:=by obtain⟨a,c,e,_⟩:=hs7.shape;exact⟨a,_,c,e⟩
      obtain⟨p8,n8',c8',rfl⟩:∃a n c,v8'=Value.slice a n c:=by obtain⟨a,c,e,_⟩:=hs8.shape;exact⟨a,_,c,e⟩
      have ST6:=aR.from w6;clear hs7 ho7 hr7 hs8 ho8 hr8 hm1 hcut7;go_wp2_with fail;refine aU [0,0,0,4,12,28,60,124,0,256,768,1792,0,4096,16128,32764,65533,131069,262141,524287,1048575,2097151] 128 (fun w'=>Below w6.heap.size w6 w') (by kernel_rfl) ?_;refine aB [0,1,2,3,4,5,6,8,9,10,11,12,13,14] (by kernel_rfl) (L:=Go.Proofs.Own.bm 22 32639) (by kernel_rfl) (f':=8) rfl (fun _ _ _ _ h=>h) (fun w o h=>ST6.alloc h o) (.inr (by first|exact Below.refl _ _|exact(Below.refl _ _).drew)) ?_;simp only[sF,sL]
      iterate 14 (first|(refine aW _ (by rfl) (fun w' hs=>by have Y:=L6.out.below hs;have b2:=Y.c2;have b3:=Y.c3;obtain⟨y0,y1,y2⟩:=F6.out.below hs;go_simp;try with_reducible rfl) rfl ?_;simp only[Act.put,sA])|(refine aC _ (by rfl) (fun w'=>by go_simp;try with_reducible rfl) ?_;simp only[Act.put,sA]))
      refine aI ?_;refine aM 7 (by kernel_rfl) (L:=Go.Proofs.Own.bm 22 32767) (by kernel_rfl) ?_;simp only[sL];go_wp2_with fail;refine(wR _ (g1::r) _ (H7.out.below (by first|exact Below.refl _ _|exact(Below.refl _ _).drew)) HLN.out).mono ?_;rintro e w7 ⟨v7,rfl,ho7,hb7,hn7⟩;have I7:Hid (Below w6.heap.size w6 w7):=hid (by first|exact hb7|exact((Below.refl _ _).drew).trans hb7);have O7:=hid ho7;have N7:Hid (∀b,v7.ownBlock=some b->w6.heap.size<=b):=hid hn7;obtain⟨a7,n7,c7,rfl⟩:∃a n c,v7=Value.slice a n c:=(by obtain⟨a,c,e,_⟩:=ho7.shape;exact⟨a,_,c,e⟩);clear ho7 hb7 hn7;go_wp2_with fail;refine aH (fun _=>I7.out) ?_;refine aM 15 (by kernel_rfl) (L:=Go.Proofs.Own.bm 22 65535) (by kernel_rfl) ?_;simp only[sL];go_wp2_with fail;refine(wP _ (el'.drop f.m) w7 (H8.out.below I7.out) (HD8.out.kept (Kept.aL I7.out (S:=fun _=>False) fun k h1 h2=>by omega) fun _ h=>h) HLE.out).mono ?_;rintro e w8 ⟨v8,rfl,ho8,hb8,hn8⟩;have I8:Hid (Below w6.heap.size w6 w8):=hid (I7.out.trans (hb8.mono I7.out.size));have O8:=hid ho8;have O78:=hid (O7.out.below hb8);have N8:Hid (∀b,v8.ownBlock=some b->w7.heap.size<=b):=hid hn8;obtain⟨a8,n8,c8,rfl⟩:∃a n c,v8=Value.slice a n c:=(by obtain⟨a,c,e,_⟩:=ho8.shape;exact⟨a,_,c,e⟩);have HN78:Hid (w7.heap.size<=w8.heap.size):=hid hb8.size;have F8:=hid (F6.out.below I8.out);have L8:=hid (L6.out.below I8.out);clear ho8 hb8 hn8;go_wp2_with fail;refine aH nofun ?_;refine aB [16,17] (by kernel_rfl) (L:=Go.Proofs.Own.bm 22 262143) (by kernel_rfl) (f':=4) rfl (fun _ _ _ _ h=>h) (fun w o h=>ST6.alloc h o) (.inl (by kernel_rfl)) ?_;simp only[sF,sL]
      iterate 2 (refine aC _ (by rfl) (fun w'=>by go_simp;try with_reducible rfl) ?_;simp only[Act.put,sA])
      refine aI ?_;refine aM 18 (by kernel_rfl) (L:=Go.Proofs.Own.bm 22 524287) (by kernel_rfl) ?_;simp only[sL];have x3:=L8.out.c3;have x2:=L8.out.c2;have z3:=L8.out.fz 3 (by decide) (by decide);have z2:=L8.out.fz 2 (by decide) (by decide);go_wp2_with fail;refine aH nofun ?_;refine aB [19,20] (by kernel_rfl) (L:=Go.Proofs.Own.bm 22 2097151) (by kernel_rfl) (f':=1) rfl (fun _ _ _ _ h=>h) (fun w o h=>ST6.alloc h o) (.inl (by kernel_rfl)) ?_;simp only[sF,sL]
      iterate 2 (refine aC _ (by rfl) (fun w'=>by go_simp;try with_reducible rfl) ?_;simp only[Act.put,sA])
      refine aI ?_;refine aM 21 (by kernel_rfl) (L:=Go.Proofs.Own.bm 22 4194303) (by kernel_rfl) ?_;simp only[sL];go_wp2_with fail;refine aH nofun ?_;refine bC (by kernel_rfl) ?_

      have L9a:Hid (bF (w8.setCell ⟨lb,3,none⟩ (.slice a7 n7 c7)) lb db mb tb (.slice ea en ec) (.slice a7 n7 c7) el' (removeD D' (aK f.f)).1 { L' with fs:=g1::r }):=hid (L8.out.pF (fs:=g1::r) O78.out (fun b hb=>by
       have h1:=N7.out b hb;refine⟨fun e=>?_,fun e=>?_,fun e=>?_⟩
       ·have:=L6.out.lt;omega
       ·have:=L6.out.dZ.lt3 _ e;omega
       ·have:=L6.out.er.lt _ e;omega))
      have O9:cM (w8.setCell ⟨lb,3,none⟩ (.slice a7 n7 c7)) 38 3 (.slice a8 n8 c8) (aN (el'.drop f.m)):=O8.out.kept (Kept.setCell w8 ⟨lb,3,none⟩ _) (fun b hb e=>by
       have h1:=N8.out b hb;have h2:b=lb:=e;have:=L6.out.lt;have:=I7.out.size;omega)
      have hes:(el'.drop f.m).map (·.1)=L'.es.drop f.m:=by rw[List.map_drop,L6.out.es]
      obtain⟨w9,hw9⟩:∃w9,(w8.setCell ⟨lb,3,none⟩ (.slice a7 n7 c7)).setCell ⟨lb,2,none⟩ (.slice a8 n8 c8)=w9:=⟨_,rfl⟩;have L9:Hid (bF w9 lb db mb tb (.slice a8 n8 c8) (.slice a7 n7 c7) (el'.drop f.m) (removeD D' (aK f.f)).1 ⟨L'.b,L'.es.drop f.m,g1::r,L'.safe⟩):=hid (by
       have h:=L9a.out.iO (ev':=.slice a8 n8 c8) (el':=el'.drop f.m) O9 (L9a.out.dat.sub fun p hp=>List.mem_of_mem_drop hp) (fun b hb=>by
        have h1:=N8.out b hb;have h0:=I7.out.size;refine⟨fun e=>?_,fun e=>?_,fun e=>?_⟩
        ·have:=L6.out.lt;omega
        ·have:=L6.out.dZ.lt3 _ e;omega
        ·have:=O7.out.lt _ e;omega)
       rw[hes,hw9]at h;exact h)
      have S9:Hid (aX lb db mb tb w ev fv w9 (.slice a8 n8 c8) (.slice a7 n7 c7)):=hid (S6.out.trans ⟨by
       rw[<- hw9];exact((Kept.aL I8.out (S:=fun b=>b=lb) fun k h1 h2=>by omega).trans ((Kept.setCell w8 ⟨lb,3,none⟩ _).trans (Kept.setCell _ ⟨lb,2,none⟩ _))).mono fun k _ e=>.inl e,fun b hb=>.inr (Nat.le_trans I7.out.size (N8.out b hb)),fun b hb=>.inr (N7.out b hb)⟩)
      have F9:Hid (FB w9 fb f):=hid (by
       rw[<- hw9];exact(F8.out.kept (Kept.setCell w8 ⟨lb,3,none⟩ _) HFB.out).kept (Kept.setCell _ ⟨lb,2,none⟩ _) HFB.out)
      rw[hw9];obtain⟨bm,hbm⟩:∃bm:Nat,L'.b+f.m=bm:=⟨_,rfl⟩;obtain⟨sm,hsm⟩:∃sm:Nat,L'.safe-f.m=sm:=⟨_,rfl⟩;have HBM:=hid hbm;have HSM:=hid hsm;have ebm:(L'.b:Int)+(f.m:Int)=(bm:Int):=by omega
      have esm:(L'.safe:Int)-(f.m:Int)=(sm:Int):=by have:=HD.out.2.2.1;omega
      have hsl:L'.safe<=L'.es.length:=(HOK.out).safe;have wm:IntKind.u64.wrap (f.m:Int)=(f.m:Int):=by rw[wrap_u64];have:=HFM.out;have:=HB59.out.2;omega
      have wbm:IntKind.u64.wrap (bm:Int)=(bm:Int):=by rw[wrap_u64];have:=HFM.out;have:=HB59.out;omega
      have wsm:IntKind.i64.wrap (sm:Int)=(sm:Int):=by simp only[IntKind.wrap_i64];have:=HB59.out;omega
      have wsm':wrap64 (sm:Int)=(sm:Int):=by unfold wrap64;have:=HB59.out;omega
      have x1:w9.cell? ⟨lb,1,none⟩=some (.int .u64 (L'.b:Int)):=L9.out.c1;have x4:w9.cell? ⟨lb,4,none⟩=some (.int .i64 (L'.safe:Int)):=L9.out.c4;have F94:Hid (FB4 w9 fb f lb L'.safe):=hid ⟨F9.out,x4⟩;have z1:=L9.out.fz 1 (by decide) (by decide);have z4:=L9.out.fz 4 (by decide) (by decide);clear L9a O9 hes hw9 hbm hsm hsl x2 x3 z2 z3 hcut7' hcut8;go_wp2_with fail;refine aU [0,0,0,4,12,28,0,64,192,508,0,1024,3072,7168,0,16384,64512,16381,147453,409597,1048575,2097151,4194303] 918048 (fun w'=>FB4 w' fb f lb L'.safe) (by kernel_rfl) ?_;refine aB [0,1,2,3,4,6,7,8,10,11,12,13,14,15,16] (by kernel_rfl) (L:=Go.Proofs.Own.bm 23 130527) (by kernel_rfl) (f':=8) rfl (fun _ _ _ _ h=>h) (fun w o h=>h.below ((Below.refl _ _).alloc (Nat.le_refl _) o)) (.inr (by first|exact F94.out|exact F94.out.below ((Below.refl _ _).drew))) ?_;simp only[sF,sL]
      iterate 15 (first|(refine aW _ (by rfl) (fun w' hs=>by obtain⟨⟨y0,y1,y2⟩,y4⟩:=hs;go_simp;try with_reducible rfl) rfl ?_;simp only[Act.put,sA])|(refine aC _ (by rfl) (fun w'=>by go_simp;try with_reducible rfl) ?_;simp only[Act.put,sA]))
      refine aI ?_;refine aM 5 (by kernel_rfl) (L:=Go.Proofs.Own.bm 23 130559) (by kernel_rfl) ?_;simp only[sL];go_wp2_with fail;refine aH (fun _=>(by first|exact F94.out|exact F94.out.below ((Below.refl _ _).drew))) ?_;refine aB [9,17,18] (by kernel_rfl) (L:=Go.Proofs.Own.bm 23 524287) (by kernel_rfl) (f':=4) rfl (fun _ _ _ _ h=>h) (fun w o h=>h.below ((Below.refl _ _).alloc (Nat.le_refl _) o)) (.inr (by first|exact F94.out|exact F94.out.below ((Below.refl _ _).drew))) ?_;simp only[sF,sL]
      iterate 3 (refine aC _ (by rfl) (fun w'=>by go_simp;try with_reducible rfl) ?_;simp only[Act.put,sA])
      refine aI ?_;refine aM 19 (by kernel_rfl) (L:=Go.Proofs.Own.bm 23 1048575) (by kernel_rfl) ?_;simp only[sL];go_wp2_with fail;refine aH (fun _=>(by first|exact F94.out.pE _ HFB.out|exact(F94.out.below ((Below.refl _ _).drew)).pE _ HFB.out)) ?_;refine aB [20,21] (by kernel_rfl) (L:=Go.Proofs.Own.bm 23 4194303) (by kernel_rfl) (f':=1) rfl (fun _ _ _ _ h=>h) (fun w o h=>h.below ((Below.refl _ _).alloc (Nat.le_refl _) o)) (.inl (by kernel_rfl)) ?_;simp only[sF,sL]
      iterate 2 (refine aC _ (by rfl) (fun w'=>by go_simp;try with_reducible rfl) ?_;simp only[Act.put,sA])
      refine aI ?_;refine aM 22 (by kernel_rfl) (L:=Go.Proofs.Own.bm 23 8388607) (by kernel_rfl) ?_;simp only[sL];go_wp2_with fail;refine aH nofun ?_;refine bC (by kernel_rfl) ?_;have L10:=hid ((L9.out.pE bm).eN sm);have S10:Hid (aX lb db mb tb w ev fv ((w9.setCell ⟨lb,1,none⟩ (.int .u64 (bm:Nat))).setCell ⟨lb,4,none⟩ (.int .i64 (sm:Nat))) (.slice a8 n8 c8) (.slice a7 n7 c7)):=hid (S9.out.trans (aX.own ((Kept.setCell w9 ⟨lb,1,none⟩ _).trans (Kept.setCell _ ⟨lb,4,none⟩ _))));have HL10:Hid (aAg L' f (g1::r)=⟨bm,L'.es.drop f.m,g1::r,sm⟩):=hid (by unfold aAg;rw[HBM.out,HSM.out]);have HFE:Hid (L'.fs.length=(g1::r).length+1):=hid (by rw[HFS.out];rfl);generalize hwz:World.drew _=wz;have BZ:Below ((w9.setCell ⟨lb,1,none⟩ (.int .u64 (bm:Nat))).setCell ⟨lb,4,none⟩ (.int .i64 (sm:Nat))).heap.size ((w9.setCell ⟨lb,1,none⟩ (.int .u64 (bm:Nat))).setCell ⟨lb,4,none⟩ (.int .i64 (sm:Nat))) wz:=by rw[<- hwz];exact(Below.refl _ _).drew
      have LZ:=hid (L10.out.below BZ);have SZ:=hid (S10.out.trans (aX.below BZ));clear hwz BZ x1 x4 z1 z4 ebm esm wm wbm wsm wsm';go_wp2_with fail
      go_roundw
      case rel =>
       refine⟨(removeD D' (aK f.f)).1,aAg L' f (g1::r),_,_,_,(by rw[HL10.out];exact LZ.out),SZ.out,?_,HD.out.1,?_,?_⟩
       ·rw[<- HRF.out,aB4 HFS.out HC.out HK0.out]
       ·have:=HD.out.2.1;have:=HS'.out;have:=HFE.out;show _+((g1::r).length:Int)+10<=_;omega
       ·have:=HF'.out;have:=HFE.out;show (g1::r).length<=128;omega
      case measure =>
       rw[HL.out.nfs,LZ.out.nfs,HFE.out];exact Nat.lt_succ_self _
     ·have hkb:((k:Int) != 0)=true:=by simp;omega
      have HK0:Hid ((removeD D' (aK f.f)).2≠0):=hid (by rw[HK.out];exact hk0);clear hk0;go_wp2_with fail;go_ret;have HE:dropF upto L.fs.length D L=((removeD D' (aK f.f)).1,L',(removeD D' (aK f.f)).2):=by rw[<- HRF.out,aDw HFS.out HC.out HK0.out]
      rw[HR.out,HE];exact⟨by rw[HK.out];rfl,_,_,_,L6.out,S6.out.1,S6.out.2.1,S6.out.2.2⟩
    ·have hcz:decide (gf<=up+1)=false:=decide_eq_false (by have:=HUP.out;omega);have HE:Hid (dropF upto L.fs.length D L=(D',L',0)):=hid (by rw[<- HRF.out,aDv hfs hc]);clear h1 hn hfc hfs hgf hc;go_wp2_with fail;go_ret;rw[HR.out,HE.out];exact⟨rfl,_,_,_,HL.out,HS.out.1,HS.out.2.1,HS.out.2.2⟩
