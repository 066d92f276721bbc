/- For vltopens_law_holds. -/
import Derived.Test.YtjdglpcnkiioeaaGreatVob46
set_option maxHeartbeats 16000000
set_option maxRecDepth 100000
namespace Go.Proofs.YtjdglpcnkiioeaaGreat
open Go.Lib (hid)
open Go.RowKit Go.Maps Go.Proofs.Own Go.Shelf

theorem aC8 {w:World}{b:VB}{ev fv mv:Value}{el ml:bN}{D:aA}{V:eB}(h:bG w b ev fv el D V)(hi:rJ D V.L)(hst:D.steps+200<=1000000000)(hm:aA0 w (mE b.lb b.db b.mb b.tb ev fv) mv ml)(hf:Few ml)(hb:V.br=false)(hnf:V.L.fs = [])(hall:∀e ∈ ml.map (·.1),e.ok)(hbig:¬H59<V.L.last+ml.length)(hml:ml ≠ [])(hn0:(bY D V.L (ml.map (·.1))).2.2=0) :
 Calls Tryz.prog 42 #[.pointer (some ⟨b.vb,0,none⟩),mv] w (vM b ev fv (gN D V (ml.map (·.1))) w):=by
 obtain⟨P,hinv⟩:=hi.inv;have hlaw:=wG hinv hi.up hi.ris (ml.map (·.1))
 have hre:=(rZ D V.L (ml.map (·.1))).fX hi.fX (by omega)
 have HH:=hid h;have HB:=hid hb;have HI:=hid hi;have HIN:=hid hinv;have HST:Hid (D.steps+1<=1000000000):=hid (by omega);have HF:=hid hf;have HM:=hid hm;have c2:=h.c2;have HR:Hid (gN D V (ml.map (·.1))=if (bY D V.L (ml.map (·.1))).2.2≠0 then ((bY D V.L (ml.map (·.1))).1,{ V with L:=(bY D V.L (ml.map (·.1))).2.1,br:=decide ((bY D V.L (ml.map (·.1))).2.2=50) },(bY D V.L (ml.map (·.1))).2.2)
  else ((cB (bY D V.L (ml.map (·.1))).1 (bY D V.L (ml.map (·.1))).2.1).1,{ V with L:=(cB (bY D V.L (ml.map (·.1))).1 (bY D V.L (ml.map (·.1))).2.1).2.1,br:=decide ((cB (bY D V.L (ml.map (·.1))).1 (bY D V.L (ml.map (·.1))).2.1).2.2=50) },(cB (bY D V.L (ml.map (·.1))).1 (bY D V.L (ml.map (·.1))).2.1).2.2)):=hid (by unfold gN;rw[if_neg (by rw[hb];decide)])
 obtain⟨ma,mc,rfl,_⟩:=hm.row.shape;obtain⟨r,hr⟩:∃r,bY D V.L (ml.map (·.1))=r:=⟨_,rfl⟩
 obtain⟨hok,hes⟩:=hinv.lok hi.fX;have hl:V.L.last<=H59:=hinv.hi;have hfs:=hinv.few hi.fX;have hmany:=hf.many;have hlen:(linesW (V.L.last+1) (ml.map (·.1))).length<=2000000:=by
  refine Nat.le_trans (aDK _ _ (fun e he=>?_) ?_) ?_
  ·obtain⟨p,hp,rfl⟩:=List.mem_map.1 he;exact hf.each p hp
  ·rw[List.length_map];unfold H59 at hl;omega
  ·rw[List.length_map];omega
 have WA:=hid (aDd h.log hm hl hlen (by omega) hi.fX (by omega) hok (by omega) (by omega) hinv.empty (fun f q=>by rw[hnf]at q;cases q) hall hbig hml);clear hok hes hl hfs hmany hlen hall hbig hml hnf;rw[hr]at HR WA hlaw hre hn0;obtain⟨D1,L1,n⟩:=r;dsimp only at HR hlaw hre;have c2':∀w' ev' fv',aX b.lb b.db b.mb b.tb w ev fv w' ev' fv'->w'.cell? ⟨b.vb,2,none⟩=some (.pointer (some ⟨b.lb,0,none⟩)):=fun _ _ _ hs=>hs.1.cell h.c2 h.nv;have C2:=hid c2';obtain rfl:n=0:=hn0;rw[if_neg (by decide)]at HR;have hup:aA3 (D1,L1,0):=hlaw.resolve_right fun q=>by cases q.2.1
 obtain⟨u1,u2,P1,hinv1⟩:=hup;have HX:=hid hre.1.wf;have HOK:=hid (hinv1.lok hre.1).1;have HFW:Hid (L1.fs.length<=1000000):=hid (by have:=hinv1.few hre.1;dsimp only at this;omega);have HE:=hid hinv1.empty;clear h hi hst hm hf hb hinv hlaw hre hr u1 u2 c2' HI HIN HST HF HM;dsimp only at HOK HE;obtain⟨vb,bb,sb,lb,db,mb,tb,xq⟩:=b;dsimp only at WA C2 c2 ⊢;go_enter Tryz.func42,Tryz.ntmps42;go_wp2_with fail;refine(zB HH.out HB.out).mono ?_;rintro e w1 ⟨rfl,rfl⟩;dsimp only;go_wp2_with fail;refine WA.out.mono ?_;rintro e w1 ⟨rfl,ev1,fv1,el1,hl1,hs1⟩;have LS:=hid hs1;have H1:=hid (HH.out.mG hl1 hs1);have c21:=C2.out _ _ _ hs1;clear hl1 hs1 c2;dsimp only;go_wp2_with fail;refine(aJJ H1.out.log HX.out HOK.out HFW.out HE.out).mono ?_;rintro e w2 ⟨rfl,ev2,fv2,el2,hl2,hs2⟩;have H2:=hid (H1.out.mG hl2 hs2);have VS:=hid ((dN.mH (b:=⟨vb,bb,sb,lb,db,mb,tb,xq⟩) LS.out).trans (dN.mH (b:=⟨vb,bb,sb,lb,db,mb,tb,xq⟩) hs2));clear hl2 hs2 c21;dsimp only;go_wp2_with fail;refine(lJ H2.out _).mono ?_;rintro e w3 ⟨rfl,hv3,hk3⟩;have FIN:=hid (bG.end HB.out VS.out hv3 hk3);clear hv3 hk3;dsimp only;go_wp2_with fail;go_ret;rw[HR.out];exact FIN.out

def yV:cU × Value:=(xE,.slice none 0 0)
theorem dN.own {b:VB}{w w':World}{ev fv ev' fv':Value}(h:dN b w ev fv w' ev' fv'){k:Nat}(hk:oO b ev' fv' k):oO b ev fv k\/w.heap.size<=k:=by
 rcases hk with hk|hk|hk|hk|hk|hk|hk
 ·exact .inl (.inl hk)
 ·exact .inl (.inr (.inl hk))
 ·exact .inl (.inr (.inr (.inl hk)))
 ·exact .inl (.inr (.inr (.inr (.inl hk))))
 ·exact .inl (.inr (.inr (.inr (.inr (.inl hk)))))
 ·exact(h.2.1 k hk).imp (fun e=>.inr (.inr (.inr (.inr (.inr (.inl e)))))) id
 ·exact(h.2.2 k hk).imp (fun e=>.inr (.inr (.inr (.inr (.inr (.inr e)))))) id
structure TX (w0 cw:World)(b:VB)(xb:Nat)(D:aA)(V:eB):Prop where
 vlt:∃ev fv el,bG cw b ev fv el D V/\(∀k,oO b ev fv k->w0.heap.size<=k) /\ ¬oO b ev fv xb
 box:EC cw xb 1 1 (.slice none 0 0)
 bel:Below w0.heap.size w0 cw
theorem TX.below {w0 cw cw':World}{b:VB}{xb:Nat}{D:aA}{V:eB}(h:TX w0 cw b xb D V)(hb:Below cw.heap.size cw cw'):TX w0 cw' b xb D V:=by
 obtain⟨ev,fv,el,h1,h2⟩:=h.vlt;exact⟨⟨ev,fv,el,h1.below hb,h2⟩,h.box.below hb,h.bel.trans (hb.mono h.bel.size)⟩
theorem TX.step {w0 cw cw':World}{b:VB}{xb:Nat}{D D':aA}{V V':eB}{ev fv ev' fv':Value}{el':bN}(h:TX w0 cw b xb D V)(hlog:(∀k,oO b ev fv k->w0.heap.size<=k) /\ ¬oO b ev fv xb)(hv:bG cw' b ev' fv' el' D' V')(hs:dN b cw ev fv cw' ev' fv'):TX w0 cw' b xb D' V':=by
 refine⟨⟨ev',fv',el',hv,fun k hk=>?_,fun hk=>?_⟩,h.box.kept hs.1 hlog.2,h.bel.trans (hs.1.below h.bel.size fun k hk=>hlog.1 k hk)⟩
 ·rcases hs.own hk with e|e
  ·exact hlog.1 k e
  ·have:=h.bel.size;omega
 ·rcases hs.own hk with e|e
  ·exact hlog.2 e
  ·have:=h.box.lt;omega
theorem aHm (n:Nat):(List.replicate n yV).map (·.1)=List.replicate n xE:=by rw[List.map_replicate];rfl
theorem aEj {w0 cw:World}{b:VB}{xb n:Nat}{D:aA}{V:eB}(h:TX w0 cw b xb D V){o:Obj}(hs:bJ (cw.alloc o) 3 (.slice (some ⟨cw.heap.size,0,none⟩) n n) (aN (List.replicate n yV)))(hn:n<=100)(hc:rJ D V.L)(hst:D.steps+200<=1000000000)(hb:V.br=false)(hnf:V.L.fs = [])(hall:∀e ∈ List.replicate n xE,e.ok)(hbig:¬H59<V.L.last+n)(h0:(bY D V.L (List.replicate n xE)).2.2=0)(hn1:1<=n) :
  Calls Tryz.prog 42 #[.pointer (some ⟨b.vb,0,none⟩),.slice (some ⟨cw.heap.size,0,none⟩) n n] (cw.alloc o) fun e w'=>e = .returned (.int .i64 (gN D V (List.replicate n xE)).2.2)/\TX w0 w' b xb (gN D V (List.replicate n xE)).1 (gN D V (List.replicate n xE)).2.1:=by
 have hbel:Below cw.heap.size cw (cw.alloc o):=(Below.refl _ _).alloc (Nat.le_refl _) _;have h':=h.below hbel;obtain⟨ev,fv,el,h1,h2,h3⟩:=h.vlt;have hf:Few (List.replicate n yV):=⟨by rw[List.length_replicate];exact hn,fun p hp=>by
  obtain⟨_,rfl⟩:=List.mem_replicate.1 hp;exact⟨by decide,by decide,by decide⟩⟩
 have hda:cA (cw.alloc o) (mE b.lb b.db b.mb b.tb ev fv) (List.replicate n yV):=fun p hp=>by
  obtain⟨_,rfl⟩:=List.mem_replicate.1 hp;exact⟨Bytes.nil _,⟨by decide,by decide,by decide,by decide⟩,nofun⟩
 have hm:aA0 (cw.alloc o) (mE b.lb b.db b.mb b.tb ev fv) (.slice (some ⟨cw.heap.size,0,none⟩) n n) (List.replicate n yV):=⟨hs,hda.toN,.inr fun k hk e=>by
  obtain rfl:cw.heap.size=k:=Option.some.inj hk;have:=h1.log.mI e;omega⟩
 refine(aC8 (h1.below hbel) hc hst hm hf hb hnf (by rw[aHm];exact hall) (by rw[List.length_replicate];exact hbig) (fun e=>by have:=congrArg List.length e;simp at this;omega) (by rw[aHm];exact h0)).mono ?_;rintro E w' ⟨rfl,ev',fv',el',h5,h6⟩;rw[aHm]at h5 ⊢;exact⟨rfl,h'.step ⟨h2,h3⟩ h5 h6⟩
theorem aJm {w0 cw cw':World}{b:VB}{xb:Nat}{D:aA}{V:eB}{v:Value}(h:TX w0 cw b xb D V)(hbel:Below cw.heap.size cw cw')(hv:aEy cw' cw.heap.size v (jB 2))(hg:aY D)(hst:D.steps+300<=1000000000)(hl:V.L.last<=H59)(hn:V.L.es.length<=2147483648)(hb:V.br=false)
  (he:(eC D V.s (jB 2)).2=0) (hc:rJ (eC D V.s (jB 2)).1 V.L) :
  Calls Tryz.prog 81 #[.pointer (some ⟨b.vb,0,none⟩),v] cw' fun e w'=>e = .returned (.int .i64 (qM D V (jB 2)).2.2)/\TX w0 w' b xb (qM D V (jB 2)).1 (qM D V (jB 2)).2.1:=by
 have h':=h.below hbel;obtain⟨ev,fv,el,h1,h2,h3⟩:=h.vlt;obtain⟨mv,dv,rfl,hm,hd,q1,q2⟩:=hv;obtain⟨am,cm,rfl,_⟩:=hm.shape;obtain⟨ad,cd,rfl,_⟩:=hd.shape;have WP:=aEo (h1.below hbel) hg hst hl hn 2 1 [0] [97] am ad ([0]:List Int).length cm ([97]:List Nat).length cd (by decide)
  (fun w' hk=>⟨_,_,rfl,hm.kept hk (fun k hk e=>by have:=q1 k hk;have:=h1.mI e;omega),hd.kept hk (fun k hk e=>by have:=q2 k hk;have:=h1.mI e;omega)⟩) hb he hc (by decide)
 refine WP.mono ?_;rintro E w' ⟨rfl,ev',fv',el',h5,h6⟩;exact⟨rfl,h'.step ⟨h2,h3⟩ h5 h6⟩
theorem aKw (w:World):bJ (w.alloc (.cells #[.int .u64 1,.int .i64 1,.slice none 0 0,.int .u64 1,.int .i64 1,.slice none 0 0,.int .u64 1,.int .i64 1,.slice none 0 0] 38)) 3 (.slice (some ⟨w.heap.size,0,none⟩) 3 3) (aN (List.replicate 3 yV)):=by
 refine⟨_,_,rfl,Nat.le_refl _,fun j hj=>?_⟩;have hj':j<3:=hj;refine⟨w.heap.size,0,rfl,by simp,fun i u hu=>?_⟩
 match j,hj' with
 | 0,_ =>
  have hu':[Value.int .u64 1,.int .i64 1,.slice none 0 0][i]? = some u:=hu
  match i,hu' with
  | 0, hu' => obtain rfl : Value.int .u64 1 = u := by simpa using hu'
              go_cell
  | 1, hu' => obtain rfl : Value.int .i64 1 = u := by simpa using hu'
              go_cell
  | 2, hu' => obtain rfl : Value.slice none 0 0 = u := by simpa using hu'
              go_cell
  | i+3,hu'=>simp at hu'
 | 1,_ =>
  have hu':[Value.int .u64 1,.int .i64 1,.slice none 0 0][i]? = some u:=hu
  match i,hu' with
  | 0, hu' => obtain rfl : Value.int .u64 1 = u := by simpa using hu'
              go_cell
  | 1, hu' => obtain rfl : Value.int .i64 1 = u := by simpa using hu'
              go_cell
  | 2, hu' => obtain rfl : Value.slice none 0 0 = u := by simpa using hu'
              go_cell
  | i+3,hu'=>simp at hu'
 | 2,_ =>
  have hu':[Value.int .u64 1,.int .i64 1,.slice none 0 0][i]? = some u:=hu
  match i,hu' with
  | 0, hu' => obtain rfl : Value.int .u64 1 = u := by simpa using hu'
              go_cell
  | 1, hu' => obtain rfl : Value.int .i64 1 = u := by simpa using hu'
              go_cell
  | 2, hu' => obtain rfl : Value.slice none 0 0 = u := by simpa using hu'
              go_cell
  | i+3,hu'=>simp at hu'
theorem aJl {db mb tb:Nat}{D:aA}{w0 w w1:World}{b:VB}{ev fv:Value}{el:bN}{V:eB}(hb0:Below w0.heap.size w0 w)(ho3:∀k,aZ db mb tb k->w0.heap.size<=k)
  (hv:bG w1 b ev fv el D V) (hk:Kept w w1 (aZ db mb tb)) (ho:∀k,oO b ev fv k->aZ db mb tb k\/w.heap.size<=k) {w2:World} {t:TypeId} (h2:w2=w1.alloc (.cells #[.int .u64 1,.int .i64 1,.slice none 0 0] t)):TX w0 w2 b w1.heap.size D V:=by
 subst h2;have hbel:Below w1.heap.size w1 (w1.alloc (.cells #[.int .u64 1,.int .i64 1,.slice none 0 0] t)):=(Below.refl _ _).alloc (Nat.le_refl _) _;have hb1:Below w0.heap.size w0 w1:=hb0.trans (hk.below hb0.size ho3);refine⟨⟨ev,fv,el,hv.below hbel,fun k e=>?_,fun e=>by have:=hv.mI e;omega⟩,⟨by go_cell,by go_cell,by go_cell,by simp,by simp,by simp⟩,hb1.trans (hbel.mono hb1.size)⟩;rcases ho k e with q|q
 ·exact ho3 k q
 ·have:=hb0.size;omega

theorem hY1:gN dX vX (List.replicate 3 xE)=rY1:=rfl
theorem hY2:qM rY1.1 rY1.2.1 (jB 2)=rY2:=rfl
theorem lH (w:World):Calls Tryz.prog 31 #[] w fun e w'=>e = .returned (.bool true)/\Below w.heap.size w w':=by
 go_enter Tryz.func31,Tryz.ntmps31;go_wp2_with fail;refine(aKJ 1000 w (by decide) (by decide)).mono ?_;rintro e w1 ⟨db,mb,tb,rfl,hd1,hb1,h1,h2,h3⟩;have D1:Hid (aG w1 db mb tb dX):=hid hd1;have B1:=hid hb1;have HO:Hid (∀k,aZ db mb tb k->w.heap.size<=k):=hid (by rintro k (rfl|rfl|rfl)<;>assumption);clear hd1 hb1 h1 h2 h3;go_wp2_with fail;have WO:=aEn D1.out aIg (by decide) aBH.1 aBH.2.1 aBH.2.2.1 (by rw[aBH.2.2.2];exact aKt) (by decide) (by decide) rfl;rw[aLm]at WO;refine WO.mono ?_;clear WO;rintro e w2 ⟨b,ev,fv,el,rfl,e1,e2,e3,hv,hk2,ho,_⟩;have HV:=hid hv;have HK:=hid hk2;have HOW:=hid ho;have HE:Hid (b.db=db/\b.mb=mb/\b.tb=tb):=hid ⟨e1,e2,e3⟩;clear hv hk2 ho e1 e2 e3;go_wp2_with fail;generalize hw3:World.alloc w2 _=w3;have TX3:Hid (TX w w3 b w2.heap.size dX vX):=hid (aJl B1.out HO.out HV.out HK.out HOW.out hw3.symm);have HSZ:Hid (w3.heap.size=w2.heap.size+1):=hid (by subst hw3;simp);clear hw3 HV HK HOW HE D1 B1 HO;generalize w2.heap.size=xb at *
 obtain⟨q0,q1,q2,_,_,_⟩:=TX3.out.box;have ee:((rY1.2.2:Nat):Int)=0:=by rw[y1.1];rfl
 go_wp2_with fail;have WP:=aEj (n:=3) TX3.out (aKw w3) (by decide) aJK (by decide) rfl rfl (by decide) (by decide) (by decide +kernel) (by decide);rw[hY1,ee,HSZ.out]at WP;refine WP.mono ?_;clear WP ee q0 q1 q2;rintro e w4 ⟨rfl,h4⟩;have TX4:=hid h4;clear h4;go_wp2_with fail;refine(aFT 2 w4).mono ?_;rintro e w5 ⟨v,rfl,hv5,hb5⟩;have ee:((rY2.2.2:Nat):Int)=0:=by rw[y2.1];rfl
 have WS:=aJm TX4.out hb5 hv5 y1c.1.fX (by have:=y1c.2;omega) (by rw[y1.2.2.2.1];decide) (by rw[y1.2.2.2.2.1];decide) y1.2.1 aIh.1 ⟨let ⟨P,h⟩:=y1c.1.inv;⟨P,h.aKW aK9⟩,aIh.2,((aFa _ _ _).rising y1c.1.ris),(yH _ _ y1c.1.fX (by have:=y1c.2;omega)).1⟩;rw[hY2,ee]at WS;have HWS:=hid WS;obtain⟨mv,dv,rfl,_⟩:=hv5;clear WS ee hb5;go_wp2_with fail;refine HWS.out.mono ?_;rintro e w6 ⟨rfl,h6⟩;have TX6:=hid h6;clear h6 HWS;obtain⟨ev6,fv6,el6,hv6,_,_⟩:=TX6.out.vlt;have HV6:=hid hv6;clear hv6;have WT:=aDb HV6.out (by rw[y2.2.2.1];decide) (by rw[y2.2.2.2];decide) 2;rw[y2s.2]at WT;have HWT:=hid WT;clear WT;go_wp2_with fail;refine HWT.out.mono ?_;rintro e w7 ⟨rfl,hb7⟩;have TX7:=hid (TX6.out.below hb7);have HV7:=hid (HV6.out.below hb7);clear hb7 HV6;dsimp only;have WB:=aC9 HV7.out;have es:rY2.2.1.s.i=2:=by rw[y2s.1];rfl
 rw[es]at WB;have HWB:=hid WB;clear WB es;go_wp2_with fail;refine HWB.out.mono ?_;rintro e w8 ⟨rfl,hb8⟩;have TX8:=hid (TX7.out.below hb8);have HV8:=hid (HV7.out.below hb8);clear hb8 HV7;have WL:=aDa HV8.out (by rw[y2.2.2.1];decide);rw[y2.2.2.1]at WL;rw[show (((3:Nat):Int))=3 from rfl]at WL;have HWL:=hid WL;clear WL;go_wp2_with fail;refine HWL.out.mono ?_;rintro e w9 ⟨rfl,hb9⟩;have TX9:=hid (TX8.out.below hb9);have HV9:=hid (HV8.out.below hb9);clear hb9 HV8;have WR:=aEl HV9.out;rw[y2.2.1]at WR;have HWR:=hid WR;clear WR;go_wp2_with fail;refine HWR.out.mono ?_;rintro e w10 ⟨rfl,rfl⟩;go_wp2_with fail;go_ret;exact⟨rfl,TX9.out.bel⟩
