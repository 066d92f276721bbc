/- For vltopens_law_holds. -/
import Derived.Test.YtjdglpcnkiioeaaGreatVob35
import Derived.Test.YtjdglpcnkiioeaaGreatVob37
set_option maxHeartbeats 16000000
set_option maxRecDepth 100000
namespace Go.Proofs.YtjdglpcnkiioeaaGreat
open Go.Lib (hid)
open Go.RowKit Go.Maps Go.Proofs.Own

theorem mD {lb db mb tb:Nat}{ev fv:Value}{el:bN}{D:aA}{L:aQ}{w:World}(h:bF w lb db mb tb ev fv el D L):Calls Tryz.prog 59 #[.pointer (some ⟨lb,0,none⟩)] w fun e w'=>e = .returned (.bool false)/\w=w':=by
 have c0:=h.c0;clear h;go_enter Tryz.func59,Tryz.ntmps59;go_wp2_with fail;go_ret;exact⟨rfl,rfl⟩
theorem aEs {lb db mb tb:Nat}{ev fv:Value}{el:bN}{D:aA}{L:aQ}{w:World}(h:bF w lb db mb tb ev fv el D L)(hl:(L.b:Int)+1<18446744073709551616):Calls Tryz.prog 15 #[.pointer (some ⟨lb,0,none⟩)] w fun e w'=>e = .returned (.int .u64 ((L.b:Int)+1))/\w=w':=by
 have H:=hid h;have c1:=h.c1;clear h;go_enter Tryz.func15,Tryz.ntmps15;go_wp2_with fail;refine(mD H.out).mono ?_;rintro e w1 ⟨rfl,rfl⟩;go_wp2_with fail;go_ret;exact⟨rfl,rfl⟩
theorem nG {lb db mb tb:Nat}{ev fv:Value}{el:bN}{D:aA}{L:aQ}{w:World}(h:bF w lb db mb tb ev fv el D L)(hl:(L.last:Int)<18446744073709551616):Calls Tryz.prog 16 #[.pointer (some ⟨lb,0,none⟩)] w fun e w'=>e = .returned (.int .u64 L.last)/\Below w.heap.size w w':=by
 have H:=hid h;have c1:=h.c1;have c2:=h.c2;obtain⟨a,c,rfl,hc⟩:=h.gA;have HL:Hid ((L.last:Int)=(L.b:Int)+(L.es.length:Int)):=hid (by unfold aQ.last;omega);rw[HL.out]at hl ⊢;have hn:(L.es.length:Int)<18446744073709551616:=by omega
 clear h;go_enter Tryz.func16,Tryz.ntmps16;go_wp2_with fail;refine(mD H.out).mono ?_;rintro e w1 ⟨rfl,rfl⟩;go_wp2_with fail
 go_quiet (fail)
 go_wp2_with fail;go_ret;exact⟨rfl,Below.drewN _ _⟩
theorem qS (f m s:Nat)(w:World)(h1:1<=f)(h2:f<1152921504606846976):Calls Tryz.prog 115 #[.agg #[.int .u64 f,.int .i64 m,.int .i64 s]] w fun e w'=>e = .returned (.string (aK f))/\Below w.heap.size w w':=by
 have H1:=hid h1;have H2:=hid h2;clear h1 h2;go_enter Tryz.func115,Tryz.ntmps115;go_wp2_with fail;refine(aFC f _ H1.out H2.out).mono ?_;rintro e w1 ⟨rfl,hb⟩;have B:=hid hb;clear hb;go_wp2_with fail;go_ret;exact⟨rfl,((Below.refl _ _).alloc (Nat.le_refl _) _).trans (B.out.mono (by simp))⟩

theorem bF.jZ {w:World}{lb db mb tb g n c m:Nat}{ev:Value}{el:bN}{D:aA}{L:aQ}(h:bF w lb db mb tb ev (.slice (some ⟨g,0,none⟩) n c) el D L){f:WF}(hf:L.fs.getLast? = some f)(hm:L.fs.length=m+1) :
  w.cell? ⟨g,m*3,none⟩=some (.int .u64 f.f)/\w.cell? ⟨g,m*3+1,none⟩=some (.int .i64 f.m)/\w.cell? ⟨g,m*3+2,none⟩=some (.int .i64 f.s):=by
 have h1:=h.aGN (k:=m) (by omega);have e:L.fs[m]'(by omega)=f:=by
  rw[List.getLast?_eq_getElem?,show L.fs.length-1=m by omega,List.getElem?_eq_getElem (by omega)]at hf;exact Option.some.inj hf
 rw[e]at h1;exact h1

theorem bJ.front {w:World}{sz:Nat}{a:Option Addr}{n c k:Nat}{rs:List (List Value)}(h:bJ w sz (.slice a n c) rs)(hk:k<=rs.length):bJ w sz (.slice a k c) (rs.take k):=by
 obtain⟨a',c',e,hl,hc⟩:=h;cases e;refine⟨a,c,by rw[List.length_take,Nat.min_eq_left hk],by rw[List.length_take];omega,fun j hj=>?_⟩;rw[List.length_take]at hj;obtain⟨b,o,rfl,h0,h1⟩:=hc j (by omega);exact⟨b,o,rfl,h0,fun i x hx=>h1 i x (by rwa [List.getElem_take]at hx)⟩

theorem aAY {lb db mb tb:Nat}{ev fv:Value}{el:bN}{D:aA}{L:aQ}{w:World}(h:bF w lb db mb tb ev fv el D L)(hn:L.fs = []) :
  Calls Tryz.prog 113 #[.pointer (some ⟨lb,0,none⟩)] w fun e w'=>e = .returned (.pointer none)/\w=w':=by
 have c3:=h.c3;obtain⟨a,c,rfl,hc⟩:=h.rF;rw[hn]at c3;simp only[List.length_nil]at c3;clear h;go_enter Tryz.func113,Tryz.ntmps113;go_wp2_with fail;go_ret;exact⟨rfl,rfl⟩
theorem iK {lb db mb tb g n c m:Nat}{ev:Value}{el:bN}{D:aA}{L:aQ}{w:World}(h:bF w lb db mb tb ev (.slice (some ⟨g,0,none⟩) n c) el D L)(hn:n=m+1)(hs:(n:Int)<=4294967296) :
  Calls Tryz.prog 113 #[.pointer (some ⟨lb,0,none⟩)] w fun e w'=>e = .returned (.pointer (some ⟨g,m*3,none⟩))/\Below w.heap.size w w':=by
 have c3:=h.c3;have hn0:((n:Int)==0)=false:=by simp;omega
 have e1:IntKind.i64.wrap (m:Int)=(m:Int):=by simp only[IntKind.wrap_i64];omega
 have m0:(0:Int)<=(m:Int):=by omega
 have m1:(m:Int)<(n:Int):=by omega
 clear h hs;have e2:(n:Int)-1=(m:Int):=by omega
 obtain⟨i0,hi,_,hz1,_⟩:=info_parts (show (Tryz.prog.info? 188).map (fun i=>(i.zero,i.size,i.bytes))=some (some (.agg #[.int .u64 0,.int .i64 0,.int .i64 0]),3,24) by kernel_rfl);have hix:∀w',(Instr.indexAt 32 (.slice (some ⟨g,0,none⟩) n c) (.int .i64 (m:Int))).run Tryz.prog w' = .ok (.pointer (some ⟨g,m*3,none⟩)) w':=fun w'=>by
  have he:Tryz.prog.elem 32=188:=by simp[Program.elem,Tryz.underlying32]
  rw[run_indexAt_slice w' 32 ⟨g,0,none⟩ n c .i64 m (by rw[he];exact Tryz.underlying32),if_pos ⟨m0,m1⟩,he];simp[sizeOf,typeInfo,hi,hz1,Result.andThen,Addr.add_lit]
 clear hi hz1 hn;go_enter Tryz.func113,Tryz.ntmps113;go_wp2_with fail
 go_quiet (fail)
 go_wp2_with fail;go_ret;exact⟨rfl,Below.drewN _ _⟩

theorem aJp {lb db mb tb:Nat}{ev fv:Value}{el:bN}{D:aA}{L:aQ}{w:World}(h:bF w lb db mb tb ev fv el D L)(k:Nat)(hk:k<=L.es.length) :
  Calls Tryz.prog 119 #[.pointer (some ⟨lb,0,none⟩),.int .i64 k] w fun e w'=>e = .returned (.tuple #[]) /\ ∃ev',bF w' lb db mb tb ev' fv (el.take k) D ⟨L.b,L.es.take k,L.fs,min L.safe k⟩/\ev'.ownBlock=ev.ownBlock/\Kept w w' (fun b=>b=lb):=by
 have hlen:k<=(aN el).length:=by rw[aO,h.zO];exact hk
 obtain⟨v',ho,hb,hcut⟩:=cM.aGS (P:=Tryz.prog) (t:=23) Tryz.underlying23 (by kernel_rfl) h.er k hlen;have L2:Hid (bF (w.setCell ⟨lb,2,none⟩ v') lb db mb tb v' fv (el.take k) D { L with es:=(el.take k).map (·.1) }):=hid (h.iO (by unfold aN at ho ⊢;rw[List.map_take];exact ho) (h.dat.sub fun p hp=>List.mem_of_mem_take hp) fun b hb2=>h.ne b (by rw[<- hb];exact hb2))
 have HB:=hid hb;have K2:Hid (Kept w (w.setCell ⟨lb,2,none⟩ v') (fun b=>b=lb)):=hid (Kept.setCell w ⟨lb,2,none⟩ v');have HE:Hid ((el.take k).map (·.1)=L.es.take k):=hid (by rw[List.map_take,h.es])
 have c2:=h.c2;have f2:=h.fz 2 (by decide) (by decide);obtain⟨a,c,rfl,_⟩:=h.gA;obtain⟨a',n',c',rfl⟩:∃a n c,v' = .slice a n c:=by obtain⟨a,c,e,_⟩:=ho.shape;exact⟨a,_,c,e⟩
 have FIN:Hid (∀m:Int,m=((min L.safe k:Nat):Int)->bF ((w.setCell ⟨lb,2,none⟩ (.slice a' n' c')).setCell ⟨lb,4,none⟩ (.int .i64 m)) lb db mb tb (.slice a' n' c') fv (el.take k) D ⟨L.b,L.es.take k,L.fs,min L.safe k⟩/\Kept w ((w.setCell ⟨lb,2,none⟩ (.slice a' n' c')).setCell ⟨lb,4,none⟩ (.int .i64 m)) (fun b=>b=lb)):=hid (by
  intro m hm;have h4:=L2.out.eN (min L.safe k);rw[HE.out]at h4;rw[hm];exact⟨h4,K2.out.trans (Kept.setCell _ ⟨lb,4,none⟩ _)⟩)
 have c4:=L2.out.c4;have f4:=L2.out.fz 4 (by decide) (by decide);clear h ho hb hlen hk;go_enter Tryz.func119,Tryz.ntmps119;go_wp2_with fail
 all_goals
  refine bodyPost_end (v:=.tuple #[]) (by simp[results,Tryz.results119,go_sem]) rfl ?_;exact⟨rfl,_,(FIN.out _ (by omega)).1,HB.out,(FIN.out _ (by omega)).2⟩

theorem aLl {lb db mb tb:Nat}{ev fv:Value}{el:bN}{D:aA}{L:aQ}{w:World}(h:bF w lb db mb tb ev fv el D L)(hw:DWf D)(hok:LOk L)(hne:L.fs ≠ [])(hs:L.fs.length<=1000000) :
  Calls Tryz.prog 117 #[.pointer (some ⟨lb,0,none⟩)] w (gM lb db mb tb ev fv (popW D L) w):=by
 obtain⟨f,hf⟩:∃f,L.fs.getLast? = some f:=by
  cases e:L.fs.getLast? with
  | none=>exact absurd (List.getLast?_eq_none_iff.1 e) hne
  | some f=>exact⟨f,rfl⟩
 have hfm:f ∈ L.fs:=List.mem_of_getLast? hf;obtain⟨m,hm⟩:∃m,L.fs.length=m+1:=⟨L.fs.length-1,by have:=List.length_pos_iff.2 hne;omega⟩;have HP:Hid (popW D L=if (removeD D (aK f.f)).2≠0 then ((removeD D (aK f.f)).1,L,(removeD D (aK f.f)).2)
  else ((removeD D (aK f.f)).1,⟨L.b,L.es.take (L.es.length-f.m),L.fs.dropLast,min L.safe (L.es.length-f.m)⟩,0)):=hid (by unfold popW;rw[hf])
 obtain⟨g,c,rfl,hc,hg⟩:=cM.some h.fr (by simpa using hne);rw[List.length_map]at h hc ⊢;obtain⟨a0,c0,rfl,_⟩:=h.gA;obtain⟨n,hn⟩:∃n,L.fs.length=n:=⟨_,rfl⟩;have HNN:=hid hn;rw[hn]at h hs ⊢;have hnm:n=m+1:=by omega
 have HC:Hid (n<=c):=hid (by omega);have HF:=hid hf;have HM:=hid hm;have HW:=hid hw;have HNM:=hid (hok.nm f hfm);have HNS:Hid ((aK f.f).size<=maxLen):=hid (Nat.le_trans (fG f.f) (by decide));have hmany:=hok.m hfm;have HJ:Hid (L.es.length-f.m<=L.es.length):=hid (Nat.sub_le _ _);obtain⟨j,hj⟩:∃j,L.es.length-f.m=j:=⟨_,rfl⟩;have e1:IntKind.i64.wrap ((L.es.length:Int)-(f.m:Int))=(j:Int):=by have:=hok.few;simp only[IntKind.wrap_i64];omega
 have HJJ:=hid hj;rw[hj]at HJ HP;have HH:=hid h;have HLN:Hid (L.fs.dropLast.length<=2147483648):=hid (by rw[List.length_dropLast];omega);have hs':(n:Int)<=4294967296:=by omega
 clear h hf hm hw hok hne hfm hmany hj hg hc hn hs;go_enter Tryz.func117,Tryz.ntmps117;go_wp2_with fail;refine(iK HH.out hnm hs').mono ?_;rintro e w1 ⟨rfl,hb1⟩;have HL1:=hid (HH.out.below hb1);have S1:Hid (aX lb db mb tb w (.slice a0 L.es.length c0) (.slice (some ⟨g,0,none⟩) n c) w1 (.slice a0 L.es.length c0) (.slice (some ⟨g,0,none⟩) n c)):=hid (aX.below hb1);clear hb1;have ST:=aR.from w1;go_wp2_with fail;refine aU [0,1,3,7,0,16,48,112,255,511] 128 (fun w'=>Below w1.heap.size w1 w') (by kernel_rfl) ?_;refine aB [0,1,2,3,4,5,6] (by kernel_rfl) (L:=bm 10 127) (by kernel_rfl) (f':=3) rfl (fun _ _ _ _ h=>h) (fun w o h=>ST.alloc h o) (.inr (by first|exact Below.refl _ _|exact(Below.refl _ _).drew)) ?_;simp only[sF,sL]
 iterate 7 (first|(refine aW _ (by rfl) (fun w' hs=>by have Y:=HL1.out.below hs;have b0:=Y.c0;obtain⟨q0,q1,q2⟩:=Y.jZ HF.out HM.out;go_simp;try with_reducible rfl) rfl ?_;simp only[Act.put,sA])|(refine aC _ (by rfl) (fun w'=>by go_simp;try with_reducible rfl) ?_;simp only[Act.put,sA]))
 refine aI ?_;refine aM 7 (by kernel_rfl) (L:=bm 10 255) (by kernel_rfl) ?_;simp only[sL];go_wp2_with fail;refine(qS f.f f.m f.s _ HNM.out.1 HNM.out.2).mono ?_;rintro e u7 ⟨rfl,hb7⟩;have I7:Hid (Below w1.heap.size w1 u7):=hid (by first|exact hb7|exact((Below.refl _ _).drew).trans hb7);clear hb7;go_wp2_with fail;refine aH (fun _=>I7.out) ?_;refine aM 8 (by kernel_rfl) (L:=bm 10 511) (by kernel_rfl) ?_;simp only[sL];go_wp2_with fail;have L7:=hid (HL1.out.below I7.out);refine(jK db mb tb D (aK f.f) u7 L7.out.dZ HW.out HNS.out).mono ?_;rintro e w2 ⟨rfl,hd2,hk2⟩;have L2:Hid (bF w2 lb db mb tb (.slice a0 L.es.length c0) (.slice (some ⟨g,0,none⟩) n c) el (removeD D (aK f.f)).1 L):=hid (L7.out.oQ hd2 hk2);have S2:Hid (aX lb db mb tb w (.slice a0 L.es.length c0) (.slice (some ⟨g,0,none⟩) n c) w2 (.slice a0 L.es.length c0) (.slice (some ⟨g,0,none⟩) n c)):=hid (S1.out.trans ((aX.below I7.out).trans (aX.dZ hk2)));clear hd2 hk2;generalize (removeD D (aK f.f)).1=D' at *;generalize (removeD D (aK f.f)).2=k at *;go_wp2_with fail;refine aH nofun ?_;refine aB [9] (by kernel_rfl) (L:=bm 10 1023) (by kernel_rfl) (f':=0) rfl (fun _ _ _ _ h=>h) (fun w o h=>ST.alloc h o) (.inl (by kernel_rfl)) ?_;simp only[sF,sL]
 iterate 1 (refine aC _ (by rfl) (fun w'=>by go_simp;try with_reducible rfl) ?_;simp only[Act.put,sA])
 refine aI ?_;refine bC (by kernel_rfl) ?_;by_cases hk0:k=0
 ·have hkb:((k:Int) != 0)=false:=by rw[hk0];rfl
  have HK0:=hid hk0;clear hk0;have ST2:=aR.from w2;go_wp2_with fail;go_wp2_with fail;refine aU [0,0,2,6,14,30,0,64,192,448,1022,2047] 0 (fun w'=>Below w2.heap.size w2 w') (by kernel_rfl) ?_;refine aB [0,1,2,3,4,5,6,7,8,9,10] (by kernel_rfl) (L:=bm 12 2047) (by kernel_rfl) (f':=1) rfl (fun _ _ _ _ h=>h) (fun w o h=>ST2.alloc h o) (.inr (by first|exact Below.refl _ _|exact(Below.refl _ _).drew)) ?_;simp only[sF,sL]
  iterate 11 (first|(refine aW _ (by rfl) (fun w' hs=>by have Y:=L2.out.below hs;have b2:=Y.c2;obtain⟨q0,q1,q2⟩:=Y.jZ HF.out HM.out;go_simp;try with_reducible rfl) rfl ?_;simp only[Act.put,sA])|(refine aC _ (by rfl) (fun w'=>by go_simp;try with_reducible rfl) ?_;simp only[Act.put,sA]))
  refine aI ?_;refine aM 11 (by kernel_rfl) (L:=bm 12 4095) (by kernel_rfl) ?_;simp only[sL];go_wp2_with fail;have L3:=hid (L2.out.below ((Below.refl w2.heap.size w2).drew));refine(aJp L3.out j HJ.out).mono ?_;rintro e w4 ⟨rfl,ev4,hl4,ho4,hk4⟩;obtain⟨a4,c4,rfl,_⟩:=hl4.gA;have L4:=hid hl4;have S4:Hid (aX lb db mb tb w (.slice a0 L.es.length c0) (.slice (some ⟨g,0,none⟩) n c) w4 (.slice a4 _ c4) (.slice (some ⟨g,0,none⟩) n c)):=hid (S2.out.trans (((aX.below ((Below.refl w2.heap.size w2).drew))).trans ⟨hk4.mono fun k _ e=>.inl e,fun b hb=>.inl (ho4 ▸ hb),fun b hb=>.inl hb⟩));clear hl4 ho4 hk4;go_wp2_with fail;refine aH nofun ?_;refine bC (by kernel_rfl) ?_;have H6:Hid (bJ w4 3 (.slice (some ⟨g,0,none⟩) m c) (L.fs.dropLast.map cY)):=hid (by
   have e:L.fs.dropLast=L.fs.take m:=by rw[List.dropLast_eq_take,HM.out];rfl
   rw[e,List.map_take];exact bJ.front L4.out.fr.qG (by rw[List.length_map];have:=HM.out;omega))
  have em:IntKind.i64.wrap (m:Int)=(m:Int):=by simp only[IntKind.wrap_i64];omega
  have en:(n:Int)-1=(m:Int):=by omega
  have hmc:m<=c:=by have:=HC.out;omega
  have ST4:=aR.from w4;go_wp2_with fail;refine aU [0,0,2,6,14,0,32,96,224,480,992,2046,4094,8191,16383,32767] 0 (fun w'=>Below w4.heap.size w4 w') (by kernel_rfl) ?_;refine aB [0,1,2,3,4,5,6,7,8,9,10,11] (by kernel_rfl) (L:=bm 16 4095) (by kernel_rfl) (f':=4) rfl (fun _ _ _ _ h=>h) (fun w o h=>ST4.alloc h o) (.inr (by first|exact Below.refl _ _|exact(Below.refl _ _).drew)) ?_;simp only[sF,sL]
  iterate 12 (first|(refine aW _ (by rfl) (fun w' hs=>by have Y:=L4.out.below hs;have b3:=Y.c3;go_simp;try with_reducible rfl) rfl ?_;simp only[Act.put,sA])|(refine aC _ (by rfl) (fun w'=>by go_simp;try with_reducible rfl) ?_;simp only[Act.put,sA]))
  refine aI ?_;refine aM 12 (by kernel_rfl) (L:=bm 16 8191) (by kernel_rfl) ?_;simp only[sL];go_wp2_with fail;have B5:Hid (Below w4.heap.size w4 w4.drew):=hid ((Below.refl w4.heap.size w4).drew);refine(wR _ L.fs.dropLast _ (H6.out.below B5.out) HLN.out).mono ?_;rintro e w6 ⟨v7,rfl,ho7,hb7,hn7⟩;have B6:Hid (Below w4.heap.size w4 w6):=hid (B5.out.trans (hb7.mono B5.out.size));have O6:=hid ho7;have N6:Hid (∀b,v7.ownBlock=some b->w4.heap.size<=b):=hid hn7;obtain⟨a7,c7,rfl,_⟩:=ho7.shape;clear ho7 hb7 hn7;go_wp2_with fail;refine aH nofun ?_;refine aB [13,14] (by kernel_rfl) (L:=bm 16 32767) (by kernel_rfl) (f':=1) rfl (fun _ _ _ _ h=>h) (fun w o h=>ST4.alloc h o) (.inl (by kernel_rfl)) ?_;simp only[sF,sL]
  iterate 2 (refine aC _ (by rfl) (fun w'=>by go_simp;try with_reducible rfl) ?_;simp only[Act.put,sA])
  refine aI ?_;refine aM 15 (by kernel_rfl) (L:=bm 16 65535) (by kernel_rfl) ?_;simp only[sL];have L6:=hid (L4.out.below B6.out);have y3:=L6.out.c3;have y4:=L6.out.fz 3 (by decide) (by decide);go_wp2_with fail;refine aH nofun ?_;refine bC (by kernel_rfl) ?_;go_wp2_with fail;go_ret;rw[HP.out,if_neg fun h=>h HK0.out];have hnf:∀b,(Value.slice a7 (L.fs.length-1) c7).ownBlock=some b->b≠lb /\ ¬aZ db mb tb b/\(Value.slice a4 (L.es.take j).length c4).ownBlock≠some b:=by
   intro b hb;have h1:=N6.out b (by first|exact hb|(rw[List.length_map,List.length_dropLast];exact hb));refine⟨fun e=>?_,fun e=>?_,fun e=>?_⟩
   ·have:=L4.out.lt;omega
   ·have:=L4.out.dZ.lt3 _ e;omega
   ·have:=L4.out.er.lt _ e;omega
  have hf6:=L6.out.pF (fs:=L.fs.dropLast) (by first|exact O6.out|(have h:=O6.out;rw[List.length_map,List.length_dropLast]at h;exact h)) hnf;have K6:=(Kept.aL B6.out (S:=fun b=>b=lb) fun k h1 h2=>by omega).trans (Kept.setCell w6 ⟨lb,3,none⟩ (Value.slice a7 (L.fs.length-1) c7));have S6:aX lb db mb tb w4 (.slice a4 (L.es.take j).length c4) (.slice (some ⟨g,0,none⟩) n c) (w6.setCell ⟨lb,3,none⟩ (Value.slice a7 (L.fs.length-1) c7)) (.slice a4 (L.es.take j).length c4) (Value.slice a7 (L.fs.length-1) c7):=⟨K6.mono fun k _ e=>.inl e,fun b hb=>.inl hb,fun b hb=>.inr (N6.out b (by first|exact hb|(rw[List.length_map,List.length_dropLast];exact hb)))⟩;have S7:=S4.out.trans S6;exact⟨rfl,_,_,_,hf6,S7.1,S7.2.1,S7.2.2⟩
 ·have hkb:((k:Int) != 0)=true:=by simp;omega
  have HK0:=hid hk0;clear hk0;go_wp2_with fail;go_ret;rw[HP.out,if_pos HK0.out];exact⟨rfl,_,_,_,L2.out,S2.out.1,S2.out.2.1,S2.out.2.2⟩
end Go.Proofs.YtjdglpcnkiioeaaGreat
namespace Go.Proofs.YtjdglpcnkiioeaaGreat
open Go.Lib (hid)
open Go.RowKit Go.Maps Go.Proofs.Own Go.Shelf

def rV (lb:Nat)(w:World):Nat:=match w.cell? ⟨lb,3,none⟩ with
 | some (.slice _ n _)=>n
 | _=>0
theorem bF.nfs {w:World}{lb db mb tb:Nat}{ev fv:Value}{el:bN}{D:aA}{L:aQ}(h:bF w lb db mb tb ev fv el D L):rV lb w=L.fs.length:=by
 obtain⟨a,c,rfl,_⟩:=h.rF;unfold rV;rw[h.c3]
theorem sD {base:Nat}{D:aA}{L:aQ}(hne:L.fs ≠ [])(he:(popW D L).2.2=0):resetF base L.fs.length D L=resetF base (popW D L).2.1.fs.length (popW D L).1 (popW D L).2.1:=by
 obtain⟨m,hm⟩:∃m,L.fs.length=m+1:=⟨L.fs.length-1,by have:=List.length_pos_iff.2 hne;omega⟩;have hl:(popW D L).2.1.fs.length=m:=by
  unfold popW at he ⊢;cases e:L.fs.getLast? with
  | none=>exact absurd (List.getLast?_eq_none_iff.1 e) hne
  | some f =>
   rw[e]at he;simp only at he ⊢;split
   ·rename_i h;rw[if_pos h]at he;exact absurd he h
   ·simp only[List.length_dropLast];omega
 rw[hm,hl];show (if L.fs = [] then _ else if (popW D L).2.2≠0 then _ else _)=_;rw[if_neg hne,if_neg (fun h=>h he)]
theorem uW {base:Nat}{D:aA}{L:aQ}(hne:L.fs ≠ [])(he:(popW D L).2.2≠0):resetF base L.fs.length D L=popW D L:=by
 obtain⟨m,hm⟩:∃m,L.fs.length=m+1:=⟨L.fs.length-1,by have:=List.length_pos_iff.2 hne;omega⟩;rw[hm];show (if L.fs = [] then _ else if (popW D L).2.2≠0 then _ else _)=_;rw[if_neg hne,if_pos he]
theorem yD {base:Nat}{D:aA}{L:aQ}(hne:L.fs = [])(n:Nat):resetF base n D L=(D,⟨base,[],[],0⟩,0):=by
 cases n with
 | zero=>rfl
 | succ n =>
  show (if L.fs = [] then _ else _)=_;rw[if_pos hne]
def aGA (lb db mb tb:Nat)(ev fv:Value)(w:World)(D:aA)(L:aQ)(wr:World):Prop :=
 ∃ev' fv' el',bF wr lb db mb tb ev' fv' el' D L/\aX lb db mb tb w ev fv wr ev' fv'
theorem tQ {D:aA}(L:aQ)(h:aY D)(hs:D.steps+1<=1000000000):aY (popW D L).1/\(popW D L).1.steps<=D.steps+1:=by
 have:=(aFW D L).fX h (by simpa using hs)
 simpa using this
theorem vW (D:aA)(L:aQ)(hne:L.fs ≠ [])(he:(popW D L).2.2=0):(popW D L).2.1.fs.length+1=L.fs.length:=by
 unfold popW at he ⊢;cases e:L.fs.getLast? with
 | none=>exact absurd (List.getLast?_eq_none_iff.1 e) hne
 | some f =>
  rw[e]at he;simp only at he ⊢;split
  ·rename_i h;rw[if_pos h]at he;exact absurd he h
  ·have:=List.length_pos_iff.2 hne;simp only[List.length_dropLast];omega

theorem pL {lb db mb tb:Nat}{ev fv:Value}{el:bN}{D:aA}{L:aQ}{w:World}(h:bF w lb db mb tb ev fv el D L)(hg:aY D)(hok:LOk L)(hs:D.steps+L.fs.length<=1000000000)(hf:L.fs.length<=1000000)(base:Nat) :
  Calls Tryz.prog 63 #[.pointer (some ⟨lb,0,none⟩),.int .u64 base] w (gM lb db mb tb ev fv (bA D L base) w):=by
 have HH:=hid h;have HG:=hid hg;have HOK:=hid hok;have HS:=hid hs;have HF:=hid hf;have hlt:Hid (lb<w.heap.size):=hid h.lt;clear h hg hok hs hf;by_cases hb:H59<=base
 ·have HR:Hid (bA D L base=(D,L,2)):=hid (by unfold bA;rw[if_pos hb]);have hbi:(576460752303423488:Int)<=(base:Int):=by unfold H59 at hb;omega
  clear hb;go_enter Tryz.func63,Tryz.ntmps63;go_wp2_with fail;refine(mD HH.out).mono ?_;rintro e w1 ⟨rfl,rfl⟩;go_wp2_with fail;go_ret;rw[HR.out];exact⟨rfl,_,_,_,HH.out,aX.refl _ _ _ _ _ _ _⟩
 ·have HR:Hid (bA D L base=resetF base L.fs.length D L):=hid (by unfold bA;rw[if_neg hb]);obtain⟨bz,hbz⟩:∃bz:Int,(base:Int)=bz:=⟨_,rfl⟩;have HBZ:=hid hbz;have hbi:bz<576460752303423488:=by unfold H59 at hb;omega
  rw[hbz];clear hb hbz;go_enter Tryz.func63,Tryz.ntmps63;go_wp2_with fail;refine(mD HH.out).mono ?_;rintro e w1 ⟨rfl,rfl⟩;go_wp2_with fail
  go_loopw [5] (fun _ wr=>∃D' L',aGA lb db mb tb ev fv w D' L' wr/\resetF base L'.fs.length D' L'=resetF base L.fs.length D L/\aY D'/\LOk L'/\D'.steps+L'.fs.length<=1000000000/\L'.fs.length<=1000000) (fun _ wr=>rV lb wr)
  case atStart=>exact⟨D,L,⟨ev,fv,el,HH.out,aX.refl _ _ _ _ _ _ _⟩,rfl,HG.out,HOK.out,HS.out,HF.out⟩
  case round =>
   obtain⟨D',L',⟨ev',fv',el',hl,hst⟩,hr,hg,hok,hs,hf⟩:=hrel;have HL:=hid hl;have HST:=hid hst;have HRF:=hid hr;have HG':=hid hg;have HOK':=hid hok;have HS':=hid hs;have HF':=hid hf;have c3:=hl.c3;obtain⟨fa,fc,rfl,_⟩:=hl.rF;obtain⟨n,hn⟩:∃n,L'.fs.length=n:=⟨_,rfl⟩;have HN:=hid hn;rw[hn]at c3 HL HST;clear hl hst hr hg hok hs hf hn;by_cases h0:n=0
   ·have z0:(n:Int)=0:=by omega
    have HFN:Hid (L'.fs = []):=hid (List.eq_nil_of_length_eq_zero (HN.out.trans h0));have L1:Hid (bF (wr.setCell ⟨lb,1,none⟩ (.int .u64 bz)) lb db mb tb ev' (.slice fa n fc) el' D' { L' with b:=base }):=hid (by rw[<- HBZ.out];exact HL.out.pE base);have L2:=hid (L1.out.iO (ev':=.slice none 0 0) (el':=[]) (cM.nil _ _ _) nofun nofun);have L3:=hid (L2.out.eN 0);have d1:=HL.out.c1;have d2:=L1.out.c2;have d4:=L2.out.c4;have f1:=HL.out.fz 1 (by decide) (by decide);have f2:=L1.out.fz 2 (by decide) (by decide);have f4:=L2.out.fz 4 (by decide) (by decide);clear h0;obtain⟨ea,ec,rfl,_⟩:=HL.out.gA;go_wp2_with fail;go_ret;rw[HR.out,<- HRF.out,yD HFN.out];have hfin:=L3.out;have e3:(⟨base,List.map (fun x:cU × Value=>x.1) [],L'.fs,0⟩:aQ)=⟨base,[],[],0⟩:=by rw[HFN.out];rfl
    have hfin2:bF (((wr.setCell ⟨lb,1,none⟩ (.int .u64 bz)).setCell ⟨lb,2,none⟩ (.slice none 0 0)).setCell ⟨lb,4,none⟩ (.int .i64 0)) lb db mb tb (.slice none 0 0) (.slice fa n fc) [] D' ⟨base,[],[],0⟩:=by rw[<- e3];exact hfin
    have hk:Kept wr (((wr.setCell ⟨lb,1,none⟩ (.int .u64 bz)).setCell ⟨lb,2,none⟩ (.slice none 0 0)).setCell ⟨lb,4,none⟩ (.int .i64 0)) (fun k=>k=lb):=((Kept.setCell wr ⟨lb,1,none⟩ _).trans (Kept.setCell _ ⟨lb,2,none⟩ _)).trans (Kept.setCell _ ⟨lb,4,none⟩ _);have hs4:=HST.out.trans (w2:=(((wr.setCell ⟨lb,1,none⟩ (.int .u64 bz)).setCell ⟨lb,2,none⟩ (.slice none 0 0)).setCell ⟨lb,4,none⟩ (.int .i64 0))) (ev'':=.slice none 0 0) (fv'':=.slice fa n fc) ⟨hk.mono fun k _ e=>.inl e,nofun,fun b hb=>.inl hb⟩;exact⟨rfl,_,_,_,hfin2,hs4.1,hs4.2.1,hs4.2.2⟩
   ·have hne:L'.fs ≠ []:=fun e=>h0 (by rw[<- HN.out,e];rfl);have hn0:(0:Int)<(n:Int):=by omega
    have hn1:0<n:=by omega
    have HNE:=hid hne;have HLN:Hid (bF wr lb db mb tb ev' (.slice fa L'.fs.length fc) el' D' L'):=hid (by rw[HN.out];exact HL.out);clear h0 hne;go_wp2_with fail;refine(aLl HL.out HG'.out.wf HOK'.out HNE.out HF'.out).mono ?_;rintro e w2 ⟨rfl,ev2,fv2,el2,hl2,hst2⟩;have L2:=hid hl2;have ST2:=hid (HST.out.trans hst2);have hl8:=(tQ L' HG'.out (by have:=HS'.out;have:=HN.out;omega));have HG2:=hid hl8;obtain⟨k,hk⟩:∃k,(popW D' L').2.2=k:=⟨_,rfl⟩;have HK:=hid hk;rw[hk];clear hl2 hst2 hl8 hk;by_cases hk0:k=0
    ·have bk:((k:Int) != 0)=false:=by rw[hk0];rfl
     have HK0:Hid ((popW D' L').2.2=0):=hid (HK.out.trans hk0);clear hk0;go_wp2_with fail
     go_roundw
     case rel =>
      have hfl:=vW D' L' HNE.out HK0.out;refine⟨(popW D' L').1,(popW D' L').2.1,⟨ev2,fv2,el2,L2.out,ST2.out⟩,?_,HG2.out.1,HOK'.out.pop,?_,?_⟩
      ·rw[<- HRF.out,sD HNE.out HK0.out]
      ·have:=HG2.out.2;have:=HS'.out;omega
      ·have:=HF'.out;omega
     case measure =>
      have hfl:=vW D' L' HNE.out HK0.out;rw[HL.out.nfs,L2.out.nfs];omega
    ·have bk:((k:Int) != 0)=true:=by simp;omega
     have HK0:Hid ((popW D' L').2.2≠0):=hid (by rw[HK.out];exact hk0);clear hk0;go_wp2_with fail;go_ret;rw[HR.out,<- HRF.out,uW HNE.out HK0.out];exact⟨by rw[HK.out];rfl,_,_,_,L2.out,ST2.out.1,ST2.out.2.1,ST2.out.2.2⟩

theorem aEv {lb db mb tb:Nat}{ev fv:Value}{el:bN}{D:aA}{L:aQ}{w:World}(h:bF w lb db mb tb ev fv el D L)(hq:L.safe=L.es.length) :
  Calls Tryz.prog 58 #[.pointer (some ⟨lb,0,none⟩)] w (gM lb db mb tb ev fv (cB D L) w):=by
 have HR:Hid (cB D L=(D,L,0)):=hid (by unfold cB;rw[if_pos hq]);have HH:=hid h;obtain⟨a0,c0,rfl,_⟩:=h.gA;have c4:=h.c4;have c2:=h.c2;rw[hq]at c4;have be:((L.es.length:Int)==(L.es.length:Int))=true:=by simp
 clear h hq;go_enter Tryz.func58,Tryz.ntmps58;go_wp2_with fail;refine(mD HH.out).mono ?_;rintro e w1 ⟨rfl,rfl⟩;go_wp2_with fail
 go_quiet (fail)
 go_wp2_with fail;go_ret;rw[HR.out];exact⟨rfl,_,_,_,HH.out.below (Below.drewN _ _),aX.below (Below.drewN _ _)⟩

theorem aIf {lb db mb tb:Nat}{ev fv:Value}{el:bN}{D:aA}{L:aQ}{w:World}{f:WF}(h:bF w lb db mb tb ev fv el D L)(hw:DWf D)(hnmf:∀f ∈ L.fs,1<=f.f/\f.f<1152921504606846976)(hf:L.fs.getLast? = some f)(hq:L.safe≠L.es.length)(hs:L.fs.length<=1000000) :
  Calls Tryz.prog 58 #[.pointer (some ⟨lb,0,none⟩)] w (gM lb db mb tb ev fv (cB D L) w):=by
 have HR:Hid (cB D L=if (syncD D (aK f.f)).2≠0 then ((syncD D (aK f.f)).1,L,(syncD D (aK f.f)).2) else ((syncD D (aK f.f)).1,{ L with safe:=L.es.length },0)):=hid (by unfold cB;rw[if_neg hq,hf]);have hfm:f ∈ L.fs:=List.mem_of_getLast? hf;have hne:L.fs ≠ []:=List.ne_nil_of_mem hfm;obtain⟨m,hm⟩:∃m,L.fs.length=m+1:=⟨L.fs.length-1,by have:=List.length_pos_iff.2 hne;omega⟩;obtain⟨g,c,rfl,hc,hg⟩:=cM.some h.fr (by simpa using hne);rw[List.length_map]at h hc ⊢;obtain⟨a0,c0,rfl,_⟩:=h.gA;obtain⟨n,hn⟩:∃n,L.fs.length=n:=⟨_,rfl⟩;rw[hn]at h hs ⊢;have hnm:n=m+1:=by omega
 have HF:=hid hf;have HM:=hid hm;have HW:=hid hw;have HNM:=hid (hnmf f hfm);have HNS:Hid ((aK f.f).size<=maxLen):=hid (Nat.le_trans (fG f.f) (by decide));have HH:=hid h;have hs':(n:Int)<=4294967296:=by omega
 have c4:=h.c4;have c2:=h.c2;have be:((L.safe:Int)==(L.es.length:Int))=false:=by simp;omega
 clear h hf hm hw hne hfm hg hc hn hs hq hnmf;go_enter Tryz.func58,Tryz.ntmps58;go_wp2_with fail;refine(mD HH.out).mono ?_;rintro e w1 ⟨rfl,rfl⟩;go_wp2_with fail
 go_quiet (fail)
 generalize hwq:World.drewN w _=wq;have BQ:Below w.heap.size w wq:=by subst hwq;exact Below.drewN _ _
 have HQ:=hid (HH.out.below BQ);have S1:Hid (aX lb db mb tb w (.slice a0 L.es.length c0) (.slice (some ⟨g,0,none⟩) n c) wq (.slice a0 L.es.length c0) (.slice (some ⟨g,0,none⟩) n c)):=hid (aX.below BQ);have ST:=aR.from wq;clear hwq BQ c2 c4;go_wp2_with fail;refine aU [0,1,3,7,0,16,48,112,240,511,1023] 480 (fun w'=>Below wq.heap.size wq w') (by kernel_rfl) ?_;refine aB [0,1,2,3,4] (by kernel_rfl) (L:=bm 11 31) (by kernel_rfl) (f':=6) rfl (fun _ _ _ _ h=>h) (fun w o h=>ST.alloc h o) (.inr (by first|exact Below.refl _ _|exact(Below.refl _ _).drew)) ?_;simp only[sF,sL]
 iterate 5 (first|(refine aW _ (by rfl) (fun w' hs=>by have Y:=HQ.out.below hs;have b0:=Y.c0;obtain⟨q0,q1,q2⟩:=Y.jZ HF.out HM.out;go_simp;try with_reducible rfl) rfl ?_;simp only[Act.put,sA])|(refine aC _ (by rfl) (fun w'=>by go_simp;try with_reducible rfl) ?_;simp only[Act.put,sA]))
 refine aI ?_;refine aM 5 (by kernel_rfl) (L:=bm 11 63) (by kernel_rfl) ?_;simp only[sL];go_wp2_with fail;have HHd:=hid (HQ.out.below ((Below.refl wq.heap.size wq).drew));refine(iK HHd.out hnm hs').mono ?_;rintro e u5 ⟨rfl,hb5⟩;have I5:Hid (Below wq.heap.size wq u5):=hid (((Below.refl wq.heap.size wq).drew).trans hb5);clear hb5 HHd;go_wp2_with fail;refine aH (fun _=>I5.out) ?_;refine aB [6,7] (by kernel_rfl) (L:=bm 11 255) (by kernel_rfl) (f':=3) rfl (fun _ _ _ _ h=>h) (fun w o h=>ST.alloc h o) (.inr I5.out) ?_;simp only[sF,sL]
 iterate 2 (first|(refine aW _ (by rfl) (fun w' hs=>by have Y:=HQ.out.below hs;have b0:=Y.c0;obtain⟨q0,q1,q2⟩:=Y.jZ HF.out HM.out;go_simp;try with_reducible rfl) rfl ?_;simp only[Act.put,sA])|(refine aC _ (by rfl) (fun w'=>by go_simp;try with_reducible rfl) ?_;simp only[Act.put,sA]))
 refine aI ?_;refine aM 8 (by kernel_rfl) (L:=bm 11 511) (by kernel_rfl) ?_;simp only[sL];go_wp2_with fail;refine(qS f.f f.m f.s u5 HNM.out.1 HNM.out.2).mono ?_;rintro e u8 ⟨rfl,hb8⟩;have I8:Hid (Below wq.heap.size wq u8):=hid (I5.out.trans (hb8.mono I5.out.size));clear hb8;go_wp2_with fail;refine aH (fun _=>I8.out) ?_;refine aM 9 (by kernel_rfl) (L:=bm 11 1023) (by kernel_rfl) ?_;simp only[sL];go_wp2_with fail;have L8:=hid (HQ.out.below I8.out);refine(iY db mb tb D (aK f.f) u8 L8.out.dZ HW.out HNS.out).mono ?_;rintro e w2 ⟨rfl,hd2,hk2⟩;have L2:Hid (bF w2 lb db mb tb (.slice a0 L.es.length c0) (.slice (some ⟨g,0,none⟩) n c) el (syncD D (aK f.f)).1 L):=hid (L8.out.oQ hd2 hk2);have S2:Hid (aX lb db mb tb w (.slice a0 L.es.length c0) (.slice (some ⟨g,0,none⟩) n c) w2 (.slice a0 L.es.length c0) (.slice (some ⟨g,0,none⟩) n c)):=hid (S1.out.trans ((aX.below I8.out).trans (aX.dZ hk2)));clear hd2 hk2;generalize (syncD D (aK f.f)).1=D' at *;generalize (syncD D (aK f.f)).2=k at *;go_wp2_with fail;refine aH nofun ?_;refine aB [10] (by kernel_rfl) (L:=bm 11 2047) (by kernel_rfl) (f':=0) rfl (fun _ _ _ _ h=>h) (fun w o h=>ST.alloc h o) (.inl (by kernel_rfl)) ?_;simp only[sF,sL]
 iterate 1 (refine aC _ (by rfl) (fun w'=>by go_simp;try with_reducible rfl) ?_;simp only[Act.put,sA])
 refine aI ?_;refine bC (by kernel_rfl) ?_;by_cases hk0:k=0
 ·have hkb:((k:Int) != 0)=false:=by rw[hk0];rfl
  have HK0:=hid hk0;have d2:=L2.out.c2;have d4:=L2.out.c4;have f4:=L2.out.fz 4 (by decide) (by decide);clear hk0;go_wp2_with fail;go_ret;rw[HR.out,if_neg fun h=>h HK0.out];have hfin:=L2.out.eN L.es.length;have hS:=S2.out.trans (aX.own (Kept.setCell w2 ⟨lb,4,none⟩ (.int .i64 L.es.length)))
  first
   | exact⟨rfl,_,_,_,hfin,hS.1,hS.2.1,hS.2.2⟩
   | exact⟨rfl,_,_,_,hfin.below ((Below.refl _ _).drew),(hS.trans (aX.below ((Below.refl _ _).drew))).1,(hS.trans (aX.below ((Below.refl _ _).drew))).2.1,(hS.trans (aX.below ((Below.refl _ _).drew))).2.2⟩
 ·have hkb:((k:Int) != 0)=true:=by simp;omega
  have HK0:=hid hk0;clear hk0;go_wp2_with fail;go_ret;rw[HR.out,if_pos HK0.out];exact⟨rfl,_,_,_,L2.out,S2.out.1,S2.out.2.1,S2.out.2.2⟩

theorem aDj {lb db mb tb:Nat}{ev fv:Value}{el:bN}{D:aA}{L:aQ}{w:World}(h:bF w lb db mb tb ev fv el D L)(hn:L.fs = []) :
  Calls Tryz.prog 65 #[.pointer (some ⟨lb,0,none⟩)] w (gM lb db mb tb ev fv ((bU D L).1,L,(bU D L).2) w):=by
 have HR:Hid (bU D L=(D,0)):=hid (by unfold bU;rw[hn];rfl);have HH:=hid h;have HN:=hid hn;clear h hn;go_enter Tryz.func65,Tryz.ntmps65;go_wp2_with fail;refine(aAY HH.out HN.out).mono ?_;rintro e w1 ⟨rfl,rfl⟩;go_wp2_with fail;go_ret;rw[HR.out];exact⟨rfl,_,_,_,HH.out,aX.refl _ _ _ _ _ _ _⟩

theorem aDi {lb db mb tb:Nat}{ev fv:Value}{el:bN}{D:aA}{L:aQ}{w:World}{f:WF}(h:bF w lb db mb tb ev fv el D L)(hg':aY D)(hst:D.steps+2<=1000000000)(hnmf:∀f ∈ L.fs,1<=f.f/\f.f<1152921504606846976)(hf:L.fs.getLast? = some f)(hs:L.fs.length<=1000000)(_hsz:(f.s:Int)<=2097152)(hfe:bI D (aK f.f)≠0) :
  Calls Tryz.prog 65 #[.pointer (some ⟨lb,0,none⟩)] w (gM lb db mb tb ev fv ((bU D L).1,L,(bU D L).2) w):=by
 have HR:Hid (bU D L=(D,bI D (aK f.f))):=hid (by unfold bU;rw[hf];simp only;rw[if_pos hfe]);have HFE:=hid hfe;have hfm:f ∈ L.fs:=List.mem_of_getLast? hf;have hne:L.fs ≠ []:=List.ne_nil_of_mem hfm;obtain⟨m,hm⟩:∃m,L.fs.length=m+1:=⟨L.fs.length-1,by have:=List.length_pos_iff.2 hne;omega⟩;obtain⟨g,c,rfl,hc,hg⟩:=cM.some h.fr (by simpa using hne);rw[List.length_map]at h hc ⊢;obtain⟨a0,c0,rfl,_⟩:=h.gA;obtain⟨n,hn⟩:∃n,L.fs.length=n:=⟨_,rfl⟩;rw[hn]at h hs ⊢;have hnm:n=m+1:=by omega
 have HF:=hid hf;have HM:=hid hm;have HG:=hid hg';have HST:=hid hst;have HNM:=hid (hnmf f hfm);have HNS:Hid ((aK f.f).size<=maxLen):=hid (Nat.le_trans (fG f.f) (by decide));have HH:=hid h;have hs':(n:Int)<=4294967296:=by omega
 clear hfe _hsz h hf hm hg' hne hfm hg hc hn hs hst hnmf;go_enter Tryz.func65,Tryz.ntmps65;go_wp2_with fail;refine(iK HH.out hnm hs').mono ?_;rintro e w1 ⟨rfl,hb1⟩;have HL1:=hid (HH.out.below hb1);have S1:Hid (aX lb db mb tb w (.slice a0 L.es.length c0) (.slice (some ⟨g,0,none⟩) n c) w1 (.slice a0 L.es.length c0) (.slice (some ⟨g,0,none⟩) n c)):=hid (aX.below hb1);clear hb1;have ST:=aR.from w1;go_wp2_with fail;refine aU [0,1,3,7,0,16,48,112,255,511,1023,1023,2047,8191] 128 (fun w'=>Below w1.heap.size w1 w') (by kernel_rfl) ?_;refine aB [0,1,2,3,4,5,6] (by kernel_rfl) (L:=bm 14 127) (by kernel_rfl) (f':=7) rfl (fun _ _ _ _ h=>h) (fun w o h=>ST.alloc h o) (.inr (by first|exact Below.refl _ _|exact(Below.refl _ _).drew)) ?_;simp only[sF,sL]
 iterate 7 (first|(refine aW _ (by rfl) (fun w' hs=>by have Y:=HL1.out.below hs;have b0:=Y.c0;obtain⟨q0,q1,q2⟩:=Y.jZ HF.out HM.out;go_simp;try with_reducible rfl) rfl ?_;simp only[Act.put,sA])|(refine aC _ (by rfl) (fun w'=>by go_simp;try with_reducible rfl) ?_;simp only[Act.put,sA]))
 refine aI ?_;refine aM 7 (by kernel_rfl) (L:=bm 14 255) (by kernel_rfl) ?_;simp only[sL];go_wp2_with fail;refine(qS f.f f.m f.s _ HNM.out.1 HNM.out.2).mono ?_;rintro e u1 ⟨rfl,hb7⟩;have Iu1:Hid (Below w1.heap.size w1 u1):=hid (by first|exact hb7|exact((Below.refl _ _).drew).trans hb7);clear hb7;go_wp2_with fail;refine aH (fun _=>Iu1.out) ?_;refine aM 8 (by kernel_rfl) (L:=bm 14 511) (by kernel_rfl) ?_;simp only[sL];go_wp2_with fail;have L7:=hid (HL1.out.below Iu1.out);refine(kJ db mb tb D (aK f.f) u1 L7.out.dZ HNS.out HFE.out).mono ?_;rintro e w2 ⟨rfl,hb2⟩;have L2:=hid (L7.out.below hb2);have S2:Hid (aX lb db mb tb w (.slice a0 L.es.length c0) (.slice (some ⟨g,0,none⟩) n c) w2 (.slice a0 L.es.length c0) (.slice (some ⟨g,0,none⟩) n c)):=hid (S1.out.trans ((aX.below Iu1.out).trans (aX.below hb2)));clear hb2;obtain⟨k,hk⟩:∃k,bI D (aK f.f)=k:=⟨_,rfl⟩;have HK:=hid hk;rw[hk];have hkn:((k:Int)==0)=false:=(by have:=HFE.out;rw[hk]at this;simp;omega);have hkm:((k:Int) != 0)=true:=(by have:=HFE.out;rw[hk]at this;simp;omega);clear hk;go_wp2_with fail;refine aH nofun ?_;refine aB [9,10,11,12,13] (by kernel_rfl) (L:=bm 14 16383) (by kernel_rfl) (f':=0) rfl (fun _ _ _ _ h=>h) (fun w o h=>ST.alloc h o) (.inl (by kernel_rfl)) ?_;simp only[sF,sL]
 iterate 5 (refine aC _ (by rfl) (fun w'=>by go_simp;try with_reducible rfl) ?_;simp only[Act.put,sA])
 refine aI ?_;refine bC (by kernel_rfl) ?_;go_wp2_with fail;go_ret;rw[HR.out];exact⟨by rw[HK.out];rfl,_,_,_,L2.out,S2.out.1,S2.out.2.1,S2.out.2.2⟩

theorem aDh {lb db mb tb:Nat}{ev fv:Value}{el:bN}{D:aA}{L:aQ}{w:World}{f:WF}(h:bF w lb db mb tb ev fv el D L)(hg':aY D)(hst:D.steps+2<=1000000000)(hnmf:∀f ∈ L.fs,1<=f.f/\f.f<1152921504606846976)(hf:L.fs.getLast? = some f)(hs:L.fs.length<=1000000)(_hsz:(f.s:Int)<=2097152)(hfe:bI D (aK f.f)=0)(hlt:f.s<(cW D (aK f.f)).all.length) :
  Calls Tryz.prog 65 #[.pointer (some ⟨lb,0,none⟩)] w (gM lb db mb tb ev fv ((bU D L).1,L,(bU D L).2) w):=by
 have HR:Hid (bU D L=if (cutD D (aK f.f) f.s).2≠0 then ((cutD D (aK f.f) f.s).1,(cutD D (aK f.f) f.s).2) else syncD (cutD D (aK f.f) f.s).1 (aK f.f)):=hid (by unfold bU;rw[hf];simp only;rw[if_neg (fun h=>h hfe),if_pos hlt]);have HG4:=hid (hg'.cut (aK f.f) f.s (by omega));obtain⟨hdn,fl,hfi⟩:=oR hfe;have hgf:cW D (aK f.f)=fl:=by unfold cW;rw[hfi];rfl
 rw[hgf]at hlt;have HDN:=hid hdn;have HFI:=hid hfi;have hlti:(f.s:Int)<(fl.all.length:Int):=by omega
 clear hfe hdn hfi hgf;have hfm:f ∈ L.fs:=List.mem_of_getLast? hf;have hne:L.fs ≠ []:=List.ne_nil_of_mem hfm;obtain⟨m,hm⟩:∃m,L.fs.length=m+1:=⟨L.fs.length-1,by have:=List.length_pos_iff.2 hne;omega⟩;obtain⟨g,c,rfl,hc,hg⟩:=cM.some h.fr (by simpa using hne);rw[List.length_map]at h hc ⊢;obtain⟨a0,c0,rfl,_⟩:=h.gA;obtain⟨n,hn⟩:∃n,L.fs.length=n:=⟨_,rfl⟩;rw[hn]at h hs ⊢;have hnm:n=m+1:=by omega
 have HF:=hid hf;have HM:=hid hm;have HG:=hid hg';have HST:=hid hst;have HNM:=hid (hnmf f hfm);have HNS:Hid ((aK f.f).size<=maxLen):=hid (Nat.le_trans (fG f.f) (by decide));have HH:=hid h;have hs':(n:Int)<=4294967296:=by omega
 clear hlt h hf hm hg' hne hfm hg hc hn hs hst hnmf;go_enter Tryz.func65,Tryz.ntmps65;go_wp2_with fail;refine(iK HH.out hnm hs').mono ?_;rintro e w1 ⟨rfl,hb1⟩;have HL1:=hid (HH.out.below hb1);have S1:Hid (aX lb db mb tb w (.slice a0 L.es.length c0) (.slice (some ⟨g,0,none⟩) n c) w1 (.slice a0 L.es.length c0) (.slice (some ⟨g,0,none⟩) n c)):=hid (aX.below hb1);clear hb1;have ST:=aR.from w1;go_wp2_with fail;refine aU [0,1,3,7,0,16,48,112,255,511,1023,1023,2047,8191] 128 (fun w'=>Below w1.heap.size w1 w') (by kernel_rfl) ?_;refine aB [0,1,2,3,4,5,6] (by kernel_rfl) (L:=bm 14 127) (by kernel_rfl) (f':=7) rfl (fun _ _ _ _ h=>h) (fun w o h=>ST.alloc h o) (.inr (by first|exact Below.refl _ _|exact(Below.refl _ _).drew)) ?_;simp only[sF,sL]
 iterate 7 (first|(refine aW _ (by rfl) (fun w' hs=>by have Y:=HL1.out.below hs;have b0:=Y.c0;obtain⟨q0,q1,q2⟩:=Y.jZ HF.out HM.out;go_simp;try with_reducible rfl) rfl ?_;simp only[Act.put,sA])|(refine aC _ (by rfl) (fun w'=>by go_simp;try with_reducible rfl) ?_;simp only[Act.put,sA]))
 refine aI ?_;refine aM 7 (by kernel_rfl) (L:=bm 14 255) (by kernel_rfl) ?_;simp only[sL];go_wp2_with fail;refine(qS f.f f.m f.s _ HNM.out.1 HNM.out.2).mono ?_;rintro e u1 ⟨rfl,hb7⟩;have Iu1:Hid (Below w1.heap.size w1 u1):=hid (by first|exact hb7|exact((Below.refl _ _).drew).trans hb7);clear hb7;go_wp2_with fail;refine aH (fun _=>Iu1.out) ?_;refine aM 8 (by kernel_rfl) (L:=bm 14 511) (by kernel_rfl) ?_;simp only[sL];go_wp2_with fail;have L7:=hid (HL1.out.below Iu1.out);refine(kX db mb tb D (aK f.f) fl u1 L7.out.dZ HDN.out HNS.out HFI.out).mono ?_;rintro e w2 ⟨bv,rfl,hB2,hb2⟩;have L2:=hid (L7.out.below hb2);have S2:Hid (aX lb db mb tb w (.slice a0 L.es.length c0) (.slice (some ⟨g,0,none⟩) n c) w2 (.slice a0 L.es.length c0) (.slice (some ⟨g,0,none⟩) n c)):=hid (S1.out.trans ((aX.below Iu1.out).trans (aX.below hb2)));clear hb2;have HB2:=hid hB2;obtain⟨ba,bc,rfl,_⟩:=hB2.shape;clear hB2;go_wp2_with fail;refine aH nofun ?_;refine aB [9,10,11,12,13] (by kernel_rfl) (L:=bm 14 16383) (by kernel_rfl) (f':=0) rfl (fun _ _ _ _ h=>h) (fun w o h=>ST.alloc h o) (.inl (by kernel_rfl)) ?_;simp only[sF,sL]
 iterate 5 (refine aC _ (by rfl) (fun w'=>by go_simp;try with_reducible rfl) ?_;simp only[Act.put,sA])
 refine aI ?_;refine bC (by kernel_rfl) ?_;have qq:=(L2.out.jZ HF.out HM.out).2.2;go_wp2_with fail;have STc:=aR.from w2;refine aU [0,1,3,7,0,16,48,112,0,256,768,1792,4095,8191] 128 (fun w'=>Below w2.heap.size w2 w') (by kernel_rfl) ?_;refine aB [0,1,2,3,4,5,6,8,9,10,11] (by kernel_rfl) (L:=bm 14 3967) (by kernel_rfl) (f':=3) rfl (fun _ _ _ _ h=>h) (fun w o h=>STc.alloc h o) (.inr (by first|exact Below.refl _ _|exact(Below.refl _ _).drew)) ?_;simp only[sF,sL]
 iterate 11 (first|(refine aW _ (by rfl) (fun w' hs=>by have Y:=L2.out.below hs;have b0:=Y.c0;obtain⟨q0,q1,q2⟩:=Y.jZ HF.out HM.out;go_simp;try with_reducible rfl) rfl ?_;simp only[Act.put,sA])|(refine aC _ (by rfl) (fun w'=>by go_simp;try with_reducible rfl) ?_;simp only[Act.put,sA]))
 refine aI ?_;refine aM 7 (by kernel_rfl) (L:=bm 14 4095) (by kernel_rfl) ?_;simp only[sL];go_wp2_with fail;refine(qS f.f f.m f.s _ HNM.out.1 HNM.out.2).mono ?_;rintro e u3 ⟨rfl,hb7⟩;have Iu3:Hid (Below w2.heap.size w2 u3):=hid (by first|exact hb7|exact((Below.refl _ _).drew).trans hb7);clear hb7;go_wp2_with fail;refine aH (fun _=>Iu3.out) ?_;refine aM 12 (by kernel_rfl) (L:=bm 14 8191) (by kernel_rfl) ?_;simp only[sL];go_wp2_with fail;have L7c:=hid (L2.out.below Iu3.out);refine(aBZ db mb tb D (aK f.f) f.s u3 L7c.out.dZ HG.out.wf HNS.out).mono ?_;rintro e w4 ⟨rfl,hd4,hk4⟩;have L4:Hid (bF w4 lb db mb tb (.slice a0 L.es.length c0) (.slice (some ⟨g,0,none⟩) n c) el (cutD D (aK f.f) f.s).1 L):=hid (L7c.out.oQ hd4 hk4);have S4:Hid (aX lb db mb tb w (.slice a0 L.es.length c0) (.slice (some ⟨g,0,none⟩) n c) w4 (.slice a0 L.es.length c0) (.slice (some ⟨g,0,none⟩) n c)):=hid (S2.out.trans ((aX.below Iu3.out).trans (aX.dZ hk4)));clear hd4 hk4;generalize (cutD D (aK f.f) f.s).1=D4 at *;generalize (cutD D (aK f.f) f.s).2=k at *;go_wp2_with fail;refine aH nofun ?_;refine aB [13] (by kernel_rfl) (L:=bm 14 16383) (by kernel_rfl) (f':=0) rfl (fun _ _ _ _ h=>h) (fun w o h=>STc.alloc h o) (.inl (by kernel_rfl)) ?_;simp only[sF,sL]
 iterate 1 (refine aC _ (by rfl) (fun w'=>by go_simp;try with_reducible rfl) ?_;simp only[Act.put,sA])
 refine aI ?_;refine bC (by kernel_rfl) ?_;by_cases hk0:k=0
 ·have hkb:((k:Int) != 0)=false:=by rw[hk0];rfl
  have HK0:=hid hk0;have STs:=aR.from w4;clear hk0 qq;go_wp2_with fail;refine aU [0,1,3,7,0,16,48,112,255,511] 128 (fun w'=>Below w4.heap.size w4 w') (by kernel_rfl) ?_;refine aB [0,1,2,3,4,5,6] (by kernel_rfl) (L:=bm 10 127) (by kernel_rfl) (f':=3) rfl (fun _ _ _ _ h=>h) (fun w o h=>STs.alloc h o) (.inr (by first|exact Below.refl _ _|exact(Below.refl _ _).drew)) ?_;simp only[sF,sL]
  iterate 7 (first|(refine aW _ (by rfl) (fun w' hs=>by have Y:=L4.out.below hs;have b0:=Y.c0;obtain⟨q0,q1,q2⟩:=Y.jZ HF.out HM.out;go_simp;try with_reducible rfl) rfl ?_;simp only[Act.put,sA])|(refine aC _ (by rfl) (fun w'=>by go_simp;try with_reducible rfl) ?_;simp only[Act.put,sA]))
  refine aI ?_;refine aM 7 (by kernel_rfl) (L:=bm 10 255) (by kernel_rfl) ?_;simp only[sL];go_wp2_with fail;refine(qS f.f f.m f.s _ HNM.out.1 HNM.out.2).mono ?_;rintro e u5 ⟨rfl,hb7⟩;have Iu5:Hid (Below w4.heap.size w4 u5):=hid (by first|exact hb7|exact((Below.refl _ _).drew).trans hb7);clear hb7;go_wp2_with fail;refine aH (fun _=>Iu5.out) ?_;refine aM 8 (by kernel_rfl) (L:=bm 10 511) (by kernel_rfl) ?_;simp only[sL];go_wp2_with fail;have L7s:=hid (L4.out.below Iu5.out);refine(iY db mb tb D4 (aK f.f) u5 L7s.out.dZ HG4.out.1.wf HNS.out).mono ?_;rintro e w6 ⟨rfl,hd6,hk6⟩;have L6:=hid (L7s.out.oQ hd6 hk6);have S6:Hid (aX lb db mb tb w (.slice a0 L.es.length c0) (.slice (some ⟨g,0,none⟩) n c) w6 (.slice a0 L.es.length c0) (.slice (some ⟨g,0,none⟩) n c)):=hid (S4.out.trans ((aX.below Iu5.out).trans (aX.dZ hk6)));clear hd6 hk6;obtain⟨k6,hk6⟩:∃k,(syncD D4 (aK f.f)).2=k:=⟨_,rfl⟩;have HK6:=hid hk6;rw[hk6];clear hk6;go_wp2_with fail;refine aH nofun ?_;refine aB [9] (by kernel_rfl) (L:=bm 10 1023) (by kernel_rfl) (f':=0) rfl (fun _ _ _ _ h=>h) (fun w o h=>STs.alloc h o) (.inl (by kernel_rfl)) ?_;simp only[sF,sL]
  iterate 1 (refine aC _ (by rfl) (fun w'=>by go_simp;try with_reducible rfl) ?_;simp only[Act.put,sA])
  refine aI ?_;refine bC (by kernel_rfl) ?_;go_wp2_with fail;go_ret;rw[HR.out,if_neg fun h=>h HK0.out];exact⟨by rw[HK6.out];rfl,_,_,_,L6.out,S6.out.1,S6.out.2.1,S6.out.2.2⟩
 ·have hkb:((k:Int) != 0)=true:=by simp;omega
  have HK0:=hid hk0;clear hk0;go_wp2_with fail;go_ret;rw[HR.out,if_pos HK0.out];exact⟨rfl,_,_,_,L4.out,S4.out.1,S4.out.2.1,S4.out.2.2⟩

theorem aBG {lb db mb tb:Nat}{ev fv:Value}{el:bN}{D:aA}{L:aQ}{w:World}{f:WF}(h:bF w lb db mb tb ev fv el D L)(hg':aY D)(hst:D.steps+2<=1000000000)(hnmf:∀f ∈ L.fs,1<=f.f/\f.f<1152921504606846976)(hf:L.fs.getLast? = some f)(hs:L.fs.length<=1000000)(_hsz:(f.s:Int)<=2097152)(hfe:bI D (aK f.f)=0)(hlt:¬f.s<(cW D (aK f.f)).all.length) :
  Calls Tryz.prog 65 #[.pointer (some ⟨lb,0,none⟩)] w (gM lb db mb tb ev fv ((bU D L).1,L,(bU D L).2) w):=by
 have HR:Hid (bU D L=syncD D (aK f.f)):=hid (by unfold bU;rw[hf];simp only;rw[if_neg (fun h=>h hfe),if_neg hlt]);obtain⟨hdn,fl,hfi⟩:=oR hfe;have hgf:cW D (aK f.f)=fl:=by unfold cW;rw[hfi];rfl
 rw[hgf]at hlt;have HDN:=hid hdn;have HFI:=hid hfi;have hlti:(fl.all.length:Int)<=(f.s:Int):=by omega
 clear hfe hdn hfi hgf;have hfm:f ∈ L.fs:=List.mem_of_getLast? hf;have hne:L.fs ≠ []:=List.ne_nil_of_mem hfm;obtain⟨m,hm⟩:∃m,L.fs.length=m+1:=⟨L.fs.length-1,by have:=List.length_pos_iff.2 hne;omega⟩;obtain⟨g,c,rfl,hc,hg⟩:=cM.some h.fr (by simpa using hne);rw[List.length_map]at h hc ⊢;obtain⟨a0,c0,rfl,_⟩:=h.gA;obtain⟨n,hn⟩:∃n,L.fs.length=n:=⟨_,rfl⟩;rw[hn]at h hs ⊢;have hnm:n=m+1:=by omega
 have HF:=hid hf;have HM:=hid hm;have HG:=hid hg';have HST:=hid hst;have HNM:=hid (hnmf f hfm);have HNS:Hid ((aK f.f).size<=maxLen):=hid (Nat.le_trans (fG f.f) (by decide));have HH:=hid h;have hs':(n:Int)<=4294967296:=by omega
 clear hlt h hf hm hg' hne hfm hg hc hn hs hst hnmf;go_enter Tryz.func65,Tryz.ntmps65;go_wp2_with fail;refine(iK HH.out hnm hs').mono ?_;rintro e w1 ⟨rfl,hb1⟩;have HL1:=hid (HH.out.below hb1);have S1:Hid (aX lb db mb tb w (.slice a0 L.es.length c0) (.slice (some ⟨g,0,none⟩) n c) w1 (.slice a0 L.es.length c0) (.slice (some ⟨g,0,none⟩) n c)):=hid (aX.below hb1);clear hb1;have ST:=aR.from w1;go_wp2_with fail;refine aU [0,1,3,7,0,16,48,112,255,511,1023,1023,2047,8191] 128 (fun w'=>Below w1.heap.size w1 w') (by kernel_rfl) ?_;refine aB [0,1,2,3,4,5,6] (by kernel_rfl) (L:=bm 14 127) (by kernel_rfl) (f':=7) rfl (fun _ _ _ _ h=>h) (fun w o h=>ST.alloc h o) (.inr (by first|exact Below.refl _ _|exact(Below.refl _ _).drew)) ?_;simp only[sF,sL]
 iterate 7 (first|(refine aW _ (by rfl) (fun w' hs=>by have Y:=HL1.out.below hs;have b0:=Y.c0;obtain⟨q0,q1,q2⟩:=Y.jZ HF.out HM.out;go_simp;try with_reducible rfl) rfl ?_;simp only[Act.put,sA])|(refine aC _ (by rfl) (fun w'=>by go_simp;try with_reducible rfl) ?_;simp only[Act.put,sA]))
 refine aI ?_;refine aM 7 (by kernel_rfl) (L:=bm 14 255) (by kernel_rfl) ?_;simp only[sL];go_wp2_with fail;refine(qS f.f f.m f.s _ HNM.out.1 HNM.out.2).mono ?_;rintro e u1 ⟨rfl,hb7⟩;have Iu1:Hid (Below w1.heap.size w1 u1):=hid (by first|exact hb7|exact((Below.refl _ _).drew).trans hb7);clear hb7;go_wp2_with fail;refine aH (fun _=>Iu1.out) ?_;refine aM 8 (by kernel_rfl) (L:=bm 14 511) (by kernel_rfl) ?_;simp only[sL];go_wp2_with fail;have L7:=hid (HL1.out.below Iu1.out);refine(kX db mb tb D (aK f.f) fl u1 L7.out.dZ HDN.out HNS.out HFI.out).mono ?_;rintro e w2 ⟨bv,rfl,hB2,hb2⟩;have L2:=hid (L7.out.below hb2);have S2:Hid (aX lb db mb tb w (.slice a0 L.es.length c0) (.slice (some ⟨g,0,none⟩) n c) w2 (.slice a0 L.es.length c0) (.slice (some ⟨g,0,none⟩) n c)):=hid (S1.out.trans ((aX.below Iu1.out).trans (aX.below hb2)));clear hb2;have HB2:=hid hB2;obtain⟨ba,bc,rfl,_⟩:=hB2.shape;clear hB2;go_wp2_with fail;refine aH nofun ?_;refine aB [9,10,11,12,13] (by kernel_rfl) (L:=bm 14 16383) (by kernel_rfl) (f':=0) rfl (fun _ _ _ _ h=>h) (fun w o h=>ST.alloc h o) (.inl (by kernel_rfl)) ?_;simp only[sF,sL]
 iterate 5 (refine aC _ (by rfl) (fun w'=>by go_simp;try with_reducible rfl) ?_;simp only[Act.put,sA])
 refine aI ?_;refine bC (by kernel_rfl) ?_;have qq:=(L2.out.jZ HF.out HM.out).2.2;go_wp2_with fail;have STs:=aR.from w2;refine aU [0,1,3,7,0,16,48,112,255,511] 128 (fun w'=>Below w2.heap.size w2 w') (by kernel_rfl) ?_;refine aB [0,1,2,3,4,5,6] (by kernel_rfl) (L:=bm 10 127) (by kernel_rfl) (f':=3) rfl (fun _ _ _ _ h=>h) (fun w o h=>STs.alloc h o) (.inr (by first|exact Below.refl _ _|exact(Below.refl _ _).drew)) ?_;simp only[sF,sL]
 iterate 7 (first|(refine aW _ (by rfl) (fun w' hs=>by have Y:=L2.out.below hs;have b0:=Y.c0;obtain⟨q0,q1,q2⟩:=Y.jZ HF.out HM.out;go_simp;try with_reducible rfl) rfl ?_;simp only[Act.put,sA])|(refine aC _ (by rfl) (fun w'=>by go_simp;try with_reducible rfl) ?_;simp only[Act.put,sA]))
 refine aI ?_;refine aM 7 (by kernel_rfl) (L:=bm 10 255) (by kernel_rfl) ?_;simp only[sL];go_wp2_with fail;refine(qS f.f f.m f.s _ HNM.out.1 HNM.out.2).mono ?_;rintro e u5 ⟨rfl,hb7⟩;have Iu5:Hid (Below w2.heap.size w2 u5):=hid (by first|exact hb7|exact((Below.refl _ _).drew).trans hb7);clear hb7;go_wp2_with fail;refine aH (fun _=>Iu5.out) ?_;refine aM 8 (by kernel_rfl) (L:=bm 10 511) (by kernel_rfl) ?_;simp only[sL];go_wp2_with fail;have L7s:=hid (L2.out.below Iu5.out);refine(iY db mb tb D (aK f.f) u5 L7s.out.dZ HG.out.wf HNS.out).mono ?_;rintro e w6 ⟨rfl,hd6,hk6⟩;have L6:=hid (L7s.out.oQ hd6 hk6);have S6:Hid (aX lb db mb tb w (.slice a0 L.es.length c0) (.slice (some ⟨g,0,none⟩) n c) w6 (.slice a0 L.es.length c0) (.slice (some ⟨g,0,none⟩) n c)):=hid (S2.out.trans ((aX.below Iu5.out).trans (aX.dZ hk6)));clear hd6 hk6;obtain⟨k6,hk6⟩:∃k,(syncD D (aK f.f)).2=k:=⟨_,rfl⟩;have HK6:=hid hk6;rw[hk6];clear hk6;go_wp2_with fail;refine aH nofun ?_;refine aB [9] (by kernel_rfl) (L:=bm 10 1023) (by kernel_rfl) (f':=0) rfl (fun _ _ _ _ h=>h) (fun w o h=>STs.alloc h o) (.inl (by kernel_rfl)) ?_;simp only[sF,sL]
 iterate 1 (refine aC _ (by rfl) (fun w'=>by go_simp;try with_reducible rfl) ?_;simp only[Act.put,sA])
 refine aI ?_;refine bC (by kernel_rfl) ?_;go_wp2_with fail;go_ret;rw[HR.out];exact⟨by rw[HK6.out];rfl,_,_,_,L6.out,S6.out.1,S6.out.2.1,S6.out.2.2⟩

theorem aDU {w:World}{base:Nat}{e:TypeId}{k:IntKind}{v:Value}{zs:List Int}(h:cC w base e k v zs):∃a n c,v=Value.slice a n c:=let ⟨a,c,h⟩:=h.shape;⟨a,_,c,h⟩
theorem aCn {i j:Nat}{ms:List cU}(h:j<ms.length):linesW i (ms.take (j+1))=linesW i (ms.take j)++jN (i+j) ms[j]:=by
 rw[List.take_succ_eq_append_getElem h,nP,List.length_take,Nat.min_eq_left (Nat.le_of_lt h)];show linesW i (ms.take j)++(jN (i+j) ms[j] ++ [])=_;rw[List.append_nil]
theorem aFK (i j:Nat)(ms:List cU):(linesW i (ms.take j)).length<=(linesW i ms).length:=by
 conv=>rhs;rw[<- List.take_append_drop j ms,nP,List.length_append]
 omega

theorem aKs {i:Nat}{v:Value}{el:bN}{ms:List cU}{w:World}(hs:bJ w 3 v (aN el))(hd:cA w (fun _=>False) el)(hm:el.map (·.1)=ms)(hl:(linesW i ms).length<=2097152)(hn:ms.length<=2147483648)(hi:i<=1152921506754330625) :
  Calls Tryz.prog 112 #[.int .u64 i,v] w fun e w'=>Below w.heap.size w w'/\((∀e ∈ ms,e.ok) -> ∃v',e = .returned (.tuple #[v',.int .i64 0])/\cC w' w.heap.size 5 .u8 v' (ints (linesW i ms)) /\ ∀c ∈ linesW i ms,c<256)/\(¬(∀e ∈ ms,e.ok)->e = .returned (.tuple #[.slice none 0 0,.int .i64 2])):=by
 have HS:=hid hs;have HD:=hid hd;have HM:=hid hm;have HL:=hid hl;have hel:el.length=ms.length:=by rw[<- hm,List.length_map]
 obtain⟨n,hnn⟩:∃n,ms.length=n:=⟨_,rfl⟩;have HN:=hid hnn;have HEL:Hid (el.length=n):=hid (hel.trans hnn);obtain⟨a,c,rfl,_⟩:=hs.shape;rw[aO,hel,hnn]at HS ⊢;obtain⟨iz,hiz⟩:∃iz:Int,(i:Int)=iz:=⟨_,rfl⟩;have HIZ:=hid hiz;have hi0:0<=iz:=by omega
 have hi1:iz<=1152921506754330625:=by omega
 have hn1:(n:Int)<=2147483648:=by omega
 rw[hiz];clear hs hd hm hl hn hi hel hnn hiz;go_enter Tryz.func112,Tryz.ntmps112;go_wp2_with fail
 go_loopw [4,6,7,8,9,12] (fun x4 _ _ _ _ x12 wr=>∃(j:Nat) (bv:Value),j<=n/\x12 = .int .i64 j/\x4=bv/\cC wr w.heap.size 5 .u8 bv (ints (linesW i (ms.take j)))/\(∀c ∈ linesW i (ms.take j),c<256)/\(∀e ∈ ms.take j,e.ok)/\Below w.heap.size w wr) (fun _ _ _ _ _ x12 _=>n-(intOf x12).toNat)
 case atStart=>exact⟨0,_,Nat.zero_le _,rfl,rfl,cC.nil _ _ _ _,nofun,nofun,Below.refl _ _⟩
 case round =>
  obtain⟨j,bv,hj,rfl,rfl,ho,hc,hok,hb⟩:=hrel;have HO:=hid ho;have HC:=hid hc;have HOK:=hid hok;have HB:=hid hb;obtain⟨ba,bc,rfl⟩:=ho.shape;clear ho hc hok hb;by_cases hlt:j<n
  ·have hjm:j<ms.length:=by rw[HN.out];exact hlt
   have hje:j<el.length:=by rw[HEL.out];exact hlt
   obtain⟨p,hp⟩:∃p,el[j]=p:=⟨_,rfl⟩;have hpe:ms[j]=p.1:=by
    have h:=HM.out;subst h;rw[List.getElem_map,hp]
   have hpm:p ∈ el:=hp ▸ List.getElem_mem hje;have HSN:Hid (linesW i (ms.take (j+1))=linesW i (ms.take j)++jN (i+j) p.1):=hid (by rw[aCn hjm,hpe]);have HTK:Hid (ms.take (j+1)=ms.take j ++ [p.1]):=hid (by rw[List.take_succ_eq_append_getElem hjm,hpe]);have HLE:Hid ((linesW i (ms.take j)).length+(jN (i+j) p.1).length<=2097152):=hid (by
    have h:=aFK i (j+1) ms;rw[HSN.out,List.length_append]at h;have:=HL.out;omega)
   obtain⟨hpB,hpf,_⟩:=HD.out p hpm;have HPB:=hid (hpB.below HB.out);have hrow:(aN el)[j]'(by rw[aO];exact hje)=eP p:=by simp[aN,hp]
   obtain⟨b,o,rfl,hbl,hcell⟩:=HS.out.at (j:=j) (by rw[aO];exact hje);rw[hrow]at hcell;have q0:wr.cell? ⟨b,o+j*3,none⟩=some (.int .u64 p.1.t):=Below.at HB.out (hcell 0 _ rfl) hbl;have q1:=Below.at HB.out (hcell 1 _ rfl) hbl;have q2:=Below.at HB.out (hcell 2 _ rfl) hbl;obtain⟨⟨t,k,d⟩,dv⟩:=p;simp only at q0 q1 q2 HPB HSN HTK HLE hpf;obtain⟨da,dc,rfl,_⟩:=HPB.out.shape;obtain⟨ix,hix⟩:∃ix:Nat,i+j=ix:=⟨_,rfl⟩;have hixi:iz+(j:Int)=(ix:Int):=by have:=HIZ.out;omega
   have hix64:(ix:Int)<18446744073709551616:=by omega
   have HIX:Hid ((ix:Int)<18446744073709551616):=hid hix64;have ej:IntKind.u64.wrap (j:Int)=(j:Int):=by rw[wrap_u64];omega
   have ei:IntKind.u64.wrap (ix:Int)=(ix:Int):=by rw[wrap_u64];omega
   have j0:(0:Int)<=(j:Int):=by omega
   have j1:(j:Int)<(n:Int):=by omega
   rw[hix]at HSN HLE;clear hp hpe hpm hpB hpf hrow hcell hix hix64 hjm hje hbl;by_cases hek:(⟨t,k,d⟩:cU).ok
   ·have HEK:=hid hek;clear hek;go_wp2_with fail;generalize hwa:World.alloc wr _=wa;have BA:Hid (Below wr.heap.size wr wa):=hid (by subst hwa;exact(Below.refl _ _).alloc (Nat.le_refl _) _);clear hwa;refine(aFB ix ⟨t,k,d⟩ (.slice da d.length dc) wa (HPB.out.below BA.out) HEK.out HIX.out).mono ?_;rintro e w1 ⟨lv,rfl,hB1,hb1⟩;have HB1:=hid hB1;have B1:Hid (Below wr.heap.size wr w1):=hid (BA.out.trans (hb1.mono BA.out.size));have O1:=hid (HO.out.below B1.out);obtain⟨l1a,l1c,rfl,_⟩:=hB1.shape;have HW1:Hid (w.heap.size<=w1.heap.size):=hid (Nat.le_trans HB.out.size B1.out.size);have HLN:Hid ((ints (linesW i (ms.take j))).length+(ints (jN ix ⟨t,k,d⟩)).length<=4294967296):=hid (by rw[aS,aS];have:=HLE.out;omega);clear hB1 hb1 q0 q1 q2
    go_wp2_with (at_builtin;refine bS Tryz.u8s _ _ rfl w.heap.size (.slice ba (ints (linesW i (ms.take j))).length bc) (.slice l1a (jN ix ⟨t,k,d⟩).length l1c) _ _ rfl rfl O1.out HB1.out.rd (by decide) HLN.out HW1.out rfl ?_;intro v2 w2 hown2 hgr2 hat2 hnil2 hbel2;obtain⟨a2,n2,c2,rfl⟩:=aDU hown2;have HO2:=hid hown2;have B2:=hid hbel2;clear hown2 hgr2 hat2 hnil2 hbel2)
    go_roundw
    case rel =>
     refine⟨j+1,_,by omega,by go_num,rfl,?_,?_,?_,(HB.out.trans (B1.out.mono HB.out.size)).trans B2.out⟩
     ·have h:=HO2.out;rw[aHb,<- HSN.out]at h;exact h
     ·intro c hc;rw[HSN.out]at hc;rcases List.mem_append.1 hc with hc|hc
      ·exact HC.out c hc
      ·exact HB1.out.lt c hc
     ·intro e he;rw[HTK.out]at he;rcases List.mem_append.1 he with he|he
      ·exact HOK.out e he
      ·obtain rfl:=List.mem_singleton.1 he;exact HEK.out
    case measure=>simp[intOf];omega
   ·have HEK:=hid hek;have HNO:Hid (¬ ∀e ∈ ms,e.ok):=hid (fun h=>hek (h _ (by
     have:(⟨t,k,d⟩:cU) ∈ ms.take (j+1):=by rw[HTK.out];exact List.mem_append_right _ (List.mem_singleton_self _)
     exact List.mem_of_mem_take this)))
    clear hek;go_wp2_with fail;generalize hwa:World.alloc wr _=wa;have BA:Hid (Below wr.heap.size wr wa):=hid (by subst hwa;exact(Below.refl _ _).alloc (Nat.le_refl _) _);clear hwa;refine(aG9 ix ⟨t,k,d⟩ (.slice da d.length dc) wa (HPB.out.below BA.out) HEK.out).mono ?_;rintro e w1 ⟨rfl,hb1⟩;have B1:Hid (Below wr.heap.size wr w1):=hid (BA.out.trans (hb1.mono BA.out.size));clear hb1 q0 q1 q2;go_wp2_with fail
    go_ret2
    exact⟨HB.out.trans (B1.out.mono HB.out.size),fun h=>absurd h HNO.out,fun _=>rfl⟩
  ·obtain rfl:j=n:=by omega
   have HTA:Hid (ms.take j=ms):=hid (List.take_of_length_le (Nat.le_of_eq HN.out));go_wp2_with fail
   go_ret2
   have h1:=HO.out;have h2:=HC.out;have h3:=HOK.out;rw[HTA.out]at h1 h2 h3;have hlen:(ints (linesW i (ms.take j))).length=(ints (linesW i ms)).length:=by rw[HTA.out]
   refine⟨HB.out,fun _=>⟨.slice ba (ints (linesW i ms)).length bc,?_,h1,h2⟩,fun h=>absurd h3 h⟩;show Ending.returned (.tuple #[.slice ba (ints (linesW i (ms.take j))).length bc,.int .i64 0])=_;rw[hlen]
