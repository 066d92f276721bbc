/- For scbodies_law_holds. -/
import Derived.Test.YtgeihgombjbkbaaGreatSbb5
import Derived.Test.YtgeihgombjbkbaaGreatSbb11
set_option maxHeartbeats 16000000
set_option maxRecDepth 100000
namespace Go.Proofs.YtgeihgombjbkbaaGreat
open Go.Lib (hid)
open Go.RowKit Go.Maps Go.Proofs.Own

theorem aJB {p q r N:Nat}(hq:q<256)(hr:r<256)(h:N=be3 p q r):N / 65536=p/\N / 256 % 256=q/\N % 256=r:=by
 subst h;unfold be3;omega
theorem bJR {l:List Nat}(h:5<=l.length)(k:Nat):l.take (k+5) = [l.getD 0 0,l.getD 1 0,l.getD 2 0,l.getD 3 0,l.getD 4 0]++(l.take (k+5)).drop 5:=by
 match l,h with
 | a::b::c::d::e::l,_=>simp
theorem oM {l:List Nat}{j:Nat}(h:j<l.length):l.getD j 0=l[j]:=by simp[List.getD_eq_getElem?_getD,h]
theorem bJQ {l:List Nat}{m:Nat}(h:m+3<=l.length):l.take (m+3)=l.take m ++ [l.getD m 0,l.getD (m+1) 0,l.getD (m+2) 0]:=by
 rw[oM (show m<l.length by omega),oM (show m+1<l.length by omega),oM (show m+2<l.length by omega),show m+3=m+1+1+1 from rfl,
  List.take_succ_eq_append_getElem (show m+1+1<l.length by omega),List.take_succ_eq_append_getElem (show m+1<l.length by omega),List.take_succ_eq_append_getElem (show m<l.length by omega)]
 simp only[List.append_assoc,List.cons_append,List.nil_append]
theorem xJ {l:List Nat}(hl:∀c ∈ l,c<256)(h:aW l=0)(h0:l.getD 0 0=102):frP (l.getD 1 0) (aZ l)=l.take (frN l+8) ↔ fX (frN l+5) (l.take (frN l+8)):=by
 obtain⟨h5,hN,hlen⟩:=gJ h;have gl:∀j,l.getD j 0<256:=fun j=>by
  rw[List.getD_eq_getElem?_getD];cases e:l[j]? with
  | none=>simp
  | some x=>exact hl x (List.mem_of_getElem? e)
 have hbl:=fH h;have hd:=aJB (p:=l.getD 2 0) (gl 3) (gl 4) (show frN l=be3 (l.getD 2 0) (l.getD 3 0) (l.getD 4 0) from rfl);have e1:[102,l.getD 1 0,(aZ l).length / 65536,(aZ l).length / 256 % 256,(aZ l).length % 256]++aZ l=l.take (frN l+5):=by
  rw[hbl,hd.1,hd.2.1,hd.2.2,bJR h5 (frN l),h0];rfl
 have e2:∀j,j<frN l+8->(l.take (frN l+8)).getD j 0=l.getD j 0:=fun j hj=>by
  simp only[List.getD_eq_getElem?_getD];rw[List.getElem?_take_of_lt hj]
 have e3:(l.take (frN l+8)).take (frN l+5)=l.take (frN l+5):=by rw[List.take_take];congr 1;omega
 unfold frP fX;rw[e1,e3,e2 _ (by omega),e2 _ (by omega),e2 _ (by omega)];have e4:l.take (frN l+8)=l.take (frN l+5) ++ [l.getD (frN l+5) 0,l.getD (frN l+6) 0,l.getD (frN l+7) 0]:=bJQ (m:=frN l+5) (by omega);rw[e4,kY];have hs:=nW (l.take (frN l+5)) (fun c hc=>hl c (List.mem_of_mem_take hc));have g5:=gl (frN l+5);have g6:=gl (frN l+6);have g7:=gl (frN l+7);simp only[List.append_cancel_left_eq,List.cons.injEq,and_true,show frN l+5+1=frN l+6 by omega,show frN l+5+2=frN l+7 by omega];unfold be3;omega
theorem gZ {l:List Nat}(h:aW l=0):l.getD 0 0=102:=by
 unfold aW at h;split at h;· omega
 split at h;· omega
 rename_i h0;exact Classical.not_not.1 h0
theorem mG {l:List Nat}(h:aW l=0):l.getD 1 0≠0:=by
 unfold aW at h;split at h;· omega
 split at h;· omega
 split at h;· omega
 split at h;· omega
 assumption
def aKz (l:List Nat):Prop:=((eY (frP (l.getD 1 0) (aZ l))).toList==(eY (l.take (frN l+8))).toList)=true
def aMi (l:List Nat):Prop:=((eY (frP (l.getD 1 0) (aZ l))).toList==(eY (l.take (frN l+8))).toList)=false
theorem aLV {k:Nat}{l:List Nat}(hk:k<256)(hn:l.length<16777216)(h:∀c ∈ l,c<256):∀c ∈ frP k l,c<256:=vM (qV hk hn h)
theorem aJc {l:List Nat}(hl:∀c ∈ l,c<256)(h:aW l=0)(hs:fX (frN l+5) (l.take (frN l+8))):aKz l:=by
 unfold aKz;rw[(xJ hl h (gZ h)).2 hs];exact mT rfl
theorem aJb {l:List Nat}(hl:∀c ∈ l,c<256)(h:aW l=0)(hs:¬fX (frN l+5) (l.take (frN l+8))):aMi l:=by
 refine wY fun e=>?_;refine hs ((xJ hl h (gZ h)).1 (pU (aLV ?_ ?_ ?_) (fun c hc=>hl c (List.mem_of_mem_take hc)) e))
 ·rw[List.getD_eq_getElem?_getD];cases e:l[1]? with
  | none=>simp
  | some x=>exact hl x (List.mem_of_getElem? e)
 ·have:=fH h;have:=gJ h;omega
 ·exact fun c hc=>hl c (List.mem_of_mem_take (List.mem_of_mem_drop hc))

theorem aI2 (v:Value)(l:List Nat)(w:World)(hB:Bytes w v l)(hs:aW l=0)(hsum:¬fX (frN l+5) (l.take (frN l+8))):Calls Tryz.prog 28 #[v] w (gK l w):=by
 have HF:Hid (dA l=22):=hid (by simp[dA,hs,hsum]);obtain⟨h5,hN,hlen⟩:=gJ hs;have HB:=hid hB;obtain⟨v1,hB1,hcut1⟩:=hB.aJz Tryz.u8s 5 (frN l+5) (by omega) (by omega);obtain⟨v2,hB2,hcut2⟩:=hB.aAI Tryz.u8s (frN l+8) (by omega);have hB1':Bytes w v1 (aZ l):=hB1;have HW:Hid (aMi l):=hid (aJb hB.lt hs hsum);have hn1:l.getD 1 0≠0:=mG hs;obtain⟨b,o,c,rfl,hle,hbs,hcell⟩:=hB.cA (by omega);have c0:w.cell? ⟨b,o,none⟩=some (.int .u8 (l.getD 0 0:Nat)):=hcell 0 (by omega);rw[gZ hs]at c0;have c1:=hcell 1 (by omega);have c2:=hcell 2 (by omega);have c3:=hcell 3 (by omega);have c4:=hcell 4 (by omega);have x2:=hB.aT 2;have x3:=hB.aT 3;have x4:=hB.aT 4;have x1:=hB.aT 1;have hl0:((l.length:Int)==0)=false:=beq_eq_false_iff_ne.2 (by omega);have hl2:¬(l.length:Int)<2:=by omega
 have hl5:¬(l.length:Int)<5:=by omega
 have hN':¬(65536:Int)<(frN l:Int):=by omega
 have hlN:¬(l.length:Int)<(frN l:Int)+8:=by omega
 have HV:Hid (((l.getD 2 0:Nat):Int)*65536+((l.getD 3 0:Nat):Int)*256+((l.getD 4 0:Nat):Int)=(frN l:Int)):=hid (by have:frN l=l.getD 2 0*65536+l.getD 3 0*256+l.getD 4 0:=rfl;omega);have i0:(0:Int)<(l.length:Int):=by omega
 have i1:(1:Int)<(l.length:Int):=by omega
 have i2:(2:Int)<(l.length:Int):=by omega
 have i3:(3:Int)<(l.length:Int):=by omega
 have i4:(4:Int)<(l.length:Int):=by omega
 have HL:=hid hlen;have HN:=hid hN;have HS:=hid hs;have hbl:(aZ l).length<=65536:=by rw[fH hs];exact hN
 have HBL:=hid hbl;clear hB hcell hle h5 hN hs hlen hbl hB1;generalize l.getD 2 0=p at c2 x2 HV;generalize l.getD 3 0=q at c3 x3 HV;generalize l.getD 4 0=r at c4 x4 HV;generalize hx:l.getD 1 0=x at c1 x1 hn1;have HLN:Hid (([]:List Int).length+(ints (aZ l)).length<=4294967296):=hid (by rw[aF];have:=HBL.out;simp only[List.length_nil];omega);have hn1b:((x:Int)==0)=false:=by simp;omega
 have HX:=hid hx;have C1:=hid c1;have HB1:=hid hB1';have HB2:=hid hB2;rw[aMi,hx]at HW;have hcut1':∀w',(Instr.slice 22 (.slice (some ⟨b,o,none⟩) l.length c) (some (.int .i64 5)) (some (.int .i64 ((frN l:Int)+5))) none).run Tryz.prog w' = .ok v1 w':=hcut1;have hcut2':∀w',(Instr.slice 22 (.slice (some ⟨b,o,none⟩) l.length c) none (some (.int .i64 ((frN l:Int)+8))) none).run Tryz.prog w' = .ok v2 w':=hcut2;clear hx hcut1 hcut2 hB1' hB2 hn1 hsum;go_enter Tryz.func28,Tryz.ntmps28;go_wp2_with fail
 go_quiet (fail)
 have ST:=jG.from w;have IQ:Hid (Below w.heap.size w (w.drewN nq)):=hid (Below.drewN _ _);generalize w.drewN nq=wq at IQ ⊢;rw[HV.out];generalize hN:frN l=N at hN' hlN hcut1' hcut2' ⊢;have HNN:=hid hN;clear hN c2 c3 c4 HV;go_wp2_with fail;have hwr:IntKind.i64.wrap ((N:Int)+8)=(N:Int)+8:=by simp only[IntKind.wrap_i64];omega
 refine cK [0,1,3,0,15,31,0,0,128,448,960,2047] 48 (fun w'=>Below w.heap.size w w') (by kernel_rfl) ?_;refine aX [0,1,2,3,6,7,8,9,10] (by kernel_rfl) (L:=bm 12 1999) (by kernel_rfl) (f':=3) rfl (fun _ _ _ _ h=>h) (fun w o h=>ST.alloc h o) (.inr (ST.drew IQ.out)) ?_;simp only[sF,sL]
 iterate 9 (first|(refine bQ _ (by rfl) (fun w' hs=>by have y0:=Below.at hs C1.out hbs;have yc:=(HB2.out.below hs).str (P:=Tryz.prog) Tryz.underlying22 Tryz.underlying5 Tryz.underlying9;go_simp;try with_reducible rfl) rfl ?_;simp only[Act.put,sA])|(refine bD _ (by rfl) (fun w'=>by go_simp;try with_reducible rfl) ?_;simp only[Act.put,sA]))
 refine bM ?_;refine dO 4 (by kernel_rfl) (L:=bm 12 2015) (by kernel_rfl) ?_;simp only[sL];go_wp2_with fail;refine(pE x v1 (aZ l) _ (HB1.out.below (ST.drew IQ.out)) x1 (by have:=HBL.out;omega)).mono ?_;rintro e u4 ⟨v4,rfl,hB4,hb4⟩;have I4:Hid (Below w.heap.size w u4):=hid (ST.below (ST.drew IQ.out) hb4);have HB4:=hid hB4;clear hB4 hb4;go_wp2_with fail;refine cC (fun _=>I4.out) ?_;refine dO 5 (by kernel_rfl) (L:=bm 12 2047) (by kernel_rfl) ?_;simp only[sL];refine fJ rfl 22 9 5 _ rfl Tryz.underlying22 Tryz.underlying5 Tryz.underlying9 _ _ rfl HB4.out ?_;go_wp2_with fail;refine cC (fun _=>I4.out) ?_;refine aX [11] (by kernel_rfl) (L:=bm 12 4095) (by kernel_rfl) (f':=0) rfl (fun _ _ _ _ h=>h) (fun w o h=>ST.alloc h o) (.inl (by kernel_rfl)) ?_;simp only[sF,sL]
 iterate 1 (refine bD _ (by rfl) (fun w'=>by go_simp;try with_reducible rfl) ?_;simp only[Act.put,sA])
 refine bM ?_;refine dM (by kernel_rfl) ?_;clear hwr;rw[HW.out];go_wp2_with fail;refine bodyPost_ret (v:=.tuple #[.int .u8 0,.slice none 0 0,.int .i64 0,.int .i64 22]) (by simp[results,Tryz.results28,go_sem]) rfl ?_;exact⟨I4.out,fun _=>by rw[HF.out];rfl,fun h=>absurd (HF.out.symm.trans h) (by decide)⟩

theorem aAa (v:Value)(l:List Nat)(w:World)(hB:Bytes w v l)(hs:aW l=0)(hsum:fX (frN l+5) (l.take (frN l+8))):Calls Tryz.prog 28 #[v] w (gK l w):=by
 have HF:Hid (dA l=0):=hid (by simp[dA,hs,hsum]);obtain⟨h5,hN,hlen⟩:=gJ hs;have HB:=hid hB;obtain⟨v1,hB1,hcut1⟩:=hB.aJz Tryz.u8s 5 (frN l+5) (by omega) (by omega);obtain⟨v2,hB2,hcut2⟩:=hB.aAI Tryz.u8s (frN l+8) (by omega);have hB1':Bytes w v1 (aZ l):=hB1;have HW:Hid (aKz l):=hid (aJc hB.lt hs hsum);have hn1:l.getD 1 0≠0:=mG hs;obtain⟨b,o,c,rfl,hle,hbs,hcell⟩:=hB.cA (by omega);have c0:w.cell? ⟨b,o,none⟩=some (.int .u8 (l.getD 0 0:Nat)):=hcell 0 (by omega);rw[gZ hs]at c0;have c1:=hcell 1 (by omega);have c2:=hcell 2 (by omega);have c3:=hcell 3 (by omega);have c4:=hcell 4 (by omega);have x2:=hB.aT 2;have x3:=hB.aT 3;have x4:=hB.aT 4;have x1:=hB.aT 1;have hl0:((l.length:Int)==0)=false:=beq_eq_false_iff_ne.2 (by omega);have hl2:¬(l.length:Int)<2:=by omega
 have hl5:¬(l.length:Int)<5:=by omega
 have hN':¬(65536:Int)<(frN l:Int):=by omega
 have hlN:¬(l.length:Int)<(frN l:Int)+8:=by omega
 have HV:Hid (((l.getD 2 0:Nat):Int)*65536+((l.getD 3 0:Nat):Int)*256+((l.getD 4 0:Nat):Int)=(frN l:Int)):=hid (by have:frN l=l.getD 2 0*65536+l.getD 3 0*256+l.getD 4 0:=rfl;omega);have i0:(0:Int)<(l.length:Int):=by omega
 have i1:(1:Int)<(l.length:Int):=by omega
 have i2:(2:Int)<(l.length:Int):=by omega
 have i3:(3:Int)<(l.length:Int):=by omega
 have i4:(4:Int)<(l.length:Int):=by omega
 have HL:=hid hlen;have HN:=hid hN;have HS:=hid hs;have hbl:(aZ l).length<=65536:=by rw[fH hs];exact hN
 have HBL:=hid hbl;clear hB hcell hle h5 hN hs hlen hbl hB1;generalize l.getD 2 0=p at c2 x2 HV;generalize l.getD 3 0=q at c3 x3 HV;generalize l.getD 4 0=r at c4 x4 HV;generalize hx:l.getD 1 0=x at c1 x1 hn1;have HLN:Hid (([]:List Int).length+(ints (aZ l)).length<=4294967296):=hid (by rw[aF];have:=HBL.out;simp only[List.length_nil];omega);have hn1b:((x:Int)==0)=false:=by simp;omega
 have HX:=hid hx;have C1:=hid c1;have HB1:=hid hB1';have HB2:=hid hB2;rw[aKz,hx]at HW;have hcut1':∀w',(Instr.slice 22 (.slice (some ⟨b,o,none⟩) l.length c) (some (.int .i64 5)) (some (.int .i64 ((frN l:Int)+5))) none).run Tryz.prog w' = .ok v1 w':=hcut1;have hcut2':∀w',(Instr.slice 22 (.slice (some ⟨b,o,none⟩) l.length c) none (some (.int .i64 ((frN l:Int)+8))) none).run Tryz.prog w' = .ok v2 w':=hcut2;clear hx hcut1 hcut2 hB1' hB2 hn1 hsum;go_enter Tryz.func28,Tryz.ntmps28;go_wp2_with fail
 go_quiet (fail)
 have ST:=jG.from w;have IQ:Hid (Below w.heap.size w (w.drewN nq)):=hid (Below.drewN _ _);generalize w.drewN nq=wq at IQ ⊢;rw[HV.out];generalize hN:frN l=N at hN' hlN hcut1' hcut2' ⊢;have HNN:=hid hN;clear hN c2 c3 c4 HV;go_wp2_with fail;have hwr:IntKind.i64.wrap ((N:Int)+8)=(N:Int)+8:=by simp only[IntKind.wrap_i64];omega
 refine cK [0,1,3,0,15,31,0,0,128,448,960,2047] 48 (fun w'=>Below w.heap.size w w') (by kernel_rfl) ?_;refine aX [0,1,2,3,6,7,8,9,10] (by kernel_rfl) (L:=bm 12 1999) (by kernel_rfl) (f':=3) rfl (fun _ _ _ _ h=>h) (fun w o h=>ST.alloc h o) (.inr (ST.drew IQ.out)) ?_;simp only[sF,sL]
 iterate 9 (first|(refine bQ _ (by rfl) (fun w' hs=>by have y0:=Below.at hs C1.out hbs;have yc:=(HB2.out.below hs).str (P:=Tryz.prog) Tryz.underlying22 Tryz.underlying5 Tryz.underlying9;go_simp;try with_reducible rfl) rfl ?_;simp only[Act.put,sA])|(refine bD _ (by rfl) (fun w'=>by go_simp;try with_reducible rfl) ?_;simp only[Act.put,sA]))
 refine bM ?_;refine dO 4 (by kernel_rfl) (L:=bm 12 2015) (by kernel_rfl) ?_;simp only[sL];go_wp2_with fail;refine(pE x v1 (aZ l) _ (HB1.out.below (ST.drew IQ.out)) x1 (by have:=HBL.out;omega)).mono ?_;rintro e u4 ⟨v4,rfl,hB4,hb4⟩;have I4:Hid (Below w.heap.size w u4):=hid (ST.below (ST.drew IQ.out) hb4);have HB4:=hid hB4;clear hB4 hb4;go_wp2_with fail;refine cC (fun _=>I4.out) ?_;refine dO 5 (by kernel_rfl) (L:=bm 12 2047) (by kernel_rfl) ?_;simp only[sL];refine fJ rfl 22 9 5 _ rfl Tryz.underlying22 Tryz.underlying5 Tryz.underlying9 _ _ rfl HB4.out ?_;go_wp2_with fail;refine cC (fun _=>I4.out) ?_;refine aX [11] (by kernel_rfl) (L:=bm 12 4095) (by kernel_rfl) (f':=0) rfl (fun _ _ _ _ h=>h) (fun w o h=>ST.alloc h o) (.inl (by kernel_rfl)) ?_;simp only[sF,sL]
 iterate 1 (refine bD _ (by rfl) (fun w'=>by go_simp;try with_reducible rfl) ?_;simp only[Act.put,sA])
 refine bM ?_;refine dM (by kernel_rfl) ?_;clear hwr;rw[HW.out];go_wp2_with fail;have hwr:IntKind.i64.wrap ((N:Int)+8)=(N:Int)+8:=by simp only[IntKind.wrap_i64];omega
 refine cK [0,1,3,0,0,24,0,64,63,319,1023,2047] 32 (fun w'=>Below w.heap.size w w') (by kernel_rfl) ?_;refine aX [0,1,2,4,6,7] (by kernel_rfl) (L:=bm 12 215) (by kernel_rfl) (f':=6) rfl (fun _ _ _ _ h=>h) (fun w o h=>ST.alloc h o) (.inr (by first|exact ST.drew I4.out|exact I4.out)) ?_;simp only[sF,sL]
 iterate 6 (first|(refine bQ _ (by rfl) (fun w' hs=>by have y0:=Below.at hs C1.out hbs;have yc:=(HB2.out.below hs).str (P:=Tryz.prog) Tryz.underlying22 Tryz.underlying5 Tryz.underlying9;go_simp;try with_reducible rfl) rfl ?_;simp only[Act.put,sA])|(refine bD _ (by rfl) (fun w'=>by go_simp;try with_reducible rfl) ?_;simp only[Act.put,sA]))
 refine bM ?_;refine dO 3 (by kernel_rfl) (L:=bm 12 223) (by kernel_rfl) ?_;simp only[sL];go_wp2_with fail;generalize hu5:World.alloc _ _=u5;have I5:Hid (Below w.heap.size w u5):=hid (by subst hu5;exact ST.alloc (by first|exact ST.drew I4.out|exact I4.out) _);have O5:Hid (bL u5 (w.heap.size) 5 .u8 (.slice (some ⟨u4.heap.size,0,none⟩) 0 0) []):=hid (by subst hu5;first|exact bL.empty (heap_alloc_new _ _) I4.out.size|exact bL.empty (heap_alloc_new _ _) (ST.drew I4.out).size);clear hu5;refine cC nofun ?_;refine dO 5 (by kernel_rfl) (L:=bm 12 255) (by kernel_rfl) ?_;simp only[sL];refine aP Tryz.u8s _ _ rfl w.heap.size _ _ [] (ints (aZ l)) rfl rfl O5.out.drew (HB1.out.below (ST.drew I5.out)).rd (by decide) HLN.out (ST.drew I5.out).size rfl ?_;intro v6 w6 hown6 hgr6 hat6 hnil6 hbel6;have O6:Hid (bL w6 w.heap.size 5 .u8 v6 (ints (aZ l))):=hid (by simpa using hown6);have B6:Hid (Below w.heap.size w w6):=hid ((ST.drew I5.out).trans hbel6);clear hown6 hgr6 hat6 hnil6 hbel6;go_wp2_with fail;refine cC (fun _=>B6.out) ?_;refine aX [8,9,10,11] (by kernel_rfl) (L:=bm 12 4095) (by kernel_rfl) (f':=0) rfl (fun _ _ _ _ h=>h) (fun w o h=>ST.alloc h o) (.inl (by kernel_rfl)) ?_;simp only[sF,sL]
 iterate 4 (refine bD _ (by rfl) (fun w'=>by go_simp;try with_reducible rfl) ?_;simp only[Act.put,sA])
 refine bM ?_;refine dM (by kernel_rfl) ?_;go_wp2_with fail;refine bodyPost_ret (v:=.tuple #[.int .u8 x,v6,.int .i64 ((N:Int)+8),.int .i64 0]) (by simp[results,Tryz.results28,go_sem]) rfl ?_;exact⟨B6.out,fun h=>absurd HF.out h,fun _=>⟨v6,by rw[HX.out,HNN.out];rfl,Bytes.gE O6.out HB1.out.lt HB1.out.small⟩⟩

theorem wR (v:Value)(l:List Nat)(w:World)(hB:Bytes w v l)(h0:l.length=0):Calls Tryz.prog 28 #[v] w (gK l w):=by
 have hs:aW l=23:=by simp[aW,h0]
 have HF:Hid (dA l=23):=hid (by simp[dA,hs]);obtain⟨a,c,rfl,_⟩:=hB.shape;rw[h0];clear hs h0 hB;go_enter Tryz.func28,Tryz.ntmps28;go_wp2_with fail;refine bodyPost_ret (v:=.tuple #[.int .u8 0,.slice none 0 0,.int .i64 0,.int .i64 23]) (by simp[results,Tryz.results28,go_sem]) rfl ?_;exact⟨Below.refl _ _,fun _=>by rw[HF.out];rfl,fun h=>absurd (HF.out.symm.trans h) (by decide)⟩

theorem wS (v:Value)(l:List Nat)(w:World)(hB:Bytes w v l)(hs:aW l≠0)(h0:0<l.length)(h5:l.length<5):Calls Tryz.prog 28 #[v] w (gK l w):=by
 obtain⟨b,o,c,rfl,hle,hbs,hcell⟩:=hB.cA (by omega);have c0:w.cell? ⟨b,o,none⟩=some (.int .u8 (l.getD 0 0:Nat)):=hcell 0 (by omega);have c1:1<l.length->w.cell? ⟨b,o+1,none⟩=some (.int .u8 (l.getD 1 0:Nat)):=fun h=>hcell 1 h;have hse:aW l=if l.getD 0 0≠102 then 20 else if l.length<2 then 23 else if l.getD 1 0=0 then 20 else 23:=by
  unfold aW;rw[if_neg (by omega),if_pos h5]
 have htk:dA l=aW l:=by simp[dA,hs]
 have hl0:((l.length:Int)==0)=false:=beq_eq_false_iff_ne.2 (by omega);have i0:(0:Int)<(l.length:Int):=by omega
 have key:∃k:Nat,k≠0/\dA l=k/\((k=20/\(((l.getD 0 0:Nat):Int) != 102)=true)\/(k=23/\(((l.getD 0 0:Nat):Int) != 102)=false/\(l.length:Int)<2) \/
   (k=20/\(((l.getD 0 0:Nat):Int) != 102)=false /\ ¬(l.length:Int)<2/\(((l.getD 1 0:Nat):Int)==0)=true) \/
   (k=23/\(((l.getD 0 0:Nat):Int) != 102)=false /\ ¬(l.length:Int)<2/\(((l.getD 1 0:Nat):Int)==0)=false)):=by
  generalize l.getD 0 0=x at hse;generalize l.getD 1 0=y at hse;by_cases hx:x=102
  ·have hxb:((x:Int) != 102)=false:=by simp;omega
   by_cases h2:l.length<2
   ·exact⟨23,by decide,by rw[htk,hse,if_neg (by omega),if_pos h2],.inr (.inl ⟨rfl,hxb,by omega⟩)⟩
   ·by_cases hy:y=0
    ·exact⟨20,by decide,by rw[htk,hse,if_neg (by omega),if_neg h2,if_pos hy],.inr (.inr (.inl ⟨rfl,hxb,by omega,by simp;omega⟩))⟩
    ·exact⟨23,by decide,by rw[htk,hse,if_neg (by omega),if_neg h2,if_neg hy],.inr (.inr (.inr ⟨rfl,hxb,by omega,by simp;omega⟩))⟩
  ·exact⟨20,by decide,by rw[htk,hse,if_pos hx],.inl ⟨rfl,by simp;omega⟩⟩
 have h5i:(l.length:Int)<5:=by omega
 clear hB hcell hle hs hse htk h5 h0;obtain⟨k,hk,hkt,key⟩:=key;have HK:=hid hk;have HF:=hid hkt;clear hk hkt;generalize l.getD 0 0=x at c0 key;generalize l.getD 1 0=y at c1 key;rcases key with ⟨rfl,k1⟩|⟨rfl,k1,k2⟩|⟨rfl,k1,k2,k3⟩|⟨rfl,k1,k2,k3⟩
 ·clear c1;go_enter Tryz.func28,Tryz.ntmps28;go_wp2_with fail;refine bodyPost_ret (v:=.tuple #[.int .u8 0,.slice none 0 0,.int .i64 0,.int .i64 20]) (by simp[results,Tryz.results28,go_sem]) rfl ?_;exact⟨Below.refl _ _,fun _=>by rw[HF.out];rfl,fun h=>absurd (HF.out.symm.trans h) HK.out⟩
 ·clear c1;go_enter Tryz.func28,Tryz.ntmps28;go_wp2_with fail;refine bodyPost_ret (v:=.tuple #[.int .u8 0,.slice none 0 0,.int .i64 0,.int .i64 23]) (by simp[results,Tryz.results28,go_sem]) rfl ?_;exact⟨Below.refl _ _,fun _=>by rw[HF.out];rfl,fun h=>absurd (HF.out.symm.trans h) HK.out⟩
 ·have c1':=c1 (by omega);have i1:(1:Int)<(l.length:Int):=by omega
  clear c1;go_enter Tryz.func28,Tryz.ntmps28;go_wp2_with fail;refine bodyPost_ret (v:=.tuple #[.int .u8 0,.slice none 0 0,.int .i64 0,.int .i64 20]) (by simp[results,Tryz.results28,go_sem]) rfl ?_;exact⟨Below.refl _ _,fun _=>by rw[HF.out];rfl,fun h=>absurd (HF.out.symm.trans h) HK.out⟩
 ·have c1':=c1 (by omega);have i1:(1:Int)<(l.length:Int):=by omega
  clear c1;go_enter Tryz.func28,Tryz.ntmps28;go_wp2_with fail;refine bodyPost_ret (v:=.tuple #[.int .u8 0,.slice none 0 0,.int .i64 0,.int .i64 23]) (by simp[results,Tryz.results28,go_sem]) rfl ?_;exact⟨Below.refl _ _,fun _=>by rw[HF.out];rfl,fun h=>absurd (HF.out.symm.trans h) HK.out⟩

theorem wT (v:Value)(l:List Nat)(w:World)(hB:Bytes w v l)(hs:aW l≠0)(h5:5<=l.length):Calls Tryz.prog 28 #[v] w (gK l w):=by
 obtain⟨b,o,c,rfl,hle,hbs,hcell⟩:=hB.cA (by omega);have c0:w.cell? ⟨b,o,none⟩=some (.int .u8 (l.getD 0 0:Nat)):=hcell 0 (by omega);have c1:=hcell 1 (by omega);have c2:=hcell 2 (by omega);have c3:=hcell 3 (by omega);have c4:=hcell 4 (by omega);have x2:=hB.aT 2;have x3:=hB.aT 3;have x4:=hB.aT 4;have hse:aW l=if l.getD 0 0≠102 then 20 else if l.getD 1 0=0 then 20 else if 65536<frN l then 20 else if l.length<frN l+8 then 23 else 0:=by
  unfold aW;rw[if_neg (by omega),if_neg (show ¬l.length<2 by omega),if_neg (show ¬l.length<5 by omega)]
 have htk:dA l=aW l:=by simp[dA,hs]
 have hl0:((l.length:Int)==0)=false:=beq_eq_false_iff_ne.2 (by omega);have hl2:¬(l.length:Int)<2:=by omega
 have hl5:¬(l.length:Int)<5:=by omega
 have i0:(0:Int)<(l.length:Int):=by omega
 have i1:(1:Int)<(l.length:Int):=by omega
 have i2:(2:Int)<(l.length:Int):=by omega
 have i3:(3:Int)<(l.length:Int):=by omega
 have i4:(4:Int)<(l.length:Int):=by omega
 have HV:Hid (((l.getD 2 0:Nat):Int)*65536+((l.getD 3 0:Nat):Int)*256+((l.getD 4 0:Nat):Int)=(frN l:Int)):=hid (by have:frN l=l.getD 2 0*65536+l.getD 3 0*256+l.getD 4 0:=rfl;omega);have key:∃k:Nat,k≠0/\dA l=k/\((k=20/\(((l.getD 0 0:Nat):Int) != 102)=true) \/
   (k=20/\(((l.getD 0 0:Nat):Int) != 102)=false/\(((l.getD 1 0:Nat):Int)==0)=true) \/
   (k=20/\(((l.getD 0 0:Nat):Int) != 102)=false/\(((l.getD 1 0:Nat):Int)==0)=false/\(65536:Int)<(frN l:Int)) \/
   (k=23/\(((l.getD 0 0:Nat):Int) != 102)=false/\(((l.getD 1 0:Nat):Int)==0)=false/\(frN l:Int)<=65536/\(l.length:Int)<(frN l:Int)+8)):=by
  generalize l.getD 0 0=x at hse;generalize l.getD 1 0=y at hse;by_cases hx:x=102
  ·have hxb:((x:Int) != 102)=false:=by simp;omega
   by_cases hy:y=0
   ·exact⟨20,by decide,by rw[htk,hse,if_neg (by omega),if_pos hy],.inr (.inl ⟨rfl,hxb,by simp;omega⟩)⟩
   ·have hyb:((y:Int)==0)=false:=by simp;omega
    by_cases hn:65536<frN l
    ·exact⟨20,by decide,by rw[htk,hse,if_neg (by omega),if_neg hy,if_pos hn],.inr (.inr (.inl ⟨rfl,hxb,hyb,by omega⟩))⟩
    ·by_cases ht:l.length<frN l+8
     ·exact⟨23,by decide,by rw[htk,hse,if_neg (by omega),if_neg hy,if_neg hn,if_pos ht],.inr (.inr (.inr ⟨rfl,hxb,hyb,by omega,by omega⟩))⟩
     ·exact absurd (by rw[hse,if_neg (by omega),if_neg hy,if_neg hn,if_neg ht]) hs
  ·exact⟨20,by decide,by rw[htk,hse,if_pos hx],.inl ⟨rfl,by simp;omega⟩⟩
 clear hB hcell hle hs hse htk h5;obtain⟨k,hk,hkt,key⟩:=key;have HK:=hid hk;have HF:=hid hkt;clear hk hkt;generalize l.getD 0 0=x at c0 key;generalize l.getD 1 0=y at c1 key;generalize l.getD 2 0=p at c2 x2 HV;generalize l.getD 3 0=q at c3 x3 HV;generalize l.getD 4 0=r at c4 x4 HV;rcases key with ⟨rfl,k1⟩|⟨rfl,k1,k2⟩|⟨rfl,k1,k2,k3⟩|⟨rfl,k1,k2,k3,k4⟩
 ·go_enter Tryz.func28,Tryz.ntmps28;go_wp2_with fail;refine bodyPost_ret (v:=.tuple #[.int .u8 0,.slice none 0 0,.int .i64 0,.int .i64 20]) (by simp[results,Tryz.results28,go_sem]) rfl ?_;exact⟨Below.refl _ _,fun _=>by rw[HF.out];rfl,fun h=>absurd (HF.out.symm.trans h) HK.out⟩
 ·go_enter Tryz.func28,Tryz.ntmps28;go_wp2_with fail;refine bodyPost_ret (v:=.tuple #[.int .u8 0,.slice none 0 0,.int .i64 0,.int .i64 20]) (by simp[results,Tryz.results28,go_sem]) rfl ?_;exact⟨Below.refl _ _,fun _=>by rw[HF.out];rfl,fun h=>absurd (HF.out.symm.trans h) HK.out⟩
 ·go_enter Tryz.func28,Tryz.ntmps28;go_wp2_with fail
  go_quiet (fail)
  rw[HV.out];go_wp2_with fail;refine bodyPost_ret (v:=.tuple #[.int .u8 0,.slice none 0 0,.int .i64 0,.int .i64 20]) (by simp[results,Tryz.results28,go_sem]) rfl ?_;exact⟨Below.drewN _ _,fun _=>by rw[HF.out];rfl,fun h=>absurd (HF.out.symm.trans h) HK.out⟩
 ·go_enter Tryz.func28,Tryz.ntmps28;go_wp2_with fail
  go_quiet (fail)
  rw[HV.out];go_wp2_with fail;refine bodyPost_ret (v:=.tuple #[.int .u8 0,.slice none 0 0,.int .i64 0,.int .i64 23]) (by simp[results,Tryz.results28,go_sem]) rfl ?_;exact⟨Below.drewN _ _,fun _=>by rw[HF.out];rfl,fun h=>absurd (HF.out.symm.trans h) HK.out⟩

theorem zZ (v:Value)(l:List Nat)(w:World)(hB:Bytes w v l):Calls Tryz.prog 28 #[v] w (gK l w):=by
 by_cases hs:aW l=0
 ·by_cases hsum:fX (frN l+5) (l.take (frN l+8))
  ·exact aAa v l w hB hs hsum
  ·exact aI2 v l w hB hs hsum
 ·by_cases h0:l.length=0
  ·exact wR v l w hB h0
  ·by_cases h5:l.length<5
   ·exact wS v l w hB hs (by omega) h5
   ·exact wT v l w hB hs (by omega)
