/- For vltopens_law_holds. -/
import Derived.Test.YtjdglpcnkiioeaaGreatVob2
import Derived.Test.YtjdglpcnkiioeaaGreatVob7
set_option maxHeartbeats 16000000
set_option maxRecDepth 100000
namespace Go.Proofs.YtjdglpcnkiioeaaGreat
open Go.Lib (hid)
open Go.RowKit Go.Maps Go.Proofs.Own

theorem aIy {p q r N:Nat}(hq:q<256)(hr:r<256)(h:N=be3 p q r):N / 65536=p/\N / 256 % 256=q/\N % 256=r:=by
 subst h;unfold be3;omega
theorem aK3 {l:List Nat}(h:5<=l.length)(k:Nat):l.take (k+5) = [l.getD 0 0,l.getD 1 0,l.getD 2 0,l.getD 3 0,l.getD 4 0]++(l.take (k+5)).drop 5:=by
 match l,h with
 | a::b::c::d::e::l,_=>simp
theorem wX {l:List Nat}{j:Nat}(h:j<l.length):l.getD j 0=l[j]:=by simp[List.getD_eq_getElem?_getD,h]
theorem aK2 {l:List Nat}{m:Nat}(h:m+3<=l.length):l.take (m+3)=l.take m ++ [l.getD m 0,l.getD (m+1) 0,l.getD (m+2) 0]:=by
 rw[wX (show m<l.length by omega),wX (show m+1<l.length by omega),wX (show m+2<l.length by omega),show m+3=m+1+1+1 from rfl,
  List.take_succ_eq_append_getElem (show m+1+1<l.length by omega),List.take_succ_eq_append_getElem (show m+1<l.length by omega),List.take_succ_eq_append_getElem (show m<l.length by omega)]
 simp only[List.append_assoc,List.cons_append,List.nil_append]
theorem aEJ {l:List Nat}(hl:∀c ∈ l,c<256)(h:cP l=0)(h0:l.getD 0 0=102):frP (l.getD 1 0) (aF l)=l.take (frN l+8) ↔ jY (frN l+5) (l.take (frN l+8)):=by
 obtain⟨h5,hN,hlen⟩:=iM h;have gl:∀j,l.getD j 0<256:=fun j=>by
  rw[List.getD_eq_getElem?_getD];cases e:l[j]? with
  | none=>simp
  | some x=>exact hl x (List.mem_of_getElem? e)
 have hbl:=fE h;have hd:=aIy (p:=l.getD 2 0) (gl 3) (gl 4) (show frN l=be3 (l.getD 2 0) (l.getD 3 0) (l.getD 4 0) from rfl);have e1:[102,l.getD 1 0,(aF l).length / 65536,(aF l).length / 256 % 256,(aF l).length % 256]++aF l=l.take (frN l+5):=by
  rw[hbl,hd.1,hd.2.1,hd.2.2,aK3 h5 (frN l),h0];rfl
 have e2:∀j,j<frN l+8->(l.take (frN l+8)).getD j 0=l.getD j 0:=fun j hj=>by
  simp only[List.getD_eq_getElem?_getD];rw[List.getElem?_take_of_lt hj]
 have e3:(l.take (frN l+8)).take (frN l+5)=l.take (frN l+5):=by rw[List.take_take];congr 1;omega
 unfold frP jY;rw[e1,e3,e2 _ (by omega),e2 _ (by omega),e2 _ (by omega)];have e4:l.take (frN l+8)=l.take (frN l+5) ++ [l.getD (frN l+5) 0,l.getD (frN l+6) 0,l.getD (frN l+7) 0]:=aK2 (m:=frN l+5) (by omega);rw[e4,qN];have hs:=sP (l.take (frN l+5)) (fun c hc=>hl c (List.mem_of_mem_take hc));have g5:=gl (frN l+5);have g6:=gl (frN l+6);have g7:=gl (frN l+7);simp only[List.append_cancel_left_eq,List.cons.injEq,and_true,show frN l+5+1=frN l+6 by omega,show frN l+5+2=frN l+7 by omega];unfold be3;omega
theorem mB {l:List Nat}(h:cP l=0):l.getD 0 0=102:=by
 unfold cP at h;split at h;· omega
 split at h;· omega
 rename_i h0;exact Classical.not_not.1 h0
theorem sM {l:List Nat}(h:cP l=0):l.getD 1 0≠0:=by
 unfold cP at h;split at h;· omega
 split at h;· omega
 split at h;· omega
 split at h;· omega
 assumption
def aJg (l:List Nat):Prop:=((bX (frP (l.getD 1 0) (aF l))).toList==(bX (l.take (frN l+8))).toList)=true
def aKm (l:List Nat):Prop:=((bX (frP (l.getD 1 0) (aF l))).toList==(bX (l.take (frN l+8))).toList)=false
theorem aG7 {k:Nat}{l:List Nat}(hk:k<256)(hn:l.length<16777216)(h:∀c ∈ l,c<256):∀c ∈ frP k l,c<256:=yJ (tI hk hn h)
theorem aH2 {l:List Nat}(hl:∀c ∈ l,c<256)(h:cP l=0)(hs:jY (frN l+5) (l.take (frN l+8))):aJg l:=by
 unfold aJg;rw[(aEJ hl h (mB h)).2 hs];exact tZ rfl
theorem aH1 {l:List Nat}(hl:∀c ∈ l,c<256)(h:cP l=0)(hs:¬jY (frN l+5) (l.take (frN l+8))):aKm l:=by
 refine aEd fun e=>?_;refine hs ((aEJ hl h (mB h)).1 (yS (aG7 ?_ ?_ ?_) (fun c hc=>hl c (List.mem_of_mem_take hc)) e))
 ·rw[List.getD_eq_getElem?_getD];cases e:l[1]? with
  | none=>simp
  | some x=>exact hl x (List.mem_of_getElem? e)
 ·have:=fE h;have:=iM h;omega
 ·exact fun c hc=>hl c (List.mem_of_mem_take (List.mem_of_mem_drop hc))

theorem aHM (v:Value)(l:List Nat)(w:World)(hB:Bytes w v l)(hs:cP l=0)(hsum:¬jY (frN l+5) (l.take (frN l+8))):Calls Tryz.prog 224 #[v] w (kT l w):=by
 have HF:Hid (cS l=22):=hid (by simp[cS,hs,hsum]);obtain⟨h5,hN,hlen⟩:=iM hs;have HB:=hid hB;obtain⟨v1,hB1,hcut1⟩:=hB.aJT Tryz.u8s 5 (frN l+5) (by omega) (by omega);obtain⟨v2,hB2,hcut2⟩:=hB.aFh Tryz.u8s (frN l+8) (by omega);have hB1':Bytes w v1 (aF l):=hB1;have HW:Hid (aKm l):=hid (aH1 hB.lt hs hsum);have hn1:l.getD 1 0≠0:=sM hs;obtain⟨b,o,c,rfl,hle,hbs,hcell⟩:=hB.eD (by omega);have c0:w.cell? ⟨b,o,none⟩=some (.int .u8 (l.getD 0 0:Nat)):=hcell 0 (by omega);rw[mB hs]at c0;have c1:=hcell 1 (by omega);have c2:=hcell 2 (by omega);have c3:=hcell 3 (by omega);have c4:=hcell 4 (by omega);have x2:=hB.dB 2;have x3:=hB.dB 3;have x4:=hB.dB 4;have x1:=hB.dB 1;have hl0:((l.length:Int)==0)=false:=beq_eq_false_iff_ne.2 (by omega);have hl2:¬(l.length:Int)<2:=by omega
 have hl5:¬(l.length:Int)<5:=by omega
 have hN':¬(65536:Int)<(frN l:Int):=by omega
 have hlN:¬(l.length:Int)<(frN l:Int)+8:=by omega
 have HV:Hid (((l.getD 2 0:Nat):Int)*65536+((l.getD 3 0:Nat):Int)*256+((l.getD 4 0:Nat):Int)=(frN l:Int)):=hid (by have:frN l=l.getD 2 0*65536+l.getD 3 0*256+l.getD 4 0:=rfl;omega);have i0:(0:Int)<(l.length:Int):=by omega
 have i1:(1:Int)<(l.length:Int):=by omega
 have i2:(2:Int)<(l.length:Int):=by omega
 have i3:(3:Int)<(l.length:Int):=by omega
 have i4:(4:Int)<(l.length:Int):=by omega
 have HL:=hid hlen;have HN:=hid hN;have HS:=hid hs;have hbl:(aF l).length<=65536:=by rw[fE hs];exact hN
 have HBL:=hid hbl;clear hB hcell hle h5 hN hs hlen hbl hB1;generalize l.getD 2 0=p at c2 x2 HV;generalize l.getD 3 0=q at c3 x3 HV;generalize l.getD 4 0=r at c4 x4 HV;generalize hx:l.getD 1 0=x at c1 x1 hn1;have HLN:Hid (([]:List Int).length+(ints (aF l)).length<=4294967296):=hid (by rw[aS];have:=HBL.out;simp only[List.length_nil];omega);have hn1b:((x:Int)==0)=false:=by simp;omega
 have HX:=hid hx;have C1:=hid c1;have HB1:=hid hB1';have HB2:=hid hB2;rw[aKm,hx]at HW;have hcut1':∀w',(Instr.slice 36 (.slice (some ⟨b,o,none⟩) l.length c) (some (.int .i64 5)) (some (.int .i64 ((frN l:Int)+5))) none).run Tryz.prog w' = .ok v1 w':=hcut1;have hcut2':∀w',(Instr.slice 36 (.slice (some ⟨b,o,none⟩) l.length c) none (some (.int .i64 ((frN l:Int)+8))) none).run Tryz.prog w' = .ok v2 w':=hcut2;clear hx hcut1 hcut2 hB1' hB2 hn1 hsum;go_enter Tryz.func224,Tryz.ntmps224;go_wp2_with fail
 go_quiet (fail)
 have ST:=aR.from w;have IQ:Hid (Below w.heap.size w (w.drewN nq)):=hid (Below.drewN _ _);generalize w.drewN nq=wq at IQ ⊢;rw[HV.out];generalize hN:frN l=N at hN' hlN hcut1' hcut2' ⊢;have HNN:=hid hN;clear hN c2 c3 c4 HV;go_wp2_with fail;have hwr:IntKind.i64.wrap ((N:Int)+8)=(N:Int)+8:=by simp only[IntKind.wrap_i64];omega
 refine aU [0,1,3,0,15,31,0,0,128,448,960,2047] 48 (fun w'=>Below w.heap.size w w') (by kernel_rfl) ?_;refine aB [0,1,2,3,6,7,8,9,10] (by kernel_rfl) (L:=bm 12 1999) (by kernel_rfl) (f':=3) rfl (fun _ _ _ _ h=>h) (fun w o h=>ST.alloc h o) (.inr (ST.drew IQ.out)) ?_;simp only[sF,sL]
 iterate 9 (first|(refine aW _ (by rfl) (fun w' hs=>by have y0:=Below.at hs C1.out hbs;have yc:=(HB2.out.below hs).str (P:=Tryz.prog) Tryz.underlying36 Tryz.underlying5 Tryz.underlying9;go_simp;try with_reducible rfl) rfl ?_;simp only[Act.put,sA])|(refine aC _ (by rfl) (fun w'=>by go_simp;try with_reducible rfl) ?_;simp only[Act.put,sA]))
 refine aI ?_;refine aM 4 (by kernel_rfl) (L:=bm 12 2015) (by kernel_rfl) ?_;simp only[sL];go_wp2_with fail;refine(xY x v1 (aF l) _ (HB1.out.below (ST.drew IQ.out)) x1 (by have:=HBL.out;omega)).mono ?_;rintro e u4 ⟨v4,rfl,hB4,hb4⟩;have I4:Hid (Below w.heap.size w u4):=hid (ST.below (ST.drew IQ.out) hb4);have HB4:=hid hB4;clear hB4 hb4;go_wp2_with fail;refine aH (fun _=>I4.out) ?_;refine aM 5 (by kernel_rfl) (L:=bm 12 2047) (by kernel_rfl) ?_;simp only[sL];refine iC rfl 36 9 5 _ rfl Tryz.underlying36 Tryz.underlying5 Tryz.underlying9 _ _ rfl HB4.out ?_;go_wp2_with fail;refine aH (fun _=>I4.out) ?_;refine aB [11] (by kernel_rfl) (L:=bm 12 4095) (by kernel_rfl) (f':=0) rfl (fun _ _ _ _ h=>h) (fun w o h=>ST.alloc h o) (.inl (by kernel_rfl)) ?_;simp only[sF,sL]
 iterate 1 (refine aC _ (by rfl) (fun w'=>by go_simp;try with_reducible rfl) ?_;simp only[Act.put,sA])
 refine aI ?_;refine bC (by kernel_rfl) ?_;clear hwr;rw[HW.out];go_wp2_with fail;refine bodyPost_ret (v:=.tuple #[.int .u8 0,.slice none 0 0,.int .i64 0,.int .i64 22]) (by simp[results,Tryz.results224,go_sem]) rfl ?_;exact⟨I4.out,fun _=>by rw[HF.out];rfl,fun h=>absurd (HF.out.symm.trans h) (by decide)⟩

theorem aF9 (v:Value)(l:List Nat)(w:World)(hB:Bytes w v l)(hs:cP l=0)(hsum:jY (frN l+5) (l.take (frN l+8))):Calls Tryz.prog 224 #[v] w (kT l w):=by
 have HF:Hid (cS l=0):=hid (by simp[cS,hs,hsum]);obtain⟨h5,hN,hlen⟩:=iM hs;have HB:=hid hB;obtain⟨v1,hB1,hcut1⟩:=hB.aJT Tryz.u8s 5 (frN l+5) (by omega) (by omega);obtain⟨v2,hB2,hcut2⟩:=hB.aFh Tryz.u8s (frN l+8) (by omega);have hB1':Bytes w v1 (aF l):=hB1;have HW:Hid (aJg l):=hid (aH2 hB.lt hs hsum);have hn1:l.getD 1 0≠0:=sM hs;obtain⟨b,o,c,rfl,hle,hbs,hcell⟩:=hB.eD (by omega);have c0:w.cell? ⟨b,o,none⟩=some (.int .u8 (l.getD 0 0:Nat)):=hcell 0 (by omega);rw[mB hs]at c0;have c1:=hcell 1 (by omega);have c2:=hcell 2 (by omega);have c3:=hcell 3 (by omega);have c4:=hcell 4 (by omega);have x2:=hB.dB 2;have x3:=hB.dB 3;have x4:=hB.dB 4;have x1:=hB.dB 1;have hl0:((l.length:Int)==0)=false:=beq_eq_false_iff_ne.2 (by omega);have hl2:¬(l.length:Int)<2:=by omega
 have hl5:¬(l.length:Int)<5:=by omega
 have hN':¬(65536:Int)<(frN l:Int):=by omega
 have hlN:¬(l.length:Int)<(frN l:Int)+8:=by omega
 have HV:Hid (((l.getD 2 0:Nat):Int)*65536+((l.getD 3 0:Nat):Int)*256+((l.getD 4 0:Nat):Int)=(frN l:Int)):=hid (by have:frN l=l.getD 2 0*65536+l.getD 3 0*256+l.getD 4 0:=rfl;omega);have i0:(0:Int)<(l.length:Int):=by omega
 have i1:(1:Int)<(l.length:Int):=by omega
 have i2:(2:Int)<(l.length:Int):=by omega
 have i3:(3:Int)<(l.length:Int):=by omega
 have i4:(4:Int)<(l.length:Int):=by omega
 have HL:=hid hlen;have HN:=hid hN;have HS:=hid hs;have hbl:(aF l).length<=65536:=by rw[fE hs];exact hN
 have HBL:=hid hbl;clear hB hcell hle h5 hN hs hlen hbl hB1;generalize l.getD 2 0=p at c2 x2 HV;generalize l.getD 3 0=q at c3 x3 HV;generalize l.getD 4 0=r at c4 x4 HV;generalize hx:l.getD 1 0=x at c1 x1 hn1;have HLN:Hid (([]:List Int).length+(ints (aF l)).length<=4294967296):=hid (by rw[aS];have:=HBL.out;simp only[List.length_nil];omega);have hn1b:((x:Int)==0)=false:=by simp;omega
 have HX:=hid hx;have C1:=hid c1;have HB1:=hid hB1';have HB2:=hid hB2;rw[aJg,hx]at HW;have hcut1':∀w',(Instr.slice 36 (.slice (some ⟨b,o,none⟩) l.length c) (some (.int .i64 5)) (some (.int .i64 ((frN l:Int)+5))) none).run Tryz.prog w' = .ok v1 w':=hcut1;have hcut2':∀w',(Instr.slice 36 (.slice (some ⟨b,o,none⟩) l.length c) none (some (.int .i64 ((frN l:Int)+8))) none).run Tryz.prog w' = .ok v2 w':=hcut2;clear hx hcut1 hcut2 hB1' hB2 hn1 hsum;go_enter Tryz.func224,Tryz.ntmps224;go_wp2_with fail
 go_quiet (fail)
 have ST:=aR.from w;have IQ:Hid (Below w.heap.size w (w.drewN nq)):=hid (Below.drewN _ _);generalize w.drewN nq=wq at IQ ⊢;rw[HV.out];generalize hN:frN l=N at hN' hlN hcut1' hcut2' ⊢;have HNN:=hid hN;clear hN c2 c3 c4 HV;go_wp2_with fail;have hwr:IntKind.i64.wrap ((N:Int)+8)=(N:Int)+8:=by simp only[IntKind.wrap_i64];omega
 refine aU [0,1,3,0,15,31,0,0,128,448,960,2047] 48 (fun w'=>Below w.heap.size w w') (by kernel_rfl) ?_;refine aB [0,1,2,3,6,7,8,9,10] (by kernel_rfl) (L:=bm 12 1999) (by kernel_rfl) (f':=3) rfl (fun _ _ _ _ h=>h) (fun w o h=>ST.alloc h o) (.inr (ST.drew IQ.out)) ?_;simp only[sF,sL]
 iterate 9 (first|(refine aW _ (by rfl) (fun w' hs=>by have y0:=Below.at hs C1.out hbs;have yc:=(HB2.out.below hs).str (P:=Tryz.prog) Tryz.underlying36 Tryz.underlying5 Tryz.underlying9;go_simp;try with_reducible rfl) rfl ?_;simp only[Act.put,sA])|(refine aC _ (by rfl) (fun w'=>by go_simp;try with_reducible rfl) ?_;simp only[Act.put,sA]))
 refine aI ?_;refine aM 4 (by kernel_rfl) (L:=bm 12 2015) (by kernel_rfl) ?_;simp only[sL];go_wp2_with fail;refine(xY x v1 (aF l) _ (HB1.out.below (ST.drew IQ.out)) x1 (by have:=HBL.out;omega)).mono ?_;rintro e u4 ⟨v4,rfl,hB4,hb4⟩;have I4:Hid (Below w.heap.size w u4):=hid (ST.below (ST.drew IQ.out) hb4);have HB4:=hid hB4;clear hB4 hb4;go_wp2_with fail;refine aH (fun _=>I4.out) ?_;refine aM 5 (by kernel_rfl) (L:=bm 12 2047) (by kernel_rfl) ?_;simp only[sL];refine iC rfl 36 9 5 _ rfl Tryz.underlying36 Tryz.underlying5 Tryz.underlying9 _ _ rfl HB4.out ?_;go_wp2_with fail;refine aH (fun _=>I4.out) ?_;refine aB [11] (by kernel_rfl) (L:=bm 12 4095) (by kernel_rfl) (f':=0) rfl (fun _ _ _ _ h=>h) (fun w o h=>ST.alloc h o) (.inl (by kernel_rfl)) ?_;simp only[sF,sL]
 iterate 1 (refine aC _ (by rfl) (fun w'=>by go_simp;try with_reducible rfl) ?_;simp only[Act.put,sA])
 refine aI ?_;refine bC (by kernel_rfl) ?_;clear hwr;rw[HW.out];go_wp2_with fail;have hwr:IntKind.i64.wrap ((N:Int)+8)=(N:Int)+8:=by simp only[IntKind.wrap_i64];omega
 refine aU [0,1,3,0,0,24,0,64,63,319,1023,2047] 32 (fun w'=>Below w.heap.size w w') (by kernel_rfl) ?_;refine aB [0,1,2,4,6,7] (by kernel_rfl) (L:=bm 12 215) (by kernel_rfl) (f':=6) rfl (fun _ _ _ _ h=>h) (fun w o h=>ST.alloc h o) (.inr (by first|exact ST.drew I4.out|exact I4.out)) ?_;simp only[sF,sL]
 iterate 6 (first|(refine aW _ (by rfl) (fun w' hs=>by have y0:=Below.at hs C1.out hbs;have yc:=(HB2.out.below hs).str (P:=Tryz.prog) Tryz.underlying36 Tryz.underlying5 Tryz.underlying9;go_simp;try with_reducible rfl) rfl ?_;simp only[Act.put,sA])|(refine aC _ (by rfl) (fun w'=>by go_simp;try with_reducible rfl) ?_;simp only[Act.put,sA]))
 refine aI ?_;refine aM 3 (by kernel_rfl) (L:=bm 12 223) (by kernel_rfl) ?_;simp only[sL];go_wp2_with fail;generalize hu5:World.alloc _ _=u5;have I5:Hid (Below w.heap.size w u5):=hid (by subst hu5;exact ST.alloc (by first|exact ST.drew I4.out|exact I4.out) _);have O5:Hid (cC u5 (w.heap.size) 5 .u8 (.slice (some ⟨u4.heap.size,0,none⟩) 0 0) []):=hid (by subst hu5;first|exact cC.empty (heap_alloc_new _ _) I4.out.size|exact cC.empty (heap_alloc_new _ _) (ST.drew I4.out).size);clear hu5;refine aH nofun ?_;refine aM 5 (by kernel_rfl) (L:=bm 12 255) (by kernel_rfl) ?_;simp only[sL];refine bS Tryz.u8s _ _ rfl w.heap.size _ _ [] (ints (aF l)) rfl rfl O5.out.drew (HB1.out.below (ST.drew I5.out)).rd (by decide) HLN.out (ST.drew I5.out).size rfl ?_;intro v6 w6 hown6 hgr6 hat6 hnil6 hbel6;have O6:Hid (cC w6 w.heap.size 5 .u8 v6 (ints (aF l))):=hid (by simpa using hown6);have B6:Hid (Below w.heap.size w w6):=hid ((ST.drew I5.out).trans hbel6);clear hown6 hgr6 hat6 hnil6 hbel6;go_wp2_with fail;refine aH (fun _=>B6.out) ?_;refine aB [8,9,10,11] (by kernel_rfl) (L:=bm 12 4095) (by kernel_rfl) (f':=0) rfl (fun _ _ _ _ h=>h) (fun w o h=>ST.alloc h o) (.inl (by kernel_rfl)) ?_;simp only[sF,sL]
 iterate 4 (refine aC _ (by rfl) (fun w'=>by go_simp;try with_reducible rfl) ?_;simp only[Act.put,sA])
 refine aI ?_;refine bC (by kernel_rfl) ?_;go_wp2_with fail;refine bodyPost_ret (v:=.tuple #[.int .u8 x,v6,.int .i64 ((N:Int)+8),.int .i64 0]) (by simp[results,Tryz.results224,go_sem]) rfl ?_;exact⟨B6.out,fun h=>absurd HF.out h,fun _=>⟨v6,by rw[HX.out,HNN.out];rfl,Bytes.dL O6.out HB1.out.lt HB1.out.small⟩⟩

theorem aD0 (v:Value)(l:List Nat)(w:World)(hB:Bytes w v l)(h0:l.length=0):Calls Tryz.prog 224 #[v] w (kT l w):=by
 have hs:cP l=23:=by simp[cP,h0]
 have HF:Hid (cS l=23):=hid (by simp[cS,hs]);obtain⟨a,c,rfl,_⟩:=hB.shape;rw[h0];clear hs h0 hB;go_enter Tryz.func224,Tryz.ntmps224;go_wp2_with fail;refine bodyPost_ret (v:=.tuple #[.int .u8 0,.slice none 0 0,.int .i64 0,.int .i64 23]) (by simp[results,Tryz.results224,go_sem]) rfl ?_;exact⟨Below.refl _ _,fun _=>by rw[HF.out];rfl,fun h=>absurd (HF.out.symm.trans h) (by decide)⟩

theorem aD1 (v:Value)(l:List Nat)(w:World)(hB:Bytes w v l)(hs:cP l≠0)(h0:0<l.length)(h5:l.length<5):Calls Tryz.prog 224 #[v] w (kT l w):=by
 obtain⟨b,o,c,rfl,hle,hbs,hcell⟩:=hB.eD (by omega);have c0:w.cell? ⟨b,o,none⟩=some (.int .u8 (l.getD 0 0:Nat)):=hcell 0 (by omega);have c1:1<l.length->w.cell? ⟨b,o+1,none⟩=some (.int .u8 (l.getD 1 0:Nat)):=fun h=>hcell 1 h;have hse:cP l=if l.getD 0 0≠102 then 20 else if l.length<2 then 23 else if l.getD 1 0=0 then 20 else 23:=by
  unfold cP;rw[if_neg (by omega),if_pos h5]
 have htk:cS l=cP l:=by simp[cS,hs]
 have hl0:((l.length:Int)==0)=false:=beq_eq_false_iff_ne.2 (by omega);have i0:(0:Int)<(l.length:Int):=by omega
 have key:∃k:Nat,k≠0/\cS l=k/\((k=20/\(((l.getD 0 0:Nat):Int) != 102)=true)\/(k=23/\(((l.getD 0 0:Nat):Int) != 102)=false/\(l.length:Int)<2) \/
   (k=20/\(((l.getD 0 0:Nat):Int) != 102)=false /\ ¬(l.length:Int)<2/\(((l.getD 1 0:Nat):Int)==0)=true) \/
   (k=23/\(((l.getD 0 0:Nat):Int) != 102)=false /\ ¬(l.length:Int)<2/\(((l.getD 1 0:Nat):Int)==0)=false)):=by
  generalize l.getD 0 0=x at hse;generalize l.getD 1 0=y at hse;by_cases hx:x=102
  ·have hxb:((x:Int) != 102)=false:=by simp;omega
   by_cases h2:l.length<2
   ·exact⟨23,by decide,by rw[htk,hse,if_neg (by omega),if_pos h2],.inr (.inl ⟨rfl,hxb,by omega⟩)⟩
   ·by_cases hy:y=0
    ·exact⟨20,by decide,by rw[htk,hse,if_neg (by omega),if_neg h2,if_pos hy],.inr (.inr (.inl ⟨rfl,hxb,by omega,by simp;omega⟩))⟩
    ·exact⟨23,by decide,by rw[htk,hse,if_neg (by omega),if_neg h2,if_neg hy],.inr (.inr (.inr ⟨rfl,hxb,by omega,by simp;omega⟩))⟩
  ·exact⟨20,by decide,by rw[htk,hse,if_pos hx],.inl ⟨rfl,by simp;omega⟩⟩
 have h5i:(l.length:Int)<5:=by omega
 clear hB hcell hle hs hse htk h5 h0;obtain⟨k,hk,hkt,key⟩:=key;have HK:=hid hk;have HF:=hid hkt;clear hk hkt;generalize l.getD 0 0=x at c0 key;generalize l.getD 1 0=y at c1 key;rcases key with ⟨rfl,k1⟩|⟨rfl,k1,k2⟩|⟨rfl,k1,k2,k3⟩|⟨rfl,k1,k2,k3⟩
 ·clear c1;go_enter Tryz.func224,Tryz.ntmps224;go_wp2_with fail;refine bodyPost_ret (v:=.tuple #[.int .u8 0,.slice none 0 0,.int .i64 0,.int .i64 20]) (by simp[results,Tryz.results224,go_sem]) rfl ?_;exact⟨Below.refl _ _,fun _=>by rw[HF.out];rfl,fun h=>absurd (HF.out.symm.trans h) HK.out⟩
 ·clear c1;go_enter Tryz.func224,Tryz.ntmps224;go_wp2_with fail;refine bodyPost_ret (v:=.tuple #[.int .u8 0,.slice none 0 0,.int .i64 0,.int .i64 23]) (by simp[results,Tryz.results224,go_sem]) rfl ?_;exact⟨Below.refl _ _,fun _=>by rw[HF.out];rfl,fun h=>absurd (HF.out.symm.trans h) HK.out⟩
 ·have c1':=c1 (by omega);have i1:(1:Int)<(l.length:Int):=by omega
  clear c1;go_enter Tryz.func224,Tryz.ntmps224;go_wp2_with fail;refine bodyPost_ret (v:=.tuple #[.int .u8 0,.slice none 0 0,.int .i64 0,.int .i64 20]) (by simp[results,Tryz.results224,go_sem]) rfl ?_;exact⟨Below.refl _ _,fun _=>by rw[HF.out];rfl,fun h=>absurd (HF.out.symm.trans h) HK.out⟩
 ·have c1':=c1 (by omega);have i1:(1:Int)<(l.length:Int):=by omega
  clear c1;go_enter Tryz.func224,Tryz.ntmps224;go_wp2_with fail;refine bodyPost_ret (v:=.tuple #[.int .u8 0,.slice none 0 0,.int .i64 0,.int .i64 23]) (by simp[results,Tryz.results224,go_sem]) rfl ?_;exact⟨Below.refl _ _,fun _=>by rw[HF.out];rfl,fun h=>absurd (HF.out.symm.trans h) HK.out⟩

theorem aD2 (v:Value)(l:List Nat)(w:World)(hB:Bytes w v l)(hs:cP l≠0)(h5:5<=l.length):Calls Tryz.prog 224 #[v] w (kT l w):=by
 obtain⟨b,o,c,rfl,hle,hbs,hcell⟩:=hB.eD (by omega);have c0:w.cell? ⟨b,o,none⟩=some (.int .u8 (l.getD 0 0:Nat)):=hcell 0 (by omega);have c1:=hcell 1 (by omega);have c2:=hcell 2 (by omega);have c3:=hcell 3 (by omega);have c4:=hcell 4 (by omega);have x2:=hB.dB 2;have x3:=hB.dB 3;have x4:=hB.dB 4;have hse:cP l=if l.getD 0 0≠102 then 20 else if l.getD 1 0=0 then 20 else if 65536<frN l then 20 else if l.length<frN l+8 then 23 else 0:=by
  unfold cP;rw[if_neg (by omega),if_neg (show ¬l.length<2 by omega),if_neg (show ¬l.length<5 by omega)]
 have htk:cS l=cP l:=by simp[cS,hs]
 have hl0:((l.length:Int)==0)=false:=beq_eq_false_iff_ne.2 (by omega);have hl2:¬(l.length:Int)<2:=by omega
 have hl5:¬(l.length:Int)<5:=by omega
 have i0:(0:Int)<(l.length:Int):=by omega
 have i1:(1:Int)<(l.length:Int):=by omega
 have i2:(2:Int)<(l.length:Int):=by omega
 have i3:(3:Int)<(l.length:Int):=by omega
 have i4:(4:Int)<(l.length:Int):=by omega
 have HV:Hid (((l.getD 2 0:Nat):Int)*65536+((l.getD 3 0:Nat):Int)*256+((l.getD 4 0:Nat):Int)=(frN l:Int)):=hid (by have:frN l=l.getD 2 0*65536+l.getD 3 0*256+l.getD 4 0:=rfl;omega);have key:∃k:Nat,k≠0/\cS l=k/\((k=20/\(((l.getD 0 0:Nat):Int) != 102)=true) \/
   (k=20/\(((l.getD 0 0:Nat):Int) != 102)=false/\(((l.getD 1 0:Nat):Int)==0)=true) \/
   (k=20/\(((l.getD 0 0:Nat):Int) != 102)=false/\(((l.getD 1 0:Nat):Int)==0)=false/\(65536:Int)<(frN l:Int)) \/
   (k=23/\(((l.getD 0 0:Nat):Int) != 102)=false/\(((l.getD 1 0:Nat):Int)==0)=false/\(frN l:Int)<=65536/\(l.length:Int)<(frN l:Int)+8)):=by
  generalize l.getD 0 0=x at hse;generalize l.getD 1 0=y at hse;by_cases hx:x=102
  ·have hxb:((x:Int) != 102)=false:=by simp;omega
   by_cases hy:y=0
   ·exact⟨20,by decide,by rw[htk,hse,if_neg (by omega),if_pos hy],.inr (.inl ⟨rfl,hxb,by simp;omega⟩)⟩
   ·have hyb:((y:Int)==0)=false:=by simp;omega
    by_cases hn:65536<frN l
    ·exact⟨20,by decide,by rw[htk,hse,if_neg (by omega),if_neg hy,if_pos hn],.inr (.inr (.inl ⟨rfl,hxb,hyb,by omega⟩))⟩
    ·by_cases ht:l.length<frN l+8
     ·exact⟨23,by decide,by rw[htk,hse,if_neg (by omega),if_neg hy,if_neg hn,if_pos ht],.inr (.inr (.inr ⟨rfl,hxb,hyb,by omega,by omega⟩))⟩
     ·exact absurd (by rw[hse,if_neg (by omega),if_neg hy,if_neg hn,if_neg ht]) hs
  ·exact⟨20,by decide,by rw[htk,hse,if_pos hx],.inl ⟨rfl,by simp;omega⟩⟩
 clear hB hcell hle hs hse htk h5;obtain⟨k,hk,hkt,key⟩:=key;have HK:=hid hk;have HF:=hid hkt;clear hk hkt;generalize l.getD 0 0=x at c0 key;generalize l.getD 1 0=y at c1 key;generalize l.getD 2 0=p at c2 x2 HV;generalize l.getD 3 0=q at c3 x3 HV;generalize l.getD 4 0=r at c4 x4 HV;rcases key with ⟨rfl,k1⟩|⟨rfl,k1,k2⟩|⟨rfl,k1,k2,k3⟩|⟨rfl,k1,k2,k3,k4⟩
 ·go_enter Tryz.func224,Tryz.ntmps224;go_wp2_with fail;refine bodyPost_ret (v:=.tuple #[.int .u8 0,.slice none 0 0,.int .i64 0,.int .i64 20]) (by simp[results,Tryz.results224,go_sem]) rfl ?_;exact⟨Below.refl _ _,fun _=>by rw[HF.out];rfl,fun h=>absurd (HF.out.symm.trans h) HK.out⟩
 ·go_enter Tryz.func224,Tryz.ntmps224;go_wp2_with fail;refine bodyPost_ret (v:=.tuple #[.int .u8 0,.slice none 0 0,.int .i64 0,.int .i64 20]) (by simp[results,Tryz.results224,go_sem]) rfl ?_;exact⟨Below.refl _ _,fun _=>by rw[HF.out];rfl,fun h=>absurd (HF.out.symm.trans h) HK.out⟩
 ·go_enter Tryz.func224,Tryz.ntmps224;go_wp2_with fail
  go_quiet (fail)
  rw[HV.out];go_wp2_with fail;refine bodyPost_ret (v:=.tuple #[.int .u8 0,.slice none 0 0,.int .i64 0,.int .i64 20]) (by simp[results,Tryz.results224,go_sem]) rfl ?_;exact⟨Below.drewN _ _,fun _=>by rw[HF.out];rfl,fun h=>absurd (HF.out.symm.trans h) HK.out⟩
 ·go_enter Tryz.func224,Tryz.ntmps224;go_wp2_with fail
  go_quiet (fail)
  rw[HV.out];go_wp2_with fail;refine bodyPost_ret (v:=.tuple #[.int .u8 0,.slice none 0 0,.int .i64 0,.int .i64 23]) (by simp[results,Tryz.results224,go_sem]) rfl ?_;exact⟨Below.drewN _ _,fun _=>by rw[HF.out];rfl,fun h=>absurd (HF.out.symm.trans h) HK.out⟩

theorem kO (v:Value)(l:List Nat)(w:World)(hB:Bytes w v l):Calls Tryz.prog 224 #[v] w (kT l w):=by
 by_cases hs:cP l=0
 ·by_cases hsum:jY (frN l+5) (l.take (frN l+8))
  ·exact aF9 v l w hB hs hsum
  ·exact aHM v l w hB hs hsum
 ·by_cases h0:l.length=0
  ·exact aD0 v l w hB h0
  ·by_cases h5:l.length<5
   ·exact aD1 v l w hB hs (by omega) h5
   ·exact aD2 v l w hB hs (by omega)

theorem Tryz.aEN:(Tryz.prog.info? 3).map (fun i=>(i.zero,i.size,i.bytes))=some (some (.int .i64 0),1,8):=by kernel_rfl
theorem Tryz.aKO:jI Tryz.prog 73 3 .i64 8:=⟨Tryz.underlying73,Tryz.aEN⟩

structure Ints (w:World)(v:Value)(l:List Int):Prop where
 shape:∃a c,v = .slice a l.length c/\l.length<=c
 rd:Reads w .i64 v l
 small:l.length<=2097152
theorem Ints.kept {w w':World}{v:Value}{l:List Int}{S:Nat->Prop}(h:Ints w v l)(hk:Kept w w' S)(hs:∀b,v.ownBlock=some b -> ¬S b):Ints w' v l:=⟨h.shape,h.rd.kept hk hs,h.small⟩
theorem Ints.below {w w':World}{v:Value}{l:List Int}(h:Ints w v l)(hb:Below w.heap.size w w'):Ints w' v l:=⟨h.shape,h.rd.below hb,h.small⟩
theorem Ints.alloc {w:World}{v:Value}{l:List Int}(h:Ints w v l)(o:Obj):Ints (w.alloc o) v l:=⟨h.shape,h.rd.alloc o,h.small⟩
theorem Ints.nil (w:World):Ints w (.slice none 0 0) []:=⟨⟨none,0,rfl,Nat.le_refl _⟩,Reads.nil _ _ _ _,Nat.zero_le _⟩
theorem Ints.dL {w:World}{base:Nat}{e:TypeId}{v:Value}{l:List Int}(h:cC w base e .i64 v l)(hs:l.length<=2097152):Ints w v l:=by
 refine⟨?_,h.reads,hs⟩;rcases h.2 with ⟨rfl,h0⟩|⟨g,cap,cur,rfl,_,_,hle,_⟩
 ·exact⟨none,0,by rw[h0],by omega⟩
 ·exact⟨_,_,rfl,hle⟩
theorem Ints.cells {w:World}{a:Option Addr}{n c:Nat}{l:List Int}(h:Ints w (.slice a n c) l):n=l.length/\n<=c /\ ∀j (hj:j<l.length),∃b o,a=some ⟨b,o,none⟩/\w.cell? ⟨b,o+j,none⟩=some (.int .i64 l[j]):=by
 obtain⟨a',c',h1,h2⟩:=h.shape;cases h1;refine⟨rfl,h2,fun j hj=>?_⟩;obtain⟨a',c',h1,hc⟩:=h.rd;cases h1;exact hc j hj

def kD (ms:List Int)(j:Nat):Int:=if j=0 then -1 else ms.getD (j-1) 0
def zR (ms:List Int)(j:Nat):Prop:=kD ms j<ms.getD j 0/\ms.getD j 0<7
instance (ms:List Int) (j:Nat):Decidable (zR ms j):=inferInstanceAs (Decidable (_/\_))
def aCr (ms:List Int):Prop:=1<=ms.length/\ms.length<=7 /\ ∀j,j<ms.length->zR ms j
instance (ms:List Int):Decidable (aCr ms):=inferInstanceAs (Decidable (_/\_/\_))
def lU (ms:List Int):Bool:=decide (aCr ms)
theorem xT (ms:List Int)(k:Nat):kD ms (k+1)=ms.getD k 0:=by simp[kD]
theorem tP {ms:List Int}{k:Nat}(h:∀j,j<k->zR ms j):∀j,j<k->0<=ms.getD j 0
 | 0,hj=>by have:=(h 0 hj).1;simp only[kD,if_true]at this;omega
 | j+1,hj=>by have:=tP h j (by omega);have:=(h (j+1) hj).1;rw[xT]at this;omega
theorem rS {l:List Int}{j:Nat}(h:j<l.length):l.getD j 0=l[j]:=by simp[List.getD_eq_getElem?_getD,h]

theorem rE (v:Value)(ms:List Int)(w:World)(h:Ints w v ms) :
  Calls Tryz.prog 233 #[v] w fun e w'=>e = .returned (.bool (lU ms))/\w=w':=by
 obtain⟨a,c,rfl,hle⟩:=h.shape;have HC:=hid h.cells.2.2;have hlb:(ms.length:Int)<=2097152:=by have:=h.small;omega
 by_cases h0:ms.length=0
 ·have HV:Hid (lU ms=false):=hid (decide_eq_false fun h=>by have:=h.1;omega);rw[HV.out];rw[h0]at *
  clear h hle HC;go_enter Tryz.func233,Tryz.ntmps233;go_wp2_with fail
  go_step3
  go_wp2_with fail
  go_step3
  go_wp2_with fail
  go_loop [4,6,17,3] (fun l n i o=>i = .int .i64 0/\o = .bool false/\l = .int .i64 (-1)) (fun _ _ _ _=>0)
  case atStart=>exact⟨rfl,rfl,rfl⟩
  case round =>
   obtain⟨rfl,rfl,rfl⟩:=hrel;go_wp2_with fail;go_ret;exact⟨rfl,rfl⟩
 ·by_cases h7:7<ms.length
  ·have HV:Hid (lU ms=false):=hid (decide_eq_false fun h=>by have:=h.2.1;omega);rw[HV.out];have l1:(7:Int)<(ms.length:Int):=by omega
   have l0:(0:Int)<(ms.length:Int):=by omega
   obtain⟨x,b,o,rfl,hcell⟩:∃(x:Int) (b o:Nat),a=some ⟨b,o,none⟩/\w.cell? ⟨b,o,none⟩=some (.int .i64 x):=by
    obtain⟨b,o,e,hc⟩:=HC.out 0 (by omega);exact⟨_,b,o,e,hc⟩
   have hd7:decide ((ms.length:Int)<=7)=false:=decide_eq_false (by omega);clear h hle h0 h7;go_enter Tryz.func233,Tryz.ntmps233;go_wp2_with fail
   go_step3
   go_wp2_with fail
   go_step3
   go_wp2_with fail
   go_loop [4,6,17,3] (fun l n i o=>i = .int .i64 0/\o = .bool false/\l = .int .i64 (-1)) (fun _ _ _ _=>0)
   case atStart=>exact⟨rfl,rfl,rfl⟩
   case round =>
    obtain⟨rfl,rfl,rfl⟩:=hrel;go_wp2_with fail
    try rw[Exit.noGoto_ret]
    go_ret;exact⟨rfl,rfl⟩
  ·have l1:(ms.length:Int)<=7:=by omega
   have l0:(0:Int)<(ms.length:Int):=by omega
   have H0:Hid (1<=ms.length/\ms.length<=7):=hid ⟨by omega,by omega⟩;clear h hle h0 h7;go_enter Tryz.func233,Tryz.ntmps233;go_wp2_with fail
   go_step3
   go_wp2_with fail
   go_step3
   go_wp2_with fail
   go_loop [4,6,17,3] (fun l n i o=>∃k:Nat,k<=ms.length/\i = .int .i64 k/\o = .bool true/\l = .int .i64 (kD ms k) /\ ∀j,j<k->zR ms j) (fun _ _ i _=>ms.length-(intOf i).toNat)
   case atStart=>exact⟨0,Nat.zero_le _,rfl,rfl,rfl,fun j h=>absurd h (Nat.not_lt_zero j)⟩
   case round =>
    obtain⟨k,hk,rfl,rfl,rfl,hall⟩:=hrel;have HALL:=hid hall;clear hall;by_cases hlt:k<ms.length
    ·obtain⟨b,o,rfl,hcell⟩:=HC.out k hlt;have hki:(k:Int)<(ms.length:Int):=by omega
     have hx:=rS hlt;have HX:=hid hx;have HP:Hid (kD ms (k+1)=ms[k]):=hid (by rw[xT,hx]);by_cases hok:zR ms k
     ·have HO:=hid hok;have h1:=hok.1;have h2:=hok.2;rw[hx]at h1 h2;clear hok hx;generalize ms[k]=x at hcell h1 h2 HX HP;generalize kD ms k=p at h1;go_wp2_with fail
      go_round
      case rel=>exact⟨k+1,by omega,by go_num,rfl,by rw[HP.out],fun j hj=>by
       by_cases e:j=k
       ·rw[e];exact HO.out
       ·exact HALL.out j (by omega)⟩
      case measure=>simp[intOf];omega
     ·have HV:Hid (lU ms=false):=hid (decide_eq_false fun h=>hok (h.2.2 k hlt));have hno:¬kD ms k<ms[k]\/(kD ms k<ms[k] /\ ¬ms[k]<7):=by
       unfold zR at hok;rw[hx]at hok;omega
      clear hok hx;generalize ms[k]=x at hcell hno HX HP;generalize kD ms k=p at hno;rcases hno with h1|⟨h1,h2⟩
      all_goals
       go_wp2_with fail
       try rw[Exit.noGoto_ret]
       go_ret;exact⟨by rw[HV.out];rfl,rfl⟩
    ·obtain rfl:k=ms.length:=by omega
     have HV:Hid (lU ms=true):=hid (decide_eq_true ⟨H0.out.1,H0.out.2,HALL.out⟩);go_wp2_with fail
     try rw[Exit.noGoto_ret]
     go_ret;exact⟨by rw[HV.out];rfl,rfl⟩

theorem oX (v:Value)(ms:List Int)(w:World)(h:Ints w v ms) :
  Calls Tryz.prog 257 #[v] w fun e w'=>e = .returned (.bool (lU ms))/\Below w.heap.size w w':=by
 obtain⟨a,c,rfl,hle⟩:=h.shape;have HC:=hid h.cells.2.2;have hlb:(ms.length:Int)<=2097152:=by have:=h.small;omega
 by_cases h0:ms.length<1
 ·have HV:Hid (lU ms=false):=hid (decide_eq_false fun h=>by have:=h.1;omega);rw[HV.out];have l0:(ms.length:Int)<1:=by omega
  clear h hle HC h0;go_enter Tryz.func257,Tryz.ntmps257;go_wp2_with fail;go_ret;exact⟨rfl,Below.refl _ _⟩
 ·by_cases h7:7<ms.length
  ·have HV:Hid (lU ms=false):=hid (decide_eq_false fun h=>by have:=h.2.1;omega);rw[HV.out];have l0:¬(ms.length:Int)<1:=by omega
   have l1:(7:Int)<(ms.length:Int):=by omega
   clear h hle HC h0 h7;go_enter Tryz.func257,Tryz.ntmps257;go_wp2_with fail;go_ret;exact⟨rfl,Below.refl _ _⟩
  ·have l0:¬(ms.length:Int)<1:=by omega
   have l1:(ms.length:Int)<=7:=by omega
   have H0:Hid (1<=ms.length/\ms.length<=7):=hid ⟨by omega,by omega⟩;clear h hle h0 h7;go_enter Tryz.func257,Tryz.ntmps257;go_wp2_with fail
   go_loopw [3] (fun i wr=>∃k:Nat,k<=ms.length/\i = .int .i64 k/\(∀j,j<k->zR ms j)/\Below w.heap.size w wr) (fun i _=>ms.length-(intOf i).toNat)
   case atStart=>exact⟨0,Nat.zero_le _,rfl,fun j h=>absurd h (Nat.not_lt_zero j),Below.refl _ _⟩
   case round =>
    obtain⟨k,hk,rfl,hall,hbl⟩:=hrel;have HALL:=hid hall;have HB:=hid hbl;have hsz:=hbl.size;clear hall hbl;by_cases hlt:k<ms.length
    ·obtain⟨b,o,rfl,hcell⟩:=HC.out k hlt;have hb:=World.block_lt_of_cell? _ _ hcell;have hcw:=Below.at HB.out hcell hb;have hki:(k:Int)<(ms.length:Int):=by omega
     have hk0:(0:Int)<=(k:Int):=by omega
     have hx:=rS hlt;have hnn:=tP HALL.out;by_cases hok:zR ms k
     ·have HO:=hid hok;have h1:=hok.1;have h2:=hok.2;rw[hx]at h1 h2;have HREL:Hid (∀j,j<k+1->zR ms j):=hid fun j hj=>by
       by_cases e:j=k
       ·rw[e];exact HO.out
       ·exact HALL.out j (by omega)
      by_cases hk00:k=0
      ·subst hk00;have h1:0<=ms[0]:=by simp only[kD,if_true]at h1;omega
       clear hok hx hnn;have hcw:wr.cell? ⟨b,o,none⟩=some (.int .i64 ms[0]):=hcw;generalize ms[0]=x at hcw h1 h2;have h6:decide (6<x)=false:=decide_eq_false (by omega);have h7:decide (x<0)=false:=decide_eq_false (by omega);clear h2 h1;go_wp2_with fail
       go_quiet (fail)
       go_wp2_with fail
       go_roundw
       case rel=>exact⟨1,by omega,by first|rfl|go_num,HREL.out,HB.out.trans ((Below.drewN _ _).mono HB.out.size)⟩
       case measure=>simp[intOf];omega
      ·have hp0:0<=ms.getD (k-1) 0:=hnn (k-1) (by omega);have e1:kD ms k=ms.getD (k-1) 0:=by simp[kD,hk00]
       rw[e1,rS (show k-1<ms.length by omega)]at h1;rw[rS (show k-1<ms.length by omega)]at hp0;obtain⟨b',o',eb,hcell2⟩:=HC.out (k-1) (by omega);cases eb;have hcw2:=Below.at HB.out hcell2 hb;clear hok hx hnn e1 hcell hcell2;generalize ms[k]=x at hcw h1 h2;generalize ms[k-1]=p at hcw2 h1 hp0;have h6:decide (6<x)=false:=decide_eq_false (by omega);have h7:decide (x<0)=false:=decide_eq_false (by omega);have h8:decide (x<=p)=false:=decide_eq_false (by omega);have hkp:decide ((0:Int)<(k:Int))=true:=decide_eq_true (by omega);have hkp2:decide (0<k)=true:=decide_eq_true (by omega);have hkp3:0<k:=by omega
       have q1:(k:Int)-1<(ms.length:Int):=by omega
       have q0:(0:Int)<=(k:Int)-1:=by omega
       have q2:((k:Int)-1).toNat=k-1:=by omega
       have q3:IntKind.i64.wrap ((k:Int)-1)=(k:Int)-1:=by simp only[IntKind.wrap_i64];omega
       clear h2 hp0 h1;go_wp2_with fail
       go_quiet (fail)
       clear q1 q0 q2 q3;go_wp2_with fail
       go_roundw
       case rel=>exact⟨k+1,by omega,by go_num,HREL.out,HB.out.trans ((Below.drewN _ _).mono HB.out.size)⟩
       case measure=>simp[intOf];omega
     ·have HV:Hid (lU ms=false):=hid (decide_eq_false fun h=>hok (h.2.2 k hlt));unfold zR at hok;rw[hx]at hok;by_cases x0:ms[k]<0
      ·have h7:decide (ms[k]<0)=true:=decide_eq_true x0;clear hok hx hnn x0;generalize ms[k]=x at hcw h7;go_wp2_with fail
       go_quiet (fail)
       go_wp2_with fail;go_ret;exact⟨by rw[HV.out];rfl,HB.out.trans ((Below.drewN _ _).mono HB.out.size)⟩
      ·have h7:decide (ms[k]<0)=false:=decide_eq_false x0;by_cases x6:6<ms[k]
       ·have h6:decide (6<ms[k])=true:=decide_eq_true x6;clear hok hx hnn x0 x6;generalize ms[k]=x at hcw h7 h6;go_wp2_with fail
        go_quiet (fail)
        go_wp2_with fail;go_ret;exact⟨by rw[HV.out];rfl,HB.out.trans ((Below.drewN _ _).mono HB.out.size)⟩
       ·have hk00:k≠0:=by
         intro e;subst e;simp only[kD,if_true]at hok;omega
        have e1:kD ms k=ms.getD (k-1) 0:=by simp[kD,hk00]
        rw[e1,rS (show k-1<ms.length by omega)]at hok;obtain⟨b',o',eb,hcell2⟩:=HC.out (k-1) (by omega);cases eb;have hcw2:=Below.at HB.out hcell2 hb;have h6:decide (6<ms[k])=false:=decide_eq_false x6;have h8:decide (ms[k]<=ms[k-1])=true:=decide_eq_true (by omega);have hkp:decide ((0:Int)<(k:Int))=true:=decide_eq_true (by omega);have hkp2:decide (0<k)=true:=decide_eq_true (by omega);have hkp3:0<k:=by omega
        have q1:(k:Int)-1<(ms.length:Int):=by omega
        have q0:(0:Int)<=(k:Int)-1:=by omega
        have q2:((k:Int)-1).toNat=k-1:=by omega
        have q3:IntKind.i64.wrap ((k:Int)-1)=(k:Int)-1:=by simp only[IntKind.wrap_i64];omega
        clear hok hx hnn x0 x6 e1 hcell hcell2;generalize ms[k]=x at hcw h7 h6 h8;generalize ms[k-1]=p at hcw2 h8;go_wp2_with fail
        go_quiet (fail)
        clear q1 q0 q2 q3;go_wp2_with fail;go_ret;exact⟨by rw[HV.out];rfl,HB.out.trans ((Below.drewN _ _).mono HB.out.size)⟩
    ·obtain rfl:k=ms.length:=by omega
     have HV:Hid (lU ms=true):=hid (decide_eq_true ⟨H0.out.1,H0.out.2,HALL.out⟩);go_wp2_with fail;go_ret;exact⟨by rw[HV.out];rfl,HB.out⟩


structure bM where
 i:Int
 t:Int
 ms:List Int
 d:List Nat
def cL (w:World)(v:Value)(s:bM):Prop:=∃mv dv,v = .agg #[.int .u64 s.i,.int .u64 s.t,mv,dv]/\Ints w mv s.ms/\Bytes w dv s.d
theorem cL.below {w w':World}{v:Value}{s:bM}(h:cL w v s)(hb:Below w.heap.size w w'):cL w' v s:=by
 obtain⟨mv,dv,h1,h2,h3⟩:=h;exact⟨mv,dv,h1,h2.below hb,h3.below hb⟩
def bM.ok (s:bM):Prop:=1<=s.i/\s.i<576460752303423488/\1<=s.t/\s.t<=1152921504606846976/\aCr s.ms/\s.d.length<=32768
instance (s:bM):Decidable s.ok:=inferInstanceAs (Decidable (_/\_))
def bM.okB (s:bM):Bool:=decide s.ok

theorem Below.aGL {W w1:World}(hb:Below W.heap.size W w1):(∀b o,b<W.heap.size->w1.cell? ⟨b,o,none⟩=W.cell? ⟨b,o,none⟩)/\(∀b o,b<W.heap.size->w1.frozen? ⟨b,o,none⟩=W.frozen? ⟨b,o,none⟩) :=
 ⟨fun b o h=>hb.cell (p:=⟨b,o,none⟩) h,fun b o h=>hb.frozen (p:=⟨b,o,none⟩) h⟩

theorem tX (v:Value)(s:bM)(w:World)(h:cL w v s) :
  Calls Tryz.prog 194 #[v] w fun e w'=>e = .returned (.bool s.okB)/\Below w.heap.size w w':=by
 obtain⟨mv,dv,rfl,hm,hd⟩:=h;obtain⟨i,t,ms,d⟩:=s;have HM:=hid hm;have hdl:(d.length:Int)<=2097152:=by have:d.length<=2097152:=hd.small;omega
 obtain⟨a,c,rfl,_⟩:=hd.shape;obtain⟨am,cm,rfl,_⟩:=hm.shape;have AL:Hid (∀o:Obj,Ints (w.alloc o) (.slice am ms.length cm) ms):=hid fun o=>HM.out.alloc o;clear hm hd;by_cases h1:1<=i
 ·by_cases h2:i<576460752303423488
  ·by_cases h3:1<=t
   ·by_cases h4:t<=1152921504606846976
    ·have HC:=hid (show 1<=i/\i<576460752303423488/\1<=t/\t<=1152921504606846976 from⟨h1,h2,h3,h4⟩);by_cases hm:aCr ms
     ·have hmb:lU ms=true:=decide_eq_true hm;have HMO:=hid hm;by_cases h5:d.length<=32768
      ·have HV:Hid ((bM.mk i t ms d).okB=true):=hid (decide_eq_true ⟨h1,h2,h3,h4,hm,h5⟩);rw[HV.out];have h5i:(d.length:Int)<=32768:=by omega
       have HMB:=hid hmb;clear hm h5 hmb;go_enter Tryz.func194,Tryz.ntmps194;go_wp2_with fail;refine(rE _ ms _ (AL.out _)).mono ?_;rintro e w1 ⟨rfl,rfl⟩;rw[HMB.out];go_wp2_with fail;go_ret;exact⟨rfl,(Below.refl _ _).alloc (Nat.le_refl _) _⟩
      ·have HV:Hid ((bM.mk i t ms d).okB=false):=hid (decide_eq_false fun h=>h5 h.2.2.2.2.2);rw[HV.out];have h5i:¬(d.length:Int)<=32768:=by omega
       have H5B:Hid (decide ((d.length:Int)<=32768)=false):=hid (decide_eq_false h5i);have HMB:=hid hmb;clear hm h5 hmb;go_enter Tryz.func194,Tryz.ntmps194;go_wp2_with fail;refine(rE _ ms _ (AL.out _)).mono ?_;rintro e w1 ⟨rfl,rfl⟩;rw[HMB.out];go_wp2_with fail;go_ret;exact⟨yE H5B.out,(Below.refl _ _).alloc (Nat.le_refl _) _⟩
     ·have hmb:lU ms=false:=decide_eq_false hm;have HV:Hid ((bM.mk i t ms d).okB=false):=hid (decide_eq_false fun h=>hm h.2.2.2.2.1);rw[HV.out];have HMB:=hid hmb;clear hm hmb;go_enter Tryz.func194,Tryz.ntmps194;go_wp2_with fail;refine(rE _ ms _ (AL.out _)).mono ?_;rintro e w1 ⟨rfl,rfl⟩;rw[HMB.out];go_wp2_with fail;go_ret;exact⟨rfl,(Below.refl _ _).alloc (Nat.le_refl _) _⟩
    ·have HV:Hid ((bM.mk i t ms d).okB=false):=hid (decide_eq_false fun h=>h4 h.2.2.2.1);rw[HV.out];go_enter Tryz.func194,Tryz.ntmps194;go_wp2_with fail;go_ret;exact⟨rfl,(Below.refl _ _).alloc (Nat.le_refl _) _⟩
   ·have HV:Hid ((bM.mk i t ms d).okB=false):=hid (decide_eq_false fun h=>h3 h.2.2.1);rw[HV.out];go_enter Tryz.func194,Tryz.ntmps194;go_wp2_with fail;go_ret;exact⟨rfl,(Below.refl _ _).alloc (Nat.le_refl _) _⟩
  ·have HV:Hid ((bM.mk i t ms d).okB=false):=hid (decide_eq_false fun h=>h2 h.2.1);rw[HV.out];go_enter Tryz.func194,Tryz.ntmps194;go_wp2_with fail;go_ret;exact⟨rfl,(Below.refl _ _).alloc (Nat.le_refl _) _⟩
 ·have HV:Hid ((bM.mk i t ms d).okB=false):=hid (decide_eq_false fun h=>h1 h.1);rw[HV.out];go_enter Tryz.func194,Tryz.ntmps194;go_wp2_with fail;go_ret;exact⟨rfl,(Below.refl _ _).alloc (Nat.le_refl _) _⟩

theorem aDZ (v:Value)(s:bM)(w:World)(h:cL w v s) :
  Calls Tryz.prog 228 #[v] w fun e w'=>e = .returned (.bool s.okB)/\Below w.heap.size w w':=by
 obtain⟨mv,dv,rfl,hm,hd⟩:=h;obtain⟨i,t,ms,d⟩:=s;have HM:=hid hm;have hdl:(d.length:Int)<=2097152:=by have:d.length<=2097152:=hd.small;omega
 obtain⟨a,c,rfl,_⟩:=hd.shape;obtain⟨am,cm,rfl,_⟩:=hm.shape;have AL:Hid (∀o:Obj,Ints (w.alloc o) (.slice am ms.length cm) ms):=hid fun o=>HM.out.alloc o;clear hm hd;by_cases h1:1<=i
 ·by_cases h2:i<576460752303423488
  ·by_cases h3:1<=t
   ·by_cases h4:t<=1152921504606846976
    ·have HC:=hid (show 1<=i/\i<576460752303423488/\1<=t/\t<=1152921504606846976 from⟨h1,h2,h3,h4⟩);by_cases hm:aCr ms
     ·have hmb:lU ms=true:=decide_eq_true hm;have HMO:=hid hm;by_cases h5:d.length<=32768
      ·have HV:Hid ((bM.mk i t ms d).okB=true):=hid (decide_eq_true ⟨h1,h2,h3,h4,hm,h5⟩);rw[HV.out];have h5i:(d.length:Int)<=32768:=by omega
       have HMB:=hid hmb;clear hm h5 hmb;go_enter Tryz.func228,Tryz.ntmps228;go_wp2_with fail;refine(oX _ ms _ (AL.out _)).mono ?_;rintro e w1 ⟨rfl,hb1⟩;have B1:=hid (((Below.refl w.heap.size w).alloc (Nat.le_refl _) (.cells #[.int .u64 i,.int .u64 t,.slice am ms.length cm,.slice a d.length c] 75)).trans (hb1.mono (by simp)));obtain⟨g0,g1⟩:=Below.aGL hb1;have hs1:=hb1.size;simp only[World.size_alloc]at hs1;clear hb1;rw[HMB.out];go_wp2_with fail;go_ret;exact⟨rfl,B1.out⟩
      ·have HV:Hid ((bM.mk i t ms d).okB=false):=hid (decide_eq_false fun h=>h5 h.2.2.2.2.2);rw[HV.out];have h5i:¬(d.length:Int)<=32768:=by omega
       have H5B:Hid (decide ((d.length:Int)<=32768)=false):=hid (decide_eq_false h5i);have HMB:=hid hmb;clear hm h5 hmb;go_enter Tryz.func228,Tryz.ntmps228;go_wp2_with fail;refine(oX _ ms _ (AL.out _)).mono ?_;rintro e w1 ⟨rfl,hb1⟩;have B1:=hid (((Below.refl w.heap.size w).alloc (Nat.le_refl _) (.cells #[.int .u64 i,.int .u64 t,.slice am ms.length cm,.slice a d.length c] 75)).trans (hb1.mono (by simp)));obtain⟨g0,g1⟩:=Below.aGL hb1;have hs1:=hb1.size;simp only[World.size_alloc]at hs1;clear hb1;rw[HMB.out];go_wp2_with fail;go_ret;exact⟨yE H5B.out,B1.out⟩
     ·have hmb:lU ms=false:=decide_eq_false hm;have HV:Hid ((bM.mk i t ms d).okB=false):=hid (decide_eq_false fun h=>hm h.2.2.2.2.1);rw[HV.out];have HMB:=hid hmb;clear hm hmb;go_enter Tryz.func228,Tryz.ntmps228;go_wp2_with fail;refine(oX _ ms _ (AL.out _)).mono ?_;rintro e w1 ⟨rfl,hb1⟩;have B1:=hid (((Below.refl w.heap.size w).alloc (Nat.le_refl _) (.cells #[.int .u64 i,.int .u64 t,.slice am ms.length cm,.slice a d.length c] 75)).trans (hb1.mono (by simp)));obtain⟨g0,g1⟩:=Below.aGL hb1;have hs1:=hb1.size;simp only[World.size_alloc]at hs1;clear hb1;rw[HMB.out];go_wp2_with fail;go_ret;exact⟨rfl,B1.out⟩
    ·have HV:Hid ((bM.mk i t ms d).okB=false):=hid (decide_eq_false fun h=>h4 h.2.2.2.1);rw[HV.out];go_enter Tryz.func228,Tryz.ntmps228;go_wp2_with fail;go_ret;exact⟨rfl,(Below.refl _ _).alloc (Nat.le_refl _) _⟩
   ·have HV:Hid ((bM.mk i t ms d).okB=false):=hid (decide_eq_false fun h=>h3 h.2.2.1);rw[HV.out];go_enter Tryz.func228,Tryz.ntmps228;go_wp2_with fail;go_ret;exact⟨rfl,(Below.refl _ _).alloc (Nat.le_refl _) _⟩
  ·have HV:Hid ((bM.mk i t ms d).okB=false):=hid (decide_eq_false fun h=>h2 h.2.1);rw[HV.out];go_enter Tryz.func228,Tryz.ntmps228;go_wp2_with fail;go_ret;exact⟨rfl,(Below.refl _ _).alloc (Nat.le_refl _) _⟩
 ·have HV:Hid ((bM.mk i t ms d).okB=false):=hid (decide_eq_false fun h=>h1 h.1);rw[HV.out];go_enter Tryz.func228,Tryz.ntmps228;go_wp2_with fail;go_ret;exact⟨rfl,(Below.refl _ _).alloc (Nat.le_refl _) _⟩

def bM.same (s r:bM):Prop:=s.i=r.i/\s.t=r.t/\s.ms=r.ms/\s.d=r.d
instance (s r:bM):Decidable (s.same r):=inferInstanceAs (Decidable (_/\_))
def bM.uY (s r:bM):Bool:=decide (s.same r)
theorem bM.aD3 (s:bM):s.uY s=true:=decide_eq_true ⟨rfl,rfl,rfl,rfl⟩
theorem aF7 (v1 v2:Value)(s r:bM)(w:World)(hs:cL w v1 s)(hr:cL w v2 r) :
  Calls Tryz.prog 54 #[v1,v2] w fun e w'=>e = .returned (.bool (s.uY r))/\Below w.heap.size w w':=by
 obtain⟨mv,dv,rfl,hm,hd⟩:=hs;obtain⟨nv,ev,rfl,hn,he⟩:=hr;obtain⟨i,t,ms,d⟩:=s;obtain⟨j,u,ns,e⟩:=r;simp only at hm hd hn he ⊢;have hml:(ms.length:Int)<=2097152:=by have:=hm.small;omega
 have hnl:(ns.length:Int)<=2097152:=by have:=hn.small;omega
 have c1:∀o1 o2,(convert 36 9 dv).run Tryz.prog ((w.alloc o1).alloc o2) = .ok (.string (bX d)) ((w.alloc o1).alloc o2):=fun o1 o2=>((hd.alloc o1).alloc o2).str Tryz.underlying36 Tryz.underlying5 Tryz.underlying9;have c2:∀o1 o2,(convert 36 9 ev).run Tryz.prog ((w.alloc o1).alloc o2) = .ok (.string (bX e)) ((w.alloc o1).alloc o2):=fun o1 o2=>((he.alloc o1).alloc o2).str Tryz.underlying36 Tryz.underlying5 Tryz.underlying9;have HDE:Hid (bX d=bX e ↔ d=e):=hid ⟨fun h=>yS hd.lt he.lt h,fun h=>by rw[h]⟩;obtain⟨am,cm,rfl,_⟩:=hm.shape;obtain⟨an,cn,rfl,_⟩:=hn.shape;have HMC:=hid hm.cells.2.2;have HNC:=hid hn.cells.2.2;obtain⟨dsh,dshape⟩:∃x:Option Addr × Nat,dv = .slice x.1 d.length x.2:=by obtain⟨a,c,h,_⟩:=hd.shape;exact⟨(a,c),h⟩
 obtain⟨esh,eshape⟩:∃x:Option Addr × Nat,ev = .slice x.1 e.length x.2:=by obtain⟨a,c,h,_⟩:=he.shape;exact⟨(a,c),h⟩
 subst dshape eshape;clear hm hn hd he;by_cases q1:i=j
 ·have b1:(i != j)=false:=by simp[q1]
  by_cases q2:t=u
  ·have b2:(t != u)=false:=by simp[q2]
   by_cases q3:ms.length=ns.length
   ·have b3:((ms.length:Int) != (ns.length:Int))=false:=by rw[q3];simp
    by_cases q4:d=e
    ·have b4:((bX d).toList==(bX e).toList)=true:=tZ (HDE.out.2 q4);have HQ:Hid ((bM.mk i t ms d).same (bM.mk j u ns e) ↔ ms=ns):=hid ⟨fun h=>h.2.2.1,fun h=>⟨q1,q2,h,q4⟩⟩;have Q3:=hid q3;clear q1 q2 q3 q4 HDE;go_enter Tryz.func54,Tryz.ntmps54;go_wp2_with fail;generalize hW:World.alloc (World.alloc w _) _=W;have BW:Hid (Below w.heap.size w W):=hid (by subst hW;exact((Below.refl _ _).alloc (Nat.le_refl _) _).alloc (by simp) _);have a2:W.cell? ⟨w.heap.size,2,none⟩=some (.slice am ms.length cm):=by subst hW;go_cell
     have a3:W.cell? ⟨w.heap.size+1,2,none⟩=some (.slice an ns.length cn):=by subst hW;go_cell
     have sW:w.heap.size+1<W.heap.size:=by subst hW;simp
     have A2:=hid a2;have A3:=hid a3;clear hW a2 a3 c1 c2 b1 b2 b3 b4
     go_loopw [5] (fun x wr=>∃k:Nat,k<=ms.length/\x = .int .i64 k/\ms.take k=ns.take k/\Below W.heap.size W wr) (fun x _=>ms.length-(intOf x).toNat)
     case atStart=>exact⟨0,Nat.zero_le _,rfl,by simp,Below.refl _ _⟩
     case round =>
      obtain⟨k,hk,rfl,htk,hbl⟩:=hrel;have HTK:=hid htk;have HB:=hid hbl;have a2:=Below.at HB.out A2.out (show w.heap.size<W.heap.size by omega);have a3:=Below.at HB.out A3.out sW;clear htk hbl;by_cases hlt:k<ms.length
      ·have hlt2:k<ns.length:=by have:=Q3.out;omega
       obtain⟨b1,o1,rfl,h1⟩:=HMC.out k hlt;obtain⟨b2,o2,rfl,h2⟩:=HNC.out k hlt2;have g1:=Below.at HB.out (Below.at BW.out h1 (World.block_lt_of_cell? _ _ h1)) (Nat.lt_of_lt_of_le (World.block_lt_of_cell? _ _ h1) BW.out.size);have g2:=Below.at HB.out (Below.at BW.out h2 (World.block_lt_of_cell? _ _ h2)) (Nat.lt_of_lt_of_le (World.block_lt_of_cell? _ _ h2) BW.out.size);have k1:(k:Int)<(ms.length:Int):=by omega
       have k2:(k:Int)<(ns.length:Int):=by omega
       have k0:(0:Int)<=(k:Int):=by omega
       have HTS:Hid (ms.take (k+1)=ms.take k ++ [ms[k]]/\ns.take (k+1)=ns.take k ++ [ns[k]]):=hid ⟨List.take_succ_eq_append_getElem hlt,List.take_succ_eq_append_getElem hlt2⟩;have HG:Hid (ms=ns->ms[k]=ns[k]):=hid fun h=>by subst h;rfl
       clear h1 h2;generalize ms[k]=x at g1 HTS HG;generalize ns[k]=y at g2 HTS HG;by_cases hxy:x=y
       ·have bx:(x != y)=false:=by simp[hxy]
        have HXY:=hid hxy;clear hxy;go_wp2_with fail
        go_quiet (fail)
        go_wp2_with fail
        go_roundw
        case rel=>exact⟨k+1,by omega,by go_num,by rw[HTS.out.1,HTS.out.2,HTK.out,HXY.out],HB.out.trans ((Below.drewN _ _).mono HB.out.size)⟩
        case measure=>simp[intOf];omega
       ·have bx:(x != y)=true:=by simp[hxy]
        have HV:Hid ((bM.mk i t ms d).uY (bM.mk j u ns e)=false):=hid (decide_eq_false fun h=>hxy (HG.out (HQ.out.1 h)));clear hxy;go_wp2_with fail
        go_quiet (fail)
        go_wp2_with fail;go_ret;exact⟨by rw[HV.out];rfl,BW.out.trans ((HB.out.trans ((Below.drewN _ _).mono HB.out.size)).mono BW.out.size)⟩
      ·obtain rfl:k=ms.length:=by omega
       have HV:Hid ((bM.mk i t ms d).uY (bM.mk j u ns e)=true):=hid (decide_eq_true (HQ.out.2 (by have:=HTK.out;rw[List.take_length,Q3.out,List.take_length]at this;exact this)));go_wp2_with fail;go_ret;exact⟨by rw[HV.out];rfl,BW.out.trans (HB.out.mono BW.out.size)⟩
    ·have b4:((bX d).toList==(bX e).toList)=false:=aEd fun h=>q4 (HDE.out.1 h);have HV:Hid ((bM.mk i t ms d).uY (bM.mk j u ns e)=false):=hid (decide_eq_false fun h=>q4 h.2.2.2);rw[HV.out];clear q1 q2 q3 q4 HDE;go_enter Tryz.func54,Tryz.ntmps54;go_wp2_with fail;go_ret;exact⟨rfl,((Below.refl _ _).alloc (Nat.le_refl _) _).alloc (by simp) _⟩
   ·have b3:((ms.length:Int) != (ns.length:Int))=true:=by simp;omega
    have HV:Hid ((bM.mk i t ms d).uY (bM.mk j u ns e)=false):=hid (decide_eq_false fun h=>q3 (by have:=h.2.2.1;simp only at this;rw[this]));rw[HV.out];clear q1 q2 q3 HDE;go_enter Tryz.func54,Tryz.ntmps54;go_wp2_with fail;go_ret;exact⟨rfl,((Below.refl _ _).alloc (Nat.le_refl _) _).alloc (by simp) _⟩
  ·have b2:(t != u)=true:=by simp[q2]
   have HV:Hid ((bM.mk i t ms d).uY (bM.mk j u ns e)=false):=hid (decide_eq_false fun h=>q2 h.2.1);rw[HV.out];clear q1 q2 HDE;go_enter Tryz.func54,Tryz.ntmps54;go_wp2_with fail;go_ret;exact⟨rfl,((Below.refl _ _).alloc (Nat.le_refl _) _).alloc (by simp) _⟩
 ·have b1:(i != j)=true:=by simp[q1]
  have HV:Hid ((bM.mk i t ms d).uY (bM.mk j u ns e)=false):=hid (decide_eq_false fun h=>q1 h.1);rw[HV.out];clear q1 HDE;go_enter Tryz.func54,Tryz.ntmps54;go_wp2_with fail;go_ret;exact⟨rfl,((Below.refl _ _).alloc (Nat.le_refl _) _).alloc (by simp) _⟩
variable {rb:Nat}

def H59:Nat:=576460752303423488
def H60:Nat:=1152921504606846976
def memL (m:Nat):Nat->List Nat->List Nat
 | 0,l=>l
 | k+1,l=>cI m (memL m k l)
def fI (m:Nat):Nat->List Nat->List Int
 | 0,_=>[]
 | k+1,l=>fI m k l ++ [(bO m (memL m k l):Int)]
def lC (m:Nat):Nat->List Nat->Bool
 | 0,_=>false
 | k+1,l=>lC m k l || cF m (memL m k l)
theorem lT (m k:Nat)(l:List Nat):(fI m k l).length=k:=by
 induction k with
 | zero=>rfl
 | succ k ih=>simp[fI,ih]
def eM (l:List Nat):List Nat:=cI H59 l
def nC (l:List Nat):List Nat:=cI H60 (eM l)
def fM (l:List Nat):Nat:=bO 7 (nC l)
def cG (l:List Nat):List Nat:=cI 7 (nC l)
def gI (m:Nat)(l:List Nat):List Nat:=memL m (fM l) (cG l)
def fD (m:Nat)(l:List Nat):bM:=⟨bO H59 l,bO H60 (eM l),fI m (fM l) (cG l),dY 32768 (gI m l)⟩
def qE (m:Nat)(l:List Nat):List Nat:=iU 32768 (gI m l)
def lM (m:Nat)(l:List Nat):Bool:=(((cF H59 l || cF H60 (eM l)) || cF 7 (nC l)) || lC m (fM l) (cG l)) || iT 32768 (gI m l)
theorem pW (l:List Nat):fM l<=7:=fU _ _
theorem aHr {m:Nat}{l:List Nat}:∀c ∈ cI m l,c ∈ l:=by
 intro c hc;unfold cI at hc;split at hc
 ·exact List.mem_of_mem_drop hc
 ·cases hc
theorem qB {m:Nat}{l:List Nat}:∀c ∈ dY m l,c ∈ l:=by
 intro c hc;unfold dY at hc;split at hc
 ·exact aHr c (List.mem_of_mem_take hc)
 ·cases hc
theorem qA (m:Nat)(l:List Nat):(dY m l).length<=m:=by
 unfold dY;split
 ·rw[List.length_take];have:=fU m l;omega
 ·exact Nat.zero_le _

structure bR (w:World)(b:Nat)(i t:Int)(mv dv:Value):Prop where
 c0:w.cell? ⟨b,0,none⟩=some (.int .u64 i)
 c1:w.cell? ⟨b,1,none⟩=some (.int .u64 t)
 c2:w.cell? ⟨b,2,none⟩=some mv
 c3:w.cell? ⟨b,3,none⟩=some dv
 f0:w.frozen? ⟨b,0,none⟩=false
 f1:w.frozen? ⟨b,1,none⟩=false
 f2:w.frozen? ⟨b,2,none⟩=false
 f3:w.frozen? ⟨b,3,none⟩=false
theorem bR.lt {w:World}{b:Nat}{i t:Int}{mv dv:Value}(h:bR w b i t mv dv):b<w.heap.size:=World.block_lt_of_cell? _ _ h.c0
theorem bR.kept {w w':World}{b:Nat}{i t:Int}{mv dv:Value}{S:Nat->Prop}(h:bR w b i t mv dv)(hk:Kept w w' S)(hs:¬S b):bR w' b i t mv dv :=
 ⟨hk.cell h.c0 hs, hk.cell h.c1 hs, hk.cell h.c2 hs, hk.cell h.c3 hs, (hk.frozen (a := ⟨b, 0, none⟩) h.lt hs).trans h.f0, (hk.frozen (a := ⟨b, 1, none⟩) h.lt hs).trans h.f1,
  (hk.frozen (a:=⟨b,2,none⟩) h.lt hs).trans h.f2,(hk.frozen (a:=⟨b,3,none⟩) h.lt hs).trans h.f3⟩
theorem bR.below {w w':World}{b:Nat}{i t:Int}{mv dv:Value}(h:bR w b i t mv dv)(hb:Below w.heap.size w w'):bR w' b i t mv dv :=
 h.kept (Kept.aL hb (S:=fun _=>False) fun k h1 h2=>by omega) fun h=>h
theorem bR.sJ {w:World}{b:Nat}{i t:Int}{mv dv:Value}(h:bR w b i t mv dv)(x:Int):bR (w.setCell ⟨b,0,none⟩ (.int .u64 x)) b x t mv dv:=by
 refine⟨css h.c0,?_,?_,?_,by rw[fsc];exact h.f0,by rw[fsc];exact h.f1,by rw[fsc];exact h.f2,by rw[fsc];exact h.f3⟩
 ·rw[cso (by simp)];exact h.c1
 ·rw[cso (by simp)];exact h.c2
 ·rw[cso (by simp)];exact h.c3
theorem bR.pE {w:World}{b:Nat}{i t:Int}{mv dv:Value}(h:bR w b i t mv dv)(x:Int):bR (w.setCell ⟨b,1,none⟩ (.int .u64 x)) b i x mv dv:=by
 refine⟨?_,css h.c1,?_,?_,by rw[fsc];exact h.f0,by rw[fsc];exact h.f1,by rw[fsc];exact h.f2,by rw[fsc];exact h.f3⟩
 ·rw[cso (by simp)];exact h.c0
 ·rw[cso (by simp)];exact h.c2
 ·rw[cso (by simp)];exact h.c3
theorem bR.iO {w:World}{b:Nat}{i t:Int}{mv dv:Value}(h:bR w b i t mv dv)(x:Value):bR (w.setCell ⟨b,2,none⟩ x) b i t x dv:=by
 refine⟨?_,?_,css h.c2,?_,by rw[fsc];exact h.f0,by rw[fsc];exact h.f1,by rw[fsc];exact h.f2,by rw[fsc];exact h.f3⟩
 ·rw[cso (by simp)];exact h.c0
 ·rw[cso (by simp)];exact h.c1
 ·rw[cso (by simp)];exact h.c3
theorem bR.pF {w:World}{b:Nat}{i t:Int}{mv dv:Value}(h:bR w b i t mv dv)(x:Value):bR (w.setCell ⟨b,3,none⟩ x) b i t mv x:=by
 refine⟨?_,?_,?_,css h.c3,by rw[fsc];exact h.f0,by rw[fsc];exact h.f1,by rw[fsc];exact h.f2,by rw[fsc];exact h.f3⟩
 ·rw[cso (by simp)];exact h.c0
 ·rw[cso (by simp)];exact h.c1
 ·rw[cso (by simp)];exact h.c2

structure aKy (w:World)(b rb:Nat)(m:Nat)(l:List Nat)(bad:Bool)(sb rs base:Nat)(i t:Int)(k:Nat)(mv:Value)(wr:World):Prop where
 rd:bT wr b rb (memL m k l) (bad || lC m k l)
 sn:bR wr sb i t mv (.slice none 0 0)
 rs:bR wr rs 0 0 (.slice none 0 0) (.slice none 0 0)
 own:cC wr base 3 .i64 mv (fI m k l)
 kept:Kept w wr (fun k=>k=b)
 le:base<=wr.heap.size

def aEw (B:Nat)(v:Value):Prop:=∃i t mv dv,v = .agg #[i,t,mv,dv]/\(∀b,mv.ownBlock=some b->B<=b)/\(∀b,dv.ownBlock=some b->B<=b)

theorem aHI (b:Nat)(l:List Nat)(bad:Bool)(w:World)(h:bT w b rb l bad)(hrb:rb<w.heap.size) :
  Calls Tryz.prog 227 #[.pointer (some ⟨b,0,none⟩)] w fun e w'=>∃v,e = .returned v/\cL w' v (fD 6 l)/\bT w' b rb (qE 6 l) (bad || lM 6 l)/\Kept w w' (fun k=>k=b)/\aEw w.heap.size v:=by
 have H:=hid h;have hbs:=h.lt;have hlt:∀c ∈ l,c<256:=by obtain⟨v,_,hB,_⟩:=h.ex;exact hB.lt
 have HLT:=hid hlt;have E59:Hid ((576460752303423488:Int).toNat=H59):=hid rfl;have E60:Hid ((1152921504606846976:Int).toNat=H60):=hid rfl;have E7:Hid ((7:Int).toNat=7):=hid rfl;have E6:Hid ((6:Int).toNat=6):=hid rfl;clear h hlt;go_enter Tryz.func227,Tryz.ntmps227;go_wp2_with fail;generalize hW:World.alloc (World.alloc w _) _=W0;have S0:Hid (bR W0 (w.heap.size+1) 0 0 (.slice none 0 0) (.slice none 0 0)):=hid (by subst hW;exact⟨by go_cell,by go_cell,by go_cell,by go_cell,by simp,by simp,by simp,by simp⟩);have T0:Hid (bR W0 w.heap.size 0 0 (.slice none 0 0) (.slice none 0 0)):=hid (by subst hW;exact⟨by go_cell,by go_cell,by go_cell,by go_cell,by simp,by simp,by simp,by simp⟩);have B0:Hid (Below w.heap.size w W0):=hid (by subst hW;exact((Below.refl _ _).alloc (Nat.le_refl _) _).alloc (by simp) _);have R0:Hid (bT W0 b rb l bad):=hid (H.out.below B0.out);have Z0:Hid (w.heap.size+2<=W0.heap.size):=hid (by subst hW;simp);clear hW;refine(jQ b 576460752303423488 l bad _ R0.out (by decide) (by decide)).mono ?_;rintro e w1 ⟨rfl,h1,k1⟩;rw[E59.out]at h1 ⊢;have R1:=hid h1;have K1:=hid k1;have hs1:=k1.size;clear h1 k1;have S1:Hid (bR w1 (w.heap.size+1) 0 0 (.slice none 0 0) (.slice none 0 0)):=hid (S0.out.kept K1.out (by omega));obtain⟨c10,f10,b10⟩:w1.cell? ⟨w.heap.size+1,0,none⟩=some (.int .u64 0)/\w1.frozen? ⟨w.heap.size+1,0,none⟩=false/\w.heap.size+1<w1.heap.size:=⟨S1.out.c0,S1.out.f0,S1.out.lt⟩;go_wp2_with fail;generalize hW:World.setCell _ _ _=W1;have S2:Hid (bR W1 (w.heap.size+1) (bO H59 l) 0 (.slice none 0 0) (.slice none 0 0)):=hid (by subst hW;exact S1.out.sJ _);have K2:Hid (Kept w1 W1 (fun k=>k=w.heap.size+1)):=hid (by subst hW;exact Kept.setCell w1 ⟨w.heap.size+1,0,none⟩ _);have R2:Hid (bT W1 b rb (eM l) (bad || cF H59 l)):=hid (R1.out.kept K2.out (by omega) (by omega));have T2:Hid (bR W1 w.heap.size 0 0 (.slice none 0 0) (.slice none 0 0)):=hid ((T0.out.kept K1.out (by omega)).kept K2.out (by omega));have A2:Hid (Kept w W1 (fun k=>k=b)):=hid (((Kept.aL B0.out (S:=fun k=>k=b) (fun k h1 h2=>by omega)).trans K1.out).eU K2.out (by omega));clear hW c10 f10 b10;refine(jQ b 1152921504606846976 (eM l) _ _ R2.out (by decide) (by decide)).mono ?_;rintro e w3 ⟨rfl,h1,k1⟩;rw[E60.out]at h1 ⊢;have R3:=hid h1;have K3:=hid k1;have hs3:=k1.size;clear h1 k1;have S3:Hid (bR w3 (w.heap.size+1) (bO H59 l) 0 (.slice none 0 0) (.slice none 0 0)):=hid (S2.out.kept K3.out (by omega));obtain⟨c10,f10,b10⟩:w3.cell? ⟨w.heap.size+1,1,none⟩=some (.int .u64 0)/\w3.frozen? ⟨w.heap.size+1,1,none⟩=false/\w.heap.size+1<w3.heap.size:=⟨S3.out.c1,S3.out.f1,S3.out.lt⟩;go_wp2_with fail;generalize hW:World.setCell _ _ _=W3;have S4:Hid (bR W3 (w.heap.size+1) (bO H59 l) (bO H60 (eM l)) (.slice none 0 0) (.slice none 0 0)):=hid (by subst hW;exact S3.out.pE _);have K4:Hid (Kept w3 W3 (fun k=>k=w.heap.size+1)):=hid (by subst hW;exact Kept.setCell w3 ⟨w.heap.size+1,1,none⟩ _);have R4:Hid (bT W3 b rb (nC l) ((bad || cF H59 l) || cF H60 (eM l))):=hid (R3.out.kept K4.out (by omega) (by omega));have T4:Hid (bR W3 w.heap.size 0 0 (.slice none 0 0) (.slice none 0 0)):=hid ((T2.out.kept K3.out (by omega)).kept K4.out (by omega));have A4:Hid (Kept w W3 (fun k=>k=b)):=hid ((A2.out.trans K3.out).eU K4.out (by omega));have Z4:Hid (w.heap.size+2<=W3.heap.size):=hid (by have:=S4.out.lt;omega);clear hW c10 f10 b10;refine(jQ b 7 (nC l) _ _ R4.out (by decide) (by decide)).mono ?_;rintro e w5 ⟨rfl,h1,k1⟩;rw[E7.out]at h1 ⊢;have hn7:((fM l:Nat):Int)<=7:=by have:=pW l;omega
 have R5:Hid (bT w5 b rb (cG l) (((bad || cF H59 l) || cF H60 (eM l)) || cF 7 (nC l))):=hid h1;have K5:=hid k1;have hs5:=k1.size;clear h1 k1;rw[show bO 7 (nC l)=fM l from rfl];have S5:Hid (bR w5 (w.heap.size+1) (bO H59 l) (bO H60 (eM l)) (.slice none 0 0) (.slice none 0 0)):=hid (S4.out.kept K5.out (by omega));have T5:Hid (bR w5 w.heap.size 0 0 (.slice none 0 0) (.slice none 0 0)):=hid (T4.out.kept K5.out (by omega));have A5:Hid (Kept w w5 (fun k=>k=b)):=hid (A4.out.trans K5.out);generalize hX:(((bad || cF H59 l) || cF H60 (eM l)) || cF 7 (nC l))=bad3 at R5;have HB:=hid hX;clear hX;go_wp2_with fail
 go_loopw [5] (fun x wr=>∃(k:Nat) (mv:Value),k<=fM l/\x = .int .i64 k/\aKy w b rb 6 (cG l) bad3 (w.heap.size+1) w.heap.size (w.heap.size+2) (bO H59 l) (bO H60 (eM l)) k mv wr) (fun x _=>fM l-(intOf x).toNat)
 case atStart=>exact⟨0,_,Nat.zero_le _,rfl,by rw[memL,lC,Bool.or_false];exact R5.out,S5.out,T5.out,cC.nil _ _ _ _,A5.out,by have:=Z4.out;omega⟩
 case round =>
  obtain⟨k,mv,hk,rfl,hI⟩:=hrel;have I:=hid hI;have hsz:=hI.le;clear hI;by_cases hlt:k<fM l
  ·have hv6:((bO 6 (memL 6 k (cG l)):Nat):Int)<=6:=by have:=fU 6 (memL 6 k (cG l));omega
   have hki:(k:Int)<(fM l:Int):=by omega
   have HLN:Hid ((fI 6 k (cG l)).length + [((bO 6 (memL 6 k (cG l)):Nat):Int)].length<=4294967296):=hid (by rw[lT];simp only[List.length_cons,List.length_nil];have:=pW l;omega);have hw6:IntKind.i64.wrap ((bO 6 (memL 6 k (cG l)):Nat):Int)=((bO 6 (memL 6 k (cG l)):Nat):Int):=by simp only[IntKind.wrap_i64];omega
   go_wp2_with fail;refine aU [0,1,0,4,12,28,63,127,255] 24 (fun w'=>w'.cell? ⟨w.heap.size+1,2,none⟩=some mv) (by kernel_rfl) ?_;refine aB [0,1,2] (by kernel_rfl) (L:=bm 9 7) (by kernel_rfl) (f':=6) rfl (fun _ _ _ _ h=>h) (fun w o h=>(aR.cell _ _).alloc h o) (.inr I.out.sn.c2) ?_;simp only[sF,sL]
   iterate 3 (first|(refine aW _ (by rfl) (fun w' hs=>by have y0:=hs;go_simp;try with_reducible rfl) rfl ?_;simp only[Act.put,sA])|(refine aC _ (by rfl) (fun w'=>by go_simp;try with_reducible rfl) ?_;simp only[Act.put,sA]))
   refine aI ?_;refine aM 3 (by kernel_rfl) (L:=bm 9 15) (by kernel_rfl) ?_;simp only[sL];go_wp2_with fail;refine(jQ b 6 _ _ _ (I.out.rd.below ((Below.refl _ _).drew)) (by decide) (by decide)).mono ?_;rintro e u3 ⟨rfl,h3,k3⟩;rw[E6.out]at h3 ⊢;have H3:=hid h3;have K3:Hid (Kept wr u3 (fun k=>k=b)):=hid ((Kept.drew wr (fun k=>k=b)).trans k3);clear h3 k3;have S3:Hid (bR u3 (w.heap.size+1) (bO H59 l) (bO H60 (eM l)) mv (.slice none 0 0)):=hid (I.out.sn.kept K3.out (by omega));have S4:Hid (bR u3 w.heap.size 0 0 (.slice none 0 0) (.slice none 0 0)):=hid (I.out.rs.kept K3.out (by omega));have LE3:Hid (w.heap.size+2<=u3.heap.size):=hid (Nat.le_trans I.out.le K3.out.size);have O3:Hid (cC u3 (w.heap.size+2) 3 .i64 mv (fI 6 k (cG l))):=hid (I.out.own.kept K3.out (fun g hg e=>by have:=(I.out.own.lt g hg).1;omega));go_wp2_with fail;refine aH (fun _=>S3.out.c2) ?_;refine aB [4] (by kernel_rfl) (L:=bm 9 31) (by kernel_rfl) (f':=4) rfl (fun _ _ _ _ h=>h) (fun w o h=>(aR.cell _ _).alloc h o) (.inr (by first|exact S3.out.c2|exact zY S3.out.c2)) ?_;simp only[sF,sL]
   iterate 1 (first|(refine aW _ (by rfl) (fun w' hs=>by have y0:=hs;go_simp;try with_reducible rfl) rfl ?_;simp only[Act.put,sA])|(refine aC _ (by rfl) (fun w'=>by go_simp;try with_reducible rfl) ?_;simp only[Act.put,sA]))
   refine aI ?_;refine aM 5 (by kernel_rfl) (L:=bm 9 63) (by kernel_rfl) ?_;simp only[sL];go_wp2_with fail;generalize hu5:World.alloc _ _=u5;have B5:Hid (Below u3.heap.size u3 u5):=hid (by subst hu5;first|exact(Below.refl _ _).alloc (Nat.le_refl _) _|exact((Below.refl _ _).drew).alloc (Nat.le_refl _) _|exact(((Below.refl _ _).drew).drew).alloc (Nat.le_refl _) _);have ONE5:Hid (Reads u5 .i64 (.slice (some ⟨u3.heap.size,0,none⟩) 1 1) [((bO 6 (memL 6 k (cG l)):Nat):Int)]):=hid (by subst hu5;first|exact Reads.one _ _ _ _);clear hu5;refine aH nofun ?_;refine aM 6 (by kernel_rfl) (L:=bm 9 127) (by kernel_rfl) ?_;simp only[sL];refine bS Tryz.aKO _ _ rfl (w.heap.size+2) mv (.slice (some ⟨u3.heap.size,0,none⟩) 1 1) (fI 6 k (cG l)) [((bO 6 (memL 6 k (cG l)):Nat):Int)] rfl rfl (by first|exact O3.out.below B5.out|exact(O3.out.below B5.out).drew) (by first|exact ONE5.out|exact ONE5.out.drew) (by decide) HLN.out (by have:=LE3.out;have:=B5.out.size;first|omega|(simp only[World.size_drew];omega)) rfl ?_;intro v6 u6 hown6 hgr6 hat6 hnil6 hbel6;obtain⟨a6,c6,rfl⟩:=hown6.shape;have O6:Hid (cC u6 (w.heap.size+2) 3 .i64 (.slice a6 ((fI 6 k (cG l)).length+1) c6) (fI 6 k (cG l) ++ [((bO 6 (memL 6 k (cG l)):Nat):Int)])):=hid (by have hh:=hown6;rw[List.length_append]at hh;exact hh);have OL6:=O3.out.lt;have G6:Hid (Kept u5 u6 (fun g=>mv.ownBlock=some g)):=hid (by first|exact Kept.cJ hgr6|exact(Kept.drew u5 _).trans (Kept.cJ hgr6));have S6:Hid (bR u6 (w.heap.size+1) (bO H59 l) (bO H60 (eM l)) mv (.slice none 0 0)):=hid ((S3.out.below B5.out).kept G6.out (fun e=>by have:=(OL6 _ e).1;omega));have S7:Hid (bR u6 w.heap.size 0 0 (.slice none 0 0) (.slice none 0 0)):=hid ((S4.out.below B5.out).kept G6.out (fun e=>by have:=(OL6 _ e).1;omega));have R6:Hid (bT u6 b rb (cI 6 (memL 6 k (cG l))) ((bad3 || lC 6 k (cG l)) || cF 6 (memL 6 k (cG l)))):=hid ((H3.out.below B5.out).kept G6.out (fun e=>by have:=(OL6 _ e).1;omega) (fun e=>by have:=(OL6 _ e).1;omega));have K6:Hid (Kept w u6 (fun k=>k=b)):=hid (((I.out.kept.trans K3.out).trans (Kept.aL B5.out (S:=fun k=>k=b) (fun k h1 h2=>by omega))).andThen G6.out (fun g hg e=>by rcases e with e|e;exact e;have:=(OL6 _ e).1;omega));have Z6:Hid (w.heap.size+2<=u6.heap.size):=hid (by have:=LE3.out;have:=B5.out.size;have:=G6.out.size;omega);clear hown6 hgr6 hat6 hnil6 hbel6 OL6;go_wp2_with fail;refine aH nofun ?_;refine aB [7] (by kernel_rfl) (L:=bm 9 255) (by kernel_rfl) (f':=1) rfl (fun _ _ _ _ h=>h) (fun w o h=>(aR.cell _ _).alloc h o) (.inl (by kernel_rfl)) ?_;simp only[sF,sL]
   iterate 1 (refine aC _ (by rfl) (fun w'=>by go_simp;try with_reducible rfl) ?_;simp only[Act.put,sA])
   refine aI ?_;refine aM 8 (by kernel_rfl) (L:=bm 9 511) (by kernel_rfl) ?_;simp only[sL];obtain⟨g1,g2,g3⟩:u6.cell? ⟨w.heap.size+1,2,none⟩=some mv/\u6.frozen? ⟨w.heap.size+1,2,none⟩=false/\w.heap.size+1<u6.heap.size:=⟨S6.out.c2,S6.out.f2,S6.out.lt⟩;go_wp2_with fail;generalize hu8:World.setCell _ _ _=u8;have S8:Hid (bR u8 (w.heap.size+1) (bO H59 l) (bO H60 (eM l)) (.slice a6 ((fI 6 k (cG l)).length+1) c6) (.slice none 0 0)):=hid (by subst hu8;exact S6.out.iO _);have G8:Hid (Kept u6 u8 (fun g=>g=w.heap.size+1)):=hid (by subst hu8;exact Kept.setCell u6 ⟨w.heap.size+1,2,none⟩ _);clear hu8 g1 g2 g3;refine aH nofun ?_;refine bC (by kernel_rfl) ?_

   clear hw6;go_wp2_with fail
   go_roundw
   case rel =>
    refine⟨k+1,_,by omega,by go_num,?_,S8.out,S7.out.kept G8.out (by omega),O6.out.kept G8.out (fun g hg e=>by have:=(O6.out.lt g hg).1;omega),K6.out.eU G8.out (by omega),by have:=Z6.out;have:=G8.out.size;omega⟩;have hr:=R6.out.kept G8.out (by omega) (by omega);rw[Bool.or_assoc]at hr;exact hr
   case measure=>simp[intOf];omega
  ·obtain rfl:k=fM l:=by omega
   have RL:Hid (bT wr b rb (gI 6 l) (bad3 || lC 6 (fM l) (cG l))):=hid I.out.rd;go_wp2_with fail;refine(aAK b 32768 _ _ _ RL.out (by decide)).mono ?_;rintro e w7 ⟨rfl,h7,k7⟩;have H7:=hid h7;have K7:=hid k7;have hs7:=k7.size;clear h7 k7;have S7:Hid (bR w7 (w.heap.size+1) (bO H59 l) (bO H60 (eM l)) mv (.slice none 0 0)):=hid (I.out.sn.kept K7.out (by omega));have T7:Hid (bR w7 w.heap.size 0 0 (.slice none 0 0) (.slice none 0 0)):=hid (I.out.rs.kept K7.out (by omega));have O7:Hid (cC w7 (w.heap.size+2) 3 .i64 mv (fI 6 (fM l) (cG l))):=hid (I.out.own.kept K7.out (fun g hg e=>by have:=(I.out.own.lt g hg).1;omega));obtain⟨am,cm,rfl⟩:=O7.out.shape;have TS:Hid ((bX (dY 32768 (gI 6 l))).size<=2097152):=hid (by rw[cH];have:=qA 32768 (gI 6 l);omega);have HTX:Hid (aP (bX (dY 32768 (gI 6 l)))=dY 32768 (gI 6 l)):=hid (dO fun c hc=>by obtain⟨v,_,hB,_⟩:=RL.out.ex;exact hB.lt c (qB c hc))
   go_wp2_with (refine eA rfl 9 36 5 _ rfl Tryz.underlying9 Tryz.underlying36 Tryz.underlying5 _ rfl TS.out ?_;intro dv w8 hB8 hb8 hob8;have OB8:=hid hob8;clear hob8;obtain⟨ad,cd,rfl,_⟩:=hB8.shape;have HB8:=hid hB8;have B8:=hid hb8;obtain⟨g1,g2,g3⟩:w8.cell? ⟨w.heap.size+1,3,none⟩=some (.slice none 0 0)/\w8.frozen? ⟨w.heap.size+1,3,none⟩=false/\w.heap.size+1<w8.heap.size:=⟨(S7.out.below B8.out).c3,(S7.out.below B8.out).f3,(S7.out.below B8.out).lt⟩;obtain⟨g4,g5,g6⟩:w8.cell? ⟨w.heap.size+1,0,none⟩=some (.int .u64 (bO H59 l))/\w8.cell? ⟨w.heap.size+1,1,none⟩=some (.int .u64 (bO H60 (eM l)))/\w8.cell? ⟨w.heap.size+1,2,none⟩=some (.slice am (fI 6 (fM l) (cG l)).length cm):=⟨(S7.out.below B8.out).c0,(S7.out.below B8.out).c1,(S7.out.below B8.out).c2⟩;obtain⟨r0,r1,r2,r3,q0,q1,q2,q3⟩:=T7.out.below B8.out;clear hB8 hb8)
   generalize hwF:World.setCell _ _ _=wF;have KF:Hid (Kept w8 wF (fun k=>k=w.heap.size+1\/k=w.heap.size)):=hid (by
    subst hwF;exact(((((Kept.setCell w8 ⟨w.heap.size+1,3,none⟩ _).mono (fun _ _ h=>.inl h)).trans ((Kept.setCell _ ⟨w.heap.size,0,none⟩ _).mono (fun _ _ h=>.inr h))).trans ((Kept.setCell _ ⟨w.heap.size,1,none⟩ _).mono (fun _ _ h=>.inr h))).trans ((Kept.setCell _ ⟨w.heap.size,2,none⟩ _).mono (fun _ _ h=>.inr h))).trans ((Kept.setCell _ ⟨w.heap.size,3,none⟩ _).mono (fun _ _ h=>.inr h)))
   have HR:Hid (bR wF w.heap.size (bO H59 l) (bO H60 (eM l)) (.slice am (fI 6 (fM l) (cG l)).length cm) (.slice ad (aP (bX (dY 32768 (gI 6 l)))).length cd)):=hid (by
    subst hwF;exact(((((T7.out.below B8.out).kept (Kept.setCell w8 ⟨w.heap.size+1,3,none⟩ _) (show ¬w.heap.size=w.heap.size+1 by omega)).sJ _).pE _).iO _).pF _)
   clear hwF g1 g2 g3 g4 g5 g6 r0 r1 r2 r3 q0 q1 q2 q3;obtain⟨r0,r1,r2,r3,_,_,_,_⟩:=HR.out;refine bodyPost_ret (v:=.agg #[.int .u64 (bO H59 l),.int .u64 (bO H60 (eM l)),.slice am (fI 6 (fM l) (cG l)).length cm,.slice ad (aP (bX (dY 32768 (gI 6 l)))).length cd]) (by simp[results,Tryz.results227,go_sem,r0,r1,r2,r3]) rfl ?_;refine⟨_,rfl,⟨_,_,rfl,?_,?_⟩,?_,?_,_,_,_,_,rfl,fun g hg=>by have:=(O7.out.lt g hg).1;omega,fun g hg=>by have:=OB8.out;rw[hg]at this;cases this;have:=I.out.le;omega⟩
   ·exact Ints.dL ((O7.out.below B8.out).kept KF.out (fun g hg e=>by have:=(O7.out.lt g hg).1;omega)) (by show (fI 6 (fM l) (cG l)).length<=2097152;rw[lT];have:=pW l;omega)
   ·have hh:=HB8.out;rw[HTX.out]at hh ⊢;exact hh.xD KF.out (rb:=w7.heap.size) (.inr (by have:=OB8.out;rw[HTX.out]at this;exact this)) (by omega)
   ·have hh:=(H7.out.below B8.out).kept KF.out (by omega) (by omega);rw[show (bad || lM 6 l)=((bad3 || lC 6 (fM l) (cG l)) || iT 32768 (gI 6 l)) by rw[<- HB.out];simp only[lM,Bool.or_assoc]];exact hh
   ·exact((I.out.kept.trans K7.out).trans (Kept.aL B8.out (S:=fun k=>k=b) (fun k h1 h2=>by omega))).andThen KF.out (fun g hg e=>by rcases e with e|e|e;exact e;all_goals omega)

instance (l:List Nat):Decidable (iP l):=inferInstanceAs (Decidable (_/\_))
def nT (m:Nat)(l:List Nat):Prop:=iP l/\l.getD 1 0=4/\gV (qE m (aF l)) (lM m (aF l))=0/\(fD m (aF l)).ok
instance (m:Nat) (l:List Nat):Decidable (nT m l):=inferInstanceAs (Decidable (_/\_))
def eO:bM:=⟨0,0,[],[]⟩
def dK (m:Nat)(l:List Nat):bM:=if nT m l then fD m (aF l) else eO
def dG (m:Nat)(l:List Nat):Bool:=decide (nT m l)
theorem gD (w:World):cL w (.agg #[.int .u64 0,.int .u64 0,.slice none 0 0,.slice none 0 0]) eO:=⟨_,_,rfl,Ints.nil w,Bytes.nil w⟩
def pN (b:Bool)(s:bM)(w:World):Ending->World->Prop:=fun E w'=>∃v,E = .returned (.tuple #[v,.bool b])/\cL w' v s/\Below w.heap.size w w'/\aEw w.heap.size v
def jJ (b:Bool)(s:bM)(w:World):Ending->World->Prop:=fun E w'=>∃v,E = .returned (.tuple #[v,.bool b])/\cL w' v s/\Below w.heap.size w w'
theorem lZ {m:Nat}{l:List Nat}(h:¬nT m l):dG m l=false/\dK m l=eO:=⟨decide_eq_false h,if_neg h⟩
theorem aCH {m:Nat}{l:List Nat}(h:nT m l):dG m l=true/\dK m l=fD m (aF l):=⟨decide_eq_true h,if_pos h⟩
theorem bR.new (w:World):bR (w.alloc (.cells #[.int .u64 0,.int .u64 0,.slice none 0 0,.slice none 0 0] 75)) w.heap.size 0 0 (.slice none 0 0) (.slice none 0 0) :=
 ⟨by go_cell,by go_cell,by go_cell,by go_cell,by simp,by simp,by simp,by simp⟩
theorem bR.eN {w:World}{b:Nat}{i t:Int}{mv dv:Value}(h:bR w b i t mv dv)(i' t':Int)(mv' dv':Value) :
  bR ((((w.setCell ⟨b,0,none⟩ (.int .u64 i')).setCell ⟨b,1,none⟩ (.int .u64 t')).setCell ⟨b,2,none⟩ mv').setCell ⟨b,3,none⟩ dv') b i' t' mv' dv':=(((h.sJ i').pE t').iO mv').pF dv'
theorem Reads.sK {w:World}{k:IntKind}{v:Value}{zs:List Int}(h:Reads w k v zs){a:Addr}(y:Value)(hne:∀x,w.cell? a≠some (.int k x)):Reads (w.setCell a y) k v zs:=by
 obtain⟨ad,c,rfl,hc⟩:=h;refine⟨ad,c,rfl,fun j hj=>?_⟩;obtain⟨b,o,e,h1⟩:=hc j hj;refine⟨b,o,e,?_⟩;rw[World.cell?_setCell_other _ _ _ _ (fun e=>hne _ (by rw[e];exact h1))];exact h1
theorem Reads.eN {w:World}{b:Nat}{i t:Int}{mv dv:Value}(S:bR w b i t mv dv){k:IntKind}{v:Value}{zs:List Int}(h:Reads w k v zs)(hk:k ≠ .u64)(hm:∀x,mv ≠ .int k x)(hd:∀x,dv ≠ .int k x)(i' t':Int)(mv' dv':Value) :
  Reads ((((w.setCell ⟨b,0,none⟩ (.int .u64 i')).setCell ⟨b,1,none⟩ (.int .u64 t')).setCell ⟨b,2,none⟩ mv').setCell ⟨b,3,none⟩ dv') k v zs:=by
 have S1:=S.sJ i';have S2:=S1.pE t';have S3:=S2.iO mv';refine Reads.sK (Reads.sK (Reads.sK (Reads.sK h _ fun x e=>?_) _ fun x e=>?_) _ fun x e=>?_) _ fun x e=>?_
 ·rw[S.c0]at e;cases e;exact hk rfl
 ·rw[S1.c1]at e;cases e;exact hk rfl
 ·rw[S2.c2]at e;exact hm x (Option.some.inj e)
 ·rw[S3.c3]at e;exact hd x (Option.some.inj e)
theorem cL.eN {w:World}{b:Nat}{i t:Int}(S:bR w b i t (.slice none 0 0) (.slice none 0 0)){v:Value}{s:bM}(h:cL w v s)(i' t':Int)(mv' dv':Value) :
  cL ((((w.setCell ⟨b,0,none⟩ (.int .u64 i')).setCell ⟨b,1,none⟩ (.int .u64 t')).setCell ⟨b,2,none⟩ mv').setCell ⟨b,3,none⟩ dv') v s:=by
 obtain⟨mv,dv,h1,h2,h3⟩:=h;exact⟨mv,dv,h1,⟨h2.shape,Reads.eN S h2.rd (by decide) nofun nofun i' t' mv' dv',h2.small⟩,⟨h3.shape,Reads.eN S h3.rd (by decide) nofun nofun i' t' mv' dv',h3.lt,h3.small⟩⟩
theorem Kept.eN (w:World)(b:Nat)(i' t':Int)(mv' dv':Value) :
  Kept w ((((w.setCell ⟨b,0,none⟩ (.int .u64 i')).setCell ⟨b,1,none⟩ (.int .u64 t')).setCell ⟨b,2,none⟩ mv').setCell ⟨b,3,none⟩ dv') (fun k=>k=b) :=
 (((Kept.setCell w ⟨b,0,none⟩ _).trans (Kept.setCell _ ⟨b,1,none⟩ _)).trans (Kept.setCell _ ⟨b,2,none⟩ _)).trans (Kept.setCell _ ⟨b,3,none⟩ _)

theorem aF5 (v:Value)(l:List Nat)(w:World)(hB:Bytes w v l)(ht:cS l≠0):Calls Tryz.prog 186 #[v] w (jJ (dG 6 l) (dK 6 l) w):=by
 have HB:=hid hB;have HV:Hid (dG 6 l=false/\dK 6 l=eO):=hid (lZ fun h=>ht h.1.1);obtain⟨k,hk⟩:∃k,k=cS l:=⟨_,rfl⟩;have hk0:((k:Int) != 0)=true:=by simp;omega
 have HK:=hid hk;have HT:=hid ht;obtain⟨a,c,rfl,_⟩:=hB.shape;clear hB hk ht;go_enter Tryz.func186,Tryz.ntmps186;go_wp2_with fail;refine(kO _ l _ (HB.out.alloc _)).mono ?_;rintro e w1 ⟨hb1,hno,hyes⟩;have he:=hno HT.out;subst he;rw[<- HK.out];have B1:Hid (Below w.heap.size w w1):=hid (((Below.refl w.heap.size w).alloc (Nat.le_refl _) (.cells #[.int .u64 0,.int .u64 0,.slice none 0 0,.slice none 0 0] 75)).trans (hb1.mono (by simp)));have S1:Hid (bR w1 w.heap.size 0 0 (.slice none 0 0) (.slice none 0 0)):=hid ((bR.new w).below hb1);obtain⟨r0,r1,r2,r3,q0,q1,q2,q3⟩:=S1.out;have L1:=S1.out.lt;clear hb1 hno hyes;go_wp2_with fail;generalize hwF:World.setCell _ _ _=wF;have KF:Hid (Kept w1 wF (fun k=>k=w.heap.size)):=hid (by subst hwF;exact Kept.eN _ _ _ _ _ _);have HR:Hid (bR wF w.heap.size 0 0 (.slice none 0 0) (.slice none 0 0)):=hid (by subst hwF;exact S1.out.eN _ _ _ _);clear hwF r0 r1 r2 r3 q0 q1 q2 q3;obtain⟨z0,z1,z2,z3,_,_,_,_⟩:=HR.out;refine bodyPost_ret (v:=.tuple #[.agg #[.int .u64 0,.int .u64 0,.slice none 0 0,.slice none 0 0],.bool false]) (by simp[results,Tryz.results186,go_sem,z0,z1,z2,z3]) rfl ?_;rw[HV.out.1,HV.out.2];exact⟨_,rfl,gD _,B1.out.trans ((KF.out.below (B:=w.heap.size) B1.out.size (fun k hk=>by omega)))⟩

theorem aF6 (v:Value)(l:List Nat)(w:World)(hB:Bytes w v l)(ht:cS l=0)(hk:l.getD 1 0≠4\/frN l+8≠l.length):Calls Tryz.prog 186 #[v] w (jJ (dG 6 l) (dK 6 l) w):=by
 have HB:=hid hB;have HV:Hid (dG 6 l=false/\dK 6 l=eO):=hid (lZ fun h=>hk.elim (fun g=>g h.2.1) (fun g=>g h.1.2));have HT:=hid ht;have hx:l.getD 1 0<256:=hB.dB 1;obtain⟨a,c,rfl,_⟩:=hB.shape;have hkk:(((l.getD 1 0:Nat):Int) != 4)=true\/((((l.getD 1 0:Nat):Int) != 4)=false/\(((frN l+8:Nat):Int) != (l.length:Int))=true):=by
  by_cases h4:l.getD 1 0=4
  ·rw[h4];refine .inr ⟨rfl,bne_iff_ne.2 ?_⟩;rcases hk with h|h
   ·exact absurd h4 h
   ·omega
  ·exact .inl (bne_iff_ne.2 (by omega))
 clear hB ht hk;generalize hnn:frN l+8=n at hkk;have HN:=hid hnn;generalize hxx:l.getD 1 0=x at hkk hx;have HX:=hid hxx;clear hnn hxx;rcases hkk with k1|⟨k1,k2⟩
 all_goals
  go_enter Tryz.func186,Tryz.ntmps186;go_wp2_with fail;refine(kO _ l _ (HB.out.alloc _)).mono ?_;rintro e w1 ⟨hb1,hno,hyes⟩;obtain⟨v1,rfl,hB1⟩:=hyes HT.out;rw[HN.out,HX.out];clear hB1;have B1:Hid (Below w.heap.size w w1):=hid (((Below.refl w.heap.size w).alloc (Nat.le_refl _) (.cells #[.int .u64 0,.int .u64 0,.slice none 0 0,.slice none 0 0] 75)).trans (hb1.mono (by simp)));have S1:Hid (bR w1 w.heap.size 0 0 (.slice none 0 0) (.slice none 0 0)):=hid ((bR.new w).below hb1);obtain⟨r0,r1,r2,r3,q0,q1,q2,q3⟩:=S1.out;have L1:=S1.out.lt;clear hb1 hno hyes;go_wp2_with fail;generalize hwF:World.setCell _ _ _=wF;have KF:Hid (Kept w1 wF (fun k=>k=w.heap.size)):=hid (by subst hwF;exact Kept.eN _ _ _ _ _ _);have HR:Hid (bR wF w.heap.size 0 0 (.slice none 0 0) (.slice none 0 0)):=hid (by subst hwF;exact S1.out.eN _ _ _ _);clear hwF r0 r1 r2 r3 q0 q1 q2 q3;obtain⟨z0,z1,z2,z3,_,_,_,_⟩:=HR.out;refine bodyPost_ret (v:=.tuple #[.agg #[.int .u64 0,.int .u64 0,.slice none 0 0,.slice none 0 0],.bool false]) (by simp[results,Tryz.results186,go_sem,z0,z1,z2,z3]) rfl ?_;rw[HV.out.1,HV.out.2];exact⟨_,rfl,gD _,B1.out.trans ((KF.out.below (B:=w.heap.size) B1.out.size (fun k hk=>by omega)))⟩

theorem aCM (v:Value)(l:List Nat)(w:World)(hB:Bytes w v l)(ht:cS l=0)(h4:l.getD 1 0=4)(hn:frN l+8=l.length):Calls Tryz.prog 186 #[v] w fun E w'=>jJ (dG 6 l) (dK 6 l) w E w'/\(dG 6 l=true->pN (dG 6 l) (dK 6 l) w E w'):=by
 have HB:=hid hB;have HT:=hid ht;have HF:Hid (l.getD 1 0=4/\frN l+8=l.length):=hid ⟨h4,hn⟩;obtain⟨a,c,rfl,_⟩:=hB.shape;clear hB ht h4 hn;go_enter Tryz.func186,Tryz.ntmps186;go_wp2_with fail;refine(kO _ l _ (HB.out.alloc _)).mono ?_;rintro e w1 ⟨hb1,hno,hyes⟩;obtain⟨v1,rfl,hB1⟩:=hyes HT.out;rw[HF.out.1,HF.out.2];have HB1:=hid hB1;obtain⟨a1,c1,rfl,_⟩:=hB1.shape;clear hB1;have B1:Hid (Below w.heap.size w w1):=hid (((Below.refl w.heap.size w).alloc (Nat.le_refl _) (.cells #[.int .u64 0,.int .u64 0,.slice none 0 0,.slice none 0 0] 75)).trans (hb1.mono (by simp)));have S1:Hid (bR w1 w.heap.size 0 0 (.slice none 0 0) (.slice none 0 0)):=hid ((bR.new w).below hb1);obtain⟨r0,r1,r2,r3,q0,q1,q2,q3⟩:=S1.out;have L1:=S1.out.lt;clear hb1 hno hyes;go_wp2_with fail;generalize hW2:World.alloc w1 _=w2;have B2:Hid (Below w1.heap.size w1 w2):=hid (by subst hW2;exact(Below.refl _ _).alloc (Nat.le_refl _) _);have RB:∃rb:Nat,rb<w1.heap.size/\(aF l = []\/(Value.slice a1 (aF l).length c1).ownBlock=some rb):=by
  by_cases h0:aF l = []
  ·exact⟨w.heap.size,L1,.inl h0⟩
  ·obtain⟨b,e1,e2⟩:=HB1.out.hU h0;exact⟨b,e2,.inr e1⟩
 obtain⟨rb,hrb,hown⟩:=RB;have R2:Hid (bT w2 w1.heap.size rb (aF l) false):=hid (by
  subst hW2;exact⟨⟨_,by go_cell,HB1.out.alloc _,hown⟩,by omega,by go_cell,by simp,by simp⟩)
 have S2:Hid (bR w2 w.heap.size 0 0 (.slice none 0 0) (.slice none 0 0)):=hid (S1.out.below B2.out);have HRB:Hid (rb<w2.heap.size):=hid (by have:=B2.out.size;omega);clear hW2 hrb hown r0 r1 r2 r3 q0 q1 q2 q3;refine(aHI w1.heap.size (aF l) false _ R2.out HRB.out).mono ?_;rintro e w3 ⟨v3,rfl,hs3,hr3,hk3,hn3⟩;rw[Bool.false_or]at hr3;have R3:=hid hr3;have K3:=hid hk3;have HS3:=hid hs3;have S3:Hid (bR w3 w.heap.size 0 0 (.slice none 0 0) (.slice none 0 0)):=hid (S2.out.kept K3.out (by omega));have B3:Hid (Below w.heap.size w w3):=hid ((B1.out.trans (B2.out.mono B1.out.size)).trans (K3.out.below (B:=w.heap.size) (Nat.le_trans B1.out.size B2.out.size) (fun k hk=>by have:=B1.out.size;omega)));have HSND:Hid (∀w4:World,Below w3.heap.size w3 w4->cL w4 v3 (fD 6 (aF l))):=hid fun w4 hb=>HS3.out.below hb;obtain⟨mv,dv,rfl,hm,hd⟩:=hs3;obtain⟨_,_,_,_,he3,hn1,hn2⟩:=hn3;simp only[Value.agg.injEq,Array.mk.injEq,List.cons.injEq,and_true]at he3;obtain⟨rfl,rfl,rfl,rfl⟩:=he3;obtain⟨am,cm,rfl,_⟩:=hm.shape;obtain⟨ad,cd,rfl,_⟩:=hd.shape;have HN1:=hid hn1;have HN2:=hid hn2;clear hr3 hk3 hm hd hn1 hn2;generalize hI:(fD 6 (aF l)).i=I3 at *
 generalize hT3:(fD 6 (aF l)).t=T3 at *
 go_wp2_with fail;generalize hW4:World.alloc w3 _=w4;have B4:Hid (Below w3.heap.size w3 w4):=hid (by subst hW4;exact(Below.refl _ _).alloc (Nat.le_refl _) _);have C4:Hid (bR w4 w3.heap.size I3 T3 (.slice am (fD 6 (aF l)).ms.length cm) (.slice ad (fD 6 (aF l)).d.length cd)):=hid (by subst hW4;exact⟨by go_cell,by go_cell,by go_cell,by go_cell,by simp,by simp,by simp,by simp⟩);have S4:Hid (bR w4 w.heap.size 0 0 (.slice none 0 0) (.slice none 0 0)):=hid (S3.out.below B4.out);have R4:Hid (bT w4 w1.heap.size rb (qE 6 (aF l)) (lM 6 (aF l))):=hid (R3.out.below B4.out);have Q4:Hid (Below w.heap.size w w4):=hid (B3.out.trans (B4.out.mono B3.out.size));clear hW4;refine(yC w1.heap.size _ _ _ R4.out).mono ?_;rintro e w4' ⟨rfl,rfl⟩;obtain⟨r0,r1,r2,r3,q0,q1,q2,q3⟩:=S4.out;obtain⟨y0,y1,y2,y3,_,_,_,_⟩:=C4.out;have L4:=S4.out.lt;have SN4:Hid (cL w4 (.agg #[.int .u64 I3,.int .u64 T3,.slice am (fD 6 (aF l)).ms.length cm,.slice ad (fD 6 (aF l)).d.length cd]) (fD 6 (aF l))):=hid (HSND.out w4 B4.out);by_cases he:gV (qE 6 (aF l)) (lM 6 (aF l))=0
 ·rw[he];go_wp2_with fail;refine(aDZ _ _ _ SN4.out).mono ?_;rintro e w5 ⟨rfl,hb5⟩;have B5:=hid hb5;have S5:Hid (bR w5 w.heap.size 0 0 (.slice none 0 0) (.slice none 0 0)):=hid (S4.out.below B5.out);have C5:Hid (bR w5 w3.heap.size I3 T3 (.slice am (fD 6 (aF l)).ms.length cm) (.slice ad (fD 6 (aF l)).d.length cd)):=hid (C4.out.below B5.out);have Q5:Hid (Below w.heap.size w w5):=hid (Q4.out.trans (B5.out.mono Q4.out.size));clear hb5 r0 r1 r2 r3 q0 q1 q2 q3 y0 y1 y2 y3;obtain⟨r0,r1,r2,r3,q0,q1,q2,q3⟩:=S5.out;obtain⟨y0,y1,y2,y3,_,_,_,_⟩:=C5.out;have L5:=S5.out.lt;by_cases hok:(fD 6 (aF l)).ok
  ·have HV:Hid (dG 6 l=true/\dK 6 l=fD 6 (aF l)):=hid (aCH ⟨⟨HT.out,HF.out.2⟩,HF.out.1,he,hok⟩);rw[show (fD 6 (aF l)).okB=true from decide_eq_true hok];go_wp2_with fail;generalize hwF:World.setCell _ _ _=wF;have KF:Hid (Kept w5 wF (fun k=>k=w.heap.size)):=hid (by subst hwF;exact Kept.eN _ _ _ _ _ _);have HR:Hid (bR wF w.heap.size I3 T3 (.slice am (fD 6 (aF l)).ms.length cm) (.slice ad (fD 6 (aF l)).d.length cd)):=hid (by subst hwF;exact S5.out.eN _ _ _ _);have HSN:Hid (cL wF (.agg #[.int .u64 I3,.int .u64 T3,.slice am (fD 6 (aF l)).ms.length cm,.slice ad (fD 6 (aF l)).d.length cd]) (fD 6 (aF l))):=hid (by subst hwF;exact cL.eN S5.out (SN4.out.below B5.out) _ _ _ _);clear hwF r0 r1 r2 r3 q0 q1 q2 q3 y0 y1 y2 y3;obtain⟨z0,z1,z2,z3,_,_,_,_⟩:=HR.out;refine bodyPost_ret (v:=.tuple #[.agg #[.int .u64 I3,.int .u64 T3,.slice am (fD 6 (aF l)).ms.length cm,.slice ad (fD 6 (aF l)).d.length cd],.bool true]) (by simp[results,Tryz.results186,go_sem,z0,z1,z2,z3]) rfl ?_;rw[HV.out.1,HV.out.2];have hfin:pN true (fD 6 (aF l)) w _ wF:=⟨_,rfl,HSN.out,Q5.out.trans ((KF.out.below (B:=w.heap.size) Q5.out.size (fun k hk=>by omega))),_,_,_,_,rfl,fun g hg=>by have:=HN1.out g hg;have:=B1.out.size;have:=B2.out.size;omega,fun g hg=>by have:=HN2.out g hg;have:=B1.out.size;have:=B2.out.size;omega⟩;exact⟨let ⟨v,h1,h2,h3,_⟩:=hfin;⟨v,h1,h2,h3⟩,fun _=>hfin⟩
  ·have HV:Hid (dG 6 l=false/\dK 6 l=eO):=hid (lZ fun h=>hok h.2.2.2);rw[show (fD 6 (aF l)).okB=false from decide_eq_false hok];go_wp2_with fail;generalize hwF:World.setCell _ _ _=wF;have KF:Hid (Kept w5 wF (fun k=>k=w.heap.size)):=hid (by subst hwF;exact Kept.eN _ _ _ _ _ _);have HR:Hid (bR wF w.heap.size 0 0 (.slice none 0 0) (.slice none 0 0)):=hid (by subst hwF;exact S5.out.eN _ _ _ _);clear hwF r0 r1 r2 r3 q0 q1 q2 q3;obtain⟨z0,z1,z2,z3,_,_,_,_⟩:=HR.out;refine bodyPost_ret (v:=.tuple #[.agg #[.int .u64 0,.int .u64 0,.slice none 0 0,.slice none 0 0],.bool false]) (by simp[results,Tryz.results186,go_sem,z0,z1,z2,z3]) rfl ?_;rw[HV.out.1,HV.out.2];exact⟨⟨_,rfl,gD _,Q5.out.trans ((KF.out.below (B:=w.heap.size) Q5.out.size (fun k hk=>by omega)))⟩,nofun⟩
 ·have HV:Hid (dG 6 l=false/\dK 6 l=eO):=hid (lZ fun h=>he h.2.2.1);obtain⟨ee,hee⟩:∃k,gV (qE 6 (aF l)) (lM 6 (aF l))=k:=⟨_,rfl⟩;have hk0:((ee:Int) != 0)=true:=bne_iff_ne.2 (by omega);rw[hee];go_wp2_with fail;generalize hwF:World.setCell _ _ _=wF;have KF:Hid (Kept w4 wF (fun k=>k=w.heap.size)):=hid (by subst hwF;exact Kept.eN _ _ _ _ _ _);have HR:Hid (bR wF w.heap.size 0 0 (.slice none 0 0) (.slice none 0 0)):=hid (by subst hwF;exact S4.out.eN _ _ _ _);clear hwF r0 r1 r2 r3 q0 q1 q2 q3;obtain⟨z0,z1,z2,z3,_,_,_,_⟩:=HR.out;refine bodyPost_ret (v:=.tuple #[.agg #[.int .u64 0,.int .u64 0,.slice none 0 0,.slice none 0 0],.bool false]) (by simp[results,Tryz.results186,go_sem,z0,z1,z2,z3]) rfl ?_;rw[HV.out.1,HV.out.2];exact⟨⟨_,rfl,gD _,Q4.out.trans ((KF.out.below (B:=w.heap.size) Q4.out.size (fun k hk=>by omega)))⟩,nofun⟩
theorem aF3 (v:Value)(l:List Nat)(w:World)(hB:Bytes w v l):Calls Tryz.prog 186 #[v] w (jJ (dG 6 l) (dK 6 l) w):=by
 by_cases ht:cS l=0
 ·by_cases hk:l.getD 1 0=4/\frN l+8=l.length
  ·exact(aCM v l w hB ht hk.1 hk.2).mono fun _ _ h=>h.1
  ·exact aF6 v l w hB ht (by omega)
 ·exact aF5 v l w hB ht
theorem aF4 (v:Value)(l:List Nat)(w:World)(hB:Bytes w v l)(h:dG 6 l=true):Calls Tryz.prog 186 #[v] w (pN (dG 6 l) (dK 6 l) w):=by
 obtain⟨⟨ht,hn⟩,hk,_,_⟩:=of_decide_eq_true h;exact(aCM v l w hB ht hk hn).mono fun _ _ q=>q.2 h
