/- For screads_law_holds. -/
import Derived.Test.YtgeihgombjbkbaaGreatSrb20
set_option maxHeartbeats 16000000
set_option maxRecDepth 100000
namespace Go.Proofs.YtgeihgombjbkbaaGreat
open Go.Lib (hid)
open Go.RowKit Go.Maps Go.Proofs.Own

theorem rA (k k2:gI)(la:Option Addr)(ln lc:Nat)(la2:Option Addr)(ln2 lc2:Nat)(w:World)(h:bV w k la ln lc)(h2:bV w k2 la2 ln2 lc2) :
  Calls Tryz.prog 98 #[.agg #[.int .i64 k.c,.slice la ln lc,.int .i64 k.r,.int .i64 k.b],.agg #[.int .i64 k2.c,.slice la2 ln2 lc2,.int .i64 k2.r,.int .i64 k2.b]] w fun e w'=>e = .returned (.bool (decide (k=k2)))/\Below w.heap.size w w':=by
 have C:=hid fun v hb=>sW k.l k2.l la la2 ln ln2 lc lc2 v (h.below hb).rl (h2.below hb).rl h.ll h2.ll (by have:=h.sl;unfold maxLen;omega);clear h h2;obtain⟨c,l,r,b⟩:=k;obtain⟨c2,l2,r2,b2⟩:=k2;have AL:Hid (∀o1 o2:Obj,Below w.heap.size w ((w.alloc o1).alloc o2)):=hid fun o1 o2=>((Below.refl _ _).alloc (Nat.le_refl _) _).alloc (by simp) _;have HK:Hid (decide ((⟨c,l,r,b⟩:gI)=⟨c2,l2,r2,b2⟩)=true ↔ (c=c2/\l=l2/\r=r2/\b=b2)):=hid (by rw[decide_eq_true_iff];exact⟨fun h=>by cases h;exact⟨rfl,rfl,rfl,rfl⟩,fun ⟨h1,h2,h3,h4⟩=>by rw[h1,h2,h3,h4]⟩);obtain⟨R,hR⟩:∃R:Bool,R=decide ((⟨c,l,r,b⟩:gI)=⟨c2,l2,r2,b2⟩):=⟨_,rfl⟩;rw[<- hR];rw[<- hR]at HK;clear hR;simp only at C;by_cases q0:c=c2
 case neg =>
  have HE:Hid (R=false):=hid (by rw[Bool.eq_false_iff];intro h;exact q0 ((HK.out.1 h).1));go_enter Tryz.func98,Tryz.ntmps98;go_wp2_with fail;go_ret;exact⟨by rw[HE.out];rfl,AL.out _ _⟩
 by_cases q1:r=r2
 case neg =>
  have HE:Hid (R=false):=hid (by rw[Bool.eq_false_iff];intro h;exact q1 ((HK.out.1 h).2.2.1));go_enter Tryz.func98,Tryz.ntmps98;go_wp2_with fail;go_ret;exact⟨by rw[HE.out];rfl,AL.out _ _⟩
 by_cases q2:b=b2
 case neg =>
  have HE:Hid (R=false):=hid (by rw[Bool.eq_false_iff];intro h;exact q2 ((HK.out.1 h).2.2.2));go_enter Tryz.func98,Tryz.ntmps98;go_wp2_with fail;go_ret;exact⟨by rw[HE.out];rfl,AL.out _ _⟩
 subst q0 q1 q2;have HE:Hid (R=decide (l=l2)):=hid (by rw[Bool.eq_iff_iff,HK.out,decide_eq_true_iff];exact⟨fun h=>h.2.1,fun h=>⟨rfl,h,rfl,rfl⟩⟩);rw[<- HE.out]at C;clear HE HK;go_enter Tryz.func98,Tryz.ntmps98;go_wp2_with fail;refine(C.out _ (AL.out _ _)).mono ?_;rintro e w1 ⟨rfl,hb1⟩;have B1:=hid (aQ (AL.out _ _) hb1);clear hb1;go_wp2_with fail;go_ret;exact⟨by cases R<;>rfl,B1.out⟩
theorem rG (k k2:gI)(la:Option Addr)(ln lc:Nat)(la2:Option Addr)(ln2 lc2:Nat)(w:World)(h:bV w k la ln lc)(h2:bV w k2 la2 ln2 lc2) :
  Calls Tryz.prog 127 #[.agg #[.int .i64 k.c,.slice la ln lc,.int .i64 k.r,.int .i64 k.b],.agg #[.int .i64 k2.c,.slice la2 ln2 lc2,.int .i64 k2.r,.int .i64 k2.b]] w fun e w'=>e = .returned (.bool (decide (k=k2)))/\Below w.heap.size w w':=by
 have HR:=hid h.rl;have HL:=hid h.ll;have hsm:=h.sl;have HR2:=hid h2.rl;have HL2:=hid h2.ll;clear h h2;obtain⟨c,l,r,b⟩:=k;obtain⟨c2,l2,r2,b2⟩:=k2;have AL:Hid (∀o1 o2:Obj,Below w.heap.size w ((w.alloc o1).alloc o2)):=hid fun o1 o2=>((Below.refl _ _).alloc (Nat.le_refl _) _).alloc (by simp) _;have HK:Hid (decide ((⟨c,l,r,b⟩:gI)=⟨c2,l2,r2,b2⟩)=true ↔ (c=c2/\l=l2/\r=r2/\b=b2)):=hid (by rw[decide_eq_true_iff];exact⟨fun h=>by cases h;exact⟨rfl,rfl,rfl,rfl⟩,fun ⟨h1,h2,h3,h4⟩=>by rw[h1,h2,h3,h4]⟩);obtain⟨R,hR⟩:∃R:Bool,R=decide ((⟨c,l,r,b⟩:gI)=⟨c2,l2,r2,b2⟩):=⟨_,rfl⟩;rw[<- hR];rw[<- hR]at HK;clear hR;simp only at HR HL HR2 HL2;by_cases q0:c=c2
 case neg =>
  have HE:Hid (R=false):=hid (by rw[Bool.eq_false_iff];intro h;exact q0 ((HK.out.1 h).1));go_enter Tryz.func127,Tryz.ntmps127;go_wp2_with fail;go_ret;exact⟨by rw[HE.out];rfl,AL.out _ _⟩
 by_cases q1:r=r2
 case neg =>
  have HE:Hid (R=false):=hid (by rw[Bool.eq_false_iff];intro h;exact q1 ((HK.out.1 h).2.2.1));go_enter Tryz.func127,Tryz.ntmps127;go_wp2_with fail;go_ret;exact⟨by rw[HE.out];rfl,AL.out _ _⟩
 by_cases q2:b=b2
 case neg =>
  have HE:Hid (R=false):=hid (by rw[Bool.eq_false_iff];intro h;exact q2 ((HK.out.1 h).2.2.2));go_enter Tryz.func127,Tryz.ntmps127;go_wp2_with fail;go_ret;exact⟨by rw[HE.out];rfl,AL.out _ _⟩
 by_cases q3:ln=ln2
 case neg =>
  have HE:Hid (R=false):=hid (by rw[Bool.eq_false_iff];intro h;exact q3 (by rw[<- HL.out,<- HL2.out,(HK.out.1 h).2.1]));go_enter Tryz.func127,Tryz.ntmps127;go_wp2_with fail;go_ret;exact⟨by rw[HE.out];rfl,AL.out _ _⟩
 subst q0 q1 q2 q3;have HE:Hid (R=decide (l=l2)):=hid (by rw[Bool.eq_iff_iff,HK.out,decide_eq_true_iff];exact⟨fun h=>h.2.1,fun h=>⟨rfl,h,rfl,rfl⟩⟩);clear HK;go_enter Tryz.func127,Tryz.ntmps127;go_wp2_with fail
 go_loopw [5] (fun i wr=>∃(j:Nat),i = .int .i64 j/\j<=ln/\l.take j=l2.take j/\wr.cell? ⟨w.heap.size,1,none⟩=some (.slice la ln lc)/\wr.cell? ⟨w.heap.size+1,1,none⟩=some (.slice la2 ln lc2)/\Below w.heap.size w wr/\w.heap.size+1<wr.heap.size) (fun i _=>ln-(intOf i).toNat)
 case atStart=>exact⟨0,rfl,Nat.zero_le _,rfl,by go_cell,by go_cell,AL.out _ _,by simp⟩
 case round =>
  obtain⟨j,rfl,hj,hrow,k1,k2,hb,hsz⟩:=hrel;have HB:=hid hb;have HW:=hid hrow;have K1:=hid k1;have K2:=hid k2;have HS:=hid hsz;have DR:Hid (Below w.heap.size w wr -> ∀m,Below w.heap.size w (wr.drewN m)):=hid fun h m=>h.trans ((Below.drewN _ _).mono h.size);clear hb hrow hsz;by_cases hlt:j<ln
  ·have hjl:j<l.length:=by have:=HL.out;omega
   have hjm:j<l2.length:=by have:=HL2.out;omega
   obtain⟨bb,oo,rfl,hbl,x0,x1⟩:=HR.out.sp hjl;obtain⟨bb2,oo2,rfl,hbl2,y0,y1⟩:=HR2.out.sp hjm;have x0:=aJ HB.out x0 hbl;have x1:=aJ HB.out x1 hbl;have y0:=aJ HB.out y0 hbl2;have y1:=aJ HB.out y1 hbl2;by_cases he:l[j]=l2[j]
   ·have HT:Hid (l.take (j+1)=l2.take (j+1)):=hid (fB HW.out hjl hjm he);rw[<- he]at y0 y1;generalize l[j]=s at x0 x1 y0 y1;obtain⟨f,t⟩:=s;simp only at x0 x1 y0 y1;go_wp2_with fail
    go_quiet (fail)
    go_wp2_with fail
    go_roundw
    case rel=>exact⟨j+1,by first|rfl|go_num,by omega,HT.out,K1.out,K2.out,DR.out HB.out _,HS.out⟩
    all_goals (show ln-((j:Int)+1).toNat<ln-((j:Int)).toNat;omega)
   ·have HF:Hid (R=false):=hid (by rw[HE.out];exact decide_eq_false fun h=>he (by subst h;rfl));generalize l[j]=s at x0 x1 he;generalize l2[j]=s2 at y0 y1 he;obtain⟨f,t⟩:=s;obtain⟨f2,t2⟩:=s2;simp only at x0 x1 y0 y1;by_cases h1:f=f2
    ·have h2:¬t=t2:=fun e=>he (by rw[h1,e]);have bx:(f==f2)=true:=by simp[h1]
     have by':(t==t2)=false:=by simp[h2]
     clear he h1 h2;go_wp2_with fail
     go_quiet (fail)
     go_wp2_with fail;go_ret;exact⟨by rw[HF.out];rfl,DR.out HB.out _⟩
    ·have bx:(f==f2)=false:=by simp[h1]
     clear he h1;go_wp2_with fail
     go_quiet (fail)
     go_wp2_with fail;go_ret;exact⟨by rw[HF.out];rfl,DR.out HB.out _⟩
  ·obtain rfl:j=ln:=by omega
   have HT:Hid (R=true):=hid (by
    rw[HE.out];have:=HW.out;rw[List.take_of_length_le (by rw[HL.out];exact Nat.le_refl _),List.take_of_length_le (by rw[HL2.out];exact Nat.le_refl _)]at this;exact decide_eq_true this)
   go_wp2_with fail;go_ret;exact⟨by rw[HT.out];rfl,HB.out⟩

theorem aIv {p q r N:Nat}(hq:q<256)(hr:r<256)(h:N=be3 p q r):N / 65536=p/\N / 256 % 256=q/\N % 256=r:=by
 subst h;unfold be3;omega
theorem bIs {l:List Nat}(h:5<=l.length)(k:Nat):l.take (k+5) = [l.getD 0 0,l.getD 1 0,l.getD 2 0,l.getD 3 0,l.getD 4 0]++(l.take (k+5)).drop 5:=by
 match l,h with
 | a::b::c::d::e::l,_=>simp
theorem nK {l:List Nat}{j:Nat}(h:j<l.length):l.getD j 0=l[j]:=by simp[List.getD_eq_getElem?_getD,h]
theorem bIr {l:List Nat}{m:Nat}(h:m+3<=l.length):l.take (m+3)=l.take m ++ [l.getD m 0,l.getD (m+1) 0,l.getD (m+2) 0]:=by
 rw[nK (show m<l.length by omega),nK (show m+1<l.length by omega),nK (show m+2<l.length by omega),show m+3=m+1+1+1 from rfl,
  List.take_succ_eq_append_getElem (show m+1+1<l.length by omega),List.take_succ_eq_append_getElem (show m+1<l.length by omega),List.take_succ_eq_append_getElem (show m<l.length by omega)]
 simp only[List.append_assoc,List.cons_append,List.nil_append]
theorem qP {l:List Nat}(hl:∀c ∈ l,c<256)(h:aZ l=0)(h0:l.getD 0 0=102):frP (l.getD 1 0) (aS l)=l.take (frN l+8) ↔ gE (frN l+5) (l.take (frN l+8)):=by
 obtain⟨h5,hN,hlen⟩:=gN h;have gl:∀j,l.getD j 0<256:=fun j=>by
  rw[List.getD_eq_getElem?_getD];cases e:l[j]? with
  | none=>simp
  | some x=>exact hl x (List.mem_of_getElem? e)
 have hbl:=fL h;have hd:=aIv (p:=l.getD 2 0) (gl 3) (gl 4) (show frN l=be3 (l.getD 2 0) (l.getD 3 0) (l.getD 4 0) from rfl);have e1:[102,l.getD 1 0,(aS l).length / 65536,(aS l).length / 256 % 256,(aS l).length % 256]++aS l=l.take (frN l+5):=by
  rw[hbl,hd.1,hd.2.1,hd.2.2,bIs h5 (frN l),h0];rfl
 have e2:∀j,j<frN l+8->(l.take (frN l+8)).getD j 0=l.getD j 0:=fun j hj=>by
  simp only[List.getD_eq_getElem?_getD];rw[List.getElem?_take_of_lt hj]
 have e3:(l.take (frN l+8)).take (frN l+5)=l.take (frN l+5):=by rw[List.take_take];congr 1;omega
 unfold frP gE;rw[e1,e3,e2 _ (by omega),e2 _ (by omega),e2 _ (by omega)];have e4:l.take (frN l+8)=l.take (frN l+5) ++ [l.getD (frN l+5) 0,l.getD (frN l+6) 0,l.getD (frN l+7) 0]:=bIr (m:=frN l+5) (by omega);rw[e4,kG];have hs:=lE (l.take (frN l+5)) (fun c hc=>hl c (List.mem_of_mem_take hc));have g5:=gl (frN l+5);have g6:=gl (frN l+6);have g7:=gl (frN l+7);simp only[List.append_cancel_left_eq,List.cons.injEq,and_true,show frN l+5+1=frN l+6 by omega,show frN l+5+2=frN l+7 by omega];unfold be3;omega
theorem iE {l:List Nat}(h:aZ l=0):l.getD 0 0=102:=by
 unfold aZ at h;split at h;· omega
 split at h;· omega
 rename_i h0;exact Classical.not_not.1 h0
theorem lD {l:List Nat}(h:aZ l=0):l.getD 1 0≠0:=by
 unfold aZ at h;split at h;· omega
 split at h;· omega
 split at h;· omega
 split at h;· omega
 assumption
def aJq (l:List Nat):Prop:=((eD (frP (l.getD 1 0) (aS l))).toList==(eD (l.take (frN l+8))).toList)=true
def aK5 (l:List Nat):Prop:=((eD (frP (l.getD 1 0) (aS l))).toList==(eD (l.take (frN l+8))).toList)=false
theorem aKK {k:Nat}{l:List Nat}(hk:k<256)(hn:l.length<16777216)(h:∀c ∈ l,c<256):∀c ∈ frP k l,c<256:=oK (lL hk hn h)
theorem aH9 {l:List Nat}(hl:∀c ∈ l,c<256)(h:aZ l=0)(hs:gE (frN l+5) (l.take (frN l+8))):aJq l:=by
 unfold aJq;rw[(qP hl h (iE h)).2 hs];exact lT rfl
theorem aH8 {l:List Nat}(hl:∀c ∈ l,c<256)(h:aZ l=0)(hs:¬gE (frN l+5) (l.take (frN l+8))):aK5 l:=by
 refine vA fun e=>?_;refine hs ((qP hl h (iE h)).1 (oN (aKK ?_ ?_ ?_) (fun c hc=>hl c (List.mem_of_mem_take hc)) e))
 ·rw[List.getD_eq_getElem?_getD];cases e:l[1]? with
  | none=>simp
  | some x=>exact hl x (List.mem_of_getElem? e)
 ·have:=fL h;have:=gN h;omega
 ·exact fun c hc=>hl c (List.mem_of_mem_take (List.mem_of_mem_drop hc))

theorem aHW (v:Value)(l:List Nat)(w:World)(hB:Bytes w v l)(hs:aZ l=0)(hsum:¬gE (frN l+5) (l.take (frN l+8))):Calls Tryz.prog 28 #[v] w (gQ l w):=by
 have HF:Hid (dA l=22):=hid (by simp[dA,hs,hsum]);obtain⟨h5,hN,hlen⟩:=gN hs;have HB:=hid hB;obtain⟨v1,hB1,hcut1⟩:=hB.aIt Tryz.u8s 5 (frN l+5) (by omega) (by omega);obtain⟨v2,hB2,hcut2⟩:=hB.yZ Tryz.u8s (frN l+8) (by omega);have hB1':Bytes w v1 (aS l):=hB1;have HW:Hid (aK5 l):=hid (aH8 hB.lt hs hsum);have hn1:l.getD 1 0≠0:=lD hs;obtain⟨b,o,c,rfl,hle,hbs,hcell⟩:=hB.cM (by omega);have c0:w.cell? ⟨b,o,none⟩=some (.int .u8 (l.getD 0 0:Nat)):=hcell 0 (by omega);rw[iE hs]at c0;have c1:=hcell 1 (by omega);have c2:=hcell 2 (by omega);have c3:=hcell 3 (by omega);have c4:=hcell 4 (by omega);have x2:=hB.aU 2;have x3:=hB.aU 3;have x4:=hB.aU 4;have x1:=hB.aU 1;have hl0:((l.length:Int)==0)=false:=beq_eq_false_iff_ne.2 (by omega);have hl2:¬(l.length:Int)<2:=by omega
 have hl5:¬(l.length:Int)<5:=by omega
 have hN':¬(65536:Int)<(frN l:Int):=by omega
 have hlN:¬(l.length:Int)<(frN l:Int)+8:=by omega
 have HV:Hid (((l.getD 2 0:Nat):Int)*65536+((l.getD 3 0:Nat):Int)*256+((l.getD 4 0:Nat):Int)=(frN l:Int)):=hid (by have:frN l=l.getD 2 0*65536+l.getD 3 0*256+l.getD 4 0:=rfl;omega);have i0:(0:Int)<(l.length:Int):=by omega
 have i1:(1:Int)<(l.length:Int):=by omega
 have i2:(2:Int)<(l.length:Int):=by omega
 have i3:(3:Int)<(l.length:Int):=by omega
 have i4:(4:Int)<(l.length:Int):=by omega
 have HL:=hid hlen;have HN:=hid hN;have HS:=hid hs;have hbl:(aS l).length<=65536:=by rw[fL hs];exact hN
 have HBL:=hid hbl;clear hB hcell hle h5 hN hs hlen hbl hB1;generalize l.getD 2 0=p at c2 x2 HV;generalize l.getD 3 0=q at c3 x3 HV;generalize l.getD 4 0=r at c4 x4 HV;generalize hx:l.getD 1 0=x at c1 x1 hn1;have HLN:Hid (([]:List Int).length+(ints (aS l)).length<=4294967296):=hid (by rw[aE];have:=HBL.out;simp only[List.length_nil];omega);have hn1b:((x:Int)==0)=false:=by simp;omega
 have HX:=hid hx;have C1:=hid c1;have HB1:=hid hB1';have HB2:=hid hB2;rw[aK5,hx]at HW;have hcut1':∀w',(Instr.slice 22 (.slice (some ⟨b,o,none⟩) l.length c) (some (.int .i64 5)) (some (.int .i64 ((frN l:Int)+5))) none).run Tryz.prog w' = .ok v1 w':=hcut1;have hcut2':∀w',(Instr.slice 22 (.slice (some ⟨b,o,none⟩) l.length c) none (some (.int .i64 ((frN l:Int)+8))) none).run Tryz.prog w' = .ok v2 w':=hcut2;clear hx hcut1 hcut2 hB1' hB2 hn1 hsum;go_enter Tryz.func28,Tryz.ntmps28;go_wp2_with fail
 go_quiet (fail)
 have ST:=fZ.from w;have IQ:Hid (Below w.heap.size w (w.drewN nq)):=hid (Below.drewN _ _);generalize w.drewN nq=wq at IQ ⊢;rw[HV.out];generalize hN:frN l=N at hN' hlN hcut1' hcut2' ⊢;have HNN:=hid hN;clear hN c2 c3 c4 HV;go_wp2_with fail;have hwr:IntKind.i64.wrap ((N:Int)+8)=(N:Int)+8:=by simp only[IntKind.wrap_i64];omega
 refine cJ [0,1,3,0,15,31,0,0,128,448,960,2047] 48 (fun w'=>Below w.heap.size w w') (by kernel_rfl) ?_;refine aR [0,1,2,3,6,7,8,9,10] (by kernel_rfl) (L:=bm 12 1999) (by kernel_rfl) (f':=3) rfl (fun _ _ _ _ h=>h) (fun w o h=>ST.alloc h o) (.inr (ST.drew IQ.out)) ?_;simp only[sF,sL]
 iterate 9 (first|(refine bO _ (by rfl) (fun w' hs=>by have y0:=Below.at hs C1.out hbs;have yc:=(HB2.out.below hs).str (P:=Tryz.prog) Tryz.underlying22 Tryz.underlying5 Tryz.underlying9;go_simp;try with_reducible rfl) rfl ?_;simp only[Act.put,sA])|(refine aW _ (by rfl) (fun w'=>by go_simp;try with_reducible rfl) ?_;simp only[Act.put,sA]))
 refine bF ?_;refine cU 4 (by kernel_rfl) (L:=bm 12 2015) (by kernel_rfl) ?_;simp only[sL];go_wp2_with fail;refine(nY x v1 (aS l) _ (HB1.out.below (ST.drew IQ.out)) x1 (by have:=HBL.out;omega)).mono ?_;rintro e u4 ⟨v4,rfl,hB4,hb4⟩;have I4:Hid (Below w.heap.size w u4):=hid (ST.below (ST.drew IQ.out) hb4);have HB4:=hid hB4;clear hB4 hb4;go_wp2_with fail;refine bS (fun _=>I4.out) ?_;refine cU 5 (by kernel_rfl) (L:=bm 12 2047) (by kernel_rfl) ?_;simp only[sL];refine fN rfl 22 9 5 _ rfl Tryz.underlying22 Tryz.underlying5 Tryz.underlying9 _ _ rfl HB4.out ?_;go_wp2_with fail;refine bS (fun _=>I4.out) ?_;refine aR [11] (by kernel_rfl) (L:=bm 12 4095) (by kernel_rfl) (f':=0) rfl (fun _ _ _ _ h=>h) (fun w o h=>ST.alloc h o) (.inl (by kernel_rfl)) ?_;simp only[sF,sL]
 iterate 1 (refine aW _ (by rfl) (fun w'=>by go_simp;try with_reducible rfl) ?_;simp only[Act.put,sA])
 refine bF ?_;refine dH (by kernel_rfl) ?_;clear hwr;rw[HW.out];go_wp2_with fail;refine bodyPost_ret (v:=.tuple #[.int .u8 0,.slice none 0 0,.int .i64 0,.int .i64 22]) (by simp[results,Tryz.results28,go_sem]) rfl ?_;exact⟨I4.out,fun _=>by rw[HF.out];rfl,fun h=>absurd (HF.out.symm.trans h) (by decide)⟩

theorem xO (v:Value)(l:List Nat)(w:World)(hB:Bytes w v l)(hs:aZ l=0)(hsum:gE (frN l+5) (l.take (frN l+8))):Calls Tryz.prog 28 #[v] w (gQ l w):=by
 have HF:Hid (dA l=0):=hid (by simp[dA,hs,hsum]);obtain⟨h5,hN,hlen⟩:=gN hs;have HB:=hid hB;obtain⟨v1,hB1,hcut1⟩:=hB.aIt Tryz.u8s 5 (frN l+5) (by omega) (by omega);obtain⟨v2,hB2,hcut2⟩:=hB.yZ Tryz.u8s (frN l+8) (by omega);have hB1':Bytes w v1 (aS l):=hB1;have HW:Hid (aJq l):=hid (aH9 hB.lt hs hsum);have hn1:l.getD 1 0≠0:=lD hs;obtain⟨b,o,c,rfl,hle,hbs,hcell⟩:=hB.cM (by omega);have c0:w.cell? ⟨b,o,none⟩=some (.int .u8 (l.getD 0 0:Nat)):=hcell 0 (by omega);rw[iE hs]at c0;have c1:=hcell 1 (by omega);have c2:=hcell 2 (by omega);have c3:=hcell 3 (by omega);have c4:=hcell 4 (by omega);have x2:=hB.aU 2;have x3:=hB.aU 3;have x4:=hB.aU 4;have x1:=hB.aU 1;have hl0:((l.length:Int)==0)=false:=beq_eq_false_iff_ne.2 (by omega);have hl2:¬(l.length:Int)<2:=by omega
 have hl5:¬(l.length:Int)<5:=by omega
 have hN':¬(65536:Int)<(frN l:Int):=by omega
 have hlN:¬(l.length:Int)<(frN l:Int)+8:=by omega
 have HV:Hid (((l.getD 2 0:Nat):Int)*65536+((l.getD 3 0:Nat):Int)*256+((l.getD 4 0:Nat):Int)=(frN l:Int)):=hid (by have:frN l=l.getD 2 0*65536+l.getD 3 0*256+l.getD 4 0:=rfl;omega);have i0:(0:Int)<(l.length:Int):=by omega
 have i1:(1:Int)<(l.length:Int):=by omega
 have i2:(2:Int)<(l.length:Int):=by omega
 have i3:(3:Int)<(l.length:Int):=by omega
 have i4:(4:Int)<(l.length:Int):=by omega
 have HL:=hid hlen;have HN:=hid hN;have HS:=hid hs;have hbl:(aS l).length<=65536:=by rw[fL hs];exact hN
 have HBL:=hid hbl;clear hB hcell hle h5 hN hs hlen hbl hB1;generalize l.getD 2 0=p at c2 x2 HV;generalize l.getD 3 0=q at c3 x3 HV;generalize l.getD 4 0=r at c4 x4 HV;generalize hx:l.getD 1 0=x at c1 x1 hn1;have HLN:Hid (([]:List Int).length+(ints (aS l)).length<=4294967296):=hid (by rw[aE];have:=HBL.out;simp only[List.length_nil];omega);have hn1b:((x:Int)==0)=false:=by simp;omega
 have HX:=hid hx;have C1:=hid c1;have HB1:=hid hB1';have HB2:=hid hB2;rw[aJq,hx]at HW;have hcut1':∀w',(Instr.slice 22 (.slice (some ⟨b,o,none⟩) l.length c) (some (.int .i64 5)) (some (.int .i64 ((frN l:Int)+5))) none).run Tryz.prog w' = .ok v1 w':=hcut1;have hcut2':∀w',(Instr.slice 22 (.slice (some ⟨b,o,none⟩) l.length c) none (some (.int .i64 ((frN l:Int)+8))) none).run Tryz.prog w' = .ok v2 w':=hcut2;clear hx hcut1 hcut2 hB1' hB2 hn1 hsum;go_enter Tryz.func28,Tryz.ntmps28;go_wp2_with fail
 go_quiet (fail)
 have ST:=fZ.from w;have IQ:Hid (Below w.heap.size w (w.drewN nq)):=hid (Below.drewN _ _);generalize w.drewN nq=wq at IQ ⊢;rw[HV.out];generalize hN:frN l=N at hN' hlN hcut1' hcut2' ⊢;have HNN:=hid hN;clear hN c2 c3 c4 HV;go_wp2_with fail;have hwr:IntKind.i64.wrap ((N:Int)+8)=(N:Int)+8:=by simp only[IntKind.wrap_i64];omega
 refine cJ [0,1,3,0,15,31,0,0,128,448,960,2047] 48 (fun w'=>Below w.heap.size w w') (by kernel_rfl) ?_;refine aR [0,1,2,3,6,7,8,9,10] (by kernel_rfl) (L:=bm 12 1999) (by kernel_rfl) (f':=3) rfl (fun _ _ _ _ h=>h) (fun w o h=>ST.alloc h o) (.inr (ST.drew IQ.out)) ?_;simp only[sF,sL]
 iterate 9 (first|(refine bO _ (by rfl) (fun w' hs=>by have y0:=Below.at hs C1.out hbs;have yc:=(HB2.out.below hs).str (P:=Tryz.prog) Tryz.underlying22 Tryz.underlying5 Tryz.underlying9;go_simp;try with_reducible rfl) rfl ?_;simp only[Act.put,sA])|(refine aW _ (by rfl) (fun w'=>by go_simp;try with_reducible rfl) ?_;simp only[Act.put,sA]))
 refine bF ?_;refine cU 4 (by kernel_rfl) (L:=bm 12 2015) (by kernel_rfl) ?_;simp only[sL];go_wp2_with fail;refine(nY x v1 (aS l) _ (HB1.out.below (ST.drew IQ.out)) x1 (by have:=HBL.out;omega)).mono ?_;rintro e u4 ⟨v4,rfl,hB4,hb4⟩;have I4:Hid (Below w.heap.size w u4):=hid (ST.below (ST.drew IQ.out) hb4);have HB4:=hid hB4;clear hB4 hb4;go_wp2_with fail;refine bS (fun _=>I4.out) ?_;refine cU 5 (by kernel_rfl) (L:=bm 12 2047) (by kernel_rfl) ?_;simp only[sL];refine fN rfl 22 9 5 _ rfl Tryz.underlying22 Tryz.underlying5 Tryz.underlying9 _ _ rfl HB4.out ?_;go_wp2_with fail;refine bS (fun _=>I4.out) ?_;refine aR [11] (by kernel_rfl) (L:=bm 12 4095) (by kernel_rfl) (f':=0) rfl (fun _ _ _ _ h=>h) (fun w o h=>ST.alloc h o) (.inl (by kernel_rfl)) ?_;simp only[sF,sL]
 iterate 1 (refine aW _ (by rfl) (fun w'=>by go_simp;try with_reducible rfl) ?_;simp only[Act.put,sA])
 refine bF ?_;refine dH (by kernel_rfl) ?_;clear hwr;rw[HW.out];go_wp2_with fail;have hwr:IntKind.i64.wrap ((N:Int)+8)=(N:Int)+8:=by simp only[IntKind.wrap_i64];omega
 refine cJ [0,1,3,0,0,24,0,64,63,319,1023,2047] 32 (fun w'=>Below w.heap.size w w') (by kernel_rfl) ?_;refine aR [0,1,2,4,6,7] (by kernel_rfl) (L:=bm 12 215) (by kernel_rfl) (f':=6) rfl (fun _ _ _ _ h=>h) (fun w o h=>ST.alloc h o) (.inr (by first|exact ST.drew I4.out|exact I4.out)) ?_;simp only[sF,sL]
 iterate 6 (first|(refine bO _ (by rfl) (fun w' hs=>by have y0:=Below.at hs C1.out hbs;have yc:=(HB2.out.below hs).str (P:=Tryz.prog) Tryz.underlying22 Tryz.underlying5 Tryz.underlying9;go_simp;try with_reducible rfl) rfl ?_;simp only[Act.put,sA])|(refine aW _ (by rfl) (fun w'=>by go_simp;try with_reducible rfl) ?_;simp only[Act.put,sA]))
 refine bF ?_;refine cU 3 (by kernel_rfl) (L:=bm 12 223) (by kernel_rfl) ?_;simp only[sL];go_wp2_with fail;generalize hu5:World.alloc _ _=u5;have I5:Hid (Below w.heap.size w u5):=hid (by subst hu5;exact ST.alloc (by first|exact ST.drew I4.out|exact I4.out) _);have O5:Hid (aT u5 (w.heap.size) 5 .u8 (.slice (some ⟨u4.heap.size,0,none⟩) 0 0) []):=hid (by subst hu5;first|exact aT.empty (heap_alloc_new _ _) I4.out.size|exact aT.empty (heap_alloc_new _ _) (ST.drew I4.out).size);clear hu5;refine bS nofun ?_;refine cU 5 (by kernel_rfl) (L:=bm 12 255) (by kernel_rfl) ?_;simp only[sL];refine aG Tryz.u8s _ _ rfl w.heap.size _ _ [] (ints (aS l)) rfl rfl O5.out.drew (HB1.out.below (ST.drew I5.out)).rd (by decide) HLN.out (ST.drew I5.out).size rfl ?_;intro v6 w6 hown6 hgr6 hat6 hnil6 hbel6;have O6:Hid (aT w6 w.heap.size 5 .u8 v6 (ints (aS l))):=hid (by simpa using hown6);have B6:Hid (Below w.heap.size w w6):=hid ((ST.drew I5.out).trans hbel6);clear hown6 hgr6 hat6 hnil6 hbel6;go_wp2_with fail;refine bS (fun _=>B6.out) ?_;refine aR [8,9,10,11] (by kernel_rfl) (L:=bm 12 4095) (by kernel_rfl) (f':=0) rfl (fun _ _ _ _ h=>h) (fun w o h=>ST.alloc h o) (.inl (by kernel_rfl)) ?_;simp only[sF,sL]
 iterate 4 (refine aW _ (by rfl) (fun w'=>by go_simp;try with_reducible rfl) ?_;simp only[Act.put,sA])
 refine bF ?_;refine dH (by kernel_rfl) ?_;go_wp2_with fail;refine bodyPost_ret (v:=.tuple #[.int .u8 x,v6,.int .i64 ((N:Int)+8),.int .i64 0]) (by simp[results,Tryz.results28,go_sem]) rfl ?_;exact⟨B6.out,fun h=>absurd HF.out h,fun _=>⟨v6,by rw[HX.out,HNN.out];rfl,Bytes.fM O6.out HB1.out.lt HB1.out.small⟩⟩

theorem uV (v:Value)(l:List Nat)(w:World)(hB:Bytes w v l)(h0:l.length=0):Calls Tryz.prog 28 #[v] w (gQ l w):=by
 have hs:aZ l=23:=by simp[aZ,h0]
 have HF:Hid (dA l=23):=hid (by simp[dA,hs]);obtain⟨a,c,rfl,_⟩:=hB.shape;rw[h0];clear hs h0 hB;go_enter Tryz.func28,Tryz.ntmps28;go_wp2_with fail;refine bodyPost_ret (v:=.tuple #[.int .u8 0,.slice none 0 0,.int .i64 0,.int .i64 23]) (by simp[results,Tryz.results28,go_sem]) rfl ?_;exact⟨Below.refl _ _,fun _=>by rw[HF.out];rfl,fun h=>absurd (HF.out.symm.trans h) (by decide)⟩

theorem uW (v:Value)(l:List Nat)(w:World)(hB:Bytes w v l)(hs:aZ l≠0)(h0:0<l.length)(h5:l.length<5):Calls Tryz.prog 28 #[v] w (gQ l w):=by
 obtain⟨b,o,c,rfl,hle,hbs,hcell⟩:=hB.cM (by omega);have c0:w.cell? ⟨b,o,none⟩=some (.int .u8 (l.getD 0 0:Nat)):=hcell 0 (by omega);have c1:1<l.length->w.cell? ⟨b,o+1,none⟩=some (.int .u8 (l.getD 1 0:Nat)):=fun h=>hcell 1 h;have hse:aZ l=if l.getD 0 0≠102 then 20 else if l.length<2 then 23 else if l.getD 1 0=0 then 20 else 23:=by
  unfold aZ;rw[if_neg (by omega),if_pos h5]
 have htk:dA l=aZ l:=by simp[dA,hs]
 have hl0:((l.length:Int)==0)=false:=beq_eq_false_iff_ne.2 (by omega);have i0:(0:Int)<(l.length:Int):=by omega
 have key:∃k:Nat,k≠0/\dA l=k/\((k=20/\(((l.getD 0 0:Nat):Int) != 102)=true)\/(k=23/\(((l.getD 0 0:Nat):Int) != 102)=false/\(l.length:Int)<2) \/
   (k=20/\(((l.getD 0 0:Nat):Int) != 102)=false /\ ¬(l.length:Int)<2/\(((l.getD 1 0:Nat):Int)==0)=true) \/
   (k=23/\(((l.getD 0 0:Nat):Int) != 102)=false /\ ¬(l.length:Int)<2/\(((l.getD 1 0:Nat):Int)==0)=false)):=by
  generalize l.getD 0 0=x at hse;generalize l.getD 1 0=y at hse;by_cases hx:x=102
  ·have hxb:((x:Int) != 102)=false:=by simp;omega
   by_cases h2:l.length<2
   ·exact⟨23,by decide,by rw[htk,hse,if_neg (by omega),if_pos h2],.inr (.inl ⟨rfl,hxb,by omega⟩)⟩
   ·by_cases hy:y=0
    ·exact⟨20,by decide,by rw[htk,hse,if_neg (by omega),if_neg h2,if_pos hy],.inr (.inr (.inl ⟨rfl,hxb,by omega,by simp;omega⟩))⟩
    ·exact⟨23,by decide,by rw[htk,hse,if_neg (by omega),if_neg h2,if_neg hy],.inr (.inr (.inr ⟨rfl,hxb,by omega,by simp;omega⟩))⟩
  ·exact⟨20,by decide,by rw[htk,hse,if_pos hx],.inl ⟨rfl,by simp;omega⟩⟩
 have h5i:(l.length:Int)<5:=by omega
 clear hB hcell hle hs hse htk h5 h0;obtain⟨k,hk,hkt,key⟩:=key;have HK:=hid hk;have HF:=hid hkt;clear hk hkt;generalize l.getD 0 0=x at c0 key;generalize l.getD 1 0=y at c1 key;rcases key with ⟨rfl,k1⟩|⟨rfl,k1,k2⟩|⟨rfl,k1,k2,k3⟩|⟨rfl,k1,k2,k3⟩
 ·clear c1;go_enter Tryz.func28,Tryz.ntmps28;go_wp2_with fail;refine bodyPost_ret (v:=.tuple #[.int .u8 0,.slice none 0 0,.int .i64 0,.int .i64 20]) (by simp[results,Tryz.results28,go_sem]) rfl ?_;exact⟨Below.refl _ _,fun _=>by rw[HF.out];rfl,fun h=>absurd (HF.out.symm.trans h) HK.out⟩
 ·clear c1;go_enter Tryz.func28,Tryz.ntmps28;go_wp2_with fail;refine bodyPost_ret (v:=.tuple #[.int .u8 0,.slice none 0 0,.int .i64 0,.int .i64 23]) (by simp[results,Tryz.results28,go_sem]) rfl ?_;exact⟨Below.refl _ _,fun _=>by rw[HF.out];rfl,fun h=>absurd (HF.out.symm.trans h) HK.out⟩
 ·have c1':=c1 (by omega);have i1:(1:Int)<(l.length:Int):=by omega
  clear c1;go_enter Tryz.func28,Tryz.ntmps28;go_wp2_with fail;refine bodyPost_ret (v:=.tuple #[.int .u8 0,.slice none 0 0,.int .i64 0,.int .i64 20]) (by simp[results,Tryz.results28,go_sem]) rfl ?_;exact⟨Below.refl _ _,fun _=>by rw[HF.out];rfl,fun h=>absurd (HF.out.symm.trans h) HK.out⟩
 ·have c1':=c1 (by omega);have i1:(1:Int)<(l.length:Int):=by omega
  clear c1;go_enter Tryz.func28,Tryz.ntmps28;go_wp2_with fail;refine bodyPost_ret (v:=.tuple #[.int .u8 0,.slice none 0 0,.int .i64 0,.int .i64 23]) (by simp[results,Tryz.results28,go_sem]) rfl ?_;exact⟨Below.refl _ _,fun _=>by rw[HF.out];rfl,fun h=>absurd (HF.out.symm.trans h) HK.out⟩

theorem uX (v:Value)(l:List Nat)(w:World)(hB:Bytes w v l)(hs:aZ l≠0)(h5:5<=l.length):Calls Tryz.prog 28 #[v] w (gQ l w):=by
 obtain⟨b,o,c,rfl,hle,hbs,hcell⟩:=hB.cM (by omega);have c0:w.cell? ⟨b,o,none⟩=some (.int .u8 (l.getD 0 0:Nat)):=hcell 0 (by omega);have c1:=hcell 1 (by omega);have c2:=hcell 2 (by omega);have c3:=hcell 3 (by omega);have c4:=hcell 4 (by omega);have x2:=hB.aU 2;have x3:=hB.aU 3;have x4:=hB.aU 4;have hse:aZ l=if l.getD 0 0≠102 then 20 else if l.getD 1 0=0 then 20 else if 65536<frN l then 20 else if l.length<frN l+8 then 23 else 0:=by
  unfold aZ;rw[if_neg (by omega),if_neg (show ¬l.length<2 by omega),if_neg (show ¬l.length<5 by omega)]
 have htk:dA l=aZ l:=by simp[dA,hs]
 have hl0:((l.length:Int)==0)=false:=beq_eq_false_iff_ne.2 (by omega);have hl2:¬(l.length:Int)<2:=by omega
 have hl5:¬(l.length:Int)<5:=by omega
 have i0:(0:Int)<(l.length:Int):=by omega
 have i1:(1:Int)<(l.length:Int):=by omega
 have i2:(2:Int)<(l.length:Int):=by omega
 have i3:(3:Int)<(l.length:Int):=by omega
 have i4:(4:Int)<(l.length:Int):=by omega
 have HV:Hid (((l.getD 2 0:Nat):Int)*65536+((l.getD 3 0:Nat):Int)*256+((l.getD 4 0:Nat):Int)=(frN l:Int)):=hid (by have:frN l=l.getD 2 0*65536+l.getD 3 0*256+l.getD 4 0:=rfl;omega);have key:∃k:Nat,k≠0/\dA l=k/\((k=20/\(((l.getD 0 0:Nat):Int) != 102)=true) \/
   (k=20/\(((l.getD 0 0:Nat):Int) != 102)=false/\(((l.getD 1 0:Nat):Int)==0)=true) \/
   (k=20/\(((l.getD 0 0:Nat):Int) != 102)=false/\(((l.getD 1 0:Nat):Int)==0)=false/\(65536:Int)<(frN l:Int)) \/
   (k=23/\(((l.getD 0 0:Nat):Int) != 102)=false/\(((l.getD 1 0:Nat):Int)==0)=false/\(frN l:Int)<=65536/\(l.length:Int)<(frN l:Int)+8)):=by
  generalize l.getD 0 0=x at hse;generalize l.getD 1 0=y at hse;by_cases hx:x=102
  ·have hxb:((x:Int) != 102)=false:=by simp;omega
   by_cases hy:y=0
   ·exact⟨20,by decide,by rw[htk,hse,if_neg (by omega),if_pos hy],.inr (.inl ⟨rfl,hxb,by simp;omega⟩)⟩
   ·have hyb:((y:Int)==0)=false:=by simp;omega
    by_cases hn:65536<frN l
    ·exact⟨20,by decide,by rw[htk,hse,if_neg (by omega),if_neg hy,if_pos hn],.inr (.inr (.inl ⟨rfl,hxb,hyb,by omega⟩))⟩
    ·by_cases ht:l.length<frN l+8
     ·exact⟨23,by decide,by rw[htk,hse,if_neg (by omega),if_neg hy,if_neg hn,if_pos ht],.inr (.inr (.inr ⟨rfl,hxb,hyb,by omega,by omega⟩))⟩
     ·exact absurd (by rw[hse,if_neg (by omega),if_neg hy,if_neg hn,if_neg ht]) hs
  ·exact⟨20,by decide,by rw[htk,hse,if_pos hx],.inl ⟨rfl,by simp;omega⟩⟩
 clear hB hcell hle hs hse htk h5;obtain⟨k,hk,hkt,key⟩:=key;have HK:=hid hk;have HF:=hid hkt;clear hk hkt;generalize l.getD 0 0=x at c0 key;generalize l.getD 1 0=y at c1 key;generalize l.getD 2 0=p at c2 x2 HV;generalize l.getD 3 0=q at c3 x3 HV;generalize l.getD 4 0=r at c4 x4 HV;rcases key with ⟨rfl,k1⟩|⟨rfl,k1,k2⟩|⟨rfl,k1,k2,k3⟩|⟨rfl,k1,k2,k3,k4⟩
 ·go_enter Tryz.func28,Tryz.ntmps28;go_wp2_with fail;refine bodyPost_ret (v:=.tuple #[.int .u8 0,.slice none 0 0,.int .i64 0,.int .i64 20]) (by simp[results,Tryz.results28,go_sem]) rfl ?_;exact⟨Below.refl _ _,fun _=>by rw[HF.out];rfl,fun h=>absurd (HF.out.symm.trans h) HK.out⟩
 ·go_enter Tryz.func28,Tryz.ntmps28;go_wp2_with fail;refine bodyPost_ret (v:=.tuple #[.int .u8 0,.slice none 0 0,.int .i64 0,.int .i64 20]) (by simp[results,Tryz.results28,go_sem]) rfl ?_;exact⟨Below.refl _ _,fun _=>by rw[HF.out];rfl,fun h=>absurd (HF.out.symm.trans h) HK.out⟩
 ·go_enter Tryz.func28,Tryz.ntmps28;go_wp2_with fail
  go_quiet (fail)
  rw[HV.out];go_wp2_with fail;refine bodyPost_ret (v:=.tuple #[.int .u8 0,.slice none 0 0,.int .i64 0,.int .i64 20]) (by simp[results,Tryz.results28,go_sem]) rfl ?_;exact⟨Below.drewN _ _,fun _=>by rw[HF.out];rfl,fun h=>absurd (HF.out.symm.trans h) HK.out⟩
 ·go_enter Tryz.func28,Tryz.ntmps28;go_wp2_with fail
  go_quiet (fail)
  rw[HV.out];go_wp2_with fail;refine bodyPost_ret (v:=.tuple #[.int .u8 0,.slice none 0 0,.int .i64 0,.int .i64 23]) (by simp[results,Tryz.results28,go_sem]) rfl ?_;exact⟨Below.drewN _ _,fun _=>by rw[HF.out];rfl,fun h=>absurd (HF.out.symm.trans h) HK.out⟩

theorem xN (v:Value)(l:List Nat)(w:World)(hB:Bytes w v l):Calls Tryz.prog 28 #[v] w (gQ l w):=by
 by_cases hs:aZ l=0
 ·by_cases hsum:gE (frN l+5) (l.take (frN l+8))
  ·exact xO v l w hB hs hsum
  ·exact aHW v l w hB hs hsum
 ·by_cases h0:l.length=0
  ·exact uV v l w hB h0
  ·by_cases h5:l.length<5
   ·exact uW v l w hB hs (by omega) h5
   ·exact uX v l w hB hs (by omega)
