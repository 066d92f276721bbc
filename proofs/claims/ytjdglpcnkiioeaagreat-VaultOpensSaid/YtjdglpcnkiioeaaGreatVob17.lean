/- For vltopens_law_holds. -/
import Derived.Test.YtjdglpcnkiioeaaGreatVob8
import Derived.Test.YtjdglpcnkiioeaaGreatVob16
set_option maxHeartbeats 16000000
set_option maxRecDepth 100000
namespace Go.Proofs.Own
open Go Go.RowKit

theorem aAE {w:World}{r:List Value}{tt:TypeId}:∀j u,r[j]? = some u->(w.alloc (.cells r.toArray tt)).cell? ⟨w.heap.size,j,none⟩=some u:=fun j u h=>by
 rw[World.cell?_alloc_new]
 simpa using h
theorem ap1 {P:Program}{t e tt:TypeId}{sz by':Nat}(I:eQ P t e sz by'){w:World}{o:Oper}{a:Act}{Q:Exit->Act->World->Prop}{s x:Operand}{base:Nat}{v:Value}{rs:List (List Value)}{r:List Value}{ops:Array Oper}{rest:List Oper}
  (hown:dU w base e sz v rs) (hr:r.length=sz) (h1:∀u ∈ r,u.oneCell'=true) (hlen:rs.length<=4294967296) (hbase:base<=w.heap.size)
  (ho:o.op = .call { callee:=.builtin .append,args:=#[s,x],argTypes:=#[t,t] }) (hgd:o.guard=none) (hs:a.eval s=v) (hx:a.eval x = .slice (some ⟨w.heap.size,0,none⟩) 1 1)
  (h:∀v' w',dU w' base e sz v' (rs ++ [r])->Below base w w'->wpList P ops Q rest (a.put o.dst v') w'):wpList P ops Q (o::rest) a (w.alloc (.cells r.toArray tt)):=by
 refine fA I s x ho base v rs w.heap.size r hs hx (hown.alloc _) hr aAE h1 hlen (by rw[World.size_alloc];omega) hgd fun v' w' k1 _ _ k4=>?_;exact h v' w' k1 (((Below.refl _ _).alloc hbase _).trans k4)
theorem ap2 {P:Program}{t e tt:TypeId}{sz by':Nat}(I:eQ P t e sz by'){w:World}{o:Oper}{a:Act}{Q:Exit->Act->World->Prop}{s x:Operand}{base:Nat}{v:Value}{rs:List (List Value)}{r:List Value}{ops:Array Oper}{rest:List Oper}
  (hown:dU w base e sz v rs) (hr:r.length=sz) (h1:∀u ∈ r,u.oneCell'=true) (hlen:rs.length<=4294967296) (hbase:base<=w.heap.size)
  (ho:o.op = .call { callee:=.builtin .append,args:=#[s,x],argTypes:=#[t,t] }) (hgd:o.guard=none) (hs:a.eval s=v) (hx:a.eval x = .slice (some ⟨w.heap.size,0,none⟩) 1 1)
  (h:∀v' w',dU w' base e sz v' (rs ++ [r])->Below base w w'->Kept w w' (fun k=>v.ownBlock=some k)->(∀b,v'.ownBlock=some b->v.ownBlock=some b\/w.heap.size<b)->wpList P ops Q rest (a.put o.dst v') w'):wpList P ops Q (o::rest) a (w.alloc (.cells r.toArray tt)):=by
 refine fA I s x ho base v rs w.heap.size r hs hx (hown.alloc _) hr aAE h1 hlen (by rw[World.size_alloc];omega) hgd fun v' w' k1 k2 k3 k4=>?_;refine h v' w' k1 (((Below.refl _ _).alloc hbase _).trans k4) ((Kept.alloc w _ _).trans (Kept.cJ k2)) fun b hb=>?_;rcases k3 with k3|k3
 ·exact .inl (k3 ▸ hb)
 ·rw[k3]at hb;refine .inr ?_;have:=Option.some.inj hb;rw[World.size_alloc]at this;omega
theorem Fr.own {S:Nat->Prop}{w0 w1 w:World}{L:Bx}{R:World->Prop}(F:Fr S w0 w1 L R){e:TypeId}{sz:Nat}{v:Value}{rs:List (List Value)}(ho:dU w w1.heap.size e sz v rs):Sf (ow S (L.map (·.1))) w (fun u=>dU u w1.heap.size e sz v rs) :=
 fun _ k=>ho.kept k fun b hb hs=>by have:=F.few b hs;have:=(ho.lt b hb).1;omega
def Anc (S:Nat->Prop)(w1:World)(l:List Nat)(v:World):Prop:=Kept w1 v (ow S l)
theorem Fr.anc {S:Nat->Prop}{w0 w1:World}{L:Bx}{R:World->Prop}(F:Fr S w0 w1 L R):Fr S w0 w1 L (fun v=>Anc S w1 (L.map (·.1)) v/\R v):=F.put fun _ k=>k
def Fr.at {S:Nat->Prop}{w0 w1:World}{L:Bx}{R:World->Prop}(_:Fr S w0 w1 L R)(w:World):Prop:=Fr S w0 w L R
theorem Fr.gr {S:Nat->Prop}{w0 w1 w w':World}{L L1:Bx}{R R1:World->Prop}(F:Fr S w0 w L R)(F1:Fr S w0 w1 L1 R1)(hk:Anc S w1 (L1.map (·.1)) w)(hb:Below w1.heap.size w w')(hL:L.map (·.1)=L1.map (·.1):=by rfl) :
  Fr S w0 w' L (fun v=>Anc S w1 (L1.map (·.1)) v/\R1 v):=by
 have h1:∀p ∈ L,p.1<w1.heap.size:=fun p hp=>by
  have:p.1 ∈ L1.map (·.1):=hL ▸ List.mem_map.2 ⟨p,hp,rfl⟩
  obtain⟨q,hq,e⟩:=List.mem_map.1 this;rw[<- e];exact(F1.rng q hq).2
 have k2:Kept w1 w' (ow S (L1.map (·.1))):=hk.andThen (Kept.aL hb (S:=fun k=>w1.heap.size<=k) fun k _ h=>h) fun k h2 h3=>h3.elim id fun h3=>by omega
 refine⟨fun i p hp=>?_,F.inj,fun p hp=>⟨(F.rng p hp).1,Nat.lt_of_lt_of_le (F.rng p hp).2 hb.size⟩,F.bel.trans (hb.mono F1.bel.size),?_,fun k hk=>Nat.lt_of_lt_of_le (F.lim k hk) hb.size⟩
 ·exact(F.box i p hp).kept (Kept.aL hb (S:=fun k=>w1.heap.size<=k) fun k _ h=>h) fun h=>by have:=h1 p (List.mem_of_getElem? hp);omega
 ·rw[hL];exact Sf.and (fun v kv=>k2.trans kv) (F1.saf.to k2)
end Go.Proofs.Own
namespace Go.Proofs.YtjdglpcnkiioeaaGreat
open Go.Lib (hid)
open Go.RowKit Go.Maps Go.Proofs.Own


theorem aHw (v:Value)(l:List Nat)(w:World)(hB:Bytes w v l)(ht:¬iP l):Calls Tryz.prog 147 #[v] w (jJ (dG 7 l) (dK 7 l) w):=by
 have HB:=hid hB;have HV:Hid (dG 7 l=false/\dK 7 l=eO):=hid (lZ fun h=>ht h.1);have HT:=hid ht;obtain⟨a,c,rfl,_⟩:=hB.shape;clear hB ht;go_enter Tryz.func147,Tryz.ntmps147;go_wp2_with fail;refine(uC _ l _ (HB.out.alloc _)).mono ?_;rintro e w1 ⟨hb1,hno,hyes⟩;have he:=hno HT.out;subst he;have B1:Hid (Below w.heap.size w w1):=hid (((Below.refl w.heap.size w).alloc (Nat.le_refl _) (.cells #[.int .u64 0,.int .u64 0,.slice none 0 0,.slice none 0 0] 75)).trans (hb1.mono (by simp)));have S1:Hid (bR w1 w.heap.size 0 0 (.slice none 0 0) (.slice none 0 0)):=hid ((bR.new w).below hb1);obtain⟨r0,r1,r2,r3,q0,q1,q2,q3⟩:=S1.out;have L1:=S1.out.lt;clear hb1 hno hyes;go_wp2_with fail;generalize hwF:World.setCell _ _ _=wF;have KF:Hid (Kept w1 wF (fun k=>k=w.heap.size)):=hid (by subst hwF;exact Kept.eN _ _ _ _ _ _);have HR:Hid (bR wF w.heap.size 0 0 (.slice none 0 0) (.slice none 0 0)):=hid (by subst hwF;exact S1.out.eN _ _ _ _);clear hwF r0 r1 r2 r3 q0 q1 q2 q3;obtain⟨z0,z1,z2,z3,_,_,_,_⟩:=HR.out;refine bodyPost_ret (v:=.tuple #[.agg #[.int .u64 0,.int .u64 0,.slice none 0 0,.slice none 0 0],.bool false]) (by simp[results,Tryz.results147,go_sem,z0,z1,z2,z3]) rfl ?_;rw[HV.out.1,HV.out.2];exact⟨_,rfl,gD _,B1.out.trans ((KF.out.below (B:=w.heap.size) B1.out.size (fun k hk=>by omega)))⟩

theorem aDV (v:Value)(l:List Nat)(w:World)(hB:Bytes w v l)(ht:iP l)(hk:l.getD 1 0≠4):Calls Tryz.prog 147 #[v] w (jJ (dG 7 l) (dK 7 l) w):=by
 have HB:=hid hB;have HV:Hid (dG 7 l=false/\dK 7 l=eO):=hid (lZ fun h=>hk h.2.1);have HT:=hid ht;have hx:l.getD 1 0<256:=hB.dB 1;have hkb:(((l.getD 1 0:Nat):Int) != 4)=true:=bne_iff_ne.2 (by omega);obtain⟨a,c,rfl,_⟩:=hB.shape;clear hB ht hk;generalize hxx:l.getD 1 0=x at hkb hx;have HX:=hid hxx;clear hxx;go_enter Tryz.func147,Tryz.ntmps147;go_wp2_with fail;refine(uC _ l _ (HB.out.alloc _)).mono ?_;rintro e w1 ⟨hb1,hno,hyes⟩;obtain⟨v1,rfl,hB1⟩:=hyes HT.out;rw[HX.out];clear hB1;have B1:Hid (Below w.heap.size w w1):=hid (((Below.refl w.heap.size w).alloc (Nat.le_refl _) (.cells #[.int .u64 0,.int .u64 0,.slice none 0 0,.slice none 0 0] 75)).trans (hb1.mono (by simp)));have S1:Hid (bR w1 w.heap.size 0 0 (.slice none 0 0) (.slice none 0 0)):=hid ((bR.new w).below hb1);obtain⟨r0,r1,r2,r3,q0,q1,q2,q3⟩:=S1.out;have L1:=S1.out.lt;clear hb1 hno hyes;go_wp2_with fail;generalize hwF:World.setCell _ _ _=wF;have KF:Hid (Kept w1 wF (fun k=>k=w.heap.size)):=hid (by subst hwF;exact Kept.eN _ _ _ _ _ _);have HR:Hid (bR wF w.heap.size 0 0 (.slice none 0 0) (.slice none 0 0)):=hid (by subst hwF;exact S1.out.eN _ _ _ _);clear hwF r0 r1 r2 r3 q0 q1 q2 q3;obtain⟨z0,z1,z2,z3,_,_,_,_⟩:=HR.out;refine bodyPost_ret (v:=.tuple #[.agg #[.int .u64 0,.int .u64 0,.slice none 0 0,.slice none 0 0],.bool false]) (by simp[results,Tryz.results147,go_sem,z0,z1,z2,z3]) rfl ?_;rw[HV.out.1,HV.out.2];exact⟨_,rfl,gD _,B1.out.trans ((KF.out.below (B:=w.heap.size) B1.out.size (fun k hk=>by omega)))⟩

theorem aCD (v:Value)(l:List Nat)(w:World)(hB:Bytes w v l)(ht:iP l)(h4:l.getD 1 0=4):Calls Tryz.prog 147 #[v] w fun E w'=>jJ (dG 7 l) (dK 7 l) w E w'/\(dG 7 l=true->pN (dG 7 l) (dK 7 l) w E w'):=by
 have HB:=hid hB;have HT:=hid ht;have HF:Hid (l.getD 1 0=4):=hid h4;have E59:Hid ((576460752303423488:Int).toNat=H59):=hid rfl;have E60:Hid ((1152921504606846976:Int).toNat=H60):=hid rfl;have E7:Hid ((7:Int).toNat=7):=hid rfl;obtain⟨a,c,rfl,_⟩:=hB.shape;clear hB ht h4;go_enter Tryz.func147,Tryz.ntmps147;go_wp2_with fail;refine(uC _ l _ (HB.out.alloc _)).mono ?_;rintro e w1 ⟨hb1,hno,hyes⟩;obtain⟨v1,rfl,hB1⟩:=hyes HT.out;rw[HF.out];have HB1:=hid hB1;have RB:∃rb:Nat,rb<w1.heap.size/\(aF l = []\/v1.ownBlock=some rb):=by
  by_cases h0:aF l = []
  ·exact⟨w.heap.size,((bR.new w).below hb1).lt,.inl h0⟩
  ·obtain⟨b,e1,e2⟩:=HB1.out.hU h0;exact⟨b,e2,.inr e1⟩
 obtain⟨rb,hrb,hown⟩:=RB;have HO:=hid hown;clear hown;obtain⟨a1,c1,rfl,_⟩:=hB1.shape;clear hB1;have B1:Hid (Below w.heap.size w w1):=hid (((Below.refl w.heap.size w).alloc (Nat.le_refl _) (.cells #[.int .u64 0,.int .u64 0,.slice none 0 0,.slice none 0 0] 75)).trans (hb1.mono (by simp)));have S1:Hid (bR w1 w.heap.size 0 0 (.slice none 0 0) (.slice none 0 0)):=hid ((bR.new w).below hb1);obtain⟨r0,r1,r2,r3,q0,q1,q2,q3⟩:=S1.out;have L1:=S1.out.lt;clear hb1 hno hyes;go_wp2_with fail;refine(kN _ (aF l) _ HB1.out HO.out (by omega)).mono ?_;rintro e w2 ⟨rfl,h2,hb2⟩;have R2:=hid h2;have B2:=hid hb2;have hs2:=hb2.size;have L2:=h2.lt;clear h2 hb2 r0 r1 r2 r3 q0 q1 q2 q3;have S2:Hid (bR w2 w.heap.size 0 0 (.slice none 0 0) (.slice none 0 0)):=hid (S1.out.below B2.out);generalize hbd:aF l=bd at *
 go_wp2_with fail;refine(fK w1.heap.size 576460752303423488 bd false _ R2.out (by decide) (by decide)).mono ?_;rintro e w3 ⟨rfl,h1,k1⟩;rw[E59.out]at h1 ⊢;have R3:Hid (bT w3 w1.heap.size rb (eM bd) (cF H59 bd)):=hid (by rw[Bool.false_or]at h1;exact h1);have K3:=hid k1;have hs3:=k1.size;clear h1 k1;go_wp2_with fail;refine(fK w1.heap.size 1152921504606846976 (eM bd) _ _ R3.out (by decide) (by decide)).mono ?_;rintro e w4 ⟨rfl,h1,k1⟩;rw[E60.out]at h1 ⊢;have R4:=hid h1;have K4:=hid k1;have hs4:=k1.size;clear h1 k1;have A4:Hid (Kept w2 w4 (fun k=>k=w1.heap.size)):=hid (K3.out.trans K4.out);go_wp2_with fail;generalize hW:World.alloc w4 _=w5;have B5:Hid (Below w4.heap.size w4 w5):=hid (by subst hW;exact(Below.refl _ _).alloc (Nat.le_refl _) _);have S5:Hid (bR w5 w4.heap.size (bO H59 bd) (bO H60 (eM bd)) (.slice none 0 0) (.slice none 0 0)):=hid (by subst hW;exact⟨by go_cell,by go_cell,by go_cell,by go_cell,by simp,by simp,by simp,by simp⟩);clear hW;have R5:Hid (bT w5 w1.heap.size rb (nC bd) (cF H59 bd || cF H60 (eM bd))):=hid (R4.out.below B5.out);have T5:Hid (bR w5 w.heap.size 0 0 (.slice none 0 0) (.slice none 0 0)):=hid (((S2.out.kept A4.out (by omega))).below B5.out);have A5:Hid (Kept w2 w5 (fun k=>k=w1.heap.size)):=hid (A4.out.trans (Kept.aL B5.out (S:=fun k=>k=w1.heap.size) (fun k h1 h2=>by omega)));have hsb:=S5.out.lt;generalize hSB:w4.heap.size=sb at *
 have hsb2:w2.heap.size<=sb:=by omega
 refine(fK w1.heap.size 7 (nC bd) _ _ R5.out (by decide) (by decide)).mono ?_;rintro e w6 ⟨rfl,h1,k1⟩;rw[E7.out]at h1 ⊢;have hn7:((fM bd:Nat):Int)<=7:=by have:=pW bd;omega
 have R6:Hid (bT w6 w1.heap.size rb (cG bd) ((cF H59 bd || cF H60 (eM bd)) || cF 7 (nC bd))):=hid h1;have K6:=hid k1;have hs6:=k1.size;clear h1 k1;rw[show bO 7 (nC bd)=fM bd from rfl];have S6:Hid (bR w6 sb (bO H59 bd) (bO H60 (eM bd)) (.slice none 0 0) (.slice none 0 0)):=hid (S5.out.kept K6.out (by omega));have T6:Hid (bR w6 w.heap.size 0 0 (.slice none 0 0) (.slice none 0 0)):=hid (T5.out.kept K6.out (by omega));have A6:Hid (Kept w2 w6 (fun k=>k=w1.heap.size)):=hid (A5.out.trans K6.out);generalize hX:((cF H59 bd || cF H60 (eM bd)) || cF 7 (nC bd))=bad3 at R6;have HBX:=hid hX;clear hX;go_wp2_with fail
 go_loopw [31] (fun x wr=>∃(k:Nat) (mv:Value),k<=fM bd/\x = .int .u64 k/\aKy w2 w1.heap.size rb 7 (cG bd) bad3 sb w.heap.size (sb+1) (bO H59 bd) (bO H60 (eM bd)) k mv wr) (fun x _=>fM bd-(intOf x).toNat)
 case atStart=>exact⟨0,_,Nat.zero_le _,rfl,by rw[memL,lC,Bool.or_false];exact R6.out,S6.out,T6.out,cC.nil _ _ _ _,A6.out,by omega⟩
 case round =>
  obtain⟨k,mv,hk,rfl,hI⟩:=hrel;have I:=hid hI;have hsz:=hI.le;clear hI;by_cases hlt:k<fM bd
  ·have hv6:((bO 7 (memL 7 k (cG bd)):Nat):Int)<=7:=by have:=fU 7 (memL 7 k (cG bd));omega
   have hki:(k:Int)<(fM bd:Int):=by omega
   have HLN:Hid ((fI 7 k (cG bd)).length + [((bO 7 (memL 7 k (cG bd)):Nat):Int)].length<=4294967296):=hid (by rw[lT];simp only[List.length_cons,List.length_nil];have:=pW bd;omega);have hw6:IntKind.i64.wrap ((bO 7 (memL 7 k (cG bd)):Nat):Int)=((bO 7 (memL 7 k (cG bd)):Nat):Int):=by simp only[IntKind.wrap_i64];omega
   go_wp2_with fail;refine aU [0,1,0,4,12,28,63,127,255] 24 (fun w'=>w'.cell? ⟨sb,2,none⟩=some mv) (by kernel_rfl) ?_;refine aB [0,1,2] (by kernel_rfl) (L:=bm 9 7) (by kernel_rfl) (f':=6) rfl (fun _ _ _ _ h=>h) (fun w o h=>(aR.cell _ _).alloc h o) (.inr I.out.sn.c2) ?_;simp only[sF,sL]
   iterate 3 (first|(refine aW _ (by rfl) (fun w' hs=>by have y0:=hs;go_simp;try with_reducible rfl) rfl ?_;simp only[Act.put,sA])|(refine aC _ (by rfl) (fun w'=>by go_simp;try with_reducible rfl) ?_;simp only[Act.put,sA]))
   refine aI ?_;refine aM 3 (by kernel_rfl) (L:=bm 9 15) (by kernel_rfl) ?_;simp only[sL];go_wp2_with fail;refine(fK w1.heap.size 7 _ _ _ (I.out.rd.below ((Below.refl _ _).drew)) (by decide) (by decide)).mono ?_;rintro e u3 ⟨rfl,h3,k3⟩;rw[E7.out]at h3 ⊢;have H3:=hid h3;have K3:Hid (Kept wr u3 (fun k=>k=w1.heap.size)):=hid ((Kept.drew wr (fun k=>k=w1.heap.size)).trans k3);clear h3 k3;have S3:Hid (bR u3 sb (bO H59 bd) (bO H60 (eM bd)) mv (.slice none 0 0)):=hid (I.out.sn.kept K3.out (by omega));have S4:Hid (bR u3 w.heap.size 0 0 (.slice none 0 0) (.slice none 0 0)):=hid (I.out.rs.kept K3.out (by omega));have LE3:Hid (sb+1<=u3.heap.size):=hid (Nat.le_trans I.out.le K3.out.size);have O3:Hid (cC u3 (sb+1) 3 .i64 mv (fI 7 k (cG bd))):=hid (I.out.own.kept K3.out (fun g hg e=>by have:=(I.out.own.lt g hg).1;omega));go_wp2_with fail;refine aH (fun _=>S3.out.c2) ?_;refine aB [4] (by kernel_rfl) (L:=bm 9 31) (by kernel_rfl) (f':=4) rfl (fun _ _ _ _ h=>h) (fun w o h=>(aR.cell _ _).alloc h o) (.inr (by first|exact S3.out.c2|exact zY S3.out.c2)) ?_;simp only[sF,sL]
   iterate 1 (first|(refine aW _ (by rfl) (fun w' hs=>by have y0:=hs;go_simp;try with_reducible rfl) rfl ?_;simp only[Act.put,sA])|(refine aC _ (by rfl) (fun w'=>by go_simp;try with_reducible rfl) ?_;simp only[Act.put,sA]))
   refine aI ?_;refine aM 5 (by kernel_rfl) (L:=bm 9 63) (by kernel_rfl) ?_;simp only[sL];go_wp2_with fail;generalize hu5:World.alloc _ _=u5;have B5:Hid (Below u3.heap.size u3 u5):=hid (by subst hu5;first|exact(Below.refl _ _).alloc (Nat.le_refl _) _|exact((Below.refl _ _).drew).alloc (Nat.le_refl _) _|exact(((Below.refl _ _).drew).drew).alloc (Nat.le_refl _) _);have ONE5:Hid (Reads u5 .i64 (.slice (some ⟨u3.heap.size,0,none⟩) 1 1) [((bO 7 (memL 7 k (cG bd)):Nat):Int)]):=hid (by subst hu5;first|exact Reads.one _ _ _ _);clear hu5;refine aH nofun ?_;refine aM 6 (by kernel_rfl) (L:=bm 9 127) (by kernel_rfl) ?_;simp only[sL];refine bS Tryz.aKO _ _ rfl (sb+1) mv (.slice (some ⟨u3.heap.size,0,none⟩) 1 1) (fI 7 k (cG bd)) [((bO 7 (memL 7 k (cG bd)):Nat):Int)] rfl rfl (by first|exact O3.out.below B5.out|exact(O3.out.below B5.out).drew) (by first|exact ONE5.out|exact ONE5.out.drew) (by decide) HLN.out (by have:=LE3.out;have:=B5.out.size;first|omega|(simp only[World.size_drew];omega)) rfl ?_;intro v6 u6 hown6 hgr6 hat6 hnil6 hbel6;obtain⟨a6,c6,rfl⟩:=hown6.shape;have O6:Hid (cC u6 (sb+1) 3 .i64 (.slice a6 ((fI 7 k (cG bd)).length+1) c6) (fI 7 k (cG bd) ++ [((bO 7 (memL 7 k (cG bd)):Nat):Int)])):=hid (by have hh:=hown6;rw[List.length_append]at hh;exact hh);have OL6:=O3.out.lt;have G6:Hid (Kept u5 u6 (fun g=>mv.ownBlock=some g)):=hid (by first|exact Kept.cJ hgr6|exact(Kept.drew u5 _).trans (Kept.cJ hgr6));have S6:Hid (bR u6 sb (bO H59 bd) (bO H60 (eM bd)) mv (.slice none 0 0)):=hid ((S3.out.below B5.out).kept G6.out (fun e=>by have:=(OL6 _ e).1;omega));have S7:Hid (bR u6 w.heap.size 0 0 (.slice none 0 0) (.slice none 0 0)):=hid ((S4.out.below B5.out).kept G6.out (fun e=>by have:=(OL6 _ e).1;omega));have R6:Hid (bT u6 w1.heap.size rb (cI 7 (memL 7 k (cG bd))) ((bad3 || lC 7 k (cG bd)) || cF 7 (memL 7 k (cG bd)))):=hid ((H3.out.below B5.out).kept G6.out (fun e=>by have:=(OL6 _ e).1;omega) (fun e=>by have:=(OL6 _ e).1;omega));have K6:Hid (Kept w2 u6 (fun k=>k=w1.heap.size)):=hid (((I.out.kept.trans K3.out).trans (Kept.aL B5.out (S:=fun k=>k=w1.heap.size) (fun k h1 h2=>by omega))).andThen G6.out (fun g hg e=>by rcases e with e|e;exact e;have:=(OL6 _ e).1;omega));have Z6:Hid (sb+1<=u6.heap.size):=hid (by have:=LE3.out;have:=B5.out.size;have:=G6.out.size;omega);clear hown6 hgr6 hat6 hnil6 hbel6 OL6;go_wp2_with fail;refine aH nofun ?_;refine aB [7] (by kernel_rfl) (L:=bm 9 255) (by kernel_rfl) (f':=1) rfl (fun _ _ _ _ h=>h) (fun w o h=>(aR.cell _ _).alloc h o) (.inl (by kernel_rfl)) ?_;simp only[sF,sL]
   iterate 1 (refine aC _ (by rfl) (fun w'=>by go_simp;try with_reducible rfl) ?_;simp only[Act.put,sA])
   refine aI ?_;refine aM 8 (by kernel_rfl) (L:=bm 9 511) (by kernel_rfl) ?_;simp only[sL];obtain⟨g1,g2,g3⟩:u6.cell? ⟨sb,2,none⟩=some mv/\u6.frozen? ⟨sb,2,none⟩=false/\sb<u6.heap.size:=⟨S6.out.c2,S6.out.f2,S6.out.lt⟩;go_wp2_with fail;generalize hu8:World.setCell _ _ _=u8;have S8:Hid (bR u8 sb (bO H59 bd) (bO H60 (eM bd)) (.slice a6 ((fI 7 k (cG bd)).length+1) c6) (.slice none 0 0)):=hid (by subst hu8;exact S6.out.iO _);have G8:Hid (Kept u6 u8 (fun g=>g=sb)):=hid (by subst hu8;exact Kept.setCell u6 ⟨sb,2,none⟩ _);clear hu8 g1 g2 g3;refine aH nofun ?_;refine bC (by kernel_rfl) ?_;clear hw6;go_wp2_with fail
   go_roundw
   case rel =>
    refine⟨k+1,_,by omega,by go_num,?_,S8.out,S7.out.kept G8.out (by omega),O6.out.kept G8.out (fun g hg e=>by have:=(O6.out.lt g hg).1;omega),K6.out.eU G8.out (by omega),by have:=Z6.out;have:=G8.out.size;omega⟩;have hr:=R6.out.kept G8.out (by omega) (by omega);rw[Bool.or_assoc]at hr;exact hr
   case measure=>simp[intOf];omega
  ·obtain rfl:k=fM bd:=by omega
   have RL:Hid (bT wr w1.heap.size rb (gI 7 bd) (bad3 || lC 7 (fM bd) (cG bd))):=hid I.out.rd;go_wp2_with fail;refine(aAJ w1.heap.size 32768 _ _ _ RL.out (by decide)).mono ?_;rintro e w7 ⟨rfl,h7,k7⟩;have H7:=hid h7;have K7:=hid k7;have hs7:=k7.size;clear h7 k7;have S7:Hid (bR w7 sb (bO H59 bd) (bO H60 (eM bd)) mv (.slice none 0 0)):=hid (I.out.sn.kept K7.out (by omega));have T7:Hid (bR w7 w.heap.size 0 0 (.slice none 0 0) (.slice none 0 0)):=hid (I.out.rs.kept K7.out (by omega));have O7:Hid (cC w7 (sb+1) 3 .i64 mv (fI 7 (fM bd) (cG bd))):=hid (I.out.own.kept K7.out (fun g hg e=>by have:=(I.out.own.lt g hg).1;omega));obtain⟨am,cm,rfl⟩:=O7.out.shape;have TS:Hid ((bX (dY 32768 (gI 7 bd))).size<=2097152):=hid (by rw[cH];have:=qA 32768 (gI 7 bd);omega);have HTX:Hid (aP (bX (dY 32768 (gI 7 bd)))=dY 32768 (gI 7 bd)):=hid (dO fun c hc=>by obtain⟨v,_,hB,_⟩:=RL.out.ex;exact hB.lt c (qB c hc));have A7:Hid (Kept w2 w7 (fun k=>k=w1.heap.size)):=hid (I.out.kept.trans K7.out)
   go_wp2_with (refine eA rfl 9 36 5 _ rfl Tryz.underlying9 Tryz.underlying36 Tryz.underlying5 _ rfl TS.out ?_;intro dv w8 hB8 hb8 hob8;have OB8:=hid hob8;clear hob8;obtain⟨ad,cd,rfl,_⟩:=hB8.shape;have HB8:=hid hB8;have B8:=hid hb8;obtain⟨g1,g2,g3⟩:w8.cell? ⟨sb,3,none⟩=some (.slice none 0 0)/\w8.frozen? ⟨sb,3,none⟩=false/\sb<w8.heap.size:=⟨(S7.out.below B8.out).c3,(S7.out.below B8.out).f3,(S7.out.below B8.out).lt⟩;clear hB8 hb8)
   generalize hwF:World.setCell _ _ _=w9;have S9:Hid (bR w9 sb (bO H59 bd) (bO H60 (eM bd)) (.slice am (fI 7 (fM bd) (cG bd)).length cm) (.slice ad (aP (bX (dY 32768 (gI 7 bd)))).length cd)):=hid (by subst hwF;exact(S7.out.below B8.out).pF _);have K9:Hid (Kept w8 w9 (fun k=>k=sb)):=hid (by subst hwF;exact Kept.setCell w8 ⟨sb,3,none⟩ _);have T9:Hid (bR w9 w.heap.size 0 0 (.slice none 0 0) (.slice none 0 0)):=hid ((T7.out.below B8.out).kept K9.out (by omega));have R9:Hid (bT w9 w1.heap.size rb (qE 7 bd) (lM 7 bd)):=hid (by
    have hh:=(H7.out.below B8.out).kept K9.out (by omega) (by omega);rw[show lM 7 bd=((bad3 || lC 7 (fM bd) (cG bd)) || iT 32768 (gI 7 bd)) by rw[<- HBX.out];rfl];exact hh)
   have HI9:Hid (Ints w9 (.slice am (fI 7 (fM bd) (cG bd)).length cm) (fD 7 bd).ms):=hid (Ints.dL ((O7.out.below B8.out).kept K9.out (fun g hg e=>by have:=(O7.out.lt g hg).1;omega)) (by show (fI 7 (fM bd) (cG bd)).length<=2097152;rw[lT];have:=pW bd;omega));have HD9:Hid (Bytes w9 (.slice ad (aP (bX (dY 32768 (gI 7 bd)))).length cd) (fD 7 bd).d):=hid (by
    have hh:=HB8.out;have ho:=OB8.out;rw[HTX.out]at hh ho ⊢;exact hh.xD K9.out (.inr ho) (by omega))
   have SN9:Hid (cL w9 (.agg #[.int .u64 (bO H59 bd),.int .u64 (bO H60 (eM bd)),.slice am (fI 7 (fM bd) (cG bd)).length cm,.slice ad (aP (bX (dY 32768 (gI 7 bd)))).length cd]) (fD 7 bd)):=hid ⟨_,_,rfl,HI9.out,HD9.out⟩;have Q9:Hid (Below w.heap.size w w9):=hid (B1.out.trans (((B2.out.mono B1.out.size).trans ((A7.out.below (B:=w.heap.size) (by omega) (fun k hk=>by omega)).trans (B8.out.mono (by omega)))).trans (K9.out.below (B:=w.heap.size) (by have:=B8.out.size;omega) (fun k hk=>by omega))));clear hwF g1 g2 g3;generalize (aP (bX (dY 32768 (gI 7 bd)))).length=dl at *
   generalize (fI 7 (fM bd) (cG bd)).length=ml at *
   generalize hI3:(bO H59 bd:Int)=I3 at *
   generalize hT3:(bO H60 (eM bd):Int)=T3 at *
   refine(lF w1.heap.size _ _ _ R9.out).mono ?_;rintro e w9' ⟨rfl,rfl⟩;obtain⟨r0,r1,r2,r3,q0,q1,q2,q3⟩:=T9.out;obtain⟨y0,y1,y2,y3,_,_,_,_⟩:=S9.out;have L9:=T9.out.lt;by_cases he:gV (qE 7 bd) (lM 7 bd)=0
   ·rw[he];go_wp2_with fail;refine(tX _ _ _ SN9.out).mono ?_;rintro e wa ⟨rfl,hba⟩;have Ba:=hid hba;have Ta:Hid (bR wa w.heap.size 0 0 (.slice none 0 0) (.slice none 0 0)):=hid (T9.out.below Ba.out);have Sa:Hid (bR wa sb I3 T3 (.slice am ml cm) (.slice ad dl cd)):=hid (S9.out.below Ba.out);have Qa:Hid (Below w.heap.size w wa):=hid (Q9.out.trans (Ba.out.mono Q9.out.size));clear hba r0 r1 r2 r3 q0 q1 q2 q3 y0 y1 y2 y3;obtain⟨r0,r1,r2,r3,q0,q1,q2,q3⟩:=Ta.out;obtain⟨y0,y1,y2,y3,_,_,_,_⟩:=Sa.out;have La:=Ta.out.lt;by_cases hok:(fD 7 bd).ok
    ·have HV:Hid (dG 7 l=true/\dK 7 l=fD 7 bd):=hid (by subst hbd;exact aCH ⟨HT.out,HF.out,he,hok⟩);rw[show (fD 7 bd).okB=true from decide_eq_true hok];go_wp2_with fail;generalize hwF:World.setCell _ _ _=wF;have KF:Hid (Kept wa wF (fun k=>k=w.heap.size)):=hid (by subst hwF;exact Kept.eN _ _ _ _ _ _);have HR:Hid (bR wF w.heap.size I3 T3 (.slice am ml cm) (.slice ad dl cd)):=hid (by subst hwF;exact Ta.out.eN _ _ _ _);have HSN:Hid (cL wF (.agg #[.int .u64 I3,.int .u64 T3,.slice am ml cm,.slice ad dl cd]) (fD 7 bd)):=hid (by subst hwF;exact cL.eN Ta.out (SN9.out.below Ba.out) _ _ _ _);clear hwF r0 r1 r2 r3 q0 q1 q2 q3 y0 y1 y2 y3;obtain⟨z0,z1,z2,z3,_,_,_,_⟩:=HR.out;refine bodyPost_ret (v:=.tuple #[.agg #[.int .u64 I3,.int .u64 T3,.slice am ml cm,.slice ad dl cd],.bool true]) (by simp[results,Tryz.results147,go_sem,z0,z1,z2,z3]) rfl ?_;rw[HV.out.1,HV.out.2];have hfin:pN true (fD 7 bd) w _ wF:=⟨_,rfl,HSN.out,Qa.out.trans ((KF.out.below (B:=w.heap.size) Qa.out.size (fun k hk=>by omega))),_,_,_,_,rfl,fun g hg=>by have:=(O7.out.lt g hg).1;omega,fun g hg=>by have:=OB8.out;rw[hg]at this;cases this;omega⟩;exact⟨let ⟨v,h1,h2,h3,_⟩:=hfin;⟨v,h1,h2,h3⟩,fun _=>hfin⟩
    ·have HV:Hid (dG 7 l=false/\dK 7 l=eO):=hid (lZ fun h=>hok (hbd ▸ h.2.2.2));rw[show (fD 7 bd).okB=false from decide_eq_false hok];go_wp2_with fail;generalize hwF:World.setCell _ _ _=wF;have KF:Hid (Kept wa wF (fun k=>k=w.heap.size)):=hid (by subst hwF;exact Kept.eN _ _ _ _ _ _);have HR:Hid (bR wF w.heap.size 0 0 (.slice none 0 0) (.slice none 0 0)):=hid (by subst hwF;exact Ta.out.eN _ _ _ _);clear hwF r0 r1 r2 r3 q0 q1 q2 q3;obtain⟨z0,z1,z2,z3,_,_,_,_⟩:=HR.out;refine bodyPost_ret (v:=.tuple #[.agg #[.int .u64 0,.int .u64 0,.slice none 0 0,.slice none 0 0],.bool false]) (by simp[results,Tryz.results147,go_sem,z0,z1,z2,z3]) rfl ?_;rw[HV.out.1,HV.out.2];exact⟨⟨_,rfl,gD _,Qa.out.trans ((KF.out.below (B:=w.heap.size) Qa.out.size (fun k hk=>by omega)))⟩,nofun⟩
   ·have HV:Hid (dG 7 l=false/\dK 7 l=eO):=hid (lZ fun h=>he (hbd ▸ h.2.2.1));obtain⟨ee,hee⟩:∃k,gV (qE 7 bd) (lM 7 bd)=k:=⟨_,rfl⟩;have hk0:((ee:Int) != 0)=true:=bne_iff_ne.2 (by omega);rw[hee];go_wp2_with fail;generalize hwF:World.setCell _ _ _=wF;have KF:Hid (Kept w9 wF (fun k=>k=w.heap.size)):=hid (by subst hwF;exact Kept.eN _ _ _ _ _ _);have HR:Hid (bR wF w.heap.size 0 0 (.slice none 0 0) (.slice none 0 0)):=hid (by subst hwF;exact T9.out.eN _ _ _ _);clear hwF r0 r1 r2 r3 q0 q1 q2 q3;obtain⟨z0,z1,z2,z3,_,_,_,_⟩:=HR.out;refine bodyPost_ret (v:=.tuple #[.agg #[.int .u64 0,.int .u64 0,.slice none 0 0,.slice none 0 0],.bool false]) (by simp[results,Tryz.results147,go_sem,z0,z1,z2,z3]) rfl ?_;rw[HV.out.1,HV.out.2];exact⟨⟨_,rfl,gD _,Q9.out.trans ((KF.out.below (B:=w.heap.size) Q9.out.size (fun k hk=>by omega)))⟩,nofun⟩
theorem aFU (v:Value)(l:List Nat)(w:World)(hB:Bytes w v l):Calls Tryz.prog 147 #[v] w (jJ (dG 7 l) (dK 7 l) w):=by
 by_cases ht:iP l
 ·by_cases hk:l.getD 1 0=4
  ·exact(aCD v l w hB ht hk).mono fun _ _ h=>h.1
  ·exact aDV v l w hB ht hk
 ·exact aHw v l w hB ht
theorem aAG (v:Value)(l:List Nat)(w:World)(hB:Bytes w v l)(h:dG 7 l=true):Calls Tryz.prog 147 #[v] w (pN (dG 7 l) (dK 7 l) w):=by
 obtain⟨ht,hk,_,_⟩:=of_decide_eq_true h;exact(aCD v l w hB ht hk).mono fun _ _ q=>q.2 h
end Go.Proofs.YtjdglpcnkiioeaaGreat
namespace Go.Proofs.Own
open Go Go.RowKit Go.Proofs.YtjdglpcnkiioeaaGreat

theorem dU.made {w:World}{e:TypeId}{sz:Nat}:dU (w.alloc (.cells #[] e)) w.heap.size e sz (.slice (some ⟨w.heap.size,0,none⟩) 0 0) [] :=
 ⟨⟨by simp,.inr ⟨w.heap.size,0,#[],rfl,Nat.le_refl _,by show (w.heap.push _)[w.heap.size]? = _;simp,Nat.le_refl _,Nat.zero_le _,by simp,by simp⟩⟩,nofun⟩
theorem ap3 {P:Program}{t e:TypeId}{sz by':Nat}(I:eQ P t e sz by'){w:World}{o:Oper}{a:Act}{Q:Exit->Act->World->Prop}{s x:Operand}{xv:Value}{ns:List (List Value)}{ops:Array Oper}{rest:List Oper}
  (hsr:bJ w sz xv ns) (hr:∀r ∈ ns,r.length=sz) (h1:∀r ∈ ns,∀u ∈ r,u.oneCell'=true) (hlen:ns.length<=4294967296)
  (ho:o.op = .call { callee:=.builtin .append,args:=#[s,x],argTypes:=#[t,t] }) (hgd:o.guard=none) (hs:a.eval s = .slice (some ⟨w.heap.size,0,none⟩) 0 0) (hx:a.eval x=xv)
  (h:∀v' w',dU w' w.heap.size e sz v' ns->Below w.heap.size w w'->wpList P ops Q rest (a.put o.dst v') w'):wpList P ops Q (o::rest) a (w.alloc (.cells #[] e)):=by
 refine lK I s x ho w.heap.size _ xv [] ns hs hx dU.made (hsr.below ((Below.refl _ _).alloc (Nat.le_refl _) _)) hr h1 (by simpa using hlen) (by simp) hgd fun v' w' k1 _ _ k4=>?_;exact h v' w' (by simpa using k1) (((Below.refl _ _).alloc (Nat.le_refl _) _).trans k4)
end Go.Proofs.Own
namespace Go.Proofs.YtjdglpcnkiioeaaGreat
open Go.RowKit Go.Maps Go.Proofs.Own

theorem aCu {l:List Nat}(h:bO 7 l<=6):bO 6 l=bO 7 l/\cI 6 l=cI 7 l/\cF 6 l=cF 7 l:=by
 unfold bO cI cF at *
 by_cases hb:iR l
 ·have h6:¬eJ 6 l:=fun g=>g.1 hb;have h7:¬eJ 7 l:=fun g=>g.1 hb;simp[h6,h7]
 ·by_cases h7:tN l<=7
  ·have g7:eJ 7 l:=⟨hb,h7⟩;rw[if_pos g7]at h;have g6:eJ 6 l:=⟨hb,h⟩;simp[g6,g7]
  ·have g7:¬eJ 7 l:=fun g=>h7 g.2;have g6:¬eJ 6 l:=fun g=>h7 (Nat.le_trans g.2 (by decide));simp[g6,g7]
theorem aCv {l:List Nat}(h:cF 6 l=false):bO 6 l=bO 7 l/\cI 6 l=cI 7 l/\cF 6 l=cF 7 l:=by
 have g6:eJ 6 l:=by
  unfold cF at h;by_cases g:eJ 6 l
  ·exact g
  ·rw[if_neg g]at h;cases h
 have g7:eJ 7 l:=⟨g6.1,Nat.le_trans g6.2 (by decide)⟩;unfold bO cI cF;simp[g6,g7]
theorem uR (l:List Nat):∀k,(∀x ∈ fI 7 k l,x<=6)->fI 6 k l=fI 7 k l/\memL 6 k l=memL 7 k l/\lC 6 k l=lC 7 k l
 | 0,_=>⟨rfl,rfl,rfl⟩
 | k+1,h=>by
  have ih:=uR l k fun x hx=>h x (by rw[fI];simp[hx]);have hl:((bO 7 (memL 7 k l):Nat):Int)<=6:=h _ (by rw[fI];simp);have hn:=aCu (l:=memL 7 k l) (by omega);refine⟨?_,?_,?_⟩
  ·rw[fI,fI,ih.1,ih.2.1,hn.1]
  ·rw[memL,memL,ih.2.1,hn.2.1]
  ·rw[lC,lC,ih.2.2,ih.2.1,hn.2.2]
theorem uS (l:List Nat):∀k,lC 6 k l=false->fI 6 k l=fI 7 k l/\memL 6 k l=memL 7 k l/\lC 6 k l=lC 7 k l
 | 0,_=>⟨rfl,rfl,rfl⟩
 | k+1,h=>by
  rw[lC,Bool.or_eq_false_iff]at h;have ih:=uS l k h.1;have hn:=aCv h.2;rw[ih.2.1]at hn;refine⟨?_,?_,?_⟩
  ·rw[fI,fI,ih.1,ih.2.1,hn.1]
  ·rw[memL,memL,ih.2.1,hn.2.1]
  ·rw[lC,lC,ih.2.2,ih.2.1,hn.2.2]
theorem aJz {l:List Nat}(h:fI 6 (fM l) (cG l)=fI 7 (fM l) (cG l)/\memL 6 (fM l) (cG l)=memL 7 (fM l) (cG l)/\lC 6 (fM l) (cG l)=lC 7 (fM l) (cG l)) :
  fD 6 l=fD 7 l/\qE 6 l=qE 7 l/\lM 6 l=lM 7 l:=by
 have e:gI 6 l=gI 7 l:=h.2.1;unfold fD qE lM;rw[e,h.1,h.2.2];exact⟨rfl,rfl,rfl⟩
theorem rR {l:List Nat}(h:(fD 7 l).ok):fD 6 l=fD 7 l/\qE 6 l=qE 7 l/\lM 6 l=lM 7 l:=by
 refine aJz (uR _ _ fun x hx=>?_);have hm:aCr (fI 7 (fM l) (cG l)):=h.2.2.2.2.1;obtain⟨j,hj,rfl⟩:=List.getElem_of_mem hx;have:=(hm.2.2 j hj).2;rw[rS hj]at this;omega
theorem zN {l:List Nat}(h:gV (qE 6 l) (lM 6 l)=0):fD 6 l=fD 7 l/\qE 6 l=qE 7 l/\lM 6 l=lM 7 l:=by
 have hb:lM 6 l=false:=by
  unfold gV at h;split at h
  ·cases h
  ·rename_i hn;cases e:lM 6 l
   ·rfl
   ·exact absurd (.inl e) hn
 unfold lM at hb;rw[Bool.or_eq_false_iff,Bool.or_eq_false_iff]at hb;exact aJz (uS _ _ hb.1.2)
theorem sC (l:List Nat):nT 6 l ↔ nT 7 l:=by
 constructor
 ·intro h;obtain⟨h1,h2,h3,h4⟩:=h;obtain⟨e1,e2,e3⟩:=zN h3;exact⟨h1,h2,by rw[<- e2,<- e3];exact h3,by rw[<- e1];exact h4⟩
 ·intro h;obtain⟨h1,h2,h3,h4⟩:=h;obtain⟨e1,e2,e3⟩:=rR h4;exact⟨h1,h2,by rw[e2,e3];exact h3,by rw[e1];exact h4⟩
theorem aI8 (l:List Nat):dG 6 l=dG 7 l:=by
 unfold dG;by_cases h:nT 7 l
 ·rw[decide_eq_true h,decide_eq_true ((sC l).2 h)]
 ·rw[decide_eq_false h,decide_eq_false fun g=>h ((sC l).1 g)]
theorem aI9 (l:List Nat):dK 6 l=dK 7 l:=by
 unfold dK;by_cases h:nT 7 l
 ·rw[if_pos h,if_pos ((sC l).2 h),(rR h.2.2.2).1]
 ·rw[if_neg h,if_neg fun g=>h ((sC l).1 g)]
