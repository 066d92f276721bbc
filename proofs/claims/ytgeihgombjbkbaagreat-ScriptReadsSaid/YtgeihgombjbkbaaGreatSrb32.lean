/- For screads_law_holds. -/
import Derived.Test.YtgeihgombjbkbaaGreatSrb31
set_option maxHeartbeats 16000000
set_option maxRecDepth 100000
namespace Go.Proofs.YtgeihgombjbkbaaGreat
open Go Go.RowKit Go.Maps Go.Proofs.Own
theorem mN {s:St}{B:Nat->Nat}{w:World}{o:Oper}{x:Operand}{v:Value}{l:List Nat}(ho:o.op = .convert 22 9 x)(hx:(s.act B).eval x=v)(hB:Bytes w v l):(execOp (s.act B).eval o).run Tryz.prog w = .ok (.value (.string (eD l))) w:=by
 obtain⟨dst,op,ty,pos,after,gd⟩:=o;simp only at ho;subst ho;simp only[execOp];refine val_run ?_;rw[hx];exact hB.str Tryz.underlying22 Tryz.underlying5 Tryz.underlying9
def TrR (l:List aY):Prop:=∀s ∈ l,0<=s.f/\s.f<=65535/\0<=s.t/\s.t<=4294967295
theorem TrR.sp {l:List aY}(h:TrR l):SpR l:=fun s hs=>by have:=h s hs;omega
def lH (a:cD):Prop:=kL a.com/\(0<=a.id/\a.id<18446744073709551616)/\TrR a.ts
theorem rN {a:cD}(h:dO a=true):(1<=a.k/\a.k<=20/\0<=a.who/\a.who<=8/\0<=a.to/\a.to<=7 /\ -1125899906842624<=a.n/\a.n<=1125899906842624/\a.ts.length<=16)/\(a.com=fR\/bQ a.com=true):=by
 unfold dO aIk at h
 simpa only[Bool.and_eq_true,decide_eq_true_eq,Bool.or_eq_true] using h
theorem lX {c:cQ}(h:c=fR\/bQ c=true)(hf:kL c)(h0:-9223372036854775808<=c.at')(h1:c.at'<9223372036854775808):(gF c).length<=1215 /\ ∀x ∈ gF c,x<256:=by
 unfold gF;split
 ·exact⟨Nat.zero_le _,nofun⟩
 ·rename_i hn;exact nG (h.resolve_left hn) hf h0 h1
theorem tZ {a:cD}(h:dO a=true)(hf:lH a)(h0:-9223372036854775808<=a.com.at')(h1:a.com.at'<9223372036854775808):(mH a).length<=2000 /\ ∀x ∈ mH a,x<256:=by
 obtain⟨k,kc⟩:=rN h;have hc:=lX kc hf.1 h0 h1;have:=bY (cP (z:=a.k) (by omega)) (bY (cP (z:=a.who) (by omega)) (bY (cP (z:=a.to) (by omega)) (bY (lM (z:=a.n) (by omega) (by omega)) (bY (cP hf.2.1.2) (bY (bY (cP (z:=(gF a.com).length) (by omega)) hc) (iZ hf.2.2.sp (by omega)))))));exact⟨Nat.le_trans this.1 (by decide),this.2⟩
theorem aHx (b:Nat)(v:Value)(l:List Nat)(a:cD)(A:dN)(w:World)(hw:dW w b v l)(hs:∀u,Kept w u (fun j=>j=b\/v.ownBlock=some j)->bW u a A)(ha:dO a=true)(hf:lH a)(hl:l.length+3000<=1000000) :
  Calls Tryz.prog 37 #[.pointer (some ⟨b,0,none⟩),.agg (eQ a A).toArray] w (rM b v (l++mH a) w):=by
 have hC0:=hs w (Kept.refl _ _);have F0:FrW b w v (fun u=>bW u a A) v l w []:=FrW.start hw hs;refine enter (F:=FrW b w v (fun u=>bW u a A) v l) (fun _=>0) [.pa (fun _=>⟨b,0,none⟩),.g (eS a A)] [] Tryz.func37 rfl rfl F0 65 rfl ?_;clear F0 hs hw;obtain⟨kb,kc⟩:=rN ha;have hcs:=lX kc hf.1 hC0.com.at0 hC0.com.at1;obtain⟨f1,f2,f3⟩:=hf;have htn:=hC0.n;have hts:=hC0.ts;have hPW:mH a=mH a:=rfl
 conv at hPW=>rhs;unfold mH iH
 generalize mH a=PW at hPW ⊢;refine ga env fw aA ?_;refine cV bK [IntKind.u64.wrap a.k,IntKind.u64.wrap a.who,IntKind.u64.wrap a.to] fun g=>?_;refine ga env fw aA ?_;refine dS [a.k.toNat,a.who.toNat,a.to.toNat] (by rw[kS (by omega) (by omega),kS (by omega) (by omega),kS (by omega) (by omega)];rfl) (by simp;omega) (by simp;omega) fun v1=>?_;have h9:=bG [a.k.toNat,a.who.toNat,a.to.toNat] (by simp;omega);simp only[List.length_cons,List.length_nil]at h9;refine ga env fw aA ?_;refine cV mP [a.n] fun g=>?_;refine ga env fw aA ?_;refine wB a.n (by omega) (by omega) (by rw[List.length_append];omega) fun v2=>?_;have h9b:=kV (z:=a.n) (by omega) (by omega);refine ga env fw aA ?_;refine cV bK [a.id] fun g=>?_;refine ga env fw aA ?_;refine dS [a.id.toNat] (wnZ f2.1) (by simp;omega) (by rw[List.length_append,List.length_append];simp;omega) fun v3=>?_;have h9c:=bG [a.id.toNat] (by simp;omega);simp only[List.length_cons,List.length_nil]at h9c;generalize hX:l++aO [a.k.toNat,a.who.toNat,a.to.toNat]++fT a.n++aO [a.id.toNat]=X;have hXl:X.length<=l.length+60:=by rw[<- hX,List.length_append,List.length_append,List.length_append];omega
 replace hX:l++PW=X++((bH (gF a.com).length++gF a.com)++(bH a.ts.length++eI a.ts)):=by rw[hPW,<- hX];simp[aO]
 clear hPW h9 h9b h9c;refine ga env fw aA ?_;intro B u F;refine(pT a.com A.com u F.now.com).mono ?_;rintro e w2 ⟨rfl,hb⟩;by_cases hz:a.com=fR
 ·rw[decide_eq_true hz];refine⟨.b (.l true),_,rfl,fw.b,F.call hb,?_⟩;clear F hb;have hT:gF a.com = []:=by rw[gF,if_pos hz]
  generalize gF a.com=T at hT hX hcs;refine ga env fw aA ?_;refine aK (.st fun _=>eD T) (fun B u F=>mN rfl (by rw[St.aC]) (by subst hT;exact Bytes.nil u)) ?_;clear hT;refine ga env fw aA ?_;refine aJF T hcs.2 (by have:=hcs.1;omega) fun v4=>?_;have h9:=eW (n:=T.length) (by have:=hcs.1;omega);generalize hY:X++(bH T.length++T)=Y;have hYl:Y.length<=l.length+1300:=by rw[<- hY,List.length_append,List.length_append];have:=hcs.1;omega
  replace hX:l++PW=Y++(bH a.ts.length++eI a.ts):=by rw[hX,<- hY];simp only[List.append_assoc]
  clear hY h9 hcs hXl;refine ga env fw aA ?_;refine cV bK [IntKind.u64.wrap (A.tn:Int)] fun g=>?_;refine ga env fw aA ?_;refine dS [a.ts.length] (by rw[<- htn];exact wn1 (by omega)) (by simp;omega) (by simp;omega) fun v6=>?_;have h9:=bG [a.ts.length] (by simp;omega);simp only[List.length_cons,List.length_nil]at h9;generalize hZ:Y++aO [a.ts.length]=Z;have hZl:Z.length<=l.length+1400:=by rw[<- hZ,List.length_append];omega
  replace hX:l++PW=Z++eI a.ts:=by rw[hX,<- hZ];simp[aO]
  clear hZ h9 hYl;refine ga env fw aA ?_;refine eV (fun i:WI A.tn=>FrW b w v (fun u=>bW u a A) i.v (Z++eI (a.ts.take i.j))) WI.x (fun i=>[(0,.pa (fun _=>⟨b,0,none⟩)),(51,.sl (fun _=>A.ta) (fun _=>A.tn) (fun _=>A.tc)),(52,.i .i64 (.x fun _=>(A.tn:Int))),(53,.i .i64 (.x fun _=>(i.j:Int)))]) (fun _=>[]) (fun i=>A.tn-i.j) 67 (fun x=>⟨0,v6,x,Nat.zero_le _⟩) (fun _=>rfl) (fun B x=>⟨rfl,rfl,rfl,rfl,trivial⟩) (fun B w1 F x=>by rw[List.take_zero,show eI [] = [] from rfl,List.append_nil];exact FrW.less (L:=[]) F) ?_;intro i J hJ;refine ga env fw aA ?_;refine⟨fun q=>?_,fun q=>?_⟩
  ·have hlt:i.j<A.tn:=by simpa [BE.den,cmpB,IE.den] using q
   clear q;have hlL:i.j<a.ts.length:=by rw[htn];exact hlt
   have htk:=iM hlL;have hsp:=f3 _ (List.getElem_mem hlL);have hln:=eY _ (SpR.take f3.sp i.j);rw[List.length_take,Nat.min_eq_left (Nat.le_of_lt hlL)]at hln;obtain⟨gb,go,he,_⟩:=hts.at (j:=i.j) (by rw[List.length_map];exact hlL);rw[he];have hrg:∀u,bW u a A->u.rangeAt gb (go+i.j*2) (trV a.ts[i.j]):=fun u hu=>by
    have h:=hu.ts;rw[he]at h;have:=h.range (j:=i.j) (by rw[List.length_map];exact hlL)
    rwa [List.getElem_map]at this
   generalize a.ts[i.j]=p at htk hsp hrg;refine ga env fw aA ?_;refine aK (.pa fun _=>⟨gb,go+i.j*2,none⟩) (fun B v F=>bX (e:=112) (n:=2) rfl Tryz.underlying74 (by kernel_rfl) (by rw[St.aC];rfl) (by rw[St.aC];rfl) hlt) ?_;refine ga env fw aA ?_;refine aK (.g [.i .u16 (.x fun _=>p.f),.i .u32 (.x fun _=>p.t)]) (fun B v F=>dD (cs:=trV p) (b:=gb) (off:=go+i.j*2) rfl (by rw[St.aC];rfl) (hrg _ F.now) Tryz.underlying112 rfl (by kernel_rfl)) ?_;refine ga env fw aA ?_;refine cV bK [IntKind.u64.wrap p.f,IntKind.u64.wrap p.t] fun g=>?_;refine ga env fw aA ?_;refine dS [p.f.toNat,p.t.toNat] (yA hsp.1 (by omega) hsp.2.2.1 (by omega)) (by simp;omega) (by rw[List.length_append];simp;omega) fun v7=>?_;refine ga env fw aA ?_;refine gS hJ (fun x=>⟨i.j+1,v7,x,hlt⟩) (fun _=>rfl) (fun _=>(by omega:A.tn-(i.j+1)<A.tn-i.j)) (fun B x=>⟨rfl,?_,rfl,?_,trivial⟩) (fun B u F x=>?_)
   ·simp only[AV.den,getT,he]
   ·simp only[AV.den,IE.den,getT];rw[wrI hlt (by omega)]
   ·show FrW b w v _ v7 (Z++eI (a.ts.take (i.j+1))) u [];rw[htk,<- List.append_assoc];exact FrW.less (L:=[]) F
  have hje:i.j=A.tn:=by
   have:¬i.j<A.tn:=by simpa [BE.den,cmpB,IE.den] using q
   have:=i.hj;omega
  clear q hJ;rw[hje,List.take_of_length_le (by omega),<- hX];refine ga env fw aA ?_;refine fa env fw ?_;intro B u F;exact⟨rfl,_,F.wr,F.gr⟩
 ·rw[decide_eq_false hz];refine⟨.b (.l false),_,rfl,fw.b,F.call hb,?_⟩;clear F hb;refine ga env fw aA ?_;intro B u F;have hck:=kc.resolve_left hz;have hq:=oX a.com A.com u F.now.com f1;rw[vD,if_pos hck]at hq;refine hq.mono ?_;rintro e w2 ⟨hb,v5,rfl,ho,hB5⟩;have hT:gF a.com=lJ a.com:=by rw[gF,if_neg hz]
  rw[hT]at hX hcs;clear hT hq;generalize lJ a.com=T at hX hcs ho hB5;obtain⟨a5,c5,rfl,_⟩:=hB5.shape;have hno:∀j,(Value.slice a5 T.length c5).ownBlock=some j -> ¬j<u.heap.size:=fun j hj=>Nat.not_lt.2 (ho.lt j hj).1;refine⟨.t [.sl (fun _=>a5) (fun _=>T.length) (fun _=>c5),.i .i64 (.l 0)],_,rfl,fw.b,F.gG hb (R':=fun u=>Bytes u (.slice a5 T.length c5) T) (fun x kx=>hB5.kept kx hno),?_⟩;clear F hb ho hB5 hno;refine ga env fw aA ?_;refine aK (.st fun _=>eD T) (fun B u F=>mN rfl (by rw[St.aC];rfl) F.now.1) ?_;refine uN (fun _ _ F=>F.imp fun _ h=>h.2) ?_;refine ga env fw aA ?_;refine aJF T hcs.2 (by have:=hcs.1;omega) fun v4=>?_;have h9:=eW (n:=T.length) (by have:=hcs.1;omega);generalize hY:X++(bH T.length++T)=Y;have hYl:Y.length<=l.length+1300:=by rw[<- hY,List.length_append,List.length_append];have:=hcs.1;omega
  replace hX:l++PW=Y++(bH a.ts.length++eI a.ts):=by rw[hX,<- hY];simp only[List.append_assoc]
  clear hY h9 hcs hXl;refine ga env fw aA ?_;refine cV bK [IntKind.u64.wrap (A.tn:Int)] fun g=>?_;refine ga env fw aA ?_;refine dS [a.ts.length] (by rw[<- htn];exact wn1 (by omega)) (by simp;omega) (by simp;omega) fun v6=>?_;have h9:=bG [a.ts.length] (by simp;omega);simp only[List.length_cons,List.length_nil]at h9;generalize hZ:Y++aO [a.ts.length]=Z;have hZl:Z.length<=l.length+1400:=by rw[<- hZ,List.length_append];omega
  replace hX:l++PW=Z++eI a.ts:=by rw[hX,<- hZ];simp[aO]
  clear hZ h9 hYl;refine ga env fw aA ?_;refine eV (fun i:WI A.tn=>FrW b w v (fun u=>bW u a A) i.v (Z++eI (a.ts.take i.j))) WI.x (fun i=>[(0,.pa (fun _=>⟨b,0,none⟩)),(51,.sl (fun _=>A.ta) (fun _=>A.tn) (fun _=>A.tc)),(52,.i .i64 (.x fun _=>(A.tn:Int))),(53,.i .i64 (.x fun _=>(i.j:Int)))]) (fun _=>[]) (fun i=>A.tn-i.j) 67 (fun x=>⟨0,v6,x,Nat.zero_le _⟩) (fun _=>rfl) (fun B x=>⟨rfl,rfl,rfl,rfl,trivial⟩) (fun B w1 F x=>by rw[List.take_zero,show eI [] = [] from rfl,List.append_nil];exact FrW.less (L:=[]) F) ?_;intro i J hJ;refine ga env fw aA ?_;refine⟨fun q=>?_,fun q=>?_⟩
  ·have hlt:i.j<A.tn:=by simpa [BE.den,cmpB,IE.den] using q
   clear q;have hlL:i.j<a.ts.length:=by rw[htn];exact hlt
   have htk:=iM hlL;have hsp:=f3 _ (List.getElem_mem hlL);have hln:=eY _ (SpR.take f3.sp i.j);rw[List.length_take,Nat.min_eq_left (Nat.le_of_lt hlL)]at hln;obtain⟨gb,go,he,_⟩:=hts.at (j:=i.j) (by rw[List.length_map];exact hlL);rw[he];have hrg:∀u,bW u a A->u.rangeAt gb (go+i.j*2) (trV a.ts[i.j]):=fun u hu=>by
    have h:=hu.ts;rw[he]at h;have:=h.range (j:=i.j) (by rw[List.length_map];exact hlL)
    rwa [List.getElem_map]at this
   generalize a.ts[i.j]=p at htk hsp hrg;refine ga env fw aA ?_;refine aK (.pa fun _=>⟨gb,go+i.j*2,none⟩) (fun B v F=>bX (e:=112) (n:=2) rfl Tryz.underlying74 (by kernel_rfl) (by rw[St.aC];rfl) (by rw[St.aC];rfl) hlt) ?_;refine ga env fw aA ?_;refine aK (.g [.i .u16 (.x fun _=>p.f),.i .u32 (.x fun _=>p.t)]) (fun B v F=>dD (cs:=trV p) (b:=gb) (off:=go+i.j*2) rfl (by rw[St.aC];rfl) (hrg _ F.now) Tryz.underlying112 rfl (by kernel_rfl)) ?_;refine ga env fw aA ?_;refine cV bK [IntKind.u64.wrap p.f,IntKind.u64.wrap p.t] fun g=>?_;refine ga env fw aA ?_;refine dS [p.f.toNat,p.t.toNat] (yA hsp.1 (by omega) hsp.2.2.1 (by omega)) (by simp;omega) (by rw[List.length_append];simp;omega) fun v7=>?_;refine ga env fw aA ?_;refine gS hJ (fun x=>⟨i.j+1,v7,x,hlt⟩) (fun _=>rfl) (fun _=>(by omega:A.tn-(i.j+1)<A.tn-i.j)) (fun B x=>⟨rfl,?_,rfl,?_,trivial⟩) (fun B u F x=>?_)
   ·simp only[AV.den,getT,he]
   ·simp only[AV.den,IE.den,getT];rw[wrI hlt (by omega)]
   ·show FrW b w v _ v7 (Z++eI (a.ts.take (i.j+1))) u [];rw[htk,<- List.append_assoc];exact FrW.less (L:=[]) F
  have hje:i.j=A.tn:=by
   have:¬i.j<A.tn:=by simpa [BE.den,cmpB,IE.den] using q
   have:=i.hj;omega
  clear q hJ;rw[hje,List.take_of_length_le (by omega),<- hX];refine ga env fw aA ?_;refine fa env fw ?_;intro B u F;exact⟨rfl,_,F.wr,F.gr⟩
def qG (s:gP):Prop:=∀a ∈ s.acts,lH a
def iI (s:gP):List Int:=[s.cfg.s,s.cfg.m,s.cfg.el,s.cfg.bt,s.cfg.ev,s.cfg.rm,s.rounds]
theorem xR {s:gP}(h:fW s=true):(∀z ∈ iI s,0<=z/\z<=1048576)/\(0<=s.by'/\s.by'<=1125899906842624/\s.acts.length<=4096) /\ ∀a ∈ s.acts,dO a=true:=by
 unfold fW lY svB rfB at h;simp only[Bool.and_eq_true,decide_eq_true_eq,List.all_eq_true]at h;refine⟨fun z hz=>?_,by omega,h.2.2⟩;simp only[iI,List.mem_cons,List.not_mem_nil,or_false]at hz;omega
theorem aIn (s:gP):yT s.cfg s.rounds=aO ((iI s).map Int.toNat):=by simp[yT,iI,aO]
theorem uA {l:List cD}{j:Nat}(h:j<l.length):eN (l.take (j+1))=eN (l.take j)++mH l[j]:=by
 rw[List.take_succ_eq_append_getElem h];unfold eN;simp only[List.flatMap_append,List.flatMap_cons,List.flatMap_nil,List.append_nil]
theorem uB (l:List cD)(j:Nat):(eN (l.take j)).length<=(eN l).length:=by
 have:eN l=eN (l.take j)++eN (l.drop j):=by
  unfold eN;rw[<- List.flatMap_append,List.take_append_drop]
 rw[this,List.length_append];omega
theorem yM {l:List cD}(h:∀a ∈ l,∀x ∈ mH a,x<256):∀x ∈ eN l,x<256:=fun x hx=>by
 obtain⟨a,ha,hx⟩:=List.mem_flatMap.1 hx;exact h a ha x hx
theorem jL {ns:List Nat}(h:∀n ∈ ns,n<=1048576):(aO ns).length<=9*ns.length /\ ∀c ∈ aO ns,c<256:=by
 refine⟨bG ns fun n hn=>by have:=h n hn;omega,fun c hc=>?_⟩;obtain⟨n,hn,hc⟩:=List.mem_flatMap.1 hc;have:=h n hn;exact iT (by omega) c hc
def pD (s:gP)(w:World):Ending->World->Prop:=if fW s=true then (if (mK s).length<=65536 then fun e w'=>Below w.heap.size w w' /\ ∃v,e = .returned (.tuple #[v,.int .i64 0])/\Bytes w' v (frP 6 (mK s)) else fun e w'=>Below w.heap.size w w'/\e = .returned (.tuple #[.slice none 0 0,.int .i64 21]))
 else fun e w'=>Below w.heap.size w w'/\e = .returned (.tuple #[.slice none 0 0,.int .i64 2])
theorem yD (k:Nat)(v:Value)(l:List Nat)(w:World)(hB:Bytes w v l)(hk0:k≠0)(hlen:65536<l.length) :
  Calls Tryz.prog 38 #[.int .u8 k,v] w fun e w'=>e = .returned (.tuple #[.slice none 0 0,.int .i64 21])/\Below w.heap.size w w':=by
 obtain⟨a,c,rfl,_⟩:=hB.shape;have F0:Fe 0 (fun v=>Below w.heap.size w v) w []:=Fe.start fun _ bv=>bv;refine enter (fun _=>0) [.i .u8 (.x fun _=>(k:Int)),.sl (fun _=>a) (fun _=>l.length) (fun _=>c)] [] Tryz.func38 rfl rfl F0 28 rfl ?_;refine ga env (Fe.frm 0 _) aA ?_;refine⟨fun q=>absurd (show (k:Int)=0 by simpa [BE.den,cmpB,IE.den] using q) (by omega),fun q=>?_⟩;clear q;refine ga env (Fe.frm 0 _) aA ?_;refine⟨fun q=>?_,fun q=>absurd (show ¬(l.length:Int) > 65536 by simpa [BE.den,cmpB,IE.den] using q) (by omega)⟩;refine ga env (Fe.frm 0 _) aA ?_;refine fa env (Fe.frm 0 _) ?_;intro B u F;exact⟨rfl,F.now⟩
theorem oZ (s:gP)(L:List (cD × dN))(a:Option Addr)(n c:Nat)(w:World)(h:cF w s L a n c)(hf:qG s)(hlen:(mK s).length<=900000):Calls Tryz.prog 11 #[.agg (pA s a n c).toArray] w (pD s w):=by
 have hC0:=h;have F0:Fr (fun _=>False) w w [] (fun u=>cF u s L a n c):=Fr.zero w nofun fun u ku=>h.below (ku.below (Nat.le_refl _) nofun);refine enter (F:=fun u K=>Fr (fun _=>False) w u K (fun u=>cF u s L a n c)) (fun _=>0) [.g (jN s a n c)] [] Tryz.func11 rfl rfl F0 63 rfl ?_;clear F0 h;refine ga env (Fr.frm _ _ _) aA ?_;intro B u F;refine(nT s L a n c u F.r).mono ?_;rintro e w2 ⟨rfl,hb⟩;cases hok:fW s with
 | false =>
  refine⟨.b (.l false),_,rfl,(Fr.frm _ _ _).b,F.call hb,?_⟩;clear F hb;refine ga env (Fr.frm _ _ _) aA ?_;refine fa env (Fr.frm _ _ _) ?_;intro B u F;rw[pD,if_neg (by rw[hok];decide)];exact⟨F.bel,rfl⟩
 | true =>
 refine⟨.b (.l true),_,rfl,(Fr.frm _ _ _).b,F.call hb,?_⟩;clear F hb;obtain⟨g1,g2,g3⟩:=xR hok;refine gn 11 env (Fr.frm _ _ _) aA ?_;refine iV 1 (fun B u F=>⟨FrW (B 1) w (.slice none 0 0) (fun u=>cF u s L a n c) (.slice none 0 0) [],kO (L:=[(B 0,_)]) F,?_⟩);have hwb:w.heap.size<=B 1:=(F.rng (B 1,_) (List.mem_of_getElem? (i:=1) rfl)).1;clear F;generalize B 1=b at hwb ⊢;clear B u w2;have hWr:pD s w=pD s w:=rfl
 conv at hWr=>rhs;unfold pD
 rw[if_pos hok]at hWr;rw[hWr];have hln:=hC0.acts.ln;have heq:=hC0.eq;have hsl:s.acts.length=n:=by rw[heq,List.length_map];exact hln
 have hn4:n<=4096:=by omega
 have hPW:mK s=aO ((iI s).map Int.toNat)++(fT s.by'++(bH s.acts.length++eN s.acts)):=by rw[mK,aIn]
 have hlt256:∀x ∈ mK s,x<256:=by
  rw[hPW];intro x hx;rcases List.mem_append.1 hx with hx|hx
  ·exact(jL (fun m hm=>by obtain⟨z,hz,rfl⟩:=List.mem_map.1 hm;have:=g1 z hz;omega)).2 x hx
  rcases List.mem_append.1 hx with hx|hx
  ·exact vN (by omega) (by omega) x hx
  rcases List.mem_append.1 hx with hx|hx
  ·exact iT (by omega) x hx
  ·refine yM (fun q hq=>?_) x hx;have hq2:=hq;rw[heq]at hq2;obtain⟨p,hp,rfl⟩:=List.mem_map.1 hq2;have:=(hC0.acts.each p hp).com;exact(tZ (g3 _ hq) (hf _ hq) this.at0 this.at1).2
 generalize mK s=PW at hPW hlen hlt256 ⊢;clear hWr hok;have h9:=jL (ns:=(iI s).map Int.toNat) (fun m hm=>by obtain⟨z,hz,rfl⟩:=List.mem_map.1 hm;have:=g1 z hz;omega);have hcl:((iI s).map Int.toNat).length=7:=rfl;refine ga env fw aA ?_;refine cV mQ (iI s) fun g=>?_;refine ga env fw aA ?_;refine eV (fun i:WI 7=>FrW b w (.slice none 0 0) (fun u=>Wn b (.slice none 0 0) .i64 (iI s) g u/\cF u s L a n c) i.v (aO (((iI s).map Int.toNat).take i.j))) WI.x (fun i=>[(1,.p 0 0),(4,.pa (fun _=>⟨b,0,none⟩)),(29,.sl (fun _=>some ⟨g,0,none⟩) (fun _=>7) (fun _=>7)),(30,.i .i64 (.x fun _=>7)),(31,.i .i64 (.x fun _=>(i.j:Int)))]) (fun _=>[jN s a n c]) (fun i=>7-i.j) 64 (fun x=>⟨0,.slice none 0 0,x,Nat.zero_le _⟩) (fun _=>rfl) (fun B x=>⟨rfl,rfl,rfl,rfl,rfl,trivial⟩) (fun B w1 F x=>FrW.less (L:=[(B 0,_)]) F) ?_;intro i J hJ;refine ga env fw aA ?_;refine⟨fun q=>?_,fun q=>?_⟩
 ·have hlt:i.j<7:=by have q:decide ((i.j:Int)<7)=true:=q;simp only[decide_eq_true_eq]at q;omega
  clear q;have hlt2:i.j<(iI s).length:=hlt;have htk:aO (((iI s).map Int.toNat).take (i.j+1))=aO (((iI s).map Int.toNat).take i.j)++aO [(iI s)[i.j].toNat]:=by
   rw[List.take_succ_eq_append_getElem (by rw[List.length_map];exact hlt2)];simp only[aO,List.flatMap_append,List.getElem_map]
  have hz:=g1 _ (List.getElem_mem hlt2);have hrd:∀u,Wn b (.slice none 0 0) .i64 (iI s) g u->u.cell? ⟨g,0+i.j*1,none⟩=some (.int .i64 (iI s)[i.j]):=fun u hu=>by
   obtain⟨a',c',e,hh⟩:=hu.1;cases e;obtain⟨b',o',e,hh⟩:=hh i.j hlt2;cases e;rw[Nat.mul_one];exact hh
  have hln:=(jL (ns:=((iI s).map Int.toNat).take i.j) (fun m hm=>by obtain⟨z,hz,rfl⟩:=List.mem_map.1 (List.mem_of_mem_take hm);have:=g1 z hz;omega)).1;rw[List.length_take,hcl,Nat.min_eq_left (Nat.le_of_lt hlt)]at hln;generalize (iI s)[i.j]=z at htk hz hrd;refine ga env fw aA ?_;refine aK (.pa fun _=>⟨g,0+i.j*1,none⟩) (fun B v F=>bX (e:=3) (n:=1) rfl Tryz.underlying93 (by kernel_rfl) (by rw[St.aC];rfl) (by rw[St.aC];rfl) hlt) ?_;refine ga env fw aA ?_;refine aK (.i .i64 (.x fun _=>z)) (fun B u F=>gK aX (b:=g) (off:=0+i.j*1) rfl (by rw[St.aC];rfl) rfl rfl (hrd _ F.now.1)) ?_;refine ga env fw aA ?_;refine cV bK [IntKind.u64.wrap z] fun g2=>?_;refine ga env fw aA ?_;refine dS [z.toNat] (bKg hz.1 (by omega)) (by simp;omega) (by simp;omega) fun v3=>?_;refine ga env fw aA ?_;refine gS hJ (fun x=>⟨i.j+1,v3,x,hlt⟩) (fun _=>rfl) (fun _=>(by omega:7-(i.j+1)<7-i.j)) (fun B x=>⟨rfl,rfl,rfl,rfl,?_,trivial⟩) (fun B u F x=>?_)
  ·simp only[AV.den,IE.den,getT];rw[wrI hlt (by omega)]
  ·show FrW b w _ _ v3 (aO (((iI s).map Int.toNat).take (i.j+1))) u [(B 0,_)];rw[htk];exact FrW.less (L:=[(B 0,_)]) F
 have hje:i.j=7:=by
  have q:decide ((i.j:Int)<7)=false:=q;simp only[decide_eq_false_iff_not]at q;have:=i.hj;omega
 clear q hJ;rw[hje,List.take_of_length_le (by rw[hcl];omega)];clear hje;generalize aO ((iI s).map Int.toNat)=X at h9 hPW ⊢;rw[hcl]at h9;refine uN (fun _ _ F=>F.imp fun _ h=>h.2) ?_;refine ga env fw aA ?_;refine cV mP [s.by'] fun g=>?_;refine ga env fw aA ?_;refine wB s.by' (by omega) (by omega) (by omega) fun v4=>?_;have h9b:=kV (z:=s.by') (by omega) (by omega);refine ga env fw aA ?_;refine cV bK [IntKind.u64.wrap (n:Int)] fun g=>?_;refine ga env fw aA ?_;refine dS [n] (wn1 (by omega)) (by simp;omega) (by rw[List.length_append];simp;omega) fun v5=>?_;generalize hZ:X++fT s.by'++aO [n]=Z;replace hPW:PW=Z++eN s.acts:=by rw[hPW,<- hZ,hsl];simp[aO]
 clear hZ h9 h9b;refine ga env fw aA ?_;refine eV (fun i:WI n=>FrW b w (.slice none 0 0) (fun u=>cF u s L a n c) i.v (Z++eN (s.acts.take i.j))) WI.x (fun i=>[(4,.pa (fun _=>⟨b,0,none⟩)),(51,.sl (fun _=>a) (fun _=>n) (fun _=>c)),(52,.i .i64 (.x fun _=>(n:Int))),(53,.i .i64 (.x fun _=>(i.j:Int)))]) (fun _=>[]) (fun i=>n-i.j) 64 (fun x=>⟨0,v5,x,Nat.zero_le _⟩) (fun _=>rfl) (fun B x=>⟨rfl,rfl,rfl,rfl,trivial⟩) (fun B w1 F x=>by rw[List.take_zero,show eN [] = [] from rfl,List.append_nil];exact FrW.less (L:=[]) F) ?_;intro i J hJ;refine ga env fw aA ?_;refine⟨fun q=>?_,fun q=>?_⟩
 ·have hlt:i.j<n:=by simpa [BE.den,cmpB,IE.den] using q
  clear q;have hlL:i.j<L.length:=by rw[hln];exact hlt
  have hlS:i.j<s.acts.length:=by rw[hsl];exact hlt
  have htk:=uA hlS;have hmem:=List.getElem_mem hlS;have he:s.acts[i.j]=L[i.j].1:=by simp only[heq,List.getElem_map]
  rw[he]at htk hmem;have hle:=uB s.acts i.j;have hpm:=List.getElem_mem hlL;obtain⟨gb,go,ea⟩:=hC0.acts.base hlt;have hrg:∀u,cF u s L a n c->u.rangeAt gb (go+i.j*19) (eQ L[i.j].1 L[i.j].2):=fun u hu=>by
   have h:=hu.acts;rw[ea]at h;exact h.range hlL
  generalize L[i.j]=p at htk hmem hpm hrg;rw[ea];refine ga env fw aA ?_;refine aK (.pa fun _=>⟨gb,go+i.j*19,none⟩) (fun B v F=>bX (e:=76) (n:=19) rfl Tryz.underlying26 (by kernel_rfl) (by rw[St.aC];rfl) (by rw[St.aC];rfl) hlt) ?_;refine ga env fw aA ?_;refine aK (.g (eS p.1 p.2)) (fun B v F=>dD (cs:=eQ p.1 p.2) (b:=gb) (off:=go+i.j*19) rfl (by rw[St.aC];rfl) (hrg _ (ea ▸ F.now)) Tryz.underlying76 rfl (by kernel_rfl)) ?_;refine ga env fw aA ?_;intro B u F;refine(aHx b _ (Z++eN (s.acts.take i.j)) p.1 p.2 u F.wr (fun x kx=>(F.s1 x (kx.mono fun j _ hj=>hj.elim .inl fun hj=>.inr (.inl hj))).acts.each _ hpm) (g3 _ hmem) (hf _ hmem) (by rw[hPW,List.length_append]at hlen;rw[List.length_append];omega)).mono ?_;rintro e w3 ⟨rfl,v6,hw6,hg6⟩;refine⟨.t [],_,rfl,fw.b,F.put hw6 hg6,?_⟩;clear F hw6 hg6;refine ga env fw aA ?_;refine gS hJ (fun x=>⟨i.j+1,v6,x,hlt⟩) (fun _=>rfl) (fun _=>(by omega:n-(i.j+1)<n-i.j)) (fun B x=>⟨rfl,?_,rfl,?_,trivial⟩) (fun B u F x=>?_)
  ·simp only[AV.den,getT,ea]
  ·simp only[AV.den,IE.den,getT];rw[wrI hlt (by omega)]
  ·show FrW b w _ (fun u=>cF u s L a n c) v6 (Z++eN (s.acts.take (i.j+1))) u [];rw[htk,<- List.append_assoc];exact ea ▸ FrW.less (L:=[]) F
 have hje:i.j=n:=by
  have:¬i.j<n:=by simpa [BE.den,cmpB,IE.den] using q
  have:=i.hj;omega
 clear q hJ;rw[hje,List.take_of_length_le (by omega),<- hPW];clear hje;refine ga env fw aA ?_;intro B u F;refine(eM b _ PW u F.wr (by omega) hlt256).mono ?_;rintro e w4 ⟨v7,rfl,ho,hb4,hbl⟩;obtain⟨a4,c4,rfl,_⟩:=hb4.shape;have hno:∀j,(Value.slice a4 PW.length c4).ownBlock=some j -> ¬j<u.heap.size:=fun j hj=>Nat.not_lt.2 (ho.lt j hj).1;refine⟨.sl (fun _=>a4) (fun _=>PW.length) (fun _=>c4),_,rfl,fw.b,F.gG hbl (R':=fun u=>Bytes u (.slice a4 PW.length c4) PW) (fun x kx=>hb4.kept kx hno),?_⟩;clear F hbl ho hb4 hno;refine ga env fw aA ?_;intro B u F;by_cases h6:PW.length<=65536
 ·rw[if_pos h6];refine(aIg 6 _ PW u F.now.1 (by decide) (by decide) h6).mono ?_;rintro e w5 ⟨v8,rfl,hb8,hbl,hno8⟩;have hl8:(frP 6 PW).length=(frP 6 PW).length:=rfl;generalize frP 6 PW=PF at hb8 hl8 ⊢;obtain⟨a8,c8,rfl,_⟩:=hb8.shape;refine⟨.t [.sl (fun _=>a8) (fun _=>PF.length) (fun _=>c8),.i .i64 (.l 0)],_,rfl,fw.b,F.gG hbl (R':=fun u=>Bytes u (.slice a8 PF.length c8) PF) (fun x kx=>hb8.kept kx fun j hj=>Nat.not_lt.2 (hno8 j hj)),?_⟩;clear F hbl hb8 hno8;refine ga env fw aA ?_;refine fa env fw ?_;intro B u F;exact⟨F.bel hwb rfl,_,rfl,F.now.1⟩
 ·rw[if_neg h6];refine(yD 6 _ PW u F.now.1 (by decide) (by omega)).mono ?_;rintro e w5 ⟨rfl,hbl⟩;refine⟨.t [.v (.slice none 0 0),.i .i64 (.l 21)],_,rfl,fw.b,F.call hbl,?_⟩;clear F hbl;refine ga env fw aA ?_;refine fa env fw ?_;intro B u F;exact⟨F.bel hwb rfl,rfl⟩
end Go.Proofs.YtgeihgombjbkbaaGreat
namespace Go.Proofs.YtgeihgombjbkbaaGreat
open Go.RowKit Go.Maps Go.Proofs.Own

def plSr:Nat->Option Pl
 | 6=>some ⟨[0,1,3,7,0,16,48,112,0,256,768,1792,0,4096,12288,28672,0,65536,196608,458752,0,1048576,3145728,7340032,0,16777216,67108863,134217727,0],0,[.h [0,1,2,3,4,5,6,7,8,9,10,11,12,13,14,15,16,17,18,19,20,21,22,23,24,25,28],.o 26,.h [27]],[]⟩
 | 9=>some ⟨[0,1,0,0,8,28,60,127,255],96,[.h [0,1,2,3,4],.o 5,.h [6,7],.o 8],[]⟩
 | 15=>some ⟨[0,1,0,4,12,31,63,127],8,[.h [0,1,2],.o 3,.o 4,.o 5,.h [6],.o 7],[]⟩
 | _=>none
def seven:List AV:=[.p 0 0,.i .u64 (.l 7),.p 0 1,.i .u64 (.l 7),.p 0 2,.i .u64 (.l 64),.p 0 3,.i .u64 (.l 64),.p 0 4,.i .u64 (.l 48),.p 0 5,.i .u64 (.l 1048576),.p 0 7,.i .u64 (.l 200)]
def srL (b N j:Nat):List (Nat × AV):=[(2,.p 0 0),(7,.pa (fun _=>⟨b,0,none⟩)),(72,.i .u64 (.x fun _=>(N:Nat))),(73,.i .u64 (.x fun _=>(j:Int)))]
def aHX (x1 x2 x3 x4 x5 x6:Nat)(a:AV)(x7:Nat)(x8:Int):List AV:=[.i .i64 (.x fun _=>(x1:Int)),.i .i64 (.x fun _=>(x2:Int)),.i .i64 (.x fun _=>(x3:Int)),.i .i64 (.x fun _=>(x4:Int)),.i .i64 (.x fun _=>(x5:Int)),.i .i64 (.x fun _=>(x6:Int)),a,.i .i64 (.x fun _=>(x7:Int)),.i .i64 (.x fun _=>x8)]
def aKW (b:Bool):Value:=.int .i64 (if b then 0 else 20)
theorem sY {f:List Nat}{a:Option Addr}{c:Nat}{w:World}(hB:Bytes w (.slice a f.length c) f):Calls Tryz.prog 7 #[.slice a f.length c] w (jB aKW f w):=by
 have F0:Own.Fn (fun _=>False) w w [] (fun u=>Bytes u (.slice a f.length c) f):=⟨Fr.zero w nofun fun v kv=>hB.below (kv.below (Nat.le_refl _) nofun),nofun⟩;refine enter (F:=fun w' L=>Own.Fn (fun _=>False) w w' L (fun u=>Bytes u (.slice a f.length c) f)) (fun _=>0) [.sl (fun _=>a) (fun _=>f.length) (fun _=>c)] [] Tryz.func7 rfl rfl F0 94 rfl ?_;refine ga env (Fn.frm _ _ _) plSr ?_;refine bIk ?_;refine ga (aH env) (Fn.frm _ _ _) plSr ?_;intro B v F;refine(xY _ f v F.saf.now).mono ?_;rintro e w2 ⟨hb,h1,h2⟩;by_cases hW:fK f
 case neg =>
  obtain rfl:=h1 hW;refine⟨.t [.i .u8 (.l 0),.v (.slice none 0 0),.b (.l false)],_,rfl,(Fn.frm _ _ _).b,F.call hb,?_⟩;clear F hb h1 h2;refine ga (aH env) (Fn.frm _ _ _) plSr ?_;refine mA env (Fn.frm _ _ _) ?_;intro B v F;exact jB.bad (res:=aKW) (if_neg fun h=>hW h.1) F.bel
 obtain⟨v',rfl,hB2⟩:=h2 hW;clear h1 h2;obtain⟨a2,c2,rfl,_⟩:=hB2.shape;obtain⟨r0,_,hr0,_⟩:=hB.blk (fun e=>by have:=hW.2;rw[e]at this;cases this);obtain⟨rb1,hv1,_,hne1⟩:=mU (F.call hb) hB2 hr0;refine⟨.t [.i .u8 (.x fun _=>(f.getD 1 0:Nat)),.sl (fun _=>a2) (fun _=>(aS f).length) (fun _=>c2),.b (.l true)],(fun w' L=>Own.Fn (fun _=>False) w w' L (fun u=>Bytes u (.slice a2 (aS f).length c2) (aS f)/\Bytes u (.slice a f.length c) f)),rfl,(Fn.frm _ _ _).b,F.next hb (fun u ku=>hB2.nN ku hv1 fun h=>h.elim id fun h=>?_),?_⟩
 ·obtain⟨p,hp,e⟩:=List.mem_map.1 h;exact hne1 p hp e
 clear F hb hB2 hv1 hne1;refine ga (aH env) (Fn.frm _ _ _) plSr ?_;refine⟨fun q=>?_,fun q=>?_⟩
 ·have hk:f.getD 1 0≠6:=fun e=>by
   have q:(((f.getD 1 0:Nat):Int) != 6)=true:=q;rw[e]at q;cases q
  refine ga (aH env) (Fn.frm _ _ _) plSr ?_;refine mA env (Fn.frm _ _ _) ?_;intro B v F;exact jB.bad (res:=aKW) (if_neg fun h=>hk h.2) F.bel
 have hk:f.getD 1 0=6:=by
  have q:(((f.getD 1 0:Nat):Int) != 6)=false:=q;have q:((f.getD 1 0:Nat):Int)=6:=by simpa using q
  omega
 clear q;have hF:lB f=lA (aS f):=if_pos ⟨hW,hk⟩;unfold jB;rw[hF];clear hF hk hW;generalize aS f=l;refine ga (aH env) (Fn.frm _ _ _) plSr ?_;intro B v F;obtain⟨rb,hv,hrl,hne⟩:=mU F F.saf.now.1 hr0;refine(pU (rb:=rb) _ l v F.saf.now.1 hv (by omega)).mono ?_;rintro e w2 ⟨rfl,hz,hb⟩;have hwb:w.heap.size<=v.heap.size:=F.bel.size;refine⟨.pa (fun _=>⟨v.heap.size,0,none⟩),_,rfl,fd.b,aKL F.toFr hb 76 19 (Nat.le_refl _) hz.lt (Nat.lt_of_lt_of_le hrl hb.size) hne (dZ (t:=(l,false)) hz),?_⟩;clear F hz hb F0 hv hne hrl hr0 hB;generalize v.heap.size=b at hwb ⊢;clear v w2;refine ga (aH env) fd plSr ?_;obtain⟨i0,hi0,hz0,hz1,_⟩:=info_parts (show (Tryz.prog.info? 62).map (fun i=>(i.zero,i.size,i.bytes))=some (some (.agg #[.pointer none,.int .u64 0]),2,16) by kernel_rfl);refine aJO seven ?_ hi0 hz0 hz1 Tryz.underlying63;intro b0 bb;refine ga (aH env) (Hd.frm fd) plSr ?_;refine aI8 54 (.i .i64 (.l 7)) ?_;refine ga (aH env) (Hd.frm fd) plSr ?_;refine tV 8 fun J0 hJ0=>?_;refine ga (aH env) (Hd.frm fd) plSr ?_;refine aK (.pa fun _=>⟨bb,0+0*2,none⟩) (fun B v F=>bX (i:=0) (e:=62) (n:=2) rfl Tryz.underlying63 (by kernel_rfl) (by rw[St.aC];rfl) (by rw[St.aC];rfl) (by decide)) ?_;refine ga (aH env) (Hd.frm fd) plSr ?_;refine aK (.g [.p 0 0,.i .u64 (.l 7)]) (fun B v F=>by
  have hB:B 0=b0:=Option.some.inj F.2;subst hB;exact dD (cs:=[.pointer (some ⟨B 0,0,none⟩),.int .u64 7]) (b:=bb) (off:=0+0*2) rfl (by rw[St.aC];rfl) (fI F.1.now.1 (d:=0*2) rfl) Tryz.underlying62 rfl (by kernel_rfl)) ?_
 refine ga (aH env) (Hd.frm fd) plSr ?_;refine kQ 7 _ rfl (by decide) ?_;refine gn 2 (aH env) (Hd.frm fd) plSr ?_;refine gD 65 (.i .i64 (.cv .i64 (.x fun _=>(aB 7 (l,false).1:Nat)))) (.i .i64 (.x fun _=>(aB 7 (l,false).1:Nat))) (fun B=>congrArg (Value.int .i64) (dI (aD 7 _) (by decide))) ?_;refine ga (aH env) (Hd.frm fd) plSr ?_;refine dL hJ0 fun J1 hJ1=>?_;refine ga (aH env) (Hd.frm fd) plSr ?_;refine aK (.pa fun _=>⟨bb,0+1*2,none⟩) (fun B v F=>bX (i:=1) (e:=62) (n:=2) rfl Tryz.underlying63 (by kernel_rfl) (by rw[St.aC];rfl) (by rw[St.aC];rfl) (by decide)) ?_;refine ga (aH env) (Hd.frm fd) plSr ?_;refine aK (.g [.p 0 1,.i .u64 (.l 7)]) (fun B v F=>by
  have hB:B 0=b0:=Option.some.inj F.2;subst hB;exact dD (cs:=[.pointer (some ⟨B 0,1,none⟩),.int .u64 7]) (b:=bb) (off:=0+1*2) rfl (by rw[St.aC];rfl) (fI F.1.now.1 (d:=1*2) rfl) Tryz.underlying62 rfl (by kernel_rfl)) ?_
 refine ga (aH env) (Hd.frm fd) plSr ?_;refine kQ 7 _ rfl (by decide) ?_;refine gn 2 (aH env) (Hd.frm fd) plSr ?_;refine gD 65 (.i .i64 (.cv .i64 (.x fun _=>(aB 7 (nS 7 (l,false)).1:Nat)))) (.i .i64 (.x fun _=>(aB 7 (nS 7 (l,false)).1:Nat))) (fun B=>congrArg (Value.int .i64) (dI (aD 7 _) (by decide))) ?_;refine ga (aH env) (Hd.frm fd) plSr ?_;refine dL hJ1 fun J2 hJ2=>?_;refine ga (aH env) (Hd.frm fd) plSr ?_;refine aK (.pa fun _=>⟨bb,0+2*2,none⟩) (fun B v F=>bX (i:=2) (e:=62) (n:=2) rfl Tryz.underlying63 (by kernel_rfl) (by rw[St.aC];rfl) (by rw[St.aC];rfl) (by decide)) ?_;refine ga (aH env) (Hd.frm fd) plSr ?_;refine aK (.g [.p 0 2,.i .u64 (.l 64)]) (fun B v F=>by
  have hB:B 0=b0:=Option.some.inj F.2;subst hB;exact dD (cs:=[.pointer (some ⟨B 0,2,none⟩),.int .u64 64]) (b:=bb) (off:=0+2*2) rfl (by rw[St.aC];rfl) (fI F.1.now.1 (d:=2*2) rfl) Tryz.underlying62 rfl (by kernel_rfl)) ?_
 refine ga (aH env) (Hd.frm fd) plSr ?_;refine kQ 64 _ rfl (by decide) ?_;refine gn 2 (aH env) (Hd.frm fd) plSr ?_;refine gD 65 (.i .i64 (.cv .i64 (.x fun _=>(aB 64 (nS 7 (nS 7 (l,false))).1:Nat)))) (.i .i64 (.x fun _=>(aB 64 (nS 7 (nS 7 (l,false))).1:Nat))) (fun B=>congrArg (Value.int .i64) (dI (aD 64 _) (by decide))) ?_;refine ga (aH env) (Hd.frm fd) plSr ?_;refine dL hJ2 fun J3 hJ3=>?_;refine ga (aH env) (Hd.frm fd) plSr ?_;refine aK (.pa fun _=>⟨bb,0+3*2,none⟩) (fun B v F=>bX (i:=3) (e:=62) (n:=2) rfl Tryz.underlying63 (by kernel_rfl) (by rw[St.aC];rfl) (by rw[St.aC];rfl) (by decide)) ?_;refine ga (aH env) (Hd.frm fd) plSr ?_;refine aK (.g [.p 0 3,.i .u64 (.l 64)]) (fun B v F=>by
  have hB:B 0=b0:=Option.some.inj F.2;subst hB;exact dD (cs:=[.pointer (some ⟨B 0,3,none⟩),.int .u64 64]) (b:=bb) (off:=0+3*2) rfl (by rw[St.aC];rfl) (fI F.1.now.1 (d:=3*2) rfl) Tryz.underlying62 rfl (by kernel_rfl)) ?_
 refine ga (aH env) (Hd.frm fd) plSr ?_;refine kQ 64 _ rfl (by decide) ?_;refine gn 2 (aH env) (Hd.frm fd) plSr ?_;refine gD 65 (.i .i64 (.cv .i64 (.x fun _=>(aB 64 (nS 64 (nS 7 (nS 7 (l,false)))).1:Nat)))) (.i .i64 (.x fun _=>(aB 64 (nS 64 (nS 7 (nS 7 (l,false)))).1:Nat))) (fun B=>congrArg (Value.int .i64) (dI (aD 64 _) (by decide))) ?_;refine ga (aH env) (Hd.frm fd) plSr ?_;refine dL hJ3 fun J4 hJ4=>?_;refine ga (aH env) (Hd.frm fd) plSr ?_;refine aK (.pa fun _=>⟨bb,0+4*2,none⟩) (fun B v F=>bX (i:=4) (e:=62) (n:=2) rfl Tryz.underlying63 (by kernel_rfl) (by rw[St.aC];rfl) (by rw[St.aC];rfl) (by decide)) ?_;refine ga (aH env) (Hd.frm fd) plSr ?_;refine aK (.g [.p 0 4,.i .u64 (.l 48)]) (fun B v F=>by
  have hB:B 0=b0:=Option.some.inj F.2;subst hB;exact dD (cs:=[.pointer (some ⟨B 0,4,none⟩),.int .u64 48]) (b:=bb) (off:=0+4*2) rfl (by rw[St.aC];rfl) (fI F.1.now.1 (d:=4*2) rfl) Tryz.underlying62 rfl (by kernel_rfl)) ?_
 refine ga (aH env) (Hd.frm fd) plSr ?_;refine kQ 48 _ rfl (by decide) ?_;refine gn 2 (aH env) (Hd.frm fd) plSr ?_;refine gD 65 (.i .i64 (.cv .i64 (.x fun _=>(aB 48 (nS 64 (nS 64 (nS 7 (nS 7 (l,false))))).1:Nat)))) (.i .i64 (.x fun _=>(aB 48 (nS 64 (nS 64 (nS 7 (nS 7 (l,false))))).1:Nat))) (fun B=>congrArg (Value.int .i64) (dI (aD 48 _) (by decide))) ?_;refine ga (aH env) (Hd.frm fd) plSr ?_;refine dL hJ4 fun J5 hJ5=>?_;refine ga (aH env) (Hd.frm fd) plSr ?_;refine aK (.pa fun _=>⟨bb,0+5*2,none⟩) (fun B v F=>bX (i:=5) (e:=62) (n:=2) rfl Tryz.underlying63 (by kernel_rfl) (by rw[St.aC];rfl) (by rw[St.aC];rfl) (by decide)) ?_;refine ga (aH env) (Hd.frm fd) plSr ?_;refine aK (.g [.p 0 5,.i .u64 (.l 1048576)]) (fun B v F=>by
  have hB:B 0=b0:=Option.some.inj F.2;subst hB;exact dD (cs:=[.pointer (some ⟨B 0,5,none⟩),.int .u64 1048576]) (b:=bb) (off:=0+5*2) rfl (by rw[St.aC];rfl) (fI F.1.now.1 (d:=5*2) rfl) Tryz.underlying62 rfl (by kernel_rfl)) ?_
 refine ga (aH env) (Hd.frm fd) plSr ?_;refine kQ 1048576 _ rfl (by decide) ?_;refine gn 2 (aH env) (Hd.frm fd) plSr ?_;refine gD 65 (.i .i64 (.cv .i64 (.x fun _=>(aB 1048576 (nS 48 (nS 64 (nS 64 (nS 7 (nS 7 (l,false)))))).1:Nat)))) (.i .i64 (.x fun _=>(aB 1048576 (nS 48 (nS 64 (nS 64 (nS 7 (nS 7 (l,false)))))).1:Nat))) (fun B=>congrArg (Value.int .i64) (dI (aD 1048576 _) (by decide))) ?_;refine ga (aH env) (Hd.frm fd) plSr ?_;refine dL hJ5 fun J6 hJ6=>?_;refine ga (aH env) (Hd.frm fd) plSr ?_;refine aK (.pa fun _=>⟨bb,0+6*2,none⟩) (fun B v F=>bX (i:=6) (e:=62) (n:=2) rfl Tryz.underlying63 (by kernel_rfl) (by rw[St.aC];rfl) (by rw[St.aC];rfl) (by decide)) ?_;refine ga (aH env) (Hd.frm fd) plSr ?_;refine aK (.g [.p 0 7,.i .u64 (.l 200)]) (fun B v F=>by
  have hB:B 0=b0:=Option.some.inj F.2;subst hB;exact dD (cs:=[.pointer (some ⟨B 0,7,none⟩),.int .u64 200]) (b:=bb) (off:=0+6*2) rfl (by rw[St.aC];rfl) (fI F.1.now.1 (d:=6*2) rfl) Tryz.underlying62 rfl (by kernel_rfl)) ?_
 refine ga (aH env) (Hd.frm fd) plSr ?_;refine kQ 200 _ rfl (by decide) ?_;refine gn 2 (aH env) (Hd.frm fd) plSr ?_;refine gD 65 (.i .i64 (.cv .i64 (.x fun _=>(aB 200 (nS 1048576 (nS 48 (nS 64 (nS 64 (nS 7 (nS 7 (l,false))))))).1:Nat)))) (.i .i64 (.x fun _=>(aB 200 (nS 1048576 (nS 48 (nS 64 (nS 64 (nS 7 (nS 7 (l,false))))))).1:Nat))) (fun B=>congrArg (Value.int .i64) (dI (aD 200 _) (by decide))) ?_;refine ga (aH env) (Hd.frm fd) plSr ?_;refine dL hJ6 fun J7 hJ7=>?_;clear hJ0 hJ1 hJ2 hJ3 hJ4 hJ5 hJ6 hJ7;have hS:eC (l,false)=eC (l,false):=rfl
 conv at hS=>rhs;unfold eC cf9 cf8 cf7 cf6 cf5 cf4 cf3 cf2 cf1
 generalize aB 200 (nS 1048576 (nS 48 (nS 64 (nS 64 (nS 7 (nS 7 (l,false))))))).1=x7 at hS ⊢;generalize aB 1048576 (nS 48 (nS 64 (nS 64 (nS 7 (nS 7 (l,false)))))).1=x6 at hS ⊢;generalize aB 48 (nS 64 (nS 64 (nS 7 (nS 7 (l,false))))).1=x5 at hS ⊢;generalize aB 64 (nS 64 (nS 7 (nS 7 (l,false)))).1=x4 at hS ⊢;generalize aB 64 (nS 7 (nS 7 (l,false))).1=x3 at hS ⊢;generalize aB 7 (nS 7 (l,false)).1=x2 at hS ⊢;generalize aB 7 (l,false).1=x1 at hS ⊢;generalize (nS 200 (nS 1048576 (nS 48 (nS 64 (nS 64 (nS 7 (nS 7 (l,false))))))))=t7 at hS ⊢;refine bIe (bx:=[aHX x1 x2 x3 x4 x5 x6 (.v (.slice none 0 0)) x7 0]) (FrD b rb w (fun _=>True) (Rz b rb t7) 76 19 (.slice none 0 0) []) (fun B w2 H=>(FrD.less (L:=[(B 0,_)]) H.1).imp fun _ _=>trivial) ?_;refine ga (aH env) fd plSr ?_;refine vS ?_;refine ga (aH env) fd plSr ?_;refine dQ 4096 _ rfl (by decide) ?_;refine ga (aH env) fd plSr ?_;have hN:aB 4096 (iS t7).1<=4096:=aD _ _;generalize hA:actsR (aB 4096 (iS t7).1) (nS 4096 (iS t7))=as0 at hS;generalize aB 4096 (iS t7).1=N at hN hA ⊢;generalize nS 4096 (iS t7)=t9 at hA ⊢;generalize eU t7.1=x8 at hS ⊢;refine eV (AIF b rb w 76) AI.x (fun i:AI N t9=>srL b N i.j) (fun i=>[aHX x1 x2 x3 x4 x5 x6 (.sl (fun _=>i.a) (fun _=>i.j) (fun _=>i.c)) x7 x8]) (fun i=>N-i.j) 95 (AI.zero N t9) (fun _=>rfl) (fun B x=>⟨rfl,rfl,rfl,rfl,trivial⟩) (fun B w1 F x=>AIF.zero F x) ?_;intro i J hJ;unfold AIF;refine ga (aH env) fd plSr ?_;refine⟨fun q=>?_,fun q=>?_⟩
 ·have hlt:i.j<N:=by simpa [BE.den,cmpB,IE.den] using q
  clear q;refine ga (aH env) fd plSr ?_;refine aHy ?_;refine ga (aH env) fd plSr ?_;refine⟨fun q=>?_,fun q=>?_⟩
  ·have hl:=i.last (.inr (by simpa [BE.den] using q));clear q hlt;have hS2:eC (l,false)=(⟨⟨x1,x2,x3,x4,x5,x6⟩,i.L.map (·.1),x7,x8⟩,i.t):=by rw[hS,<- hA,hl.1,hl.2]
   have hj2:=i.hL;have hj3:=i.hj;clear hS hl hA hJ;generalize i.a=a0;generalize i.c=c0;generalize i.t=t8 at hS2 ⊢;generalize i.L=L0 at hS2 hj2 ⊢;generalize i.j=n0 at hj2 hj3 ⊢;refine ga (aH env) fd plSr ?_;intro B w5 F;refine(eZ b _ _ w5 F.z).mono ?_;rintro e w6 ⟨rfl,rfl⟩;rcases cZ t8.1 t8.2 with hE|hE
   case inr =>
    rw[iD hS2 fun h=>by have h:=h.1;simp only at h;omega];refine⟨.i .i64 (.l 20),_,by rw[hE];rfl,fd.b,F,?_⟩;clear F;refine ga (aH env) fd plSr ?_;refine mA env fd ?_;intro B v F;exact⟨[],none,0,0,rfl,cF.zero v,F.kept.below (Nat.le_refl _) fun k hk=>hk ▸ hwb⟩
   refine⟨.i .i64 (.l 0),_,by rw[hE];rfl,fd.b,F,?_⟩;clear F;refine ga (aH env) fd plSr ?_;intro B v F;have hI:∀u,dM u w.heap.size 76 19 (.slice a0 n0 c0) (L0.map fun p=>eQ p.1 p.2)->(∀p ∈ L0,bW u p.1 p.2)->cF u ⟨⟨x1,x2,x3,x4,x5,x6⟩,L0.map (·.1),x7,x8⟩ L0 a0 n0 c0:=fun u h1 h2=>⟨⟨aV.dF h1,hj2,by omega,h2⟩,rfl⟩
   refine(nT ⟨⟨x1,x2,x3,x4,x5,x6⟩,L0.map (·.1),x7,x8⟩ L0 a0 n0 c0 v (hI v F.own F.now.1)).mono ?_
   rintro e w7 ⟨rfl,hb⟩;cases hok:fW ⟨⟨x1,x2,x3,x4,x5,x6⟩,L0.map (·.1),x7,x8⟩ with
   | false =>
    rw[iD hS2 fun h=>by have h:=h.2;simp only at h;rw[hok]at h;cases h];refine⟨.b (.l false),_,rfl,fd.b,F.call hb,?_⟩;clear F hb;refine ga (aH env) fd plSr ?_;refine mA env fd ?_;intro B v F;exact⟨[],none,0,0,rfl,cF.zero v,F.kept.below (Nat.le_refl _) fun k hk=>hk ▸ hwb⟩
   | true =>
    rw[mV hS2 ⟨hE,hok⟩];refine⟨.b (.l true),_,rfl,fd.b,F.call hb,?_⟩;clear F hb;refine ga (aH env) fd plSr ?_;refine mA env fd ?_;intro B v F;exact⟨L0,a0,n0,c0,rfl,hI v F.own F.now.1,F.kept.below (Nat.le_refl _) fun k hk=>hk ▸ hwb⟩
  have hbd:i.t.2=false:=by simpa [BE.den] using q
  clear q;refine ga (aH env) fd plSr ?_;intro B v F;refine(aHA F.z F.lt.2).mono ?_;rintro e w4 ⟨A,rfl,hs,hz,hk⟩;obtain⟨ar,har⟩:∃ar,ar=gC i.t:=⟨_,rfl⟩;rw[<- har]at hs hz ⊢;refine⟨.g (eS ar.1 A),_,rfl,fd.b,F.rdR hk (dZ (t:=ar.2) hz) hs,?_⟩;clear F hs hz hk;obtain⟨a1,t1⟩:=ar;simp only;refine ga (aH env) fd plSr ?_;have hlen:(i.L.map fun p=>eQ p.1 p.2).length=i.j:=by rw[List.length_map,i.hL]
  refine jG yN hlen (Nat.le_trans (Nat.le_of_lt hlt) (Nat.le_trans hN (by decide))) ?_;intro a' g c';refine ga (aH env) fd plSr ?_;refine gS hJ (i.next hlt hbd a1 t1 har A a' c') (fun _=>rfl) (fun _=>(by omega:N-(i.j+1)<N-i.j)) (fun B x=>⟨rfl,rfl,rfl,?_,trivial⟩) (fun B v F x=>AIF.next hlt hbd har F x);simp only[AV.den,IE.den,getT];show Value.int .u64 ((i.j+1:Nat):Int)=_;rw[show ((i.j:Nat):Int)+1=((i.j+1:Nat):Int) from rfl,wrU (by omega)]
 have hl:=i.last (.inl (by
  have:¬i.j<N:=by simpa [BE.den,cmpB,IE.den] using q
  have:=i.hj;omega))
 clear q;have hS2:eC (l,false)=(⟨⟨x1,x2,x3,x4,x5,x6⟩,i.L.map (·.1),x7,x8⟩,i.t):=by rw[hS,<- hA,hl.1,hl.2]
 have hj2:=i.hL;have hj3:=i.hj;clear hS hl hA hJ;generalize i.a=a0;generalize i.c=c0;generalize i.t=t8 at hS2 ⊢;generalize i.L=L0 at hS2 hj2 ⊢;generalize i.j=n0 at hj2 hj3 ⊢;refine ga (aH env) fd plSr ?_;intro B w5 F;refine(eZ b _ _ w5 F.z).mono ?_;rintro e w6 ⟨rfl,rfl⟩;rcases cZ t8.1 t8.2 with hE|hE
 case inr =>
  rw[iD hS2 fun h=>by have h:=h.1;simp only at h;omega];refine⟨.i .i64 (.l 20),_,by rw[hE];rfl,fd.b,F,?_⟩;clear F;refine ga (aH env) fd plSr ?_;refine mA env fd ?_;intro B v F;exact⟨[],none,0,0,rfl,cF.zero v,F.kept.below (Nat.le_refl _) fun k hk=>hk ▸ hwb⟩
 refine⟨.i .i64 (.l 0),_,by rw[hE];rfl,fd.b,F,?_⟩;clear F;refine ga (aH env) fd plSr ?_;intro B v F;have hI:∀u,dM u w.heap.size 76 19 (.slice a0 n0 c0) (L0.map fun p=>eQ p.1 p.2)->(∀p ∈ L0,bW u p.1 p.2)->cF u ⟨⟨x1,x2,x3,x4,x5,x6⟩,L0.map (·.1),x7,x8⟩ L0 a0 n0 c0:=fun u h1 h2=>⟨⟨aV.dF h1,hj2,by omega,h2⟩,rfl⟩
 refine(nT ⟨⟨x1,x2,x3,x4,x5,x6⟩,L0.map (·.1),x7,x8⟩ L0 a0 n0 c0 v (hI v F.own F.now.1)).mono ?_
 rintro e w7 ⟨rfl,hb⟩;cases hok:fW ⟨⟨x1,x2,x3,x4,x5,x6⟩,L0.map (·.1),x7,x8⟩ with
 | false =>
  rw[iD hS2 fun h=>by have h:=h.2;simp only at h;rw[hok]at h;cases h];refine⟨.b (.l false),_,rfl,fd.b,F.call hb,?_⟩;clear F hb;refine ga (aH env) fd plSr ?_;refine mA env fd ?_;intro B v F;exact⟨[],none,0,0,rfl,cF.zero v,F.kept.below (Nat.le_refl _) fun k hk=>hk ▸ hwb⟩
 | true =>
  rw[mV hS2 ⟨hE,hok⟩];refine⟨.b (.l true),_,rfl,fd.b,F.call hb,?_⟩;clear F hb;refine ga (aH env) fd plSr ?_;refine mA env fd ?_;intro B v F;exact⟨L0,a0,n0,c0,rfl,hI v F.own F.now.1,F.kept.below (Nat.le_refl _) fun k hk=>hk ▸ hwb⟩

def plSq:Nat->Option Pl
 | 17=>some ⟨[0,1,0,4,12,31,63,127],8,[.h [0,1,2],.o 3,.o 4,.o 5,.h [6],.o 7],[]⟩
 | _=>none
def sqL (b m:Nat):List (Nat × AV):=[(2,.p 0 0),(4,.p 1 0),(9,.pa (fun _=>⟨b,0,none⟩)),(10,.i .u64 (.x fun _=>(m:Int)))]
def aJE:List AV:=[.i .i64 (.l 0),.i .i64 (.l 0),.i .i64 (.l 0),.i .i64 (.l 0),.i .i64 (.l 0),.i .i64 (.l 0),.v (.slice none 0 0),.i .i64 (.l 0),.i .i64 (.l 0)]
theorem tJ {f:List Nat}{a:Option Addr}{c:Nat}{w:World}(hB:Bytes w (.slice a f.length c) f):Calls Tryz.prog 8 #[.slice a f.length c] w (jB .bool f w):=by
 have F0:Own.Fn (fun _=>False) w w [] (fun u=>Bytes u (.slice a f.length c) f):=⟨Fr.zero w nofun fun v kv=>hB.below (kv.below (Nat.le_refl _) nofun),nofun⟩;refine enter (F:=fun w' L=>Own.Fn (fun _=>False) w w' L (fun u=>Bytes u (.slice a f.length c) f)) (fun _=>0) [.sl (fun _=>a) (fun _=>f.length) (fun _=>c)] [] Tryz.func8 rfl rfl F0 100 rfl ?_;refine ga env (Fn.frm _ _ _) plSq ?_;intro B v F;refine(xN _ f v F.saf.now).mono ?_;rintro e w2 ⟨hb,h1,h2⟩;by_cases hT:dA f=0
 case neg =>
  obtain rfl:=h1 hT;refine⟨.t [.i .u8 (.l 0),.v (.slice none 0 0),.i .i64 (.l 0),.i .i64 (.x fun _=>(dA f:Int))],_,rfl,(Fn.frm _ _ _).b,F.call hb,?_⟩;clear F hb h1 h2;refine ga env (Fn.frm _ _ _) plSq ?_;refine aI 20 true (e:=.cmp .neq (.x fun _=>(dA f:Int)) (.l 0)) (by show ((dA f:Int) != 0)=true;simpa using hT) ?_;refine ga env (Fn.frm _ _ _) plSq ?_;refine fa env (Fn.frm _ _ _) ?_;intro B v F;exact jB.bad (res:=.bool) (if_neg fun h=>hT h.1.1) F.bel
 obtain⟨v',rfl,hB2⟩:=h2 hT;clear h1 h2;obtain⟨a2,c2,rfl,_⟩:=hB2.shape;have hB3:=hB2;obtain⟨rb1,hv1,hne1⟩:∃rb,(aS f = []\/(Value.slice a2 (aS f).length c2).ownBlock=some rb) /\ ∀p ∈ mkB B 0 _,p.1≠rb:=by
  by_cases hl0:f = []
  ·subst hl0;exact absurd hT (by decide)
  ·obtain⟨r0,_,hr0,_⟩:=hB.blk hl0;obtain⟨rb,g1,_,g3⟩:=mU (F.call hb) hB2 hr0;exact⟨rb,g1,g3⟩
 refine⟨.t [.i .u8 (.x fun _=>(f.getD 1 0:Nat)),.sl (fun _=>a2) (fun _=>(aS f).length) (fun _=>c2),.i .i64 (.x fun _=>(frN f+8:Nat)),.i .i64 (.l 0)],(fun w' L=>Own.Fn (fun _=>False) w w' L (fun u=>Bytes u (.slice a2 (aS f).length c2) (aS f)/\Bytes u (.slice a f.length c) f)),rfl,(Fn.frm _ _ _).b,F.next hb (fun u ku=>hB2.nN ku hv1 fun h=>h.elim id fun h=>?_),?_⟩
 ·obtain⟨p,hp,e⟩:=List.mem_map.1 h;exact hne1 p hp e
 clear F hb hB2 hB3 hv1 hne1;refine ga env (Fn.frm _ _ _) plSq ?_;by_cases hk:f.getD 1 0=6
 case neg =>
  refine aI 24 true (e:=.cmp .neq (.x fun _=>(f.getD 1 0:Nat)) (.l 6)) (by show (((f.getD 1 0:Nat):Int) != 6)=true;simp only[bne_iff_ne];omega) ?_;refine ga env (Fn.frm _ _ _) plSq ?_;refine fa env (Fn.frm _ _ _) ?_;intro B v F;exact jB.bad (res:=.bool) (if_neg fun h=>hk h.2) F.bel
 refine aI 24 false (e:=.cmp .neq (.x fun _=>(f.getD 1 0:Nat)) (.l 6)) (by show (((f.getD 1 0:Nat):Int) != 6)=false;rw[hk];rfl) ?_;refine ga env (Fn.frm _ _ _) plSq ?_;refine⟨fun q=>?_,fun q=>?_⟩
 ·have hn:frN f+8≠f.length:=fun e=>by
   have q:(((frN f+8:Nat):Int) != (f.length:Int))=true:=q;rw[e,bne_self_eq_false]at q;cases q
  refine ga env (Fn.frm _ _ _) plSq ?_;refine fa env (Fn.frm _ _ _) ?_;intro B v F;exact jB.bad (res:=.bool) (if_neg fun h=>hn h.1.2) F.bel
 have hW:fK f:=⟨hT,by
  have q:(((frN f+8:Nat):Int) != (f.length:Int))=false:=q;have q:((frN f+8:Nat):Int)=(f.length:Int):=by simpa using q
  omega⟩
 clear q;obtain⟨r0,_,hr0,_⟩:=hB.blk (fun e=>by have:=hW.2;rw[e]at this;cases this);have hF:lB f=lA (aS f):=if_pos ⟨hW,hk⟩;unfold jB;rw[hF];clear hF hk hW hT;generalize aS f=l;refine gn 8 env (Fn.frm _ _ _) plSq ?_;refine iV 2 fun B v F=>?_;obtain⟨rb,hv,hrl,hne⟩:=mU F F.saf.now.1 hr0;have hwb:w.heap.size<=B 2:=(F.rng (B 2,_) (List.mem_cons_of_mem _ (List.mem_cons_of_mem _ List.mem_cons_self))).1;refine⟨FrD (B 2) rb w (fun _=>True) (Rz (B 2) rb (l,false)) 86 19 (.slice none 0 0) [],aKH 86 19 (L:=[(B 0,_),(B 1,_)]) F F.saf.now.1 hv hrl hne,?_⟩;clear F F0 hv hne hrl hr0 hB;generalize B 2=b at hwb ⊢;clear v w2;refine ga env fd plSq ?_;refine cL 7 _ rfl (by decide) ?_;refine gn 1 env fd plSq ?_;refine gD 36 (.i .i64 (.cv .i64 (.x fun _=>(aB 7 (l,false).1:Nat)))) (.i .i64 (.x fun _=>(aB 7 (l,false).1:Nat))) (fun B=>congrArg (Value.int .i64) (dI (aD 7 _) (by decide))) ?_;refine ga env fd plSq ?_;refine cL 7 _ rfl (by decide) ?_;refine gn 1 env fd plSq ?_;refine gD 41 (.i .i64 (.cv .i64 (.x fun _=>(aB 7 (nS 7 (l,false)).1:Nat)))) (.i .i64 (.x fun _=>(aB 7 (nS 7 (l,false)).1:Nat))) (fun B=>congrArg (Value.int .i64) (dI (aD 7 _) (by decide))) ?_;refine ga env fd plSq ?_;refine cL 64 _ rfl (by decide) ?_;refine gn 1 env fd plSq ?_;refine gD 46 (.i .i64 (.cv .i64 (.x fun _=>(aB 64 (nS 7 (nS 7 (l,false))).1:Nat)))) (.i .i64 (.x fun _=>(aB 64 (nS 7 (nS 7 (l,false))).1:Nat))) (fun B=>congrArg (Value.int .i64) (dI (aD 64 _) (by decide))) ?_;refine ga env fd plSq ?_;refine cL 64 _ rfl (by decide) ?_;refine gn 1 env fd plSq ?_;refine gD 51 (.i .i64 (.cv .i64 (.x fun _=>(aB 64 (nS 64 (nS 7 (nS 7 (l,false)))).1:Nat)))) (.i .i64 (.x fun _=>(aB 64 (nS 64 (nS 7 (nS 7 (l,false)))).1:Nat))) (fun B=>congrArg (Value.int .i64) (dI (aD 64 _) (by decide))) ?_;refine ga env fd plSq ?_;refine cL 48 _ rfl (by decide) ?_;refine gn 1 env fd plSq ?_;refine gD 56 (.i .i64 (.cv .i64 (.x fun _=>(aB 48 (nS 64 (nS 64 (nS 7 (nS 7 (l,false))))).1:Nat)))) (.i .i64 (.x fun _=>(aB 48 (nS 64 (nS 64 (nS 7 (nS 7 (l,false))))).1:Nat))) (fun B=>congrArg (Value.int .i64) (dI (aD 48 _) (by decide))) ?_;refine ga env fd plSq ?_;refine cL 1048576 _ rfl (by decide) ?_;refine gn 1 env fd plSq ?_;refine gD 61 (.i .i64 (.cv .i64 (.x fun _=>(aB 1048576 (nS 48 (nS 64 (nS 64 (nS 7 (nS 7 (l,false)))))).1:Nat)))) (.i .i64 (.x fun _=>(aB 1048576 (nS 48 (nS 64 (nS 64 (nS 7 (nS 7 (l,false)))))).1:Nat))) (fun B=>congrArg (Value.int .i64) (dI (aD 1048576 _) (by decide))) ?_;refine ga env fd plSq ?_;refine cL 200 _ rfl (by decide) ?_;refine gn 1 env fd plSq ?_;refine gD 66 (.i .i64 (.cv .i64 (.x fun _=>(aB 200 (nS 1048576 (nS 48 (nS 64 (nS 64 (nS 7 (nS 7 (l,false))))))).1:Nat)))) (.i .i64 (.x fun _=>(aB 200 (nS 1048576 (nS 48 (nS 64 (nS 64 (nS 7 (nS 7 (l,false))))))).1:Nat))) (fun B=>congrArg (Value.int .i64) (dI (aD 200 _) (by decide))) ?_;refine ga env fd plSq ?_;have hS:eC (l,false)=eC (l,false):=rfl
 conv at hS=>rhs;unfold eC cf9 cf8 cf7 cf6 cf5 cf4 cf3 cf2 cf1
 generalize aB 200 (nS 1048576 (nS 48 (nS 64 (nS 64 (nS 7 (nS 7 (l,false))))))).1=x7 at hS ⊢;generalize aB 1048576 (nS 48 (nS 64 (nS 64 (nS 7 (nS 7 (l,false)))))).1=x6 at hS ⊢;generalize aB 48 (nS 64 (nS 64 (nS 7 (nS 7 (l,false))))).1=x5 at hS ⊢;generalize aB 64 (nS 64 (nS 7 (nS 7 (l,false)))).1=x4 at hS ⊢;generalize aB 64 (nS 7 (nS 7 (l,false))).1=x3 at hS ⊢;generalize aB 7 (nS 7 (l,false)).1=x2 at hS ⊢;generalize aB 7 (l,false).1=x1 at hS ⊢;generalize (nS 200 (nS 1048576 (nS 48 (nS 64 (nS 64 (nS 7 (nS 7 (l,false))))))))=t7 at hS ⊢;refine vT ?_;refine ga env fd plSq ?_;refine cL 4096 _ rfl (by decide) ?_;refine ga env fd plSq ?_;have hN:aB 4096 (iS t7).1<=4096:=aD _ _;generalize hA:actsR (aB 4096 (iS t7).1) (nS 4096 (iS t7))=as0 at hS;generalize aB 4096 (iS t7).1=N at hN hA ⊢;generalize nS 4096 (iS t7)=t9 at hA ⊢;generalize eU t7.1=x8 at hS ⊢;refine eV (AIF b rb w 86) AI.x (fun i:AI N t9=>sqL b (N-i.j)) (fun i=>[aJE,aHX x1 x2 x3 x4 x5 x6 (.sl (fun _=>i.a) (fun _=>i.j) (fun _=>i.c)) x7 x8]) (fun i=>N-i.j) 101 (AI.zero N t9) (fun _=>rfl) (fun B x=>⟨rfl,rfl,rfl,rfl,trivial⟩) (fun B w1 F x=>AIF.zero F x) ?_;intro i J hJ;unfold AIF;generalize hm:N-i.j=m;refine ga env fd plSq ?_;by_cases hlt:i.j<N
 case neg =>
  refine aI 75 false (e:=.cmp .gtr (.x fun _=>(m:Int)) (.l 0)) (decide_eq_false (by show ¬(m:Int) > 0;omega)) ?_;have hl:=i.last (.inl (by have:=i.hj;omega));have hS2:eC (l,false)=(⟨⟨x1,x2,x3,x4,x5,x6⟩,i.L.map (·.1),x7,x8⟩,i.t):=by rw[hS,<- hA,hl.1,hl.2]
  have hj2:=i.hL;have hj3:=i.hj;clear hS hl hA hJ;generalize i.a=a0;generalize i.c=c0;generalize i.t=t8 at hS2 ⊢;generalize i.L=L0 at hS2 hj2 ⊢;generalize i.j=n0 at hj2 hj3 ⊢;refine ga env fd plSq ?_;intro B w5 F;refine(fU b _ _ w5 F.z).mono ?_;rintro e w6 ⟨rfl,rfl⟩;rcases cZ t8.1 t8.2 with hE|hE
  case inr =>
   rw[iD hS2 fun h=>by have h:=h.1;simp only at h;omega];refine⟨.i .i64 (.l 20),_,by rw[hE];rfl,fd.b,F,?_⟩;clear F;refine ga env fd plSq ?_;refine fa env fd ?_;intro B v F;exact⟨[],none,0,0,rfl,cF.zero v,F.kept.below (Nat.le_refl _) fun k hk=>hk ▸ hwb⟩
  refine⟨.i .i64 (.l 0),_,by rw[hE];rfl,fd.b,F,?_⟩;clear F;refine ga env fd plSq ?_;intro B v F;have hI:∀u,dM u w.heap.size 86 19 (.slice a0 n0 c0) (L0.map fun p=>eQ p.1 p.2)->(∀p ∈ L0,bW u p.1 p.2)->cF u ⟨⟨x1,x2,x3,x4,x5,x6⟩,L0.map (·.1),x7,x8⟩ L0 a0 n0 c0:=fun u h1 h2=>⟨⟨aV.dF h1,hj2,by omega,h2⟩,rfl⟩
  refine(tI ⟨⟨x1,x2,x3,x4,x5,x6⟩,L0.map (·.1),x7,x8⟩ L0 a0 n0 c0 v (hI v F.own F.now.1)).mono ?_
  rintro e w7 ⟨rfl,hb⟩;cases hok:fW ⟨⟨x1,x2,x3,x4,x5,x6⟩,L0.map (·.1),x7,x8⟩ with
  | false =>
   rw[iD hS2 fun h=>by have h:=h.2;simp only at h;rw[hok]at h;cases h];refine⟨.b (.l false),_,rfl,fd.b,F.call hb,?_⟩;clear F hb;refine ga env fd plSq ?_;refine fa env fd ?_;intro B v F;exact⟨[],none,0,0,rfl,cF.zero v,F.kept.below (Nat.le_refl _) fun k hk=>hk ▸ hwb⟩
  | true =>
   rw[mV hS2 ⟨hE,hok⟩];refine⟨.b (.l true),_,rfl,fd.b,F.call hb,?_⟩;clear F hb;refine ga env fd plSq ?_;refine fa env fd ?_;intro B v F;exact⟨L0,a0,n0,c0,rfl,hI v F.own F.now.1,F.kept.below (Nat.le_refl _) fun k hk=>hk ▸ hwb⟩
 refine aI 75 true (e:=.cmp .gtr (.x fun _=>(m:Int)) (.l 0)) (decide_eq_true (by show (m:Int) > 0;omega)) ?_;refine ga env fd plSq ?_;refine aK (.pa fun _=>⟨b,1,none⟩) (fun B v F=>qO (b:=b) (off:=0) (k:=1) aX rfl (by rw[St.aC];rfl) rfl rfl rfl rfl) ?_;refine ga env fd plSq ?_;cases hbd:i.t.2 with
 | true =>
  refine aK (.b (.l true)) (fun B v F=>gK (b:=b) (off:=1) aX rfl (by rw[St.aC];rfl) rfl rfl (F.z.bad hbd)) ?_;have hl:=i.last (.inr hbd);clear hbd hlt;have hS2:eC (l,false)=(⟨⟨x1,x2,x3,x4,x5,x6⟩,i.L.map (·.1),x7,x8⟩,i.t):=by rw[hS,<- hA,hl.1,hl.2]
  have hj2:=i.hL;have hj3:=i.hj;clear hS hl hA hJ;generalize i.a=a0;generalize i.c=c0;generalize i.t=t8 at hS2 ⊢;generalize i.L=L0 at hS2 hj2 ⊢;generalize i.j=n0 at hj2 hj3 ⊢;refine ga env fd plSq ?_;intro B w5 F;refine(fU b _ _ w5 F.z).mono ?_;rintro e w6 ⟨rfl,rfl⟩;rcases cZ t8.1 t8.2 with hE|hE
  case inr =>
   rw[iD hS2 fun h=>by have h:=h.1;simp only at h;omega];refine⟨.i .i64 (.l 20),_,by rw[hE];rfl,fd.b,F,?_⟩;clear F;refine ga env fd plSq ?_;refine fa env fd ?_;intro B v F;exact⟨[],none,0,0,rfl,cF.zero v,F.kept.below (Nat.le_refl _) fun k hk=>hk ▸ hwb⟩
  refine⟨.i .i64 (.l 0),_,by rw[hE];rfl,fd.b,F,?_⟩;clear F;refine ga env fd plSq ?_;intro B v F;have hI:∀u,dM u w.heap.size 86 19 (.slice a0 n0 c0) (L0.map fun p=>eQ p.1 p.2)->(∀p ∈ L0,bW u p.1 p.2)->cF u ⟨⟨x1,x2,x3,x4,x5,x6⟩,L0.map (·.1),x7,x8⟩ L0 a0 n0 c0:=fun u h1 h2=>⟨⟨aV.dF h1,hj2,by omega,h2⟩,rfl⟩
  refine(tI ⟨⟨x1,x2,x3,x4,x5,x6⟩,L0.map (·.1),x7,x8⟩ L0 a0 n0 c0 v (hI v F.own F.now.1)).mono ?_
  rintro e w7 ⟨rfl,hb⟩;cases hok:fW ⟨⟨x1,x2,x3,x4,x5,x6⟩,L0.map (·.1),x7,x8⟩ with
  | false =>
   rw[iD hS2 fun h=>by have h:=h.2;simp only at h;rw[hok]at h;cases h];refine⟨.b (.l false),_,rfl,fd.b,F.call hb,?_⟩;clear F hb;refine ga env fd plSq ?_;refine fa env fd ?_;intro B v F;exact⟨[],none,0,0,rfl,cF.zero v,F.kept.below (Nat.le_refl _) fun k hk=>hk ▸ hwb⟩
  | true =>
   rw[mV hS2 ⟨hE,hok⟩];refine⟨.b (.l true),_,rfl,fd.b,F.call hb,?_⟩;clear F hb;refine ga env fd plSq ?_;refine fa env fd ?_;intro B v F;exact⟨L0,a0,n0,c0,rfl,hI v F.own F.now.1,F.kept.below (Nat.le_refl _) fun k hk=>hk ▸ hwb⟩
 | false =>
 refine aK (.b (.l false)) (fun B v F=>gK (b:=b) (off:=1) aX rfl (by rw[St.aC];rfl) rfl rfl (F.z.bad hbd)) ?_;refine ga env fd plSq ?_;intro B v F;refine(aHN F.z F.lt.2).mono ?_;rintro e w4 ⟨A,rfl,hs,hz,hk⟩;obtain⟨ar,har⟩:∃ar,ar=gC i.t:=⟨_,rfl⟩;rw[<- har]at hs hz ⊢;refine⟨.g (eS ar.1 A),_,rfl,fd.b,F.rdR hk (dZ (t:=ar.2) hz) hs,?_⟩;clear F hs hz hk;obtain⟨a1,t1⟩:=ar;simp only;refine ga env fd plSq ?_;have hlen:(i.L.map fun p=>eQ p.1 p.2).length=i.j:=by rw[List.length_map,i.hL]
 refine jG pV hlen (Nat.le_trans (Nat.le_of_lt hlt) (Nat.le_trans hN (by decide))) ?_;intro a' g c';refine ga env fd plSq ?_;refine gS hJ (i.next hlt hbd a1 t1 har A a' c') (fun _=>rfl) (fun _=>(by omega:N-(i.j+1)<N-i.j)) (fun B x=>⟨rfl,rfl,rfl,?_,trivial⟩) (fun B v F x=>AIF.next hlt hbd har F x);simp only[AV.den,IE.den,getT];show Value.int .u64 ((N-(i.j+1):Nat):Int)=_;rw[show (m:Int)-1=((N-(i.j+1):Nat):Int) by omega,wrU (by omega)]

def Zk (w:World)(Z:World->Prop)(u:World):Prop:=Kept w u (fun k=>k≠0)/\Z u
theorem FrD.below {w0 w:World}{rb:Nat}{R:World->Prop}{e:TypeId}{sz:Nat}{v:Value}{rs:List (List Value)}{L:Bx}{Z:World->Prop}(F:FrD 0 rb w0 R (Zk w0 Z) e sz v rs w L):Below w0.heap.size w0 w:=by
 have h1:=F.kept;have h2:=F.z.1;refine⟨h1.os,h1.tape,h1.output,h1.size,fun k hk=>?_⟩;by_cases h:k=0
 ·exact h2.block k hk fun h3=>h3 h
 ·exact h1.block k hk h
theorem FrD.begin {w:World}(h0:0<w.heap.size){Z:World->Prop}(e:TypeId)(sz:Nat)(hZ:∀u,Below w.heap.size w u->Z u):FrD 0 0 w (fun _=>True) (Zk w Z) e sz (.slice none 0 0) [] w [] :=
 FrD.start w h0 h0 e sz (Sf.all _ _) fun u bu=>⟨Kept.aM bu fun k h1 h2=>by omega,hZ u bu⟩
structure GI (n:Nat) where
 j:Nat
 a:Option Addr
 c:Nat
 x:Nat->Value
 hj:j<=n
def bIt (s a1:Option Addr)(n c j c1:Nat):List (Nat × AV):=[(3,.sl (fun _=>a1) (fun _=>j) (fun _=>c1)),(6,.sl (fun _=>s) (fun _=>n) (fun _=>c)),(7,.i .i64 (.x fun _=>(n:Int))),(8,.i .i64 (.x fun _=>(j:Int)))]
theorem uY (l:List aY)(a:Option Addr)(n c:Nat)(w:World)(hr:aV w 2 (.slice a n c) (l.map trV))(hn:l.length=n)(hm:n<=2147483648)(h0:0<w.heap.size):Calls Tryz.prog 82 #[.slice a n c] w fun e w'=>∃a' c',e = .returned (.slice a' n c')/\Sf (fun k=>k<w.heap.size) w' (fun u=>aV u 2 (.slice a' n c') (l.map trV))/\Below w.heap.size w w':=by
 have F0:FrD 0 0 w (fun _=>True) (Zk w fun u=>aV u 2 (.slice a n c) (l.map trV)) 121 2 (.slice none 0 0) [] w []:=FrD.begin h0 _ _ fun _ bu=>hr.below bu;refine enter (F:=FrD 0 0 w (fun _=>True) (Zk w fun u=>aV u 2 (.slice a n c) (l.map trV)) 121 2 (.slice none 0 0) []) (fun _=>0) [.sl (fun _=>a) (fun _=>n) (fun _=>c)] [] Tryz.func82 rfl rfl F0 17 rfl ?_;refine ga env fd aA ?_;refine eV (fun i:GI n=>FrD 0 0 w (fun _=>True) (Zk w fun u=>aV u 2 (.slice a n c) (l.map trV)) 121 2 (.slice i.a i.j i.c) ((l.take i.j).map trV)) GI.x (fun i=>bIt a i.a n c i.j i.c) (fun _=>[]) (fun i=>n-i.j) 18 (fun x=>⟨0,none,0,x,Nat.zero_le _⟩) (fun _=>rfl) (fun B x=>⟨rfl,rfl,rfl,rfl,trivial⟩) (fun B w1 F x=>F) ?_;intro i J hJ;refine ga env fd aA ?_;refine⟨fun q=>?_,fun q=>?_⟩
 ·have hlt:i.j<n:=by simpa [BE.den,cmpB,IE.den] using q
  clear q;have hlL:i.j<l.length:=hn ▸ hlt;obtain⟨b,o,rfl,_⟩:=hr.at (j:=i.j) (by rw[List.length_map];exact hlL);have hrg:=fun v (hv:aV v 2 (.slice (some ⟨b,o,none⟩) n c) (l.map trV))=>hv.range (j:=i.j) (by rw[List.length_map];exact hlL);rw[List.getElem_map]at hrg;have htk:l.take (i.j+1)=l.take i.j ++ [l[i.j]]:=List.take_succ_eq_append_getElem hlL;generalize l[i.j]=p at hrg htk;refine ga env fd aA ?_;refine aK (.pa fun _=>⟨b,o+i.j*2,none⟩) (fun B v F=>bX (e:=112) (n:=2) rfl Tryz.underlying74 (by kernel_rfl) (by rw[St.aC];rfl) (by rw[St.aC];rfl) hlt) ?_;refine ga env fd aA ?_;refine aK (.g [.i .u16 (.x fun _=>p.f),.i .u32 (.x fun _=>p.t)]) (fun B v F=>dD (cs:=trV p) (b:=b) (off:=o+i.j*2) rfl (by rw[St.aC];rfl) (hrg _ F.z.2) Tryz.underlying112 rfl (by kernel_rfl)) ?_;refine ga env fd aA ?_;have hlen:((l.take i.j).map trV).length=i.j:=by rw[List.length_map,List.length_take];omega
  refine nA iY hlen (by omega) ?_;intro a' g c';refine ga env fd aA ?_;refine gS hJ (fun x=>⟨i.j+1,a',c',x,hlt⟩) (fun _=>rfl) (fun _=>(by omega:n-(i.j+1)<n-i.j)) (fun B x=>⟨rfl,rfl,rfl,?_,trivial⟩) (fun B v F x=>?_)
  ·simp only[AV.den,IE.den,getT];rw[wrI hlt (by omega)]
  ·show FrD 0 0 w (fun _=>True) (Zk w fun u=>aV u 2 (.slice (some ⟨b,o,none⟩) n c) (l.map trV)) 121 2 (.slice a' (i.j+1) c') ((l.take (i.j+1)).map trV) v [];rw[htk,List.map_append];exact FrD.less (L:=[]) F
 ·have hje:i.j=n:=by
   have:¬i.j<n:=by simpa [BE.den,cmpB,IE.den] using q
   have:=i.hj;omega
  clear q;refine ga env fd aA ?_;refine fa env fd ?_;intro B v F;have hb:=FrD.below F;have ho:=F.own;rw[hje,List.take_of_length_le (by omega)]at ho;exact⟨i.a,i.c,congrArg (fun z=>Ending.returned (.slice i.a z i.c)) hje,(aHn ho).imp fun _ h=>aV.dF h,hb⟩
def plPa:Nat->Option Pl
 | 1=>some ⟨[0,1,0,4,0,16,0,64,0,256,0,1024,0,4096,12288,32767,65535],16384,[.h [0,1,2,3,4,5,6,7,8,9,10,11,12,13],.o 14,.h [15],.o 16],[]⟩
 | _=>none
theorem uU (p:cD)(A:dN)(w:World)(h:bW w p A)(h0:0<w.heap.size):Calls Tryz.prog 34 #[.agg (eQ p A).toArray] w fun e w'=>∃a' c',e = .returned (.agg (eQ p ⟨A.com,a',A.tn,c'⟩).toArray)/\Sf (fun k=>k<w.heap.size) w' (fun u=>aV u 2 (.slice a' A.tn c') (p.ts.map trV))/\Below w.heap.size w w':=by
 have F0:Fr (fun _=>False) w w [] (fun u=>bW u p A/\0<u.heap.size):=Fr.zero w nofun fun v kv=>⟨h.below (kv.below (Nat.le_refl _) nofun),Nat.lt_of_lt_of_le h0 kv.size⟩;clear h h0;refine enter (F:=fun w' L=>Fr (fun _=>False) w w' L (fun u=>bW u p A/\0<u.heap.size)) (fun _=>0) [.g (eS p A)] [] Tryz.func34 rfl rfl F0 18 rfl ?_;refine ga env (Fr.frm _ _ _) plPa ?_;intro B v F;have hn:=F.saf.now.1;refine(uY p.ts A.ta A.tn A.tc v hn.ts hn.n (hn.n ▸ hn.sm) F.saf.now.2).mono ?_;rintro e w2 ⟨a',c',rfl,hs,hb⟩;have hlt:w.heap.size<=v.heap.size:=F.bel.size;refine⟨.sl (fun _=>a') (fun _=>A.tn) (fun _=>c'),(fun w' L=>Fr (fun _=>False) w w' L (fun u=>Sf (fun k=>k<v.heap.size) u (fun u=>aV u 2 (.slice a' A.tn c') (p.ts.map trV))/\bW u p A/\0<u.heap.size)),rfl,(Fr.frm _ _ _).b,F.next hb (fun u ku=>hs.to (ku.mono fun k hk h=>?_)),?_⟩
 ·rcases h with h|h
  ·exact h.elim
  ·obtain⟨q,hq,rfl⟩:=List.mem_map.1 h;exact(F.rng q hq).2
 clear F hs hb hn;refine ga env (Fr.frm _ _ _) plPa ?_;refine fa env (Fr.frm _ _ _) ?_;intro B u F;exact⟨a',c',rfl,fun u2 ku=>F.saf.now.1 u2 (ku.mono fun k hk h=>by omega),F.bel⟩
structure PL (L:List (cD × dN)) where
 j:Nat
 a:Option Addr
 c:Nat
 M:List (cD × dN)
 x:Nat->Value
 hj:j<=L.length
 hM:M.length=j
 he:M.map (fun p=>(p.1,p.2.com))=(L.take j).map fun p=>(p.1,p.2.com)
def PL.zero (L:List (cD × dN))(x:Nat->Value):PL L:=⟨0,none,0,[],x,Nat.zero_le _,rfl,rfl⟩
def PL.next {L:List (cD × dN)}(i:PL L)(h:i.j<L.length)(p:cD)(A:dN)(hp:L[i.j]=(p,A))(B:dN)(hB:B.com=A.com)(a:Option Addr)(c:Nat)(x:Nat->Value):PL L:=⟨i.j+1,a,c,i.M ++ [(p,B)],x,h,by rw[List.length_append,i.hM];rfl,by
 rw[List.map_append,i.he,List.take_succ_eq_append_getElem h,List.map_append,hp];simp[hB]⟩
def aIj (u:World)(p:cD × dN):Prop:=aV u 2 (.slice p.2.ta p.2.tn p.2.tc) (p.1.ts.map trV)/\p.1.ts.length=p.2.tn/\p.1.ts.length<=2147483648
def PLF (w:World)(Z:World->Prop){L:List (cD × dN)}(i:PL L)(v:World)(B:Bx):Prop:=FrD 0 0 w (fun u=>(∀p ∈ i.M,aIj u p)/\True) (Zk w Z) 86 19 (.slice i.a i.j i.c) (i.M.map fun p=>eQ p.1 p.2) v B
theorem PLF.zero {w v:World}{Z:World->Prop}{L:List (cD × dN)}{B:Bx}(F:FrD 0 0 w (fun _=>True) (Zk w Z) 86 19 (.slice none 0 0) [] v B)(x:Nat->Value):PLF w Z (PL.zero L x) v B:=F.imp fun _ _=>⟨fun _ hp=>absurd hp List.not_mem_nil,trivial⟩
theorem PLF.next {w v:World}{Z:World->Prop}{L:List (cD × dN)}{Bs:Bx}{i:PL L}{p:cD}{A B:dN}{a:Option Addr}{c:Nat}(h:i.j<L.length)(hp:L[i.j]=(p,A))(hB:B.com=A.com)
  (F:FrD 0 0 w (fun u=>aIj u (p,B)/\(∀p ∈ i.M,aIj u p)/\True) (Zk w Z) 86 19 (.slice a (i.j+1) c) ((i.M.map fun p=>eQ p.1 p.2) ++ [AV.denL (fun _=>0) (eS p B)]) v Bs) (x:Nat->Value):PLF w Z (i.next h p A hp B hB a c x) v Bs:=by
 unfold PLF PL.next;simp only[List.map_append,List.map_cons,List.map_nil];rw[pE]at F;exact F.imp fun u h=>⟨fun p hp=>by
  rcases List.mem_append.1 hp with hp|hp
  ·exact h.2.1 p hp
  ·obtain rfl:=List.mem_singleton.1 hp;exact h.1,trivial⟩
def plLa:Nat->Option Pl
 | 5=>some ⟨[0,1,0,4,12,31,63,127],8,[.h [0,1,2],.o 3,.o 4,.o 5,.h [6],.o 7],[]⟩
 | _=>none
def pnL (s:Option Addr)(n c j:Nat):List (Nat × AV):=[(2,.p 1 0),(3,.p 2 0),(14,.sl (fun _=>s) (fun _=>n) (fun _=>c)),(15,.i .i64 (.x fun _=>(n:Int))),(16,.i .i64 (.x fun _=>(j:Int)))]
theorem tG (s:gP)(L:List (cD × dN))(a:Option Addr)(n c:Nat)(w:World)(h:cF w s L a n c)(h0:0<w.heap.size):Calls Tryz.prog 10 #[.agg (pA s a n c).toArray] w fun e w'=>∃L' a' c',e = .returned (.agg (pA s a' n c').toArray)/\cF w' s L' a' n c'/\Below w.heap.size w w':=by
 have hn:=h.acts.ln;have hsm:=h.acts.sm;have F0:FrD 0 0 w (fun _=>True) (Zk w fun u=>Below w.heap.size w u/\bI u L a n c) 86 19 (.slice none 0 0) [] w []:=FrD.begin h0 _ _ fun _ bu=>⟨bu,h.acts.below bu⟩;refine enter (F:=FrD 0 0 w (fun _=>True) (Zk w fun u=>Below w.heap.size w u/\bI u L a n c) 86 19 (.slice none 0 0) []) (fun _=>0) [.g (jN s a n c)] [] Tryz.func10 rfl rfl F0 28 rfl ?_;refine ga env fd plLa ?_;refine eV (PLF w fun u=>Below w.heap.size w u/\bI u L a n c) PL.x (fun i:PL L=>pnL a n c i.j) (fun i=>[jN s a n c,aJE,[.i .i64 (.x fun _=>s.cfg.s),.i .i64 (.x fun _=>s.cfg.m),.i .i64 (.x fun _=>s.cfg.el),.i .i64 (.x fun _=>s.cfg.bt),.i .i64 (.x fun _=>s.cfg.ev),.i .i64 (.x fun _=>s.cfg.rm),.sl (fun _=>i.a) (fun _=>i.j) (fun _=>i.c),.i .i64 (.x fun _=>s.rounds),.i .i64 (.x fun _=>s.by')]]) (fun i=>n-i.j) 29 (PL.zero L) (fun _=>rfl) (fun B x=>⟨rfl,rfl,rfl,rfl,rfl,trivial⟩) (fun B w1 F x=>PLF.zero F x) ?_;intro i J hJ;unfold PLF;refine ga env fd plLa ?_;refine⟨fun q=>?_,fun q=>?_⟩
 ·have hlt:i.j<n:=by simpa [BE.den,cmpB,IE.den] using q
  clear q;have hlL:i.j<L.length:=hn ▸ hlt;obtain⟨b,o,rfl⟩:=h.acts.base hlt;have hrg:=fun v (hv:bI v L (some ⟨b,o,none⟩) n c)=>hv.range hlL;have hpm:=List.getElem_mem hlL;obtain⟨p,A,hpe⟩:∃p A,L[i.j]=(p,A):=⟨_,_,rfl⟩;rw[hpe]at hrg hpm;refine ga env fd plLa ?_;refine aK (.pa fun _=>⟨b,o+i.j*19,none⟩) (fun B v F=>bX (e:=76) (n:=19) rfl Tryz.underlying26 (by kernel_rfl) (by rw[St.aC];rfl) (by rw[St.aC];rfl) hlt) ?_;refine ga env fd plLa ?_;refine aK (.g (eS p A)) (fun B v F=>dD (cs:=eQ p A) (b:=b) (off:=o+i.j*19) rfl (by rw[St.aC];rfl) (hrg _ F.z.2.2) Tryz.underlying76 rfl (by kernel_rfl)) ?_;refine ga env fd plLa ?_;intro B v F;have hA:=F.z.2.2.each _ hpm;refine(uU p A v hA F.lt.1).mono ?_;rintro e w2 ⟨ta,tc,rfl,hs,hb⟩;have hts:=hA.n;have htm:=hA.sm;refine⟨.g (eS p ⟨A.com,ta,A.tn,tc⟩),_,rfl,fd.b,F.gG hb (R':=fun u=>aIj u (p,⟨A.com,ta,A.tn,tc⟩)) (hs.imp fun u hu=>⟨hu,hts,htm⟩),?_⟩;clear F hs hb hA;have hlen:(i.M.map fun p=>eQ p.1 p.2).length=i.j:=by rw[List.length_map,i.hM]
  refine ga env fd plLa ?_;refine jG pV hlen (by omega) ?_;intro a' g c';refine ga env fd plLa ?_;refine gS hJ (i.next hlL p A hpe ⟨A.com,ta,A.tn,tc⟩ rfl a' c') (fun _=>rfl) (fun _=>(by omega:n-(i.j+1)<n-i.j)) (fun B x=>⟨rfl,rfl,rfl,rfl,?_,trivial⟩) (fun B v F x=>PLF.next (B:=⟨A.com,ta,A.tn,tc⟩) hlL hpe rfl (FrD.less (L:=[(B 0,_),(B 1,_),(B 2,_)]) F) x);simp only[AV.den,IE.den,getT];rw[wrI hlt (by omega)];rfl
 ·have hje:i.j=n:=by
   have:¬i.j<n:=by simpa [BE.den,cmpB,IE.den] using q
   have:=i.hj;omega
  clear q;refine ga env fd plLa ?_;refine fa env fd ?_;intro B v F;have ho:=F.own;have hM:=i.hM;have he:=i.he;rw[hje]at ho hM he;rw[List.take_of_length_le (by omega)]at he;refine⟨i.M,i.a,i.c,congrArg (fun z=>Ending.returned (.agg (pA s i.a z i.c).toArray)) hje,⟨⟨aV.dF ho,hM,hsm,fun p hp=>?_⟩,?_⟩,FrD.below F⟩
  ·obtain⟨q,hq,e⟩:=List.mem_map.1 (he ▸ List.mem_map.2 ⟨p,hp,rfl⟩:(p.1,p.2.com) ∈ L.map fun p=>(p.1,p.2.com));have h1:=(F.z.2.2.each q hq).com;have e1:q.1=p.1:=(Prod.mk.inj e).1;have e2:q.2.com=p.2.com:=(Prod.mk.inj e).2;have h2:=F.now.1 p hp;exact⟨e1 ▸ e2 ▸ h1,h2.1,h2.2.1,h2.2.2⟩
  ·rw[h.eq];have:=congrArg (List.map (·.1)) he
   rw[List.map_map,List.map_map]at this;exact this.symm

def akL (j:Nat):List (Nat × AV):=[(2,.p 0 0),(3,.p 1 0),(5,.i .i64 (.x fun _=>(j:Int)))]
theorem lF {α:Type}{l m:List α}{j:Nat}(h:l.take j=m.take j)(hl:j<l.length)(hm:j<m.length)(e:l[j]=m[j]):l.take (j+1)=m.take (j+1):=by
 rw[List.take_succ_eq_append_getElem hl,List.take_succ_eq_append_getElem hm,h,e]
theorem uR (a b:cD)(A B:dN)(w:World)(h:bW w a A)(h2:bW w b B):Calls Tryz.prog 33 #[.agg (eQ a A).toArray,.agg (eQ b B).toArray] w fun e w'=>e = .returned (.bool (decide (a=b)))/\Below w.heap.size w w':=by
 obtain⟨Aq,Aa,An,Ac⟩:=A;obtain⟨Bq,Ba,Bn,Bc⟩:=B;have F0:Fe 0 (fun v=>Below w.heap.size w v/\bW v a ⟨Aq,Aa,An,Ac⟩/\bW v b ⟨Bq,Ba,Bn,Bc⟩) w []:=Fe.start fun _ bv=>⟨bv,h.below bv,h2.below bv⟩;have ha:=h.n;have hb:=h2.n;have hsa:=h.sm;simp only at ha hb;refine enter (fun _=>0) [.g (eS a ⟨Aq,Aa,An,Ac⟩),.g (eS b ⟨Bq,Ba,Bn,Bc⟩)] [] Tryz.func33 rfl rfl F0 72 rfl ?_;refine ga env (Fe.frm 0 _) aA ?_;by_cases e0:a.k=b.k
 case neg =>
  refine aI 11 true (e:=.cmp .neq (.x fun _=>a.k) (.x fun _=>b.k)) (by show (a.k != b.k)=true;simpa using e0) ?_;rw[decide_eq_false (fun e:a=b=>e0 (by rw[e]))];refine ga env (Fe.frm 0 _) aA ?_;refine fa env (Fe.frm 0 _) ?_;intro B' v F;exact⟨rfl,F.now.1⟩
 refine aI 11 false (e:=.cmp .neq (.x fun _=>a.k) (.x fun _=>b.k)) (by show (a.k != b.k)=false;simpa using e0) ?_;refine ga env (Fe.frm 0 _) aA ?_;by_cases e1:a.who=b.who
 case neg =>
  refine aI 18 true (e:=.cmp .neq (.x fun _=>a.who) (.x fun _=>b.who)) (by show (a.who != b.who)=true;simpa using e1) ?_;rw[decide_eq_false (fun e:a=b=>e1 (by rw[e]))];refine ga env (Fe.frm 0 _) aA ?_;refine fa env (Fe.frm 0 _) ?_;intro B' v F;exact⟨rfl,F.now.1⟩
 refine aI 18 false (e:=.cmp .neq (.x fun _=>a.who) (.x fun _=>b.who)) (by show (a.who != b.who)=false;simpa using e1) ?_;refine ga env (Fe.frm 0 _) aA ?_;by_cases e2:a.n=b.n
 case neg =>
  refine aI 25 true (e:=.cmp .neq (.x fun _=>a.n) (.x fun _=>b.n)) (by show (a.n != b.n)=true;simpa using e2) ?_;rw[decide_eq_false (fun e:a=b=>e2 (by rw[e]))];refine ga env (Fe.frm 0 _) aA ?_;refine fa env (Fe.frm 0 _) ?_;intro B' v F;exact⟨rfl,F.now.1⟩
 refine aI 25 false (e:=.cmp .neq (.x fun _=>a.n) (.x fun _=>b.n)) (by show (a.n != b.n)=false;simpa using e2) ?_;refine ga env (Fe.frm 0 _) aA ?_;by_cases e3:a.to=b.to
 case neg =>
  refine aI 32 true (e:=.cmp .neq (.x fun _=>a.to) (.x fun _=>b.to)) (by show (a.to != b.to)=true;simpa using e3) ?_;rw[decide_eq_false (fun e:a=b=>e3 (by rw[e]))];refine ga env (Fe.frm 0 _) aA ?_;refine fa env (Fe.frm 0 _) ?_;intro B' v F;exact⟨rfl,F.now.1⟩
 refine aI 32 false (e:=.cmp .neq (.x fun _=>a.to) (.x fun _=>b.to)) (by show (a.to != b.to)=false;simpa using e3) ?_;refine ga env (Fe.frm 0 _) aA ?_;by_cases e4:a.id=b.id
 case neg =>
  refine aI 39 true (e:=.cmp .neq (.x fun _=>a.id) (.x fun _=>b.id)) (by show (a.id != b.id)=true;simpa using e4) ?_;rw[decide_eq_false (fun e:a=b=>e4 (by rw[e]))];refine ga env (Fe.frm 0 _) aA ?_;refine fa env (Fe.frm 0 _) ?_;intro B' v F;exact⟨rfl,F.now.1⟩
 refine aI 39 false (e:=.cmp .neq (.x fun _=>a.id) (.x fun _=>b.id)) (by show (a.id != b.id)=false;simpa using e4) ?_;refine ga env (Fe.frm 0 _) aA ?_;intro B' v F;refine(iU a.com b.com Aq Bq v F.now.2.1.com F.now.2.2.com).mono ?_;rintro e w2 ⟨rfl,hbw⟩;by_cases e5:a.com=b.com
 case neg =>
  refine⟨.b (.l false),_,by rw[decide_eq_false e5];rfl,(Fe.frm 2 _).b,F.on hbw,?_⟩;clear F hbw;rw[decide_eq_false (fun e:a=b=>e5 (by rw[e]))];refine ga env (Fe.frm 2 _) aA ?_;refine fa env (Fe.frm 2 _) ?_;intro B' v F;exact⟨rfl,F.now.1⟩
 refine⟨.b (.l true),_,by rw[decide_eq_true e5];rfl,(Fe.frm 2 _).b,F.on hbw,?_⟩;clear F hbw;refine ga env (Fe.frm 2 _) aA ?_;refine⟨fun q=>?_,fun q=>?_⟩
 ·have e6:¬a.ts=b.ts:=fun e=>by
   have q:((An:Int) != (Bn:Int))=true:=q;rw[<- ha,<- hb,e,bne_self_eq_false]at q;cases q
  rw[decide_eq_false (fun e:a=b=>e6 (by rw[e]))];refine ga env (Fe.frm 2 _) aA ?_;refine fa env (Fe.frm 2 _) ?_;intro B' v F;exact⟨rfl,F.now.1⟩
 have hl:An=Bn:=by
  have q:((An:Int) != (Bn:Int))=false:=q;have q:(An:Int)=(Bn:Int):=by simpa using q
  omega
 clear q;have hts:decide (a=b)=decide (a.ts=b.ts):=by
  obtain⟨k,who,n,to,id,com,ts⟩:=a;obtain⟨k2,who2,n2,to2,id2,com2,ts2⟩:=b;simp only at e0 e1 e2 e3 e4 e5;subst e0 e1 e2 e3 e4 e5;simp
 rw[hts];clear hts e0 e1 e2 e3 e4 e5;refine ga env (Fe.frm 2 _) aA ?_;refine mR (Fe 2 (fun v=>Below w.heap.size w v/\bW v a ⟨Aq,Aa,An,Ac⟩/\bW v b ⟨Bq,Ba,Bn,Bc⟩)) akL 74 An (fun j=>a.ts.take j=b.ts.take j) rfl (fun B=>⟨rfl,rfl,rfl,trivial⟩) (fun _ _ h=>h) ?_;intro i J hJ;refine ga env (Fe.frm 2 _) aA ?_;refine⟨fun q=>?_,fun q=>?_⟩
 ·have hlt:i.j<An:=by simpa [BE.den,cmpB,IE.den] using q
  clear q;have hltb:i.j<Bn:=hl ▸ hlt;have hla:i.j<a.ts.length:=ha ▸ hlt;have hlb:i.j<b.ts.length:=by omega
  obtain⟨ba,oa,rfl,_⟩:=h.ts.at (j:=i.j) (by rw[List.length_map];exact hla);obtain⟨bb,ob,rfl,_⟩:=h2.ts.at (j:=i.j) (by rw[List.length_map];exact hlb);have hra:=fun v (hv:bW v a ⟨Aq,some ⟨ba,oa,none⟩,An,Ac⟩)=>hv.ts.range (j:=i.j) (by rw[List.length_map];exact hla);have hrb:=fun v (hv:bW v b ⟨Bq,some ⟨bb,ob,none⟩,Bn,Bc⟩)=>hv.ts.range (j:=i.j) (by rw[List.length_map];exact hlb);rw[List.getElem_map]at hra hrb;have hnx:=lF i.hp hla hlb;have hne:a.ts[i.j]≠b.ts[i.j]->a.ts≠b.ts:=fun h e=>h (by simp only[e]);generalize a.ts[i.j]=p at hra hnx hne;generalize b.ts[i.j]=q at hrb hnx hne;refine ga env (Fe.frm 2 _) aA ?_;refine aJz env (Fe.frm 2 _) [0,1,0,7,15,0,32,0,224,480,1023] [0,1,2,3,4,5,6,7,8,9,10] [] (fun v=>bW v a ⟨Aq,some ⟨ba,oa,none⟩,An,Ac⟩/\bW v b ⟨Bq,some ⟨bb,ob,none⟩,Bn,Bc⟩) (fun _ _ F=>F.now.2) (fun w o h=>⟨h.1.below ((Below.refl _ _).alloc (Nat.le_refl _) o),h.2.below ((Below.refl _ _).alloc (Nat.le_refl _) o)⟩) ?_;refine jY aX ?_;refine mC (.pa fun _=>⟨ba,oa+i.j*2,none⟩) (fun B' v _=>bX (e:=121) (n:=2) rfl Tryz.underlying84 (by kernel_rfl) (by rw[St.aC];rfl) (by rw[St.aC];rfl) hlt) ?_;refine jY aX ?_;refine mC (.g [.i .u16 (.x fun _=>p.f),.i .u32 (.x fun _=>p.t)]) (fun B' v hv=>dD (cs:=trV p) (b:=ba) (off:=oa+i.j*2) rfl (by rw[St.aC];rfl) (hra _ (hv rfl).2.1) Tryz.underlying121 rfl (by kernel_rfl)) ?_;refine jY aX ?_;refine mC (.pa fun _=>⟨bb,ob+i.j*2,none⟩) (fun B' v _=>bX (e:=121) (n:=2) rfl Tryz.underlying84 (by kernel_rfl) (by rw[St.aC];rfl) (by rw[St.aC];rfl) hltb) ?_;refine jY aX ?_;refine mC (.g [.i .u16 (.x fun _=>q.f),.i .u32 (.x fun _=>q.t)]) (fun B' v hv=>dD (cs:=trV q) (b:=bb) (off:=ob+i.j*2) rfl (by rw[St.aC];rfl) (hrb _ (hv rfl).2.2) Tryz.underlying121 rfl (by kernel_rfl)) ?_;refine jY aX ?_;refine⟨rfl,?_⟩;refine ga env (Fe.frm 2 _) aA ?_;refine⟨fun q2=>?_,fun q2=>?_⟩
  ·have hpq:p≠q:=fun e=>by
    subst e;revert q2;simp[BE.den,cmpB,IE.den]
   rw[decide_eq_false (hne hpq)];refine ga env (Fe.frm 2 _) aA ?_;refine fa env (Fe.frm 2 _) ?_;intro B' v F;exact⟨rfl,F.now.1⟩
  ·have hpq:p=q:=by
    obtain⟨pf,pt⟩:=p;obtain⟨qf,qt⟩:=q;revert q2;simp[BE.den,cmpB,IE.den]
   clear q2;refine ga env (Fe.frm 2 _) aA ?_;refine qR hJ hlt (hnx hpq) (fun B=>⟨rfl,rfl,?_,trivial⟩) (fun _ _ h=>h);simp only[AV.den,IE.den,getT];rw[wrI hlt (by omega)]
 ·have hje:i.j=An:=by
   have:¬i.j<An:=by simpa [BE.den,cmpB,IE.den] using q
   have:=i.hj;omega
  have he:=i.hp;rw[List.take_of_length_le (by omega),List.take_of_length_le (by omega)]at he;rw[decide_eq_true he];clear q;refine ga env (Fe.frm 2 _) aA ?_;refine fa env (Fe.frm 2 _) ?_;intro B' v F;exact⟨rfl,F.now.1⟩
def smL (j:Nat):List (Nat × AV):=[(2,.p 0 0),(3,.p 1 0),(5,.i .i64 (.x fun _=>(j:Int)))]
theorem xM (s t:gP)(L M:List (cD × dN))(a a2:Option Addr)(n n2 c c2:Nat)(w:World)(h:cF w s L a n c)(h2:cF w t M a2 n2 c2):Calls Tryz.prog 9 #[.agg (pA s a n c).toArray,.agg (pA t a2 n2 c2).toArray] w fun e w'=>e = .returned (.bool (decide (s=t)))/\Below w.heap.size w w':=by
 have F0:Fe 0 (fun v=>Below w.heap.size w v/\bI v L a n c/\bI v M a2 n2 c2) w []:=Fe.start fun _ bv=>⟨bv,h.acts.below bv,h2.acts.below bv⟩;have hn:=h.acts.ln;have hn2:=h2.acts.ln;have hsm:=h.acts.sm;obtain⟨cfg,acts,rounds,by1⟩:=s;obtain⟨cfg2,acts2,rounds2,by2⟩:=t;have he:=h.eq;have he2:=h2.eq;simp only at he he2;subst he he2;refine enter (fun _=>0) [.g (jN ⟨cfg,L.map (·.1),rounds,by1⟩ a n c),.g (jN ⟨cfg2,M.map (·.1),rounds2,by2⟩ a2 n2 c2)] [] Tryz.func9 rfl rfl F0 51 rfl ?_
 refine ga env (Fe.frm 0 _) aA ?_;by_cases ec:cfg=cfg2
 case neg =>
  refine aI8 11 (.b (.l true)) ?_ (fun B=>by
   show Value.bool _=Value.bool true;obtain⟨x1,x2,x3,x4,x5,x6⟩:=cfg;obtain⟨y1,y2,y3,y4,y5,y6⟩:=cfg2;simp only[rK.mk.injEq]at ec
   congr 1
   simp[BE.den,cmpB,IE.den];omega)
  refine ga env (Fe.frm 0 _) aA ?_;refine fa env (Fe.frm 0 _) ?_;intro B' v F;exact⟨by rw[decide_eq_false (fun e=>ec (by injection e))];rfl,F.now.1⟩
 subst ec;refine aI8 11 (.b (.l false)) ?_ (fun B=>by
  show Value.bool _=Value.bool false
  congr 1
  simp[BE.den,cmpB,IE.den])
 refine ga env (Fe.frm 0 _) aA ?_;by_cases hr:rounds=rounds2
 case neg =>
  refine aI 18 true (e:=.cmp .neq (.x fun _=>rounds) (.x fun _=>rounds2)) (by show (rounds != rounds2)=true;simpa using hr) ?_;refine ga env (Fe.frm 0 _) aA ?_;refine fa env (Fe.frm 0 _) ?_;intro B' v F;exact⟨by rw[decide_eq_false (fun e=>hr (by injection e))];rfl,F.now.1⟩
 subst hr;refine aI 18 false (e:=.cmp .neq (.x fun _=>rounds) (.x fun _=>rounds)) (by show (rounds != rounds)=false;simp) ?_;refine ga env (Fe.frm 0 _) aA ?_;by_cases hy:by1=by2
 case neg =>
  refine aI 25 true (e:=.cmp .neq (.x fun _=>by1) (.x fun _=>by2)) (by show (by1 != by2)=true;simpa using hy) ?_;refine ga env (Fe.frm 0 _) aA ?_;refine fa env (Fe.frm 0 _) ?_;intro B' v F;exact⟨by rw[decide_eq_false (fun e=>hy (by injection e))];rfl,F.now.1⟩
 subst hy;refine aI 25 false (e:=.cmp .neq (.x fun _=>by1) (.x fun _=>by1)) (by show (by1 != by1)=false;simp) ?_;refine ga env (Fe.frm 0 _) aA ?_;refine⟨fun q=>?_,fun q=>?_⟩
 ·have e6:¬L.map (·.1)=M.map (·.1):=fun e=>by
   have e:=congrArg List.length e;rw[List.length_map,List.length_map,hn,hn2]at e;have q:((n:Int) != (n2:Int))=true:=q;rw[e,bne_self_eq_false]at q;cases q
  refine ga env (Fe.frm 0 _) aA ?_;refine fa env (Fe.frm 0 _) ?_;intro B' v F;exact⟨by rw[decide_eq_false (fun e=>e6 (by injection e))];rfl,F.now.1⟩
 have hl:n2=n:=by
  have q:((n:Int) != (n2:Int))=false:=q;have q:(n:Int)=(n2:Int):=by simpa using q
  omega
 clear q;subst hl;have hts:decide ((⟨cfg,L.map (·.1),rounds,by1⟩:gP)=⟨cfg,M.map (·.1),rounds,by1⟩)=decide (L.map (·.1)=M.map (·.1)):=by simp
 rw[hts];clear hts;have h:=h.acts;have h2:=h2.acts;refine ga env (Fe.frm 0 _) aA ?_;refine mR (Fe 2 (fun v=>Below w.heap.size w v/\bI v L a n2 c/\bI v M a2 n2 c2)) smL 53 n2 (fun j=>(L.map (·.1)).take j=(M.map (·.1)).take j) rfl (fun B=>⟨rfl,rfl,rfl,trivial⟩) (fun _ _ F=>F.on (Below.refl _ _)) ?_
 intro i J hJ;refine ga env (Fe.frm 2 _) aA ?_;refine⟨fun q=>?_,fun q=>?_⟩
 ·have hlt:i.j<n2:=by simpa [BE.den,cmpB,IE.den] using q
  clear q;have hla:i.j<L.length:=by omega
  have hlb:i.j<M.length:=by omega
  obtain⟨ba,oa,rfl⟩:=h.base hlt;obtain⟨bb,ob,rfl⟩:=h2.base hlt;have hra:=fun v (hv:bI v L (some ⟨ba,oa,none⟩) n2 c)=>hv.range hla;have hrb:=fun v (hv:bI v M (some ⟨bb,ob,none⟩) n2 c2)=>hv.range hlb;have hma:=List.getElem_mem hla;have hmb:=List.getElem_mem hlb;have hnx:=lF i.hp (by rw[List.length_map];exact hla) (by rw[List.length_map];exact hlb);have hne:L[i.j].1≠M[i.j].1->L.map (·.1)≠M.map (·.1):=fun h e=>h (by
   have:=congrArg (fun l=>l[i.j]?) e
   simpa [List.getElem?_eq_getElem hla,List.getElem?_eq_getElem hlb] using this)
  rw[List.getElem_map,List.getElem_map]at hnx;generalize L[i.j]=p at hra hma hnx hne;generalize M[i.j]=q at hrb hmb hnx hne;obtain⟨p,A⟩:=p;obtain⟨q,B⟩:=q;simp only at hra hrb hnx hne;refine ga env (Fe.frm 2 _) aA ?_;refine aJz env (Fe.frm 2 _) [0,1,0,7,15,0,32,0,224,480,1023,2047] [0,1,2,3,4,5,6,7,8,9] [.o 10,.h [11]] (fun v=>bI v L (some ⟨ba,oa,none⟩) n2 c/\bI v M (some ⟨bb,ob,none⟩) n2 c2) (fun _ _ F=>F.now.2) (fun w o h=>⟨h.1.below ((Below.refl _ _).alloc (Nat.le_refl _) o),h.2.below ((Below.refl _ _).alloc (Nat.le_refl _) o)⟩) ?_;refine jY aX ?_;refine mC (.pa fun _=>⟨ba,oa+i.j*19,none⟩) (fun B' v _=>bX (e:=86) (n:=19) rfl Tryz.underlying33 (by kernel_rfl) (by rw[St.aC];rfl) (by rw[St.aC];rfl) hlt) ?_;refine jY aX ?_;refine mC (.g (eS p A)) (fun B' v hv=>dD (cs:=eQ p A) (b:=ba) (off:=oa+i.j*19) rfl (by rw[St.aC];rfl) (hra _ (hv rfl).2.1) Tryz.underlying86 rfl (by kernel_rfl)) ?_;refine jY aX ?_;refine mC (.pa fun _=>⟨bb,ob+i.j*19,none⟩) (fun B' v _=>bX (e:=86) (n:=19) rfl Tryz.underlying33 (by kernel_rfl) (by rw[St.aC];rfl) (by rw[St.aC];rfl) hlt) ?_;refine jY aX ?_;refine mC (.g (eS q B)) (fun B' v hv=>dD (cs:=eQ q B) (b:=bb) (off:=ob+i.j*19) rfl (by rw[St.aC];rfl) (hrb _ (hv rfl).2.2) Tryz.underlying86 rfl (by kernel_rfl)) ?_;refine jY aX ?_;refine⟨rfl,?_⟩;refine ga env (Fe.frm 2 _) aA ?_;intro B' v F;refine(uR p q A B v (F.now.2.1.each _ hma) (F.now.2.2.each _ hmb)).mono ?_;rintro e w2 ⟨rfl,hbw⟩;by_cases hpq:p=q
  ·refine⟨.b (.l true),_,by rw[decide_eq_true hpq];rfl,(Fe.frm 2 _).b,F.on hbw,?_⟩;clear F hbw;refine ga env (Fe.frm 2 _) aA ?_;refine qR hJ hlt (hnx hpq) (fun B=>⟨rfl,rfl,?_,trivial⟩) (fun _ _ h=>h);simp only[AV.den,IE.den,getT];rw[wrI hlt (by omega)]
  ·refine⟨.b (.l false),_,by rw[decide_eq_false hpq];rfl,(Fe.frm 2 _).b,F.on hbw,?_⟩;clear F hbw;rw[decide_eq_false (hne hpq)];refine ga env (Fe.frm 2 _) aA ?_;refine fa env (Fe.frm 2 _) ?_;intro B' v F;exact⟨rfl,F.now.1⟩
 ·have hje:i.j=n2:=by
   have:¬i.j<n2:=by simpa [BE.den,cmpB,IE.den] using q
   have:=i.hj;omega
  have he:=i.hp;rw[List.take_of_length_le (by rw[List.length_map];omega),List.take_of_length_le (by rw[List.length_map];omega)]at he;rw[decide_eq_true he];clear q;refine ga env (Fe.frm 2 _) aA ?_;refine fa env (Fe.frm 2 _) ?_;intro B' v F;exact⟨rfl,F.now.1⟩

def aJy:Prop:=∀w,Calls Tryz.prog 6 #[] w fun e w'=>e = .returned (.bool true)/\Below w.heap.size w w'
end Go.Proofs.YtgeihgombjbkbaaGreat
namespace Go.Proofs.YtgeihgombjbkbaaGreat
open Go Go.RowKit Go.Maps Go.Proofs.Own
theorem vR (m1 m2:Nat):∀n t,∀s ∈ (prS m1 m2 n t).1,0<=s.f/\s.f<=m1/\0<=s.t/\s.t<=m2
 | 0,t,s,h=>by cases h
 | n+1,t,s,h=>by
  rw[prS]at h;rcases List.mem_cons.1 h with rfl|h
  ·have h1:=aD m1 t.1;have h2:=aD m2 (nS m1 t).1;exact⟨Int.natCast_nonneg _,Int.ofNat_le.2 h1,Int.natCast_nonneg _,Int.ofNat_le.2 h2⟩
  ·exact vR m1 m2 n _ s h
theorem nC:kL fR:=⟨by decide,by decide,by decide,by decide,by decide⟩
theorem uC (l:List Nat):(aB ALL l:Int)<18446744073709551616:=by
 have:=aD ALL l;unfold ALL at this ⊢;omega
theorem yY (l:List Nat):kL (iG l).1:=by
 unfold iG;split
 ·exact nC
 split
 ·unfold bR dK;have h1:=uC (nS 8 (nS 12 (l,false))).1;have h2:=uC (nF l).1;have h0:=Int.natCast_nonneg (aB 8 (nS 12 (l,false)).1);have h3:=Int.natCast_nonneg (aB ALL (nS 8 (nS 12 (l,false))).1);have h4:=Int.natCast_nonneg (aB ALL (nF l).1);generalize aB ALL (nS 8 (nS 12 (l,false))).1=x at h1 h3 ⊢;generalize aB ALL (nF l).1=y at h2 h4 ⊢;generalize aB 8 (nS 12 (l,false)).1=z at h0 ⊢;split
  ·exact⟨h0,h3,h1,h4,h2⟩
  split
  ·exact⟨h0,h3,h1,h4,h2⟩
  split
  ·exact⟨h0,h3,h1,h4,h2⟩
  split
  ·exact⟨h0,h3,h1,Int.le_refl _,(by decide:(0:Int)<18446744073709551616)⟩
  split
  ·exact⟨h0,h3,h1,Int.le_refl _,(by decide:(0:Int)<18446744073709551616)⟩
  ·exact⟨h0,h3,h1,h4,h2⟩
 ·exact nC
theorem yI (t:RS):kL (fE t).1:=by
 unfold fE;split
 ·exact nC
 ·exact yY _
theorem yK (t:RS):TrR (gX t).1:=by
 unfold gX;intro s hs;have:=vR 65535 4294967295 _ _ s hs;omega
theorem yJ (t:RS):lH (gC t).1:=by
 have h1:=yI (gA t);have h2:=yK (fE (gA t)).2;have h3:=uC (iS (nS 7 (nS 8 (nS 20 t)))).1;unfold gC;generalize gX (fE (gA t)).2=x at h2 ⊢;generalize fE (gA t)=y at h1 ⊢;generalize aB ALL (iS (nS 7 (nS 8 (nS 20 t)))).1=z at h3 ⊢;exact⟨h1,⟨Int.natCast_nonneg _,h3⟩,h2⟩
theorem pG:∀n t,∀a ∈ (actsR n t).1,lH a
 | 0,t,a,h=>by cases h
 | n+1,t,a,h=>by
  rw[actsR]at h;split at h
  ·cases h
  ·rcases List.mem_cons.1 h with rfl|h
   ·exact yJ t
   ·exact pG n _ a h
theorem xS (t:RS):qG (eC t).1:=by
 have h:∀a ∈ (cf9 t).1,lH a:=by unfold cf9;exact pG _ _
 unfold eC;generalize cf9 t=x at h ⊢;exact h
theorem aHY (l:List Nat):qG (lA l).1:=by
 have h:=xS (l,false);unfold lA;generalize eC (l,false)=x at h ⊢;split
 ·exact h
 ·exact fun a ha=>by cases ha
theorem aHZ (f:List Nat):qG (lB f).1:=by
 have h:=aHY (aS f);unfold lB;generalize lA (aS f)=x at h ⊢;split
 ·exact h
 ·exact fun a ha=>by cases ha
def plSo:Nat->Option Pl
 | 5=>some ⟨[0,1,0,7,15,31,63,127,255,511,1023,2047,4095,8191,16383,8191,65535,131071,262143],16384,[.h [0,1,2,3,4,5,6,7,8,9,10,11,12,13,15],.o 14,.o 16,.h [17,18]],[]⟩
 | _=>none
theorem tM (HL:aJy)(l:List Nat)(a1:Option Addr)(c1:Nat)(w:World)(hB:Bytes w (.slice a1 l.length c1) l)(hs:l.length<=20000) :
  Calls Tryz.prog 3 #[.slice a1 l.length c1] w fun e w'=>e = .returned (.bool true)/\Below w.heap.size w w':=by
 have F0:Fe 0 (fun v=>Below w.heap.size w v/\Bytes v (.slice a1 l.length c1) l) w []:=Fe.start fun _ bv=>⟨bv,hB.below bv⟩;have hW:=aKZ hB.lt;have hFt:=aHZ l;clear hB;refine enter (fun _=>0) [.sl (fun _=>a1) (fun _=>l.length) (fun _=>c1)] [] Tryz.func3 rfl rfl F0 61 rfl ?_;refine ga env (Fe.frm 0 _) plSo ?_;refine⟨fun q=>?_,fun q=>?_⟩
 ·exfalso;have q:decide ((l.length:Int) > 20000)=true:=q;simp only[decide_eq_true_eq]at q;omega
 clear q;refine ga env (Fe.frm 0 _) plSo ?_;intro B v F;refine(sY F.now.2).mono ?_;rintro e w2 ⟨L,sa,sn,sc,rfl,hs1,hbw⟩;generalize hF:lB l=SO at hs1 hW hFt ⊢;obtain⟨S,ok⟩:=SO;rcases ok with _|_
 all_goals
  refine⟨.t [.g (jN S sa sn sc),.i .i64 (.l _)],_,rfl,(Fe.frm 0 _).b,F.step hbw (Z:=fun v=>cF v S L sa sn sc) (fun v bv=>hs1.below bv),?_⟩;clear F hbw hs1;refine ga env (Fe.frm 0 _) plSo ?_;intro B v F;refine(tJ F.now.2.2).mono ?_;rintro e w2 ⟨L2,ta,tn,tc,rfl,hs1,hbw⟩;rw[hF]at hs1 ⊢;refine⟨.t [.g (jN S ta tn tc),.b (.l _)],_,rfl,(Fe.frm 1 _).b,F.step hbw (Z:=fun v=>cF v S L2 ta tn tc) (fun v bv=>hs1.below bv),?_⟩;clear F hbw hs1;refine ga env (Fe.frm 1 _) plSo ?_;intro B v F;refine(tG S L sa sn sc v F.now.2.1 (Nat.lt_of_le_of_lt (Nat.zero_le _) ((Fe.frm 1 _).box F (i:=0) rfl).1)).mono ?_;rintro e w2 ⟨L3,ua,uc,rfl,hs1,hbw⟩;refine⟨.g (jN S ua sn uc),_,rfl,(Fe.frm 2 _).b,F.step hbw (Z:=fun v=>cF v S L3 ua sn uc) (fun v bv=>hs1.below bv),?_⟩;clear F hbw hs1;refine ga env (Fe.frm 2 _) plSo ?_;intro B v F;refine(xM S S L3 L2 ua ta sn tn uc tc v F.now.1 F.now.2.1).mono ?_;rintro e w2 ⟨rfl,hbw⟩;rw[decide_eq_true rfl];refine⟨.b (.l true),_,rfl,(Fe.frm 2 _).b,F.on hbw,?_⟩;clear F hbw;refine ga env (Fe.frm 2 _) plSo ?_
 ·intro B v F;refine(HL v).mono ?_;rintro e w2 ⟨rfl,hbw⟩;refine⟨.b (.l true),_,rfl,(Fe.frm 2 _).b,F.on hbw,?_⟩;clear F hbw;refine ga env (Fe.frm 2 _) plSo ?_;refine fa env (Fe.frm 2 _) ?_;intro B v F;exact⟨rfl,F.now.2.2.2.1⟩
 ·obtain⟨h1,h2,h3⟩:=hW rfl;simp only at h1 h2 h3 hFt;intro B v F;have hq:=oZ S L sa sn sc v F.now.2.2.1 hFt (by omega);rw[pD,if_pos h1,if_pos (by omega),<- h2]at hq;refine hq.mono ?_;rintro e w2 ⟨hbw,v8,rfl,hb8⟩;obtain⟨a8,c8,rfl,_⟩:=hb8.shape;refine⟨.t [.sl (fun _=>a8) (fun _=>l.length) (fun _=>c8),.i .i64 (.l 0)],_,rfl,(Fe.frm 2 _).b,F.step hbw (Z:=fun v=>Bytes v (.slice a8 l.length c8) l) (fun v bv=>hb8.below bv),?_⟩;clear F hbw hb8 hq h1 h2 h3 hFt hF;refine ga env (Fe.frm 2 _) plSo ?_;refine aK (.st fun _=>eD l) (fun B u F=>mN rfl (by rw[St.aC];rfl) F.now.1) ?_;refine ga env (Fe.frm 2 _) plSo ?_;refine aK (.st fun _=>eD l) (fun B u F=>mN rfl (by rw[St.aC];rfl) F.now.2.2.2.2.2) ?_;refine ga env (Fe.frm 2 _) plSo ?_;refine aI8 59 (.b (.l true)) ?_ (fun B=>congrArg Value.bool (beq_self_eq_true _));refine ga env (Fe.frm 2 _) plSo ?_;intro B v F;refine(HL v).mono ?_;rintro e w2 ⟨rfl,hbw⟩;refine⟨.b (.l true),_,rfl,(Fe.frm 2 _).b,F.on hbw,?_⟩;clear F hbw;refine ga env (Fe.frm 2 _) plSo ?_;refine fa env (Fe.frm 2 _) ?_;intro B v F;exact⟨rfl,F.now.2.2.2.2.1⟩
