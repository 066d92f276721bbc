/- For scbytes_law_holds. -/
import Derived.Test.YtgeihgombjbkbaaGreatSyb32
set_option maxHeartbeats 16000000
set_option maxRecDepth 100000
namespace Go.Proofs.YtgeihgombjbkbaaGreat
open Go Go.RowKit Go.Maps Go.Proofs.Own
theorem aIB (l m:List aO)(a a2:Option Addr)(n n2 c c2:Nat)(w:World)(hr:aM w 2 (.slice a n c) (l.map trV))(hr2:aM w 2 (.slice a2 n2 c2) (m.map trV))(ha:l.length=n)(hb:m.length=n2)(hs:n<=2147483648):Calls Tryz.prog 51 #[.slice a n c,.slice a2 n2 c2] w fun e w'=>e = .returned (.bool (decide (l=m)))/\Below w.heap.size w w':=by
 have F0:Fe 0 (fun v=>Below w.heap.size w v/\aM v 2 (.slice a n c) (l.map trV)/\aM v 2 (.slice a2 n2 c2) (m.map trV)) w []:=Fe.start fun _ bv=>⟨bv,hr.below bv,hr2.below bv⟩;refine enter (fun _=>0) [.sl (fun _=>a) (fun _=>n) (fun _=>c),.sl (fun _=>a2) (fun _=>n2) (fun _=>c2)] [] Tryz.func51 rfl rfl F0 24 rfl ?_;refine ga env (Fe.frm 0 _) aA ?_;refine⟨fun q=>?_,fun q=>?_⟩
 ·have e6:¬l=m:=fun e=>by
   have q:((n:Int) != (n2:Int))=true:=q;rw[<- ha,<- hb,e,bne_self_eq_false]at q;cases q
  rw[decide_eq_false e6];refine ga env (Fe.frm 0 _) aA ?_;refine fa env (Fe.frm 0 _) ?_;intro B' v F;exact⟨rfl,F.now.1⟩
 have hl:n=n2:=by
  have q:((n:Int) != (n2:Int))=false:=q;have q:(n:Int)=(n2:Int):=by simpa using q
  omega
 clear q;refine ga env (Fe.frm 0 _) aA ?_;refine jB (Fe 0 (fun v=>Below w.heap.size w v/\aM v 2 (.slice a n c) (l.map trV)/\aM v 2 (.slice a2 n2 c2) (m.map trV))) (fun j=>[(0,.sl (fun _=>a) (fun _=>n) (fun _=>c)),(1,.sl (fun _=>a2) (fun _=>n2) (fun _=>c2)),(12,.i .i64 (.x fun _=>(n:Int))),(13,.i .i64 (.x fun _=>(j:Int)))]) 26 n (fun j=>l.take j=m.take j) rfl (fun B=>⟨rfl,rfl,rfl,rfl,trivial⟩) (fun _ _ h=>h) ?_;intro i J hJ;refine ga env (Fe.frm 0 _) aA ?_;refine⟨fun q=>?_,fun q=>?_⟩
 ·have hlt:i.j<n:=by simpa [BE.den,cmpB,IE.den] using q
  clear q;have hltb:i.j<n2:=hl ▸ hlt;have hla:i.j<l.length:=ha ▸ hlt;have hlb:i.j<m.length:=by omega
  obtain⟨ba,oa,rfl,_⟩:=hr.at (j:=i.j) (by rw[List.length_map];exact hla);obtain⟨bb,ob,rfl,_⟩:=hr2.at (j:=i.j) (by rw[List.length_map];exact hlb);have hra:=fun v (hv:aM v 2 (.slice (some ⟨ba,oa,none⟩) n c) (l.map trV))=>hv.range (j:=i.j) (by rw[List.length_map];exact hla);have hrb:=fun v (hv:aM v 2 (.slice (some ⟨bb,ob,none⟩) n2 c2) (m.map trV))=>hv.range (j:=i.j) (by rw[List.length_map];exact hlb);rw[List.getElem_map]at hra hrb;have hnx:=gS i.hp hla hlb;have hne:l[i.j]≠m[i.j]->l≠m:=fun h e=>h (by simp only[e]);generalize l[i.j]=p at hra hnx hne;generalize m[i.j]=q at hrb hnx hne;refine ga env (Fe.frm 0 _) aA ?_;refine sX env (Fe.frm 0 _) [0,0,3,7,0,0,48,112,255] [0,1,2,3,4,5,6,7,8] [] (fun v=>aM v 2 (.slice (some ⟨ba,oa,none⟩) n c) (l.map trV)/\aM v 2 (.slice (some ⟨bb,ob,none⟩) n2 c2) (m.map trV)) (fun _ _ F=>F.now.2) (fun w o h=>⟨h.1.below ((Below.refl _ _).alloc (Nat.le_refl _) o),h.2.below ((Below.refl _ _).alloc (Nat.le_refl _) o)⟩) ?_;refine cV aH ?_;refine eC (.pa fun _=>⟨ba,oa+i.j*2,none⟩) (fun B' v _=>aS (e:=112) (n:=2) rfl Tryz.underlying74 (by kernel_rfl) (by rw[St.aB];rfl) (by rw[St.aB];rfl) hlt) ?_;refine cV aH ?_;refine eC (.g [.i .u16 (.x fun _=>p.f),.i .u32 (.x fun _=>p.t)]) (fun B' v hv=>cC (cs:=trV p) (b:=ba) (off:=oa+i.j*2) rfl (by rw[St.aB];rfl) (hra _ (hv rfl).2.1) Tryz.underlying112 rfl (by kernel_rfl)) ?_;refine cV aH ?_;refine eC (.pa fun _=>⟨bb,ob+i.j*2,none⟩) (fun B' v _=>aS (e:=112) (n:=2) rfl Tryz.underlying74 (by kernel_rfl) (by rw[St.aB];rfl) (by rw[St.aB];rfl) hltb) ?_;refine cV aH ?_;refine eC (.g [.i .u16 (.x fun _=>q.f),.i .u32 (.x fun _=>q.t)]) (fun B' v hv=>cC (cs:=trV q) (b:=bb) (off:=ob+i.j*2) rfl (by rw[St.aB];rfl) (hrb _ (hv rfl).2.2) Tryz.underlying112 rfl (by kernel_rfl)) ?_;refine cV aH ?_;refine⟨rfl,?_⟩;refine ga env (Fe.frm 0 _) aA ?_;refine⟨fun q2=>?_,fun q2=>?_⟩
  ·have hpq:p≠q:=fun e=>by
    subst e;revert q2;simp[BE.den,cmpB,IE.den]
   rw[decide_eq_false (hne hpq)];refine ga env (Fe.frm 0 _) aA ?_;refine fa env (Fe.frm 0 _) ?_;intro B' v F;exact⟨rfl,F.now.1⟩
  ·have hpq:p=q:=by
    obtain⟨pf,pt⟩:=p;obtain⟨qf,qt⟩:=q;revert q2;simp[BE.den,cmpB,IE.den]
   clear q2;refine ga env (Fe.frm 0 _) aA ?_;refine lI hJ hlt (hnx hpq) (fun B=>⟨rfl,rfl,rfl,?_,trivial⟩) (fun _ _ h=>h);simp only[AV.den,IE.den,getT];rw[wrI hlt (by omega)]
 ·have hje:i.j=n:=by
   have:¬i.j<n:=by simpa [BE.den,cmpB,IE.den] using q
   have:=i.hj;omega
  have he:=i.hp;rw[List.take_of_length_le (by omega),List.take_of_length_le (by omega)]at he;rw[decide_eq_true he];clear q;refine ga env (Fe.frm 0 _) aA ?_;refine fa env (Fe.frm 0 _) ?_;intro B' v F;exact⟨rfl,F.now.1⟩
theorem aIA (a b:aL)(A B:aT)(w:World)(h:bO w a A)(h2:bO w b B):Calls Tryz.prog 49 #[.agg (cJ a A).toArray,.agg (cJ b B).toArray] w fun e w'=>e = .returned (.bool (decide (a=b)))/\Below w.heap.size w w':=by
 have F0:Fe 0 (fun v=>Below w.heap.size w v/\bO v a A/\bO v b B) w []:=Fe.start fun _ bv=>⟨bv,h.below bv,h2.below bv⟩;refine enter (fun _=>0) [.g (cN a A),.g (cN b B)] [] Tryz.func49 rfl rfl F0 50 rfl ?_;refine ga env (Fe.frm 0 _) aA ?_;by_cases e0:a.k=b.k
 case neg =>
  refine aI 10 false (e:=.cmp .eql (.x fun _=>a.k) (.x fun _=>b.k)) (by show (a.k==b.k)=false;simpa using e0) ?_;rw[decide_eq_false (fun e:a=b=>e0 (by rw[e]))];refine ga env (Fe.frm 0 _) aA ?_;refine fa env (Fe.frm 0 _) ?_;intro B' v F;exact⟨rfl,F.now.1⟩
 refine aI 10 true (e:=.cmp .eql (.x fun _=>a.k) (.x fun _=>b.k)) (by show (a.k==b.k)=true;simpa using e0) ?_;refine ga env (Fe.frm 0 _) aA ?_;by_cases e1:a.who=b.who
 case neg =>
  refine aI 17 false (e:=.cmp .eql (.x fun _=>a.who) (.x fun _=>b.who)) (by show (a.who==b.who)=false;simpa using e1) ?_;rw[decide_eq_false (fun e:a=b=>e1 (by rw[e]))];refine ga env (Fe.frm 0 _) aA ?_;refine fa env (Fe.frm 0 _) ?_;intro B' v F;exact⟨rfl,F.now.1⟩
 refine aI 17 true (e:=.cmp .eql (.x fun _=>a.who) (.x fun _=>b.who)) (by show (a.who==b.who)=true;simpa using e1) ?_;refine ga env (Fe.frm 0 _) aA ?_;by_cases e2:a.n=b.n
 case neg =>
  refine aI 24 false (e:=.cmp .eql (.x fun _=>a.n) (.x fun _=>b.n)) (by show (a.n==b.n)=false;simpa using e2) ?_;rw[decide_eq_false (fun e:a=b=>e2 (by rw[e]))];refine ga env (Fe.frm 0 _) aA ?_;refine fa env (Fe.frm 0 _) ?_;intro B' v F;exact⟨rfl,F.now.1⟩
 refine aI 24 true (e:=.cmp .eql (.x fun _=>a.n) (.x fun _=>b.n)) (by show (a.n==b.n)=true;simpa using e2) ?_;refine ga env (Fe.frm 0 _) aA ?_;by_cases e3:a.to=b.to
 case neg =>
  refine aI 31 false (e:=.cmp .eql (.x fun _=>a.to) (.x fun _=>b.to)) (by show (a.to==b.to)=false;simpa using e3) ?_;rw[decide_eq_false (fun e:a=b=>e3 (by rw[e]))];refine ga env (Fe.frm 0 _) aA ?_;refine fa env (Fe.frm 0 _) ?_;intro B' v F;exact⟨rfl,F.now.1⟩
 refine aI 31 true (e:=.cmp .eql (.x fun _=>a.to) (.x fun _=>b.to)) (by show (a.to==b.to)=true;simpa using e3) ?_;refine ga env (Fe.frm 0 _) aA ?_;by_cases e4:a.id=b.id
 case neg =>
  refine aI 38 false (e:=.cmp .eql (.x fun _=>a.id) (.x fun _=>b.id)) (by show (a.id==b.id)=false;simpa using e4) ?_;rw[decide_eq_false (fun e:a=b=>e4 (by rw[e]))];refine ga env (Fe.frm 0 _) aA ?_;refine fa env (Fe.frm 0 _) ?_;intro B' v F;exact⟨rfl,F.now.1⟩
 refine aI 38 true (e:=.cmp .eql (.x fun _=>a.id) (.x fun _=>b.id)) (by show (a.id==b.id)=true;simpa using e4) ?_;refine ga env (Fe.frm 0 _) aA ?_;intro B' v F;refine(jG a.com b.com A.com B.com v F.now.2.1.com F.now.2.2.com).mono ?_;rintro e w2 ⟨rfl,hb⟩;by_cases e5:a.com=b.com
 case neg =>
  rw[decide_eq_false e5,decide_eq_false (fun e:a=b=>e5 (by rw[e]))];refine⟨.b (.l false),_,rfl,(Fe.frm 2 _).b,F.on hb,?_⟩;clear F hb;refine ga env (Fe.frm 2 _) aA ?_;refine fa env (Fe.frm 2 _) ?_;intro B' v F;exact⟨rfl,F.now.1⟩
 rw[decide_eq_true e5];refine⟨.b (.l true),_,rfl,(Fe.frm 2 _).b,F.on hb,?_⟩;clear F hb;have hts:decide (a=b)=decide (a.ts=b.ts):=by
  obtain⟨k,who,n,to,id,com,ts⟩:=a;obtain⟨k2,who2,n2,to2,id2,com2,ts2⟩:=b;simp only at e0 e1 e2 e3 e4 e5;subst e0 e1 e2 e3 e4 e5;simp
 rw[hts];clear hts e0 e1 e2 e3 e4 e5;refine ga env (Fe.frm 2 _) aA ?_;intro B' v F;refine(aIB a.ts b.ts A.ta B.ta A.tn B.tn A.tc B.tc v F.now.2.1.ts F.now.2.2.ts h.n h2.n (h.n ▸ h.sm)).mono ?_;rintro e w2 ⟨rfl,hb⟩;refine⟨.b (.x fun _=>decide (a.ts=b.ts)),_,rfl,(Fe.frm 2 _).b,F.on hb,?_⟩;clear F hb;generalize decide (a.ts=b.ts)=q;refine ga env (Fe.frm 2 _) aA ?_;refine fa env (Fe.frm 2 _) ?_;intro B' v F;exact⟨rfl,F.now.1⟩
theorem aIt (L M:List (aL × aT))(a a2:Option Addr)(n n2 c c2:Nat)(w:World)(h:aW w L a n c)(h2:aW w M a2 n2 c2):Calls Tryz.prog 48 #[.slice a n c,.slice a2 n2 c2,.func (.func 49) #[] #[]] w fun e w'=>e = .returned (.bool (decide (L.map (·.1)=M.map (·.1))))/\Below w.heap.size w w':=by
 have F0:Fe 0 (fun v=>Below w.heap.size w v/\aW v L a n c/\aW v M a2 n2 c2) w []:=Fe.start fun _ bv=>⟨bv,h.below bv,h2.below bv⟩;have hn:=h.ln;have hn2:=h2.ln;have hsm:=h.sm;refine enter (fun _=>0) [.sl (fun _=>a) (fun _=>n) (fun _=>c),.sl (fun _=>a2) (fun _=>n2) (fun _=>c2),.f (.func 49) [] []] [] Tryz.func48 rfl rfl F0 29 rfl ?_;refine ga env (Fe.frm 0 _) aA ?_;refine⟨fun q=>?_,fun q=>?_⟩
 ·have e6:¬L.map (·.1)=M.map (·.1):=fun e=>by
   have e:=congrArg List.length e;rw[List.length_map,List.length_map,hn,hn2]at e;have q:((n:Int) != (n2:Int))=true:=q;rw[e,bne_self_eq_false]at q;cases q
  rw[decide_eq_false e6];refine ga env (Fe.frm 0 _) aA ?_;refine fa env (Fe.frm 0 _) ?_;intro B' v F;exact⟨rfl,F.now.1⟩
 have hl:n2=n:=by
  have q:((n:Int) != (n2:Int))=false:=q;have q:(n:Int)=(n2:Int):=by simpa using q
  omega
 clear q;subst hl;refine ga env (Fe.frm 0 _) aA ?_;refine jB (Fe 0 (fun v=>Below w.heap.size w v/\aW v L a n2 c/\aW v M a2 n2 c2)) (fun j=>[(1,.sl (fun _=>a2) (fun _=>n2) (fun _=>c2)),(2,.f (.func 49) [] []),(15,.sl (fun _=>a) (fun _=>n2) (fun _=>c)),(16,.i .i64 (.x fun _=>(n2:Int))),(17,.i .i64 (.x fun _=>(j:Int)))]) 32 n2 (fun j=>(L.map (·.1)).take j=(M.map (·.1)).take j) rfl (fun B=>⟨rfl,rfl,rfl,rfl,rfl,trivial⟩) (fun _ _ F=>F) ?_
 intro i J hJ;refine ga env (Fe.frm 0 _) aA ?_;refine⟨fun q=>?_,fun q=>?_⟩
 ·have hlt:i.j<n2:=by simpa [BE.den,cmpB,IE.den] using q
  clear q;have hla:i.j<L.length:=by omega
  have hlb:i.j<M.length:=by omega
  obtain⟨ba,oa,rfl⟩:=h.base hlt;obtain⟨bb,ob,rfl⟩:=h2.base hlt;have hra:=fun v (hv:aW v L (some ⟨ba,oa,none⟩) n2 c)=>hv.range hla;have hrb:=fun v (hv:aW v M (some ⟨bb,ob,none⟩) n2 c2)=>hv.range hlb;have hma:=List.getElem_mem hla;have hmb:=List.getElem_mem hlb;have hnx:=gS i.hp (by rw[List.length_map];exact hla) (by rw[List.length_map];exact hlb);have hne:L[i.j].1≠M[i.j].1->L.map (·.1)≠M.map (·.1):=fun h e=>h (by
   have h1:=congrArg (fun x:List aL=>x[i.j]?) e;simp only at h1;rw[List.getElem?_map,List.getElem?_map,List.getElem?_eq_getElem hla,List.getElem?_eq_getElem hlb]at h1;exact Option.some.inj h1)
  simp only[List.getElem_map]at hnx;generalize L[i.j]=p at hra hnx hne hma;generalize M[i.j]=q at hrb hnx hne hmb;refine ga env (Fe.frm 0 _) aA ?_;refine aK (.pa fun _=>⟨ba,oa+i.j*19,none⟩) (fun B v F=>aS (e:=76) (n:=19) rfl Tryz.underlying26 (by kernel_rfl) (by rw[St.aB];rfl) (by rw[St.aB];rfl) hlt) ?_;refine ga env (Fe.frm 0 _) aA ?_;refine aK (.g (cN p.1 p.2)) (fun B v F=>cC (cs:=cJ p.1 p.2) (b:=ba) (off:=oa+i.j*19) rfl (by rw[St.aB];rfl) (hra _ F.now.2.1) Tryz.underlying76 rfl (by kernel_rfl)) ?_;refine ga env (Fe.frm 0 _) aA ?_;refine aK (.pa fun _=>⟨bb,ob+i.j*19,none⟩) (fun B v F=>aS (e:=76) (n:=19) rfl Tryz.underlying26 (by kernel_rfl) (by rw[St.aB];rfl) (by rw[St.aB];rfl) hlt) ?_;refine ga env (Fe.frm 0 _) aA ?_;refine aK (.g (cN q.1 q.2)) (fun B v F=>cC (cs:=cJ q.1 q.2) (b:=bb) (off:=ob+i.j*19) rfl (by rw[St.aB];rfl) (hrb _ F.now.2.2) Tryz.underlying76 rfl (by kernel_rfl)) ?_;refine ga env (Fe.frm 0 _) aA ?_;intro B v F;refine(aIA p.1 q.1 p.2 q.2 v (F.now.2.1.each _ hma) (F.now.2.2.each _ hmb)).mono ?_;rintro e w2 ⟨rfl,hb⟩;by_cases hpq:p.1=q.1
  ·rw[decide_eq_true hpq];refine⟨.b (.l true),_,rfl,(Fe.frm 2 _).b,F.on hb,?_⟩;clear F hb;refine mW (Fe 0 (fun v=>Below w.heap.size w v/\aW v L (some ⟨ba,oa,none⟩) n2 c/\aW v M (some ⟨bb,ob,none⟩) n2 c2)) (bx:=[]) (fun B w F=>Fe.start fun _ bv=>F.later bv) ?_;refine ga env (Fe.frm 0 _) aA ?_;refine lI hJ hlt (hnx hpq) (fun B=>⟨rfl,rfl,rfl,rfl,?_,trivial⟩) (fun _ _ h=>h);simp only[AV.den,IE.den,getT];rw[wrI hlt (by omega)]
  ·rw[decide_eq_false hpq,decide_eq_false (hne hpq)];refine⟨.b (.l false),_,rfl,(Fe.frm 2 _).b,F.on hb,?_⟩;clear F hb;refine ga env (Fe.frm 2 _) aA ?_;refine fa env (Fe.frm 2 _) ?_;intro B' v F;exact⟨rfl,F.now.1⟩
 ·have hje:i.j=n2:=by
   have:¬i.j<n2:=by simpa [BE.den,cmpB,IE.den] using q
   have:=i.hj;omega
  have he:=i.hp;rw[List.take_of_length_le (by rw[List.length_map];omega),List.take_of_length_le (by rw[List.length_map];omega)]at he;rw[decide_eq_true he];clear q;refine ga env (Fe.frm 0 _) aA ?_;refine fa env (Fe.frm 0 _) ?_;intro B' v F;exact⟨rfl,F.now.1⟩
theorem iJ (s t:bU)(L M:List (aL × aT))(a a2:Option Addr)(n n2 c c2:Nat)(w:World)(h:aN w s L a n c)(h2:aN w t M a2 n2 c2):Calls Tryz.prog 16 #[.agg (gR s a n c).toArray,.agg (gR t a2 n2 c2).toArray] w fun e w'=>e = .returned (.bool (decide (s=t)))/\Below w.heap.size w w':=by
 have F0:Fe 0 (fun v=>Below w.heap.size w v/\aW v L a n c/\aW v M a2 n2 c2) w []:=Fe.start fun _ bv=>⟨bv,h.acts.below bv,h2.acts.below bv⟩;obtain⟨cfg,acts,rounds,by1⟩:=s;obtain⟨cfg2,acts2,rounds2,by2⟩:=t;have he:=h.eq;have he2:=h2.eq;simp only at he he2;subst he he2;refine enter (fun _=>0) [.g (bH ⟨cfg,L.map (·.1),rounds,by1⟩ a n c),.g (bH ⟨cfg2,M.map (·.1),rounds2,by2⟩ a2 n2 c2)] [] Tryz.func16 rfl rfl F0 29 rfl ?_
 refine ga env (Fe.frm 0 _) aA ?_;by_cases ec:cfg=cfg2
 case neg =>
  refine nF 10 (.b (.l false)) ?_ (fun B=>by
   show Value.bool _=Value.bool false;obtain⟨x1,x2,x3,x4,x5,x6⟩:=cfg;obtain⟨y1,y2,y3,y4,y5,y6⟩:=cfg2;simp only[pF.mk.injEq]at ec
   congr 1
   simp[BE.den,cmpB,IE.den];omega)
  refine ga env (Fe.frm 0 _) aA ?_;refine fa env (Fe.frm 0 _) ?_;intro B' v F;exact⟨by rw[decide_eq_false (fun e=>ec (by injection e))];rfl,F.now.1⟩
 subst ec;refine nF 10 (.b (.l true)) ?_ (fun B=>by
  show Value.bool _=Value.bool true
  congr 1
  simp[BE.den,cmpB,IE.den])
 refine ga env (Fe.frm 0 _) aA ?_;by_cases hr:rounds=rounds2
 case neg =>
  refine aI 17 false (e:=.cmp .eql (.x fun _=>rounds) (.x fun _=>rounds2)) (by show (rounds==rounds2)=false;simpa using hr) ?_;refine ga env (Fe.frm 0 _) aA ?_;refine fa env (Fe.frm 0 _) ?_;intro B' v F;exact⟨by rw[decide_eq_false (fun e=>hr (by injection e))];rfl,F.now.1⟩
 subst hr;refine aI 17 true (e:=.cmp .eql (.x fun _=>rounds) (.x fun _=>rounds)) (by show (rounds==rounds)=true;simp) ?_;refine ga env (Fe.frm 0 _) aA ?_;by_cases hy:by1=by2
 case neg =>
  refine aI 24 false (e:=.cmp .eql (.x fun _=>by1) (.x fun _=>by2)) (by show (by1==by2)=false;simpa using hy) ?_;refine ga env (Fe.frm 0 _) aA ?_;refine fa env (Fe.frm 0 _) ?_;intro B' v F;exact⟨by rw[decide_eq_false (fun e=>hy (by injection e))];rfl,F.now.1⟩
 subst hy;refine aI 24 true (e:=.cmp .eql (.x fun _=>by1) (.x fun _=>by1)) (by show (by1==by1)=true;simp) ?_;refine ga env (Fe.frm 0 _) aA ?_;have hts:decide ((⟨cfg,L.map (·.1),rounds,by1⟩:bU)=⟨cfg,M.map (·.1),rounds,by1⟩)=decide (L.map (·.1)=M.map (·.1)):=by simp
 rw[hts];clear hts;intro B v F;refine(aIt L M a a2 n n2 c c2 v F.now.2.1 F.now.2.2).mono ?_;rintro e w2 ⟨rfl,hb⟩;refine⟨.b (.x fun _=>decide (L.map (·.1)=M.map (·.1))),_,rfl,(Fe.frm 2 _).b,F.on hb,?_⟩
 clear F hb;generalize decide (L.map (·.1)=M.map (·.1))=q
 refine ga env (Fe.frm 2 _) aA ?_;refine fa env (Fe.frm 2 _) ?_;intro B' v F;exact⟨rfl,F.now.1⟩
def ltK (wn cn:Nat):Bool:=decide (wn<=60)&&decide (cn<=60)
def ltC (A:fO):Bool:=ltK A.wn A.cn&&decide (A.ln<=60)
def ltA (A:aT):Bool:=decide (A.tn<=20)&&ltC A.com
theorem wrJ {j n:Nat}(h:j<n)(hn:n<=9223372036854775807):IntKind.i64.wrap ((j:Int)+1)=((j+1:Nat):Int):=by
 rw[IntKind.wrap_i64];omega
theorem aH9 (o:Int)(wa:Option Addr)(wn wc:Nat)(ca:Option Addr)(cn cc:Nat)(w:World):Calls Tryz.prog 133 #[.agg #[.int .i64 o,.slice wa wn wc,.slice ca cn cc]] w fun e w'=>e = .returned (.bool (ltK wn cn))/\Below w.heap.size w w':=by
 have F0:Fe 0 (fun v=>Below w.heap.size w v) w []:=Fe.start fun _ bv=>bv;refine enter (fun _=>0) [.g [.i .i64 (.x fun _=>o),.sl (fun _=>wa) (fun _=>wn) (fun _=>wc),.sl (fun _=>ca) (fun _=>cn) (fun _=>cc)]] [] Tryz.func133 rfl rfl F0 12 rfl ?_;refine ga env (Fe.frm 0 _) aA ?_;by_cases h:wn<=60
 ·refine nF 7 (.b (.l true)) ?_ (fun B=>congrArg Value.bool (show decide ((wn:Int)<=60)=true by simp only[decide_eq_true_eq];omega));refine ga env (Fe.frm 0 _) aA ?_;refine fa env (Fe.frm 0 _) ?_;intro B v F;refine⟨congrArg (fun b=>Ending.returned (.bool b)) ?_,F.now⟩;rw[ltK,decide_eq_true h,Bool.true_and];show decide ((cn:Int)<=60)=decide (cn<=60);exact decide_eq_decide.2 (by omega)
 ·refine nF 7 (.b (.l false)) ?_ (fun B=>congrArg Value.bool (show decide ((wn:Int)<=60)=false by simp only[decide_eq_false_iff_not];omega));refine ga env (Fe.frm 0 _) aA ?_;refine fa env (Fe.frm 0 _) ?_;intro B v F;refine⟨congrArg (fun b=>Ending.returned (.bool b)) ?_,F.now⟩;rw[ltK,decide_eq_false h,Bool.false_and];rfl
theorem aIa (c:cI)(A:fO)(w:World):Calls Tryz.prog 89 #[.agg (gY c A).toArray] w fun e w'=>e = .returned (.bool (ltC A))/\Below w.heap.size w w':=by
 have F0:Fe 0 (fun v=>Below w.heap.size w v) w []:=Fe.start fun _ bv=>bv;refine enter (fun _=>0) [.g (bX (.x fun _=>c.k) c A)] [] Tryz.func89 rfl rfl F0 12 rfl ?_;refine ga env (Fe.frm 0 _) aA ?_;intro B v F;refine(aH9 c.cal.o A.wa A.wn A.wc A.ca A.cn A.cc v).mono ?_;rintro e w2 ⟨rfl,hb⟩;rw[ltC];cases ltK A.wn A.cn with
 | false =>
  refine⟨.b (.l false),_,rfl,(Fe.frm 1 _).b,F.on hb,?_⟩;clear F hb;refine ga env (Fe.frm 1 _) aA ?_;refine fa env (Fe.frm 1 _) ?_;intro B v F;exact⟨rfl,F.now⟩
 | true =>
  refine⟨.b (.l true),_,rfl,(Fe.frm 1 _).b,F.on hb,?_⟩;clear F hb;refine ga env (Fe.frm 1 _) aA ?_;refine fa env (Fe.frm 1 _) ?_;intro B v F;refine⟨congrArg (fun b=>Ending.returned (.bool b)) ?_,F.now⟩;rw[Bool.true_and];show decide ((A.ln:Int)<=60)=decide (A.ln<=60);exact decide_eq_decide.2 (by omega)
theorem sR {L:List (aL × aT)}{j:Nat}(hj:j<L.length)(h:(L.take j).all (fun p=>ltA p.2)=true)(k:ltA L[j].2=true):(L.take (j+1)).all (fun p=>ltA p.2)=true:=by
 rw[List.take_succ_eq_append_getElem hj,List.all_append,h];simp[k]
theorem aIb (L:List (aL × aT))(a:Option Addr)(n c:Nat)(w:World)(h:aM w 19 (.slice a n c) (L.map fun p=>cJ p.1 p.2))(hn:L.length=n)(hs:n<=9223372036854775807):Calls Tryz.prog 41 #[.slice a n c] w fun e w'=>e = .returned (.bool (decide (n<=200)&&L.all fun p=>ltA p.2))/\Below w.heap.size w w':=by
 have F0:Fe 0 (fun v=>Below w.heap.size w v/\aM v 19 (.slice a n c) (L.map fun p=>cJ p.1 p.2)) w []:=Fe.start fun _ bv=>⟨bv,h.below bv⟩;refine enter (fun _=>0) [.sl (fun _=>a) (fun _=>n) (fun _=>c)] [] Tryz.func41 rfl rfl F0 24 rfl ?_;refine ga env (Fe.frm 0 _) aA ?_;refine jB (Fe 0 (fun v=>Below w.heap.size w v/\aM v 19 (.slice a n c) (L.map fun p=>cJ p.1 p.2))) (fun j=>[(0,.sl (fun _=>a) (fun _=>n) (fun _=>c)),(5,.sl (fun _=>a) (fun _=>n) (fun _=>c)),(6,.i .i64 (.x fun _=>(n:Int))),(7,.i .i64 (.x fun _=>(j:Int)))]) 25 n (fun j=>(L.take j).all (fun p=>ltA p.2)=true) rfl (fun B=>⟨rfl,rfl,rfl,rfl,trivial⟩) (fun _ _ F=>F) ?_;intro i J hJ;refine ga env (Fe.frm 0 _) aA ?_;refine⟨fun q=>?_,fun q=>?_⟩
 ·have hlt:i.j<n:=by simpa [BE.den,cmpB,IE.den] using q
  clear q;have hla:i.j<L.length:=by omega
  obtain⟨ba,oa,rfl,_⟩:=h.at (j:=i.j) (by rw[List.length_map];exact hla);have hra:=fun v (hv:aM v 19 (.slice (some ⟨ba,oa,none⟩) n c) (L.map fun p=>cJ p.1 p.2))=>hv.range (j:=i.j) (by rw[List.length_map];exact hla);rw[List.getElem_map]at hra;have hnx:=sR hla i.hp;have hne:ltA L[i.j].2=false->L.all (fun p=>ltA p.2)=false:=fun h=>List.all_eq_false.2 ⟨_,List.getElem_mem hla,by rw[h];decide⟩;generalize L[i.j]=p at hra hnx hne;refine ga env (Fe.frm 0 _) aA ?_;refine aK (.pa fun _=>⟨ba,oa+i.j*19,none⟩) (fun B v F=>aS (e:=76) (n:=19) rfl Tryz.underlying26 (by kernel_rfl) (by rw[St.aB];rfl) (by rw[St.aB];rfl) hlt) ?_;refine ga env (Fe.frm 0 _) aA ?_;refine aK (.g (cN p.1 p.2)) (fun B v F=>cC (cs:=cJ p.1 p.2) (b:=ba) (off:=oa+i.j*19) rfl (by rw[St.aB];rfl) (hra _ F.now.2) Tryz.underlying76 rfl (by kernel_rfl)) ?_;refine ga env (Fe.frm 0 _) aA ?_;by_cases ht:p.2.tn<=20
  case neg =>
   have hf:ltA p.2=false:=by rw[ltA,decide_eq_false ht];rfl
   rw[hne hf,Bool.and_false];refine nF 15 (.b (.l true)) ?_ (fun B=>congrArg Value.bool (show decide ((p.2.tn:Int) > 20)=true by simp only[decide_eq_true_eq];omega));refine ga env (Fe.frm 0 _) aA ?_;refine fa env (Fe.frm 0 _) ?_;intro B v F;exact⟨rfl,F.now.1⟩
  refine nF 15 (.b (.l false)) ?_ (fun B=>congrArg Value.bool (show decide ((p.2.tn:Int) > 20)=false by simp only[decide_eq_false_iff_not];omega));refine ga env (Fe.frm 0 _) aA ?_;intro B v F;refine(aIa p.1.com p.2.com v).mono ?_;rintro e w2 ⟨rfl,hb⟩;cases hc:ltC p.2.com with
  | false =>
   have hf:ltA p.2=false:=by rw[ltA,hc,Bool.and_false]
   rw[hne hf,Bool.and_false];refine⟨.b (.l false),_,rfl,(Fe.frm 1 _).b,F.on hb,?_⟩;clear F hb;refine ga env (Fe.frm 1 _) aA ?_;refine fa env (Fe.frm 1 _) ?_;intro B v F;exact⟨rfl,F.now.1⟩
  | true =>
   have hf:ltA p.2=true:=by rw[ltA,hc,decide_eq_true ht];rfl
   refine⟨.b (.l true),_,rfl,(Fe.frm 1 _).b,F.on hb,?_⟩;clear F hb;refine mW (Fe 0 (fun v=>Below w.heap.size w v/\aM v 19 (.slice (some ⟨ba,oa,none⟩) n c) (L.map fun p=>cJ p.1 p.2))) (bx:=[]) (fun B w F=>Fe.start fun _ bv=>F.later bv) ?_;refine ga env (Fe.frm 0 _) aA ?_;refine lI hJ hlt (hnx hf) (fun B=>⟨rfl,rfl,rfl,?_,trivial⟩) (fun _ _ h=>h);simp only[AV.den,IE.den,getT];rw[wrJ hlt hs]
 ·have hje:i.j=n:=by
   have:¬i.j<n:=by simpa [BE.den,cmpB,IE.den] using q
   have:=i.hj;omega
  have he:=i.hp;rw[List.take_of_length_le (by omega)]at he;rw[he,Bool.and_true];clear q;refine ga env (Fe.frm 0 _) aA ?_;refine fa env (Fe.frm 0 _) ?_;intro B v F;refine⟨congrArg (fun b=>Ending.returned (.bool b)) ?_,F.now.1⟩;show decide ((n:Int)<=200)=decide (n<=200);exact decide_eq_decide.2 (by omega)
theorem lU (s:bU)(L:List (aL × aT))(a:Option Addr)(n c:Nat)(w:World)(h:aM w 19 (.slice a n c) (L.map fun p=>cJ p.1 p.2))(hn:L.length=n)(hs:n<=9223372036854775807):Calls Tryz.prog 13 #[.agg (gR s a n c).toArray] w fun e w'=>e = .returned (.bool (decide (n<=200)&&L.all fun p=>ltA p.2))/\Below w.heap.size w w':=by
 have F0:Fe 0 (fun v=>Below w.heap.size w v/\aM v 19 (.slice a n c) (L.map fun p=>cJ p.1 p.2)) w []:=Fe.start fun _ bv=>⟨bv,h.below bv⟩;refine enter (fun _=>0) [.g (bH s a n c)] [] Tryz.func13 rfl rfl F0 5 rfl ?_;refine ga env (Fe.frm 0 _) aA ?_;intro B v F;refine(aIb L a n c v F.now.2 hn hs).mono ?_;rintro e w2 ⟨rfl,hb⟩;refine⟨.b (.x fun _=>decide (n<=200)&&L.all fun p=>ltA p.2),_,rfl,(Fe.frm 1 _).b,F.on hb,?_⟩;clear F hb;generalize (decide (n<=200)&&L.all fun p=>ltA p.2)=q;refine ga env (Fe.frm 1 _) aA ?_;refine fa env (Fe.frm 1 _) ?_;intro B v F;exact⟨rfl,F.now.1⟩
end Go.Proofs.YtgeihgombjbkbaaGreat
namespace Go.Proofs.YtgeihgombjbkbaaGreat
open Go.RowKit Go.Maps Go.Proofs.Own

def plSr:Nat->Option Pl
 | 6=>some ⟨[0,1,3,7,0,16,48,112,0,256,768,1792,0,4096,12288,28672,0,65536,196608,458752,0,1048576,3145728,7340032,0,16777216,67108863,134217727,0],0,[.h [0,1,2,3,4,5,6,7,8,9,10,11,12,13,14,15,16,17,18,19,20,21,22,23,24,25,28],.o 26,.h [27]],[]⟩
 | 9=>some ⟨[0,1,0,0,8,28,60,127,255],96,[.h [0,1,2,3,4],.o 5,.h [6,7],.o 8],[]⟩
 | 15=>some ⟨[0,1,0,4,12,31,63,127],8,[.h [0,1,2],.o 3,.o 4,.o 5,.h [6],.o 7],[]⟩
 | _=>none
def seven:List AV:=[.p 0 0,.i .u64 (.l 7),.p 0 1,.i .u64 (.l 7),.p 0 2,.i .u64 (.l 64),.p 0 3,.i .u64 (.l 64),.p 0 4,.i .u64 (.l 48),.p 0 5,.i .u64 (.l 1048576),.p 0 7,.i .u64 (.l 200)]
def srL (b N j:Nat):List (Nat × AV):=[(2,.p 0 0),(7,.pa (fun _=>⟨b,0,none⟩)),(72,.i .u64 (.x fun _=>(N:Nat))),(73,.i .u64 (.x fun _=>(j:Int)))]
def aKF (x1 x2 x3 x4 x5 x6:Nat)(a:AV)(x7:Nat)(x8:Int):List AV:=[.i .i64 (.x fun _=>(x1:Int)),.i .i64 (.x fun _=>(x2:Int)),.i .i64 (.x fun _=>(x3:Int)),.i .i64 (.x fun _=>(x4:Int)),.i .i64 (.x fun _=>(x5:Int)),.i .i64 (.x fun _=>(x6:Int)),a,.i .i64 (.x fun _=>(x7:Int)),.i .i64 (.x fun _=>x8)]
def aLX (b:Bool):Value:=.int .i64 (if b then 0 else 20)
theorem uH {f:List Nat}{a:Option Addr}{c:Nat}{w:World}(hB:Bytes w (.slice a f.length c) f):Calls Tryz.prog 7 #[.slice a f.length c] w (nQ aLX f w):=by
 have F0:Own.Fn (fun _=>False) w w [] (fun u=>Bytes u (.slice a f.length c) f):=⟨Fr.zero w nofun fun v kv=>hB.below (kv.below (Nat.le_refl _) nofun),nofun⟩;refine enter (F:=fun w' L=>Own.Fn (fun _=>False) w w' L (fun u=>Bytes u (.slice a f.length c) f)) (fun _=>0) [.sl (fun _=>a) (fun _=>f.length) (fun _=>c)] [] Tryz.func7 rfl rfl F0 94 rfl ?_;refine ga env (Fn.frm _ _ _) plSr ?_;refine aMH ?_;refine ga (aJ env) (Fn.frm _ _ _) plSr ?_;intro B v F;refine(zV _ f v F.saf.now).mono ?_;rintro e w2 ⟨hb,h1,h2⟩;by_cases hW:gJ f
 case neg =>
  obtain rfl:=h1 hW;refine⟨.t [.i .u8 (.l 0),.v (.slice none 0 0),.b (.l false)],_,rfl,(Fn.frm _ _ _).b,F.call hb,?_⟩;clear F hb h1 h2;refine ga (aJ env) (Fn.frm _ _ _) plSr ?_;refine mU env (Fn.frm _ _ _) ?_;intro B v F;exact nQ.bad (res:=aLX) (if_neg fun h=>hW h.1) F.bel
 obtain⟨v',rfl,hB2⟩:=h2 hW;clear h1 h2;obtain⟨a2,c2,rfl,_⟩:=hB2.shape;obtain⟨r0,_,hr0,_⟩:=hB.blk (fun e=>by have:=hW.2;rw[e]at this;cases this);obtain⟨rb1,hv1,_,hne1⟩:=xH (F.call hb) hB2 hr0;refine⟨.t [.i .u8 (.x fun _=>(f.getD 1 0:Nat)),.sl (fun _=>a2) (fun _=>(gH f).length) (fun _=>c2),.b (.l true)],(fun w' L=>Own.Fn (fun _=>False) w w' L (fun u=>Bytes u (.slice a2 (gH f).length c2) (gH f)/\Bytes u (.slice a f.length c) f)),rfl,(Fn.frm _ _ _).b,F.next hb (fun u ku=>hB2.rM ku hv1 fun h=>h.elim id fun h=>?_),?_⟩
 ·obtain⟨p,hp,e⟩:=List.mem_map.1 h;exact hne1 p hp e
 clear F hb hB2 hv1 hne1;refine ga (aJ env) (Fn.frm _ _ _) plSr ?_;refine⟨fun q=>?_,fun q=>?_⟩
 ·have hk:f.getD 1 0≠6:=fun e=>by
   have q:(((f.getD 1 0:Nat):Int) != 6)=true:=q;rw[e]at q;cases q
  refine ga (aJ env) (Fn.frm _ _ _) plSr ?_;refine mU env (Fn.frm _ _ _) ?_;intro B v F;exact nQ.bad (res:=aLX) (if_neg fun h=>hk h.2) F.bel
 have hk:f.getD 1 0=6:=by
  have q:(((f.getD 1 0:Nat):Int) != 6)=false:=q;have q:((f.getD 1 0:Nat):Int)=6:=by simpa using q
  omega
 clear q;have hF:wL f=uV (gH f):=if_pos ⟨hW,hk⟩;unfold nQ;rw[hF];clear hF hk hW;generalize gH f=l;refine ga (aJ env) (Fn.frm _ _ _) plSr ?_;intro B v F;obtain⟨rb,hv,hrl,hne⟩:=xH F F.saf.now.1 hr0;refine(qJ (rb:=rb) _ l v F.saf.now.1 hv (by omega)).mono ?_;rintro e w2 ⟨rfl,hz,hb⟩;have hwb:w.heap.size<=v.heap.size:=F.bel.size;refine⟨.pa (fun _=>⟨v.heap.size,0,none⟩),_,rfl,fd.b,aLK F.toFr hb 76 19 (Nat.le_refl _) hz.lt (Nat.lt_of_lt_of_le hrl hb.size) hne (jY (t:=(l,false)) hz),?_⟩;clear F hz hb F0 hv hne hrl hr0 hB;generalize v.heap.size=b at hwb ⊢;clear v w2;refine ga (aJ env) fd plSr ?_;obtain⟨i0,hi0,hz0,hz1,_⟩:=info_parts (show (Tryz.prog.info? 62).map (fun i=>(i.zero,i.size,i.bytes))=some (some (.agg #[.pointer none,.int .u64 0]),2,16) by kernel_rfl);refine aKS seven ?_ hi0 hz0 hz1 Tryz.underlying63;intro b0 bb;refine ga (aJ env) (Hd.frm fd) plSr ?_;refine nF 54 (.i .i64 (.l 7)) ?_;refine ga (aJ env) (Hd.frm fd) plSr ?_;refine vK 8 fun J0 hJ0=>?_;refine ga (aJ env) (Hd.frm fd) plSr ?_;refine aK (.pa fun _=>⟨bb,0+0*2,none⟩) (fun B v F=>aS (i:=0) (e:=62) (n:=2) rfl Tryz.underlying63 (by kernel_rfl) (by rw[St.aB];rfl) (by rw[St.aB];rfl) (by decide)) ?_;refine ga (aJ env) (Hd.frm fd) plSr ?_;refine aK (.g [.p 0 0,.i .u64 (.l 7)]) (fun B v F=>by
  have hB:B 0=b0:=Option.some.inj F.2;subst hB;exact cC (cs:=[.pointer (some ⟨B 0,0,none⟩),.int .u64 7]) (b:=bb) (off:=0+0*2) rfl (by rw[St.aB];rfl) (fV F.1.now.1 (d:=0*2) rfl) Tryz.underlying62 rfl (by kernel_rfl)) ?_
 refine ga (aJ env) (Hd.frm fd) plSr ?_;refine lK 7 _ rfl (by decide) ?_;refine gn 2 (aJ env) (Hd.frm fd) plSr ?_;refine oE 65 (.i .i64 (.cv .i64 (.x fun _=>(aF 7 (l,false).1:Nat)))) (.i .i64 (.x fun _=>(aF 7 (l,false).1:Nat))) (fun B=>congrArg (Value.int .i64) (jP (aU 7 _) (by decide))) ?_;refine ga (aJ env) (Hd.frm fd) plSr ?_;refine dK hJ0 fun J1 hJ1=>?_;refine ga (aJ env) (Hd.frm fd) plSr ?_;refine aK (.pa fun _=>⟨bb,0+1*2,none⟩) (fun B v F=>aS (i:=1) (e:=62) (n:=2) rfl Tryz.underlying63 (by kernel_rfl) (by rw[St.aB];rfl) (by rw[St.aB];rfl) (by decide)) ?_;refine ga (aJ env) (Hd.frm fd) plSr ?_;refine aK (.g [.p 0 1,.i .u64 (.l 7)]) (fun B v F=>by
  have hB:B 0=b0:=Option.some.inj F.2;subst hB;exact cC (cs:=[.pointer (some ⟨B 0,1,none⟩),.int .u64 7]) (b:=bb) (off:=0+1*2) rfl (by rw[St.aB];rfl) (fV F.1.now.1 (d:=1*2) rfl) Tryz.underlying62 rfl (by kernel_rfl)) ?_
 refine ga (aJ env) (Hd.frm fd) plSr ?_;refine lK 7 _ rfl (by decide) ?_;refine gn 2 (aJ env) (Hd.frm fd) plSr ?_;refine oE 65 (.i .i64 (.cv .i64 (.x fun _=>(aF 7 (nS 7 (l,false)).1:Nat)))) (.i .i64 (.x fun _=>(aF 7 (nS 7 (l,false)).1:Nat))) (fun B=>congrArg (Value.int .i64) (jP (aU 7 _) (by decide))) ?_;refine ga (aJ env) (Hd.frm fd) plSr ?_;refine dK hJ1 fun J2 hJ2=>?_;refine ga (aJ env) (Hd.frm fd) plSr ?_;refine aK (.pa fun _=>⟨bb,0+2*2,none⟩) (fun B v F=>aS (i:=2) (e:=62) (n:=2) rfl Tryz.underlying63 (by kernel_rfl) (by rw[St.aB];rfl) (by rw[St.aB];rfl) (by decide)) ?_;refine ga (aJ env) (Hd.frm fd) plSr ?_;refine aK (.g [.p 0 2,.i .u64 (.l 64)]) (fun B v F=>by
  have hB:B 0=b0:=Option.some.inj F.2;subst hB;exact cC (cs:=[.pointer (some ⟨B 0,2,none⟩),.int .u64 64]) (b:=bb) (off:=0+2*2) rfl (by rw[St.aB];rfl) (fV F.1.now.1 (d:=2*2) rfl) Tryz.underlying62 rfl (by kernel_rfl)) ?_
 refine ga (aJ env) (Hd.frm fd) plSr ?_;refine lK 64 _ rfl (by decide) ?_;refine gn 2 (aJ env) (Hd.frm fd) plSr ?_;refine oE 65 (.i .i64 (.cv .i64 (.x fun _=>(aF 64 (nS 7 (nS 7 (l,false))).1:Nat)))) (.i .i64 (.x fun _=>(aF 64 (nS 7 (nS 7 (l,false))).1:Nat))) (fun B=>congrArg (Value.int .i64) (jP (aU 64 _) (by decide))) ?_;refine ga (aJ env) (Hd.frm fd) plSr ?_;refine dK hJ2 fun J3 hJ3=>?_;refine ga (aJ env) (Hd.frm fd) plSr ?_;refine aK (.pa fun _=>⟨bb,0+3*2,none⟩) (fun B v F=>aS (i:=3) (e:=62) (n:=2) rfl Tryz.underlying63 (by kernel_rfl) (by rw[St.aB];rfl) (by rw[St.aB];rfl) (by decide)) ?_;refine ga (aJ env) (Hd.frm fd) plSr ?_;refine aK (.g [.p 0 3,.i .u64 (.l 64)]) (fun B v F=>by
  have hB:B 0=b0:=Option.some.inj F.2;subst hB;exact cC (cs:=[.pointer (some ⟨B 0,3,none⟩),.int .u64 64]) (b:=bb) (off:=0+3*2) rfl (by rw[St.aB];rfl) (fV F.1.now.1 (d:=3*2) rfl) Tryz.underlying62 rfl (by kernel_rfl)) ?_
 refine ga (aJ env) (Hd.frm fd) plSr ?_;refine lK 64 _ rfl (by decide) ?_;refine gn 2 (aJ env) (Hd.frm fd) plSr ?_;refine oE 65 (.i .i64 (.cv .i64 (.x fun _=>(aF 64 (nS 64 (nS 7 (nS 7 (l,false)))).1:Nat)))) (.i .i64 (.x fun _=>(aF 64 (nS 64 (nS 7 (nS 7 (l,false)))).1:Nat))) (fun B=>congrArg (Value.int .i64) (jP (aU 64 _) (by decide))) ?_;refine ga (aJ env) (Hd.frm fd) plSr ?_;refine dK hJ3 fun J4 hJ4=>?_;refine ga (aJ env) (Hd.frm fd) plSr ?_;refine aK (.pa fun _=>⟨bb,0+4*2,none⟩) (fun B v F=>aS (i:=4) (e:=62) (n:=2) rfl Tryz.underlying63 (by kernel_rfl) (by rw[St.aB];rfl) (by rw[St.aB];rfl) (by decide)) ?_;refine ga (aJ env) (Hd.frm fd) plSr ?_;refine aK (.g [.p 0 4,.i .u64 (.l 48)]) (fun B v F=>by
  have hB:B 0=b0:=Option.some.inj F.2;subst hB;exact cC (cs:=[.pointer (some ⟨B 0,4,none⟩),.int .u64 48]) (b:=bb) (off:=0+4*2) rfl (by rw[St.aB];rfl) (fV F.1.now.1 (d:=4*2) rfl) Tryz.underlying62 rfl (by kernel_rfl)) ?_
 refine ga (aJ env) (Hd.frm fd) plSr ?_;refine lK 48 _ rfl (by decide) ?_;refine gn 2 (aJ env) (Hd.frm fd) plSr ?_;refine oE 65 (.i .i64 (.cv .i64 (.x fun _=>(aF 48 (nS 64 (nS 64 (nS 7 (nS 7 (l,false))))).1:Nat)))) (.i .i64 (.x fun _=>(aF 48 (nS 64 (nS 64 (nS 7 (nS 7 (l,false))))).1:Nat))) (fun B=>congrArg (Value.int .i64) (jP (aU 48 _) (by decide))) ?_;refine ga (aJ env) (Hd.frm fd) plSr ?_;refine dK hJ4 fun J5 hJ5=>?_;refine ga (aJ env) (Hd.frm fd) plSr ?_;refine aK (.pa fun _=>⟨bb,0+5*2,none⟩) (fun B v F=>aS (i:=5) (e:=62) (n:=2) rfl Tryz.underlying63 (by kernel_rfl) (by rw[St.aB];rfl) (by rw[St.aB];rfl) (by decide)) ?_;refine ga (aJ env) (Hd.frm fd) plSr ?_;refine aK (.g [.p 0 5,.i .u64 (.l 1048576)]) (fun B v F=>by
  have hB:B 0=b0:=Option.some.inj F.2;subst hB;exact cC (cs:=[.pointer (some ⟨B 0,5,none⟩),.int .u64 1048576]) (b:=bb) (off:=0+5*2) rfl (by rw[St.aB];rfl) (fV F.1.now.1 (d:=5*2) rfl) Tryz.underlying62 rfl (by kernel_rfl)) ?_
 refine ga (aJ env) (Hd.frm fd) plSr ?_;refine lK 1048576 _ rfl (by decide) ?_;refine gn 2 (aJ env) (Hd.frm fd) plSr ?_;refine oE 65 (.i .i64 (.cv .i64 (.x fun _=>(aF 1048576 (nS 48 (nS 64 (nS 64 (nS 7 (nS 7 (l,false)))))).1:Nat)))) (.i .i64 (.x fun _=>(aF 1048576 (nS 48 (nS 64 (nS 64 (nS 7 (nS 7 (l,false)))))).1:Nat))) (fun B=>congrArg (Value.int .i64) (jP (aU 1048576 _) (by decide))) ?_;refine ga (aJ env) (Hd.frm fd) plSr ?_;refine dK hJ5 fun J6 hJ6=>?_;refine ga (aJ env) (Hd.frm fd) plSr ?_;refine aK (.pa fun _=>⟨bb,0+6*2,none⟩) (fun B v F=>aS (i:=6) (e:=62) (n:=2) rfl Tryz.underlying63 (by kernel_rfl) (by rw[St.aB];rfl) (by rw[St.aB];rfl) (by decide)) ?_;refine ga (aJ env) (Hd.frm fd) plSr ?_;refine aK (.g [.p 0 7,.i .u64 (.l 200)]) (fun B v F=>by
  have hB:B 0=b0:=Option.some.inj F.2;subst hB;exact cC (cs:=[.pointer (some ⟨B 0,7,none⟩),.int .u64 200]) (b:=bb) (off:=0+6*2) rfl (by rw[St.aB];rfl) (fV F.1.now.1 (d:=6*2) rfl) Tryz.underlying62 rfl (by kernel_rfl)) ?_
 refine ga (aJ env) (Hd.frm fd) plSr ?_;refine lK 200 _ rfl (by decide) ?_;refine gn 2 (aJ env) (Hd.frm fd) plSr ?_;refine oE 65 (.i .i64 (.cv .i64 (.x fun _=>(aF 200 (nS 1048576 (nS 48 (nS 64 (nS 64 (nS 7 (nS 7 (l,false))))))).1:Nat)))) (.i .i64 (.x fun _=>(aF 200 (nS 1048576 (nS 48 (nS 64 (nS 64 (nS 7 (nS 7 (l,false))))))).1:Nat))) (fun B=>congrArg (Value.int .i64) (jP (aU 200 _) (by decide))) ?_;refine ga (aJ env) (Hd.frm fd) plSr ?_;refine dK hJ6 fun J7 hJ7=>?_;clear hJ0 hJ1 hJ2 hJ3 hJ4 hJ5 hJ6 hJ7;have hS:iP (l,false)=iP (l,false):=rfl
 conv at hS=>rhs;unfold iP cf9 cf8 cf7 cf6 cf5 cf4 cf3 cf2 cf1
 generalize aF 200 (nS 1048576 (nS 48 (nS 64 (nS 64 (nS 7 (nS 7 (l,false))))))).1=x7 at hS ⊢;generalize aF 1048576 (nS 48 (nS 64 (nS 64 (nS 7 (nS 7 (l,false)))))).1=x6 at hS ⊢;generalize aF 48 (nS 64 (nS 64 (nS 7 (nS 7 (l,false))))).1=x5 at hS ⊢;generalize aF 64 (nS 64 (nS 7 (nS 7 (l,false)))).1=x4 at hS ⊢;generalize aF 64 (nS 7 (nS 7 (l,false))).1=x3 at hS ⊢;generalize aF 7 (nS 7 (l,false)).1=x2 at hS ⊢;generalize aF 7 (l,false).1=x1 at hS ⊢;generalize (nS 200 (nS 1048576 (nS 48 (nS 64 (nS 64 (nS 7 (nS 7 (l,false))))))))=t7 at hS ⊢;refine mW (bx:=[aKF x1 x2 x3 x4 x5 x6 (.v (.slice none 0 0)) x7 0]) (FrD b rb w (fun _=>True) (Rz b rb t7) 76 19 (.slice none 0 0) []) (fun B w2 H=>(FrD.less (L:=[(B 0,_)]) H.1).imp fun _ _=>trivial) ?_;refine ga (aJ env) fd plSr ?_;refine xG ?_;refine ga (aJ env) fd plSr ?_;refine dP 4096 _ rfl (by decide) ?_;refine ga (aJ env) fd plSr ?_;have hN:aF 4096 (iS t7).1<=4096:=aU _ _;generalize hA:actsR (aF 4096 (iS t7).1) (nS 4096 (iS t7))=as0 at hS;generalize aF 4096 (iS t7).1=N at hN hA ⊢;generalize nS 4096 (iS t7)=t9 at hA ⊢;generalize iY t7.1=x8 at hS ⊢;refine dI (AIF b rb w 76) AI.x (fun i:AI N t9=>srL b N i.j) (fun i=>[aKF x1 x2 x3 x4 x5 x6 (.sl (fun _=>i.a) (fun _=>i.j) (fun _=>i.c)) x7 x8]) (fun i=>N-i.j) 95 (AI.zero N t9) (fun _=>rfl) (fun B x=>⟨rfl,rfl,rfl,rfl,trivial⟩) (fun B w1 F x=>AIF.zero F x) ?_;intro i J hJ;unfold AIF;refine ga (aJ env) fd plSr ?_;refine⟨fun q=>?_,fun q=>?_⟩
 ·have hlt:i.j<N:=by simpa [BE.den,cmpB,IE.den] using q
  clear q;refine ga (aJ env) fd plSr ?_;refine aIC ?_;refine ga (aJ env) fd plSr ?_;refine⟨fun q=>?_,fun q=>?_⟩
  ·have hl:=i.last (.inr (by simpa [BE.den] using q));clear q hlt;have hS2:iP (l,false)=(⟨⟨x1,x2,x3,x4,x5,x6⟩,i.L.map (·.1),x7,x8⟩,i.t):=by rw[hS,<- hA,hl.1,hl.2]
   have hj2:=i.hL;have hj3:=i.hj;clear hS hl hA hJ;generalize i.a=a0;generalize i.c=c0;generalize i.t=t8 at hS2 ⊢;generalize i.L=L0 at hS2 hj2 ⊢;generalize i.j=n0 at hj2 hj3 ⊢;refine ga (aJ env) fd plSr ?_;intro B w5 F;refine(fK b _ _ w5 F.z).mono ?_;rintro e w6 ⟨rfl,rfl⟩;rcases gN t8.1 t8.2 with hE|hE
   case inr =>
    rw[nM hS2 fun h=>by have h:=h.1;simp only at h;omega];refine⟨.i .i64 (.l 20),_,by rw[hE];rfl,fd.b,F,?_⟩;clear F;refine ga (aJ env) fd plSr ?_;refine mU env fd ?_;intro B v F;exact⟨[],none,0,0,rfl,aN.zero v,F.kept.below (Nat.le_refl _) fun k hk=>hk ▸ hwb⟩
   refine⟨.i .i64 (.l 0),_,by rw[hE];rfl,fd.b,F,?_⟩;clear F;refine ga (aJ env) fd plSr ?_;intro B v F;have hI:∀u,dZ u w.heap.size 76 19 (.slice a0 n0 c0) (L0.map fun p=>cJ p.1 p.2)->(∀p ∈ L0,bO u p.1 p.2)->aN u ⟨⟨x1,x2,x3,x4,x5,x6⟩,L0.map (·.1),x7,x8⟩ L0 a0 n0 c0:=fun u h1 h2=>⟨⟨aM.fU h1,hj2,by omega,h2⟩,rfl⟩
   refine(lX ⟨⟨x1,x2,x3,x4,x5,x6⟩,L0.map (·.1),x7,x8⟩ L0 a0 n0 c0 v (hI v F.own F.now.1)).mono ?_
   rintro e w7 ⟨rfl,hb⟩;cases hok:eZ ⟨⟨x1,x2,x3,x4,x5,x6⟩,L0.map (·.1),x7,x8⟩ with
   | false =>
    rw[nM hS2 fun h=>by have h:=h.2;simp only at h;rw[hok]at h;cases h];refine⟨.b (.l false),_,rfl,fd.b,F.call hb,?_⟩;clear F hb;refine ga (aJ env) fd plSr ?_;refine mU env fd ?_;intro B v F;exact⟨[],none,0,0,rfl,aN.zero v,F.kept.below (Nat.le_refl _) fun k hk=>hk ▸ hwb⟩
   | true =>
    rw[xK hS2 ⟨hE,hok⟩];refine⟨.b (.l true),_,rfl,fd.b,F.call hb,?_⟩;clear F hb;refine ga (aJ env) fd plSr ?_;refine mU env fd ?_;intro B v F;exact⟨L0,a0,n0,c0,rfl,hI v F.own F.now.1,F.kept.below (Nat.le_refl _) fun k hk=>hk ▸ hwb⟩
  have hbd:i.t.2=false:=by simpa [BE.den] using q
  clear q;refine ga (aJ env) fd plSr ?_;intro B v F;refine(aIE F.z F.lt.2).mono ?_;rintro e w4 ⟨A,rfl,hs,hz,hk⟩;obtain⟨ar,har⟩:∃ar,ar=lC i.t:=⟨_,rfl⟩;rw[<- har]at hs hz ⊢;refine⟨.g (cN ar.1 A),_,rfl,fd.b,F.rdR hk (jY (t:=ar.2) hz) hs,?_⟩;clear F hs hz hk;obtain⟨a1,t1⟩:=ar;simp only;refine ga (aJ env) fd plSr ?_;have hlen:(i.L.map fun p=>cJ p.1 p.2).length=i.j:=by rw[List.length_map,i.hL]
  refine mG aAi hlen (Nat.le_trans (Nat.le_of_lt hlt) (Nat.le_trans hN (by decide))) ?_;intro a' g c';refine ga (aJ env) fd plSr ?_;refine eI hJ (i.next hlt hbd a1 t1 har A a' c') (fun _=>rfl) (fun _=>(by omega:N-(i.j+1)<N-i.j)) (fun B x=>⟨rfl,rfl,rfl,?_,trivial⟩) (fun B v F x=>AIF.next hlt hbd har F x);simp only[AV.den,IE.den,getT];show Value.int .u64 ((i.j+1:Nat):Int)=_;rw[show ((i.j:Nat):Int)+1=((i.j+1:Nat):Int) from rfl,wrU (by omega)]
 have hl:=i.last (.inl (by
  have:¬i.j<N:=by simpa [BE.den,cmpB,IE.den] using q
  have:=i.hj;omega))
 clear q;have hS2:iP (l,false)=(⟨⟨x1,x2,x3,x4,x5,x6⟩,i.L.map (·.1),x7,x8⟩,i.t):=by rw[hS,<- hA,hl.1,hl.2]
 have hj2:=i.hL;have hj3:=i.hj;clear hS hl hA hJ;generalize i.a=a0;generalize i.c=c0;generalize i.t=t8 at hS2 ⊢;generalize i.L=L0 at hS2 hj2 ⊢;generalize i.j=n0 at hj2 hj3 ⊢;refine ga (aJ env) fd plSr ?_;intro B w5 F;refine(fK b _ _ w5 F.z).mono ?_;rintro e w6 ⟨rfl,rfl⟩;rcases gN t8.1 t8.2 with hE|hE
 case inr =>
  rw[nM hS2 fun h=>by have h:=h.1;simp only at h;omega];refine⟨.i .i64 (.l 20),_,by rw[hE];rfl,fd.b,F,?_⟩;clear F;refine ga (aJ env) fd plSr ?_;refine mU env fd ?_;intro B v F;exact⟨[],none,0,0,rfl,aN.zero v,F.kept.below (Nat.le_refl _) fun k hk=>hk ▸ hwb⟩
 refine⟨.i .i64 (.l 0),_,by rw[hE];rfl,fd.b,F,?_⟩;clear F;refine ga (aJ env) fd plSr ?_;intro B v F;have hI:∀u,dZ u w.heap.size 76 19 (.slice a0 n0 c0) (L0.map fun p=>cJ p.1 p.2)->(∀p ∈ L0,bO u p.1 p.2)->aN u ⟨⟨x1,x2,x3,x4,x5,x6⟩,L0.map (·.1),x7,x8⟩ L0 a0 n0 c0:=fun u h1 h2=>⟨⟨aM.fU h1,hj2,by omega,h2⟩,rfl⟩
 refine(lX ⟨⟨x1,x2,x3,x4,x5,x6⟩,L0.map (·.1),x7,x8⟩ L0 a0 n0 c0 v (hI v F.own F.now.1)).mono ?_
 rintro e w7 ⟨rfl,hb⟩;cases hok:eZ ⟨⟨x1,x2,x3,x4,x5,x6⟩,L0.map (·.1),x7,x8⟩ with
 | false =>
  rw[nM hS2 fun h=>by have h:=h.2;simp only at h;rw[hok]at h;cases h];refine⟨.b (.l false),_,rfl,fd.b,F.call hb,?_⟩;clear F hb;refine ga (aJ env) fd plSr ?_;refine mU env fd ?_;intro B v F;exact⟨[],none,0,0,rfl,aN.zero v,F.kept.below (Nat.le_refl _) fun k hk=>hk ▸ hwb⟩
 | true =>
  rw[xK hS2 ⟨hE,hok⟩];refine⟨.b (.l true),_,rfl,fd.b,F.call hb,?_⟩;clear F hb;refine ga (aJ env) fd plSr ?_;refine mU env fd ?_;intro B v F;exact⟨L0,a0,n0,c0,rfl,hI v F.own F.now.1,F.kept.below (Nat.le_refl _) fun k hk=>hk ▸ hwb⟩

def qP:List AV:=[.i .i64 (.l 0),.i .i64 (.l 0),.i .i64 (.l 0),.i .i64 (.l 0),.i .i64 (.l 0),.i .i64 (.l 0),.v (.slice none 0 0),.i .i64 (.l 0),.i .i64 (.l 0)]

def Zk (w:World)(Z:World->Prop)(u:World):Prop:=Kept w u (fun k=>k≠0)/\Z u
theorem FrD.below {w0 w:World}{rb:Nat}{R:World->Prop}{e:TypeId}{sz:Nat}{v:Value}{rs:List (List Value)}{L:Bx}{Z:World->Prop}(F:FrD 0 rb w0 R (Zk w0 Z) e sz v rs w L):Below w0.heap.size w0 w:=by
 have h1:=F.kept;have h2:=F.z.1;refine⟨h1.os,h1.tape,h1.output,h1.size,fun k hk=>?_⟩;by_cases h:k=0
 ·exact h2.block k hk fun h3=>h3 h
 ·exact h1.block k hk h
theorem FrD.begin {w:World}(h0:0<w.heap.size){Z:World->Prop}(e:TypeId)(sz:Nat)(hZ:∀u,Below w.heap.size w u->Z u):FrD 0 0 w (fun _=>True) (Zk w Z) e sz (.slice none 0 0) [] w [] :=
 FrD.start w h0 h0 e sz (Sf.all _ _) fun u bu=>⟨Kept.aQ bu fun k h1 h2=>by omega,hZ u bu⟩
structure GI (n:Nat) where
 j:Nat
 a:Option Addr
 c:Nat
 x:Nat->Value
 hj:j<=n
def aMP (s a1:Option Addr)(n c j c1:Nat):List (Nat × AV):=[(3,.sl (fun _=>a1) (fun _=>j) (fun _=>c1)),(6,.sl (fun _=>s) (fun _=>n) (fun _=>c)),(7,.i .i64 (.x fun _=>(n:Int))),(8,.i .i64 (.x fun _=>(j:Int)))]
theorem wI (l:List aO)(a:Option Addr)(n c:Nat)(w:World)(hr:aM w 2 (.slice a n c) (l.map trV))(hn:l.length=n)(hm:n<=2147483648)(h0:0<w.heap.size):Calls Tryz.prog 82 #[.slice a n c] w fun e w'=>∃a' c',e = .returned (.slice a' n c')/\Sf (fun k=>k<w.heap.size) w' (fun u=>aM u 2 (.slice a' n c') (l.map trV))/\Below w.heap.size w w':=by
 have F0:FrD 0 0 w (fun _=>True) (Zk w fun u=>aM u 2 (.slice a n c) (l.map trV)) 121 2 (.slice none 0 0) [] w []:=FrD.begin h0 _ _ fun _ bu=>hr.below bu;refine enter (F:=FrD 0 0 w (fun _=>True) (Zk w fun u=>aM u 2 (.slice a n c) (l.map trV)) 121 2 (.slice none 0 0) []) (fun _=>0) [.sl (fun _=>a) (fun _=>n) (fun _=>c)] [] Tryz.func82 rfl rfl F0 17 rfl ?_;refine ga env fd aA ?_;refine dI (fun i:GI n=>FrD 0 0 w (fun _=>True) (Zk w fun u=>aM u 2 (.slice a n c) (l.map trV)) 121 2 (.slice i.a i.j i.c) ((l.take i.j).map trV)) GI.x (fun i=>aMP a i.a n c i.j i.c) (fun _=>[]) (fun i=>n-i.j) 18 (fun x=>⟨0,none,0,x,Nat.zero_le _⟩) (fun _=>rfl) (fun B x=>⟨rfl,rfl,rfl,rfl,trivial⟩) (fun B w1 F x=>F) ?_;intro i J hJ;refine ga env fd aA ?_;refine⟨fun q=>?_,fun q=>?_⟩
 ·have hlt:i.j<n:=by simpa [BE.den,cmpB,IE.den] using q
  clear q;have hlL:i.j<l.length:=hn ▸ hlt;obtain⟨b,o,rfl,_⟩:=hr.at (j:=i.j) (by rw[List.length_map];exact hlL);have hrg:=fun v (hv:aM v 2 (.slice (some ⟨b,o,none⟩) n c) (l.map trV))=>hv.range (j:=i.j) (by rw[List.length_map];exact hlL);rw[List.getElem_map]at hrg;have htk:l.take (i.j+1)=l.take i.j ++ [l[i.j]]:=List.take_succ_eq_append_getElem hlL;generalize l[i.j]=p at hrg htk;refine ga env fd aA ?_;refine aK (.pa fun _=>⟨b,o+i.j*2,none⟩) (fun B v F=>aS (e:=112) (n:=2) rfl Tryz.underlying74 (by kernel_rfl) (by rw[St.aB];rfl) (by rw[St.aB];rfl) hlt) ?_;refine ga env fd aA ?_;refine aK (.g [.i .u16 (.x fun _=>p.f),.i .u32 (.x fun _=>p.t)]) (fun B v F=>cC (cs:=trV p) (b:=b) (off:=o+i.j*2) rfl (by rw[St.aB];rfl) (hrg _ F.z.2) Tryz.underlying112 rfl (by kernel_rfl)) ?_;refine ga env fd aA ?_;have hlen:((l.take i.j).map trV).length=i.j:=by rw[List.length_map,List.length_take];omega
  refine aAo wJ hlen (by omega) ?_;intro a' g c';refine ga env fd aA ?_;refine eI hJ (fun x=>⟨i.j+1,a',c',x,hlt⟩) (fun _=>rfl) (fun _=>(by omega:n-(i.j+1)<n-i.j)) (fun B x=>⟨rfl,rfl,rfl,?_,trivial⟩) (fun B v F x=>?_)
  ·simp only[AV.den,IE.den,getT];rw[wrI hlt (by omega)]
  ·show FrD 0 0 w (fun _=>True) (Zk w fun u=>aM u 2 (.slice (some ⟨b,o,none⟩) n c) (l.map trV)) 121 2 (.slice a' (i.j+1) c') ((l.take (i.j+1)).map trV) v [];rw[htk,List.map_append];exact FrD.less (L:=[]) F
 ·have hje:i.j=n:=by
   have:¬i.j<n:=by simpa [BE.den,cmpB,IE.den] using q
   have:=i.hj;omega
  clear q;refine ga env fd aA ?_;refine fa env fd ?_;intro B v F;have hb:=FrD.below F;have ho:=F.own;rw[hje,List.take_of_length_le (by omega)]at ho;exact⟨i.a,i.c,congrArg (fun z=>Ending.returned (.slice i.a z i.c)) hje,(aLU ho).imp fun _ h=>aM.fU h,hb⟩
def plPa:Nat->Option Pl
 | 1=>some ⟨[0,1,0,4,0,16,0,64,0,256,0,1024,0,4096,12288,32767,65535],16384,[.h [0,1,2,3,4,5,6,7,8,9,10,11,12,13],.o 14,.h [15],.o 16],[]⟩
 | _=>none
theorem wH (p:aL)(A:aT)(w:World)(h:bO w p A)(h0:0<w.heap.size):Calls Tryz.prog 34 #[.agg (cJ p A).toArray] w fun e w'=>∃a' c',e = .returned (.agg (cJ p ⟨A.com,a',A.tn,c'⟩).toArray)/\Sf (fun k=>k<w.heap.size) w' (fun u=>aM u 2 (.slice a' A.tn c') (p.ts.map trV))/\Below w.heap.size w w':=by
 have F0:Fr (fun _=>False) w w [] (fun u=>bO u p A/\0<u.heap.size):=Fr.zero w nofun fun v kv=>⟨h.below (kv.below (Nat.le_refl _) nofun),Nat.lt_of_lt_of_le h0 kv.size⟩;clear h h0;refine enter (F:=fun w' L=>Fr (fun _=>False) w w' L (fun u=>bO u p A/\0<u.heap.size)) (fun _=>0) [.g (cN p A)] [] Tryz.func34 rfl rfl F0 18 rfl ?_;refine ga env (Fr.frm _ _ _) plPa ?_;intro B v F;have hn:=F.saf.now.1;refine(wI p.ts A.ta A.tn A.tc v hn.ts hn.n (hn.n ▸ hn.sm) F.saf.now.2).mono ?_;rintro e w2 ⟨a',c',rfl,hs,hb⟩;have hlt:w.heap.size<=v.heap.size:=F.bel.size;refine⟨.sl (fun _=>a') (fun _=>A.tn) (fun _=>c'),(fun w' L=>Fr (fun _=>False) w w' L (fun u=>Sf (fun k=>k<v.heap.size) u (fun u=>aM u 2 (.slice a' A.tn c') (p.ts.map trV))/\bO u p A/\0<u.heap.size)),rfl,(Fr.frm _ _ _).b,F.next hb (fun u ku=>hs.to (ku.mono fun k hk h=>?_)),?_⟩
 ·rcases h with h|h
  ·exact h.elim
  ·obtain⟨q,hq,rfl⟩:=List.mem_map.1 h;exact(F.rng q hq).2
 clear F hs hb hn;refine ga env (Fr.frm _ _ _) plPa ?_;refine fa env (Fr.frm _ _ _) ?_;intro B u F;exact⟨a',c',rfl,fun u2 ku=>F.saf.now.1 u2 (ku.mono fun k hk h=>by omega),F.bel⟩
structure PL (L:List (aL × aT)) where
 j:Nat
 a:Option Addr
 c:Nat
 M:List (aL × aT)
 x:Nat->Value
 hj:j<=L.length
 hM:M.length=j
 he:M.map (fun p=>(p.1,p.2.com))=(L.take j).map fun p=>(p.1,p.2.com)
def PL.zero (L:List (aL × aT))(x:Nat->Value):PL L:=⟨0,none,0,[],x,Nat.zero_le _,rfl,rfl⟩
def PL.next {L:List (aL × aT)}(i:PL L)(h:i.j<L.length)(p:aL)(A:aT)(hp:L[i.j]=(p,A))(B:aT)(hB:B.com=A.com)(a:Option Addr)(c:Nat)(x:Nat->Value):PL L:=⟨i.j+1,a,c,i.M ++ [(p,B)],x,h,by rw[List.length_append,i.hM];rfl,by
 rw[List.map_append,i.he,List.take_succ_eq_append_getElem h,List.map_append,hp];simp[hB]⟩
def aJf (u:World)(p:aL × aT):Prop:=aM u 2 (.slice p.2.ta p.2.tn p.2.tc) (p.1.ts.map trV)/\p.1.ts.length=p.2.tn/\p.1.ts.length<=2147483648
def PLF (w:World)(Z:World->Prop){L:List (aL × aT)}(i:PL L)(v:World)(B:Bx):Prop:=FrD 0 0 w (fun u=>(∀p ∈ i.M,aJf u p)/\True) (Zk w Z) 86 19 (.slice i.a i.j i.c) (i.M.map fun p=>cJ p.1 p.2) v B
theorem PLF.zero {w v:World}{Z:World->Prop}{L:List (aL × aT)}{B:Bx}(F:FrD 0 0 w (fun _=>True) (Zk w Z) 86 19 (.slice none 0 0) [] v B)(x:Nat->Value):PLF w Z (PL.zero L x) v B:=F.imp fun _ _=>⟨fun _ hp=>absurd hp List.not_mem_nil,trivial⟩
theorem PLF.next {w v:World}{Z:World->Prop}{L:List (aL × aT)}{Bs:Bx}{i:PL L}{p:aL}{A B:aT}{a:Option Addr}{c:Nat}(h:i.j<L.length)(hp:L[i.j]=(p,A))(hB:B.com=A.com)
  (F:FrD 0 0 w (fun u=>aJf u (p,B)/\(∀p ∈ i.M,aJf u p)/\True) (Zk w Z) 86 19 (.slice a (i.j+1) c) ((i.M.map fun p=>cJ p.1 p.2) ++ [AV.denL (fun _=>0) (cN p B)]) v Bs) (x:Nat->Value):PLF w Z (i.next h p A hp B hB a c x) v Bs:=by
 unfold PLF PL.next;simp only[List.map_append,List.map_cons,List.map_nil];rw[gT]at F;exact F.imp fun u h=>⟨fun p hp=>by
  rcases List.mem_append.1 hp with hp|hp
  ·exact h.2.1 p hp
  ·obtain rfl:=List.mem_singleton.1 hp;exact h.1,trivial⟩
def plLa:Nat->Option Pl
 | 5=>some ⟨[0,1,0,4,12,31,63,127],8,[.h [0,1,2],.o 3,.o 4,.o 5,.h [6],.o 7],[]⟩
 | _=>none
def pnL (s:Option Addr)(n c j:Nat):List (Nat × AV):=[(2,.p 1 0),(3,.p 2 0),(14,.sl (fun _=>s) (fun _=>n) (fun _=>c)),(15,.i .i64 (.x fun _=>(n:Int))),(16,.i .i64 (.x fun _=>(j:Int)))]
theorem dU (s:bU)(L:List (aL × aT))(a:Option Addr)(n c:Nat)(w:World)(h:aN w s L a n c)(h0:0<w.heap.size):Calls Tryz.prog 10 #[.agg (gR s a n c).toArray] w fun e w'=>∃L' a' c',e = .returned (.agg (gR s a' n c').toArray)/\(∀U:Nat->Prop,(∀k,U k->k<w.heap.size)->Sf U w (fun u=>aW u L a n c)->Sf U w' fun u=>aN u s L' a' n c')/\Below w.heap.size w w':=by
 have hn:=h.acts.ln;have hsm:=h.acts.sm;have F0:FrD 0 0 w (fun _=>True) (Zk w fun u=>Below w.heap.size w u/\aW u L a n c) 86 19 (.slice none 0 0) [] w []:=FrD.begin h0 _ _ fun _ bu=>⟨bu,h.acts.below bu⟩;refine enter (F:=FrD 0 0 w (fun _=>True) (Zk w fun u=>Below w.heap.size w u/\aW u L a n c) 86 19 (.slice none 0 0) []) (fun _=>0) [.g (bH s a n c)] [] Tryz.func10 rfl rfl F0 28 rfl ?_;refine ga env fd plLa ?_;refine dI (PLF w fun u=>Below w.heap.size w u/\aW u L a n c) PL.x (fun i:PL L=>pnL a n c i.j) (fun i=>[bH s a n c,qP,[.i .i64 (.x fun _=>s.cfg.s),.i .i64 (.x fun _=>s.cfg.m),.i .i64 (.x fun _=>s.cfg.el),.i .i64 (.x fun _=>s.cfg.bt),.i .i64 (.x fun _=>s.cfg.ev),.i .i64 (.x fun _=>s.cfg.rm),.sl (fun _=>i.a) (fun _=>i.j) (fun _=>i.c),.i .i64 (.x fun _=>s.rounds),.i .i64 (.x fun _=>s.by')]]) (fun i=>n-i.j) 29 (PL.zero L) (fun _=>rfl) (fun B x=>⟨rfl,rfl,rfl,rfl,rfl,trivial⟩) (fun B w1 F x=>PLF.zero F x) ?_;intro i J hJ;unfold PLF;refine ga env fd plLa ?_;refine⟨fun q=>?_,fun q=>?_⟩
 ·have hlt:i.j<n:=by simpa [BE.den,cmpB,IE.den] using q
  clear q;have hlL:i.j<L.length:=hn ▸ hlt;obtain⟨b,o,rfl⟩:=h.acts.base hlt;have hrg:=fun v (hv:aW v L (some ⟨b,o,none⟩) n c)=>hv.range hlL;have hpm:=List.getElem_mem hlL;obtain⟨p,A,hpe⟩:∃p A,L[i.j]=(p,A):=⟨_,_,rfl⟩;rw[hpe]at hrg hpm;refine ga env fd plLa ?_;refine aK (.pa fun _=>⟨b,o+i.j*19,none⟩) (fun B v F=>aS (e:=76) (n:=19) rfl Tryz.underlying26 (by kernel_rfl) (by rw[St.aB];rfl) (by rw[St.aB];rfl) hlt) ?_;refine ga env fd plLa ?_;refine aK (.g (cN p A)) (fun B v F=>cC (cs:=cJ p A) (b:=b) (off:=o+i.j*19) rfl (by rw[St.aB];rfl) (hrg _ F.z.2.2) Tryz.underlying76 rfl (by kernel_rfl)) ?_;refine ga env fd plLa ?_;intro B v F;have hA:=F.z.2.2.each _ hpm;refine(wH p A v hA F.lt.1).mono ?_;rintro e w2 ⟨ta,tc,rfl,hs,hb⟩;have hts:=hA.n;have htm:=hA.sm;refine⟨.g (cN p ⟨A.com,ta,A.tn,tc⟩),_,rfl,fd.b,F.fG hb (R':=fun u=>aJf u (p,⟨A.com,ta,A.tn,tc⟩)) (hs.imp fun u hu=>⟨hu,hts,htm⟩),?_⟩;clear F hs hb hA;have hlen:(i.M.map fun p=>cJ p.1 p.2).length=i.j:=by rw[List.length_map,i.hM]
  refine ga env fd plLa ?_;refine mG yZ hlen (by omega) ?_;intro a' g c';refine ga env fd plLa ?_;refine eI hJ (i.next hlL p A hpe ⟨A.com,ta,A.tn,tc⟩ rfl a' c') (fun _=>rfl) (fun _=>(by omega:n-(i.j+1)<n-i.j)) (fun B x=>⟨rfl,rfl,rfl,rfl,?_,trivial⟩) (fun B v F x=>PLF.next (B:=⟨A.com,ta,A.tn,tc⟩) hlL hpe rfl (FrD.less (L:=[(B 0,_),(B 1,_),(B 2,_)]) F) x);simp only[AV.den,IE.den,getT];rw[wrI hlt (by omega)];rfl
 ·have hje:i.j=n:=by
   have:¬i.j<n:=by simpa [BE.den,cmpB,IE.den] using q
   have:=i.hj;omega
  clear q;refine ga env fd plLa ?_;refine fa env fd ?_;intro B v F;have ho:=F.own;have hM:=i.hM;have he:=i.he;rw[hje]at ho hM he;rw[List.take_of_length_le (by omega)]at he;refine⟨i.M,i.a,i.c,congrArg (fun z=>Ending.returned (.agg (gR s i.a z i.c).toArray)) hje,fun U hU hs u ku=>?_,FrD.below F⟩;have hz:=hs u ((Kept.aQ (FrD.below F) (S:=U) fun k h1 h2=>by omega).trans ku);have hnow:=F.s1 u (ku.mono fun k _ h=>.inr (.inl (hU k h)));have ho:=ho.kept ku fun k hk hk2=>by have h1:=(ho.lt k hk).1;have h2:=hU k hk2;omega
  refine⟨⟨aM.fU ho,hM,hsm,fun p hp=>?_⟩,?_⟩
  ·obtain⟨q,hq,e⟩:=List.mem_map.1 (he ▸ List.mem_map.2 ⟨p,hp,rfl⟩:(p.1,p.2.com) ∈ L.map fun p=>(p.1,p.2.com));have h1:=(hz.each q hq).com;have e1:q.1=p.1:=(Prod.mk.inj e).1;have e2:q.2.com=p.2.com:=(Prod.mk.inj e).2;have h2:=hnow.1 p hp;exact⟨e1 ▸ e2 ▸ h1,h2.1,h2.2.1,h2.2.2⟩
  ·rw[h.eq];have:=congrArg (List.map (·.1)) he
   rw[List.map_map,List.map_map]at this;exact this.symm
theorem uQ (s:bU)(L:List (aL × aT))(a:Option Addr)(n c:Nat)(w:World)(h:aN w s L a n c)(h0:0<w.heap.size):Calls Tryz.prog 10 #[.agg (gR s a n c).toArray] w fun e w'=>∃L' a' c',e = .returned (.agg (gR s a' n c').toArray)/\aN w' s L' a' n c'/\Below w.heap.size w w' :=
 (dU s L a n c w h h0).mono fun _ _ ⟨L',a',c',h1,h2,h3⟩=>⟨L',a',c',h1,(h2 (fun _=>False) nofun fun _ ku=>h.acts.below (ku.below (Nat.le_refl _) nofun)).now,h3⟩

def aAa:Prop:=∀w,Calls Tryz.prog 6 #[] w fun e w'=>e = .returned (.bool true)/\Below w.heap.size w w'
