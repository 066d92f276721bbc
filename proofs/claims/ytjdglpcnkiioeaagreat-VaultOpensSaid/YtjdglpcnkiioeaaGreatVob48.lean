/- For vltopens_law_holds. -/
import Derived.Test.YtjdglpcnkiioeaaGreatVob45
import Derived.Test.YtjdglpcnkiioeaaGreatVob46
set_option maxHeartbeats 16000000
set_option maxRecDepth 100000
namespace Go.Proofs.YtjdglpcnkiioeaaGreat
open Go.Lib (hid)
open Go.RowKit Go.Maps Go.Proofs.Own

structure VP where
 a:Option Addr
 c:Nat
 ma:Option Addr
 mc:Nat
 da:Option Addr
 dc:Nat
 ea:Option Addr
 ec:Nat
 fa:Option Addr
 fc:Nat
def vv (D:aA)(V:eB)(p:VP):Value:=.agg #[.int .i64 D.room,.slice p.a D.files.length p.c,.bool D.down,.int .i64 D.armed,.int .u64 D.steps,.int .u64 V.t,.int .i64 V.v,.int .u64 V.s.i,.int .u64 V.s.t,.slice p.ma V.s.ms.length p.mc,.slice p.da V.s.d.length p.dc,.int .u64 V.L.b,.slice p.ea V.L.es.length p.ec,.slice p.fa V.L.fs.length p.fc,.int .i64 V.L.safe,.bool V.br]
structure VR (D:aA)(V:eB)(el:bN)(p:VP)(u:World):Prop where
 d:DR D p.a p.c u
 s:cL u (sv V.s p.ma p.mc p.da p.dc) V.s
 l:LR V.L el p.ea p.ec p.fa p.fc u
theorem LR.len {L:aQ}{el:bN}{ea:Option Addr}{ec:Nat}{fa:Option Addr}{fc:Nat}{u:World}(h:LR L el ea ec fa fc u):el.length=L.es.length:=(List.length_map (fun x:cU × Value=>x.1)).symm.trans (congrArg List.length h.es)
theorem LR.ent {L:aQ}{el:bN}{ea:Option Addr}{ec:Nat}{fa:Option Addr}{fc:Nat}{u:World}(h:LR L el ea ec fa fc u){j:Nat}{x:cU}{y:Value}(hj:el[j]? = some (x,y)) :
  ∃b o,ea=some ⟨b,o,none⟩/\b<u.heap.size/\u.cell? ⟨b,o+j*3,none⟩=some (.int .u64 x.t)/\u.cell? ⟨b,o+j*3+1,none⟩=some (.int .i64 x.k)/\u.cell? ⟨b,o+j*3+2,none⟩=some y:=by
 obtain⟨hl,he⟩:=List.getElem?_eq_some_iff.1 hj;obtain⟨b,o,h1,h2,h3⟩:=h.er.1.at (j:=j) (by rw[aO];exact hl);have h4:(aN el)[j]'(by rw[aO];exact hl) = [.int .u64 x.t,.int .i64 x.k,y]:=by
  unfold aN;rw[List.getElem_map,he];rfl
 rw[h4]at h3;exact⟨b,o,h1,h2,by have:=h3 0 _ rfl;rwa [Nat.add_zero]at this,h3 1 _ rfl,h3 2 _ rfl⟩
theorem LR.cells {L:aQ}{el:bN}{b o:Nat}{ec:Nat}{fa:Option Addr}{fc:Nat}{u:World}(h:LR L el (some ⟨b,o,none⟩) ec fa fc u){j:Nat}{x:cU}{y:Value}(hj:el[j]? = some (x,y)) :
  b<u.heap.size/\u.cell? ⟨b,o+j*3,none⟩=some (.int .u64 x.t)/\u.cell? ⟨b,o+j*3+1,none⟩=some (.int .i64 x.k)/\u.cell? ⟨b,o+j*3+2,none⟩=some y:=by
 obtain⟨b',o',e,h1⟩:=h.ent hj;cases e;exact h1
def QAt (L:aQ)(i:Nat)(w:World):Ending->World->Prop:=fun e w'=>∃a n c,e = .returned (.tuple #[.agg #[.int .u64 ((atW L i).getD ⟨0,0,[]⟩).t,.int .i64 ((atW L i).getD ⟨0,0,[]⟩).k,.slice a n c],.bool (atW L i).isSome])/\Below w.heap.size w w'
theorem aI0 {S:Nat->Prop}{w:World}{D:aA}{V:eB}{el:bN}{p:VP}(h:In S w (VR D V el p))(hl:V.L.last<=1152921506754330624)(i:Nat):Calls Tryz.prog 95 #[vv D V p,.int .u64 i] w (QAt V.L i w):=by
 have F:=h.fr;obtain⟨t,v,s,⟨lb,es,fs,safe⟩,br⟩:=V;obtain⟨a,c,ma,mc,da,dc,ea,ec,fa,fc⟩:=p;have HL:=hid hl;unfold vv;simp only at F ⊢;clear h hl;by_cases h1:i<=lb
 ·have HV:Hid (atW ⟨lb,es,fs,safe⟩ i=none):=hid (by unfold atW;rw[if_pos h1]);have hi:(i:Int)<=(lb:Int):=by omega
  clear h1;go_enter Tryz.func95,Tryz.ntmps95;refine fx fun C=>?_
  go_wp2_with (refine stq ?_;clear C;intro w F C)
  refine rt Tryz.results95 ?_;unfold QAt;rw[HV.out];exact⟨none,0,0,rfl,F.bel⟩
 ·obtain⟨j,rfl⟩:∃j,i=lb+1+j:=⟨i-lb-1,by omega⟩;have hi:¬((lb+1+j:Nat):Int)<=(lb:Int):=by omega
  clear h1;have hw1:((lb+1+j:Nat):Int)-(lb:Int)=((j+1:Nat):Int):=by omega
  have hw3:((j+1:Nat):Int)-1=(j:Int):=by omega
  by_cases h2:j<es.length
  ·obtain⟨⟨x,y⟩,hj⟩:∃q,el[j]? = some q:=⟨_,List.getElem?_eq_getElem (by rw[F.r.l.len];exact h2)⟩;obtain⟨eb,eo,rfl,_⟩:=F.r.l.ent hj;obtain⟨ya,yn,yc,rfl⟩:∃a n c,y = .slice a n c:=by
    obtain⟨a,c,e,_⟩:=(F.r.l.er.2 _ (List.mem_of_getElem? hj)).1.shape;exact⟨a,_,c,e⟩
   replace F:=F.put (F.get fun _ h=>h.l.cells hj);have HV:Hid (atW ⟨lb,es,fs,safe⟩ (lb+1+j)=some x):=hid (by
    unfold atW;rw[if_neg (by simp only;omega)];simp only;have he:el.map (·.1)=es:=F.r.2.l.es
    rw[show lb+1+j-lb-1=j by omega,<- he,List.getElem?_map,hj];rfl)
   have hlt:¬(lb:Int)+(es.length:Int)<((lb+1+j:Nat):Int):=by omega
   have hw2:IntKind.u64.wrap ((j+1:Nat):Int)=((j+1:Nat):Int):=yX (by have:=HL.out;unfold aQ.last at this;simp only at this;omega);have hw4:IntKind.u64.wrap (j:Int)=(j:Int):=yX (by have:=HL.out;unfold aQ.last at this;simp only at this;omega);generalize hii:((lb+1+j:Nat):Int)=ii at hi hw1 hlt ⊢;generalize hjj:((j+1:Nat):Int)=jj at hw1 hw2 hw3;clear hj hii hjj;go_enter Tryz.func95,Tryz.ntmps95;refine fx fun C=>?_
   go_wp2_with (first
    | (refine (lE ⟨lb, es, fs, safe⟩ (some ⟨eb, eo, none⟩) ec fa fc w (by have := HL.out; omega)).mono ?_
       rintro e w ⟨rfl,hb⟩;replace F:=F.call hb;clear C hb;rw[show ((aQ.last ⟨lb,es,fs,safe⟩:Nat):Int)=(lb:Int)+(es.length:Int) by unfold aQ.last;simp];refine fx fun C=>?_)
    | (refine stq ?_;clear C;intro w F C))
   refine rt Tryz.results95 ?_;unfold QAt;rw[HV.out];exact⟨ya,yn,yc,rfl,F.bel⟩
  ·have HV:Hid (atW ⟨lb,es,fs,safe⟩ (lb+1+j)=none):=hid (by
    unfold atW;rw[if_neg (by simp only;omega)];simp only;rw[show lb+1+j-lb-1=j by omega];exact List.getElem?_eq_none (by omega))
   have hlt:(lb:Int)+(es.length:Int)<((lb+1+j:Nat):Int):=by omega
   generalize hii:((lb+1+j:Nat):Int)=ii at hi hw1 hlt ⊢;clear hii hw1 hw3 h2;go_enter Tryz.func95,Tryz.ntmps95;refine fx fun C=>?_
   go_wp2_with (first
    | (refine (lE ⟨lb, es, fs, safe⟩ ea ec fa fc w (by have := HL.out; omega)).mono ?_
       rintro e w ⟨rfl,hb⟩;replace F:=F.call hb;clear C hb;rw[show ((aQ.last ⟨lb,es,fs,safe⟩:Nat):Int)=(lb:Int)+(es.length:Int) by unfold aQ.last;simp];refine fx fun C=>?_)
    | (refine stq ?_;clear C;intro w F C))
   refine rt Tryz.results95 ?_;unfold QAt;rw[HV.out];exact⟨none,0,0,rfl,F.bel⟩
theorem aKf {S:Nat->Prop}{w:World}{D:aA}{V:eB}{el:bN}{p:VP}(h:In S w (VR D V el p))(hl:V.L.last<=1152921506754330624)(i:Nat):Calls Tryz.prog 94 #[vv D V p,.int .u64 i] w fun e w'=>e = .returned (.tuple #[.int .u64 (iS V i).1,.bool (iS V i).2])/\Below w.heap.size w w':=by
 have F:=h.fr;have HL:=hid hl;obtain⟨ii,hii⟩:∃ii:Int,(i:Int)=ii:=⟨_,rfl⟩;have HII:=hid hii;have HA:∀(T:Nat->Prop) w',In T w' (VR D V el p)->Calls Tryz.prog 95 #[vv D V p,.int .u64 ii] w' (QAt V.L i w'):=fun _ w' h'=>hii ▸ aI0 h' hl i;have HAH:=hid HA;rw[hii];clear h hl HA;unfold vv at HAH ⊢;by_cases hi:ii=V.s.i
 ·have HV:Hid (iS V i=(V.s.t,true)):=hid (by unfold iS;rw[if_pos (hii.trans hi).symm]);have hib:(ii==V.s.i)=true:=by simpa using hi
  clear hi hii;go_enter Tryz.func94,Tryz.ntmps94;refine fx fun C=>?_
  go_wp2_with (refine stq ?_;clear C;intro w F C)
  refine rt Tryz.results94 ?_;rw[HV.out];exact⟨rfl,F.bel⟩
 ·have HV:Hid (iS V i=(((atW V.L i).getD ⟨0,0,[]⟩).t,(atW V.L i).isSome)):=hid (by unfold iS;rw[if_neg fun q=>hi (hii.symm.trans q.symm)]);have hib:(ii==V.s.i)=false:=by simpa using hi
  clear hi hii;go_enter Tryz.func94,Tryz.ntmps94;refine fx fun C=>?_
  go_wp2_with (refine stq ?_;clear C;intro w F C)
  refine(HAH.out _ w (F.ins fun _ h=>h)).mono ?_;rintro e w ⟨ax,nx,cx,rfl,hb⟩;replace F:=F.call hb;clear C hb;refine fx fun C=>?_
  go_wp2_with (refine stq ?_;clear C;intro w F C)
  refine rt Tryz.results94 ?_;rw[HV.out];exact⟨rfl,F.bel⟩

def lS {α:Type}(l:List α)(d m k:Nat):List α:=((l.take k).drop d).take m
theorem aGo {α:Type}(A:List α)(x:α)(m:Nat):(A ++ [x]).take m=if (A.take m).length<m then A.take m ++ [x] else A.take m:=by
 rw[List.length_take];by_cases h:A.length<m
 ·rw[if_pos (by omega),List.take_of_length_le (l:=A ++ [x]) (by rw[List.length_append,List.length_singleton];omega),List.take_of_length_le (l:=A) (by omega)]
 ·rw[if_neg (by omega),List.take_append_of_le_length (by omega)]
theorem aDC {α:Type}{l:List α}{k:Nat}{x:α}(d m:Nat)(h:l[k]? = some x):lS l d m (k+1)=if d<=k/\(lS l d m k).length<m then lS l d m k ++ [x] else lS l d m k:=by
 have hk:k<l.length:=(List.getElem?_eq_some_iff.1 h).1;have ht:l.take (k+1)=l.take k ++ [x]:=by rw[List.take_add_one,h];rfl
 have hlen:(l.take k).length=k:=by rw[List.length_take];omega
 unfold lS;rw[ht];by_cases hd:d<=k
 ·rw[List.drop_append_of_le_length (by omega),aGo];simp only[hd,true_and]
 ·rw[if_neg fun q=>hd q.1,List.drop_eq_nil_of_le (by rw[List.length_append,List.length_singleton];omega),List.drop_eq_nil_of_le (by omega)]
theorem aFw {L:aQ}{el:bN}(h:el.map (·.1)=L.es)(index:Nat)(most:Int):(lS el (max index (L.b+1)-(L.b+1)) most.toNat el.length).map (·.1)=oF L index most:=by
 unfold lS oF;rw[List.take_length,List.map_take,List.map_drop,h]
theorem aFx {α:Type}{l:List α}{d m k:Nat}{x:α}(h:x ∈ lS l d m k):x ∈ l:=List.mem_of_mem_take (List.mem_of_mem_drop (List.mem_of_mem_take h))
theorem aFv {α:Type}(l:List α)(d m k:Nat):(lS l d m k).length<=l.length:=by
 unfold lS;rw[List.length_take,List.length_drop,List.length_take];omega
def QFr (S:Nat->Prop)(L:aQ)(index:Nat)(most:Int)(w:World):Ending->World->Prop:=fun e w'=>∃v l,e = .returned v/\l.map (·.1)=oF L index most/\Sf S w' (fun u=>jV u v l)/\Below w.heap.size w w'
theorem aHz {S:Nat->Prop}{w:World}{L:aQ}{el:bN}{ea fa:Option Addr}{ec fc:Nat}(h:In S w (LR L el ea ec fa fc))(hl:L.last<=1152921506754330624)(hn:L.es.length<=2147483648)(index:Nat)(most:Int):Calls Tryz.prog 96 #[lgv L ea ec fa fc,.int .u64 index,.int .i64 most] w (QFr S L index most w):=by
 have F:=h.fr;obtain⟨ix,hix⟩:∃ix:Int,(index:Int)=ix:=⟨_,rfl⟩;have HIX:=hid hix;obtain⟨d,hd⟩:∃d,max index (L.b+1)-(L.b+1)=d:=⟨_,rfl⟩;have HD:=hid hd;obtain⟨m,hm⟩:∃m,most.toNat=m:=⟨_,rfl⟩;have HM:=hid hm;have HN:=hid hn;have hla:(L.b:Int)+(L.es.length:Int)+1<18446744073709551616:=by unfold aQ.last at hl;omega
 have hel:(L.es.length:Int)<=2147483648:=by omega
 rw[hix];unfold lgv;clear h hl hn hix hd hm;go_enter Tryz.func96,Tryz.ntmps96;go_wp2_with fail;refine stq ?_;intro w1 F1 C;clear C
 go_loopw [7,8] (fun lv i w=>∃j:Nat,i = .int .i64 j/\j<=L.es.length/\dU w w1.heap.size 38 3 lv (aN (lS el d m j))/\Below w1.heap.size w1 w) (fun _ i _=>L.es.length-(intOf i).toNat)
 case atStart=>exact⟨0,rfl,by omega,by unfold lS;simp only[List.take_zero,List.drop_nil,List.take_nil];exact dU.nil _ _ _ _,Below.refl _ _⟩
 case round =>
  rename World=>w
  obtain⟨j,rfl,hj,hown,hb⟩:=hrel;have OW:=hid hown;have BR:=hid hb;obtain⟨la,lc,rfl⟩:=hown.shape;have HLS:Hid ((aN (lS el d m j)).length<=2147483648):=hid (by rw[aO];have h1:=aFv el d m j;have h2:=F1.r.len;have:=HN.out;omega);generalize hln:(aN (lS el d m j)).length=ln at *
  have HLN:=hid hln;have hlb:(ln:Int)<=2147483648:=by have:=HLS.out;omega
  have F:=F1.call hb;clear hown hln;by_cases hlt:j<L.es.length
  ·obtain⟨⟨x,y⟩,hxy⟩:∃q,el[j]? = some q:=⟨_,List.getElem?_eq_getElem (by rw[F.r.len];exact hlt)⟩;obtain⟨eb,eo,rfl,_⟩:=F.r.ent hxy;obtain⟨ya,yn,yc,rfl⟩:∃a n c,y = .slice a n c:=by
    obtain⟨a,c,e,_⟩:=(F.r.er.2 _ (List.mem_of_getElem? hxy)).1.shape;exact⟨a,_,c,e⟩
   replace F:=F.put (F.get fun _ h=>h.cells hxy);have HST:=hid (aDC d m hxy);have hltI:(j:Int)<(L.es.length:Int):=by omega
   clear hxy;by_cases hge:d<=j
   ·have hgi:ix<=(L.b:Int)+1+(j:Int):=by have:=HD.out;have:=HIX.out;omega
    by_cases hlm:ln<m
    ·have hli:(ln:Int)<most:=by have:=HM.out;omega
     have HE:=hid (HST.out.trans (if_pos ⟨hge,by have:=HLN.out;rw[aO]at this;omega⟩));clear hge hlm;refine fx fun C=>?_
     go_wp2_with (at_builtin;refine ap1 nK (r:=eP (x,.slice ya yn yc)) OW.out rfl (by intro u hu;simp only[eP,List.mem_cons,List.not_mem_nil,or_false]at hu;rcases hu with rfl|rfl|rfl<;>rfl) (by rw[HLN.out];have:=HLS.out;omega) BR.out.size rfl rfl rfl rfl ?_;intro v2 w2 ho2 hb2;have O2:=hid ho2;have B2:=hid (BR.out.trans hb2);clear ho2 hb2)
     go_roundw
     case rel=>exact⟨j+1,by first|rfl|go_num,by omega,by rw[HE.out,gF];exact O2.out,B2.out⟩
     all_goals (show L.es.length-((j:Int)+1).toNat<L.es.length-((j:Int)).toNat;omega)
    ·have hli:¬(ln:Int)<most:=by have:=HM.out;omega
     have HE:=hid (HST.out.trans (if_neg fun q=>hlm (by have:=HLN.out;rw[aO]at this;omega)));clear hge hlm;refine fx fun C=>?_;go_wp2_with fail
     go_roundw
     case rel=>exact⟨j+1,by first|rfl|go_num,by omega,by rw[HE.out];exact OW.out,BR.out⟩
     all_goals (show L.es.length-((j:Int)+1).toNat<L.es.length-((j:Int)).toNat;omega)
   ·have hgi:¬ix<=(L.b:Int)+1+(j:Int):=by have:=HD.out;have:=HIX.out;omega
    have HE:=hid (HST.out.trans (if_neg fun q=>hge q.1));clear hge;refine fx fun C=>?_;go_wp2_with fail
    go_roundw
    case rel=>exact⟨j+1,by first|rfl|go_num,by omega,by rw[HE.out];exact OW.out,BR.out⟩
    all_goals (show L.es.length-((j:Int)+1).toNat<L.es.length-((j:Int)).toNat;omega)
  ·have HJ:Hid (j=el.length):=hid (by rw[F.r.len];omega);have hltI:¬(j:Int)<(L.es.length:Int):=by omega
   clear hlt;have F:=F.put (F1.own OW.out);refine fx fun C=>?_;go_wp2_with fail;refine rt Tryz.results96 ?_;refine⟨_,_,rfl,?_,F.fin fun u q=>⟨bJ.gH q.1,q.2.er.2.sub fun z hz=>aFx hz⟩,F.bel⟩;rw[HJ.out,<- HD.out,<- HM.out];exact aFw F.r.2.es index most
open Go.RowKit Go.Maps Go.Proofs.Own

theorem kE.sync {D:aA}(h:kE D.files)(n:ByteArray):kE (syncD D n).1.files:=by
 unfold syncD;split
 ·rename_i f hf;split
  ·exact h
  ·split
   ·rw[bE];exact h
   ·exact xU h (h f (cK hf).2)
 ·exact h
theorem kE.cut {D:aA}(h:kE D.files)(n:ByteArray)(m:Int):kE (cutD D n m).1.files:=by
 unfold cutD;split
 ·rename_i f hf;split
  ·exact h
  ·split
   ·exact h
   ·split
    ·rw[bE];exact h
    ·exact xU h fun c hc=>h f (cK hf).2 c (List.mem_of_mem_take hc)
 ·exact h
structure DF (D:aA)(n:Int):Prop where
 fX:aY D
 calm:Calm D
 ris:bQ D.files
 b8:kE D.files
 st:D.steps<=n
theorem DF.gone {D:aA}{n:Int}(h:DF D n)(hn:n+1<=1000000000):DF (bD D).1 (n+1) :=
 have q:=kZ h.fX (by have:=h.st;omega)
 ⟨q.1,(qI D).calm h.calm,(qI D).rising h.ris,h.b8.remove _,by have:=q.2;have:=h.st;omega⟩
theorem aD7 {D:aA}(h:kE D.files):kE (dI D).1.files:=by
 unfold dI dD
 repeat' split
 all_goals first|exact h|exact h.cut _ _|exact(h.cut _ _).sync _|exact h.sync _
theorem DF.aIa {D:aA}{n:Int}(h:DF D n)(hn:n+3<=1000000000):DF (aT D).1 (n+3):=by
 have q:=mC h.fX (by have:=h.st;omega);refine⟨q.1,(wD D).calm h.calm,(wD D).rising h.ris,?_,by have:=q.2;have:=h.st;omega⟩;unfold aT;split
 ·exact h.b8.remove _
 ·exact aD7 (h.b8.remove _)
theorem pD (base:Nat):∀(n:Nat) (D:aA) (L:aQ),aY D->D.steps+n<=1000000000->aY (resetF base n D L).1/\(resetF base n D L).1.steps<=D.steps+n
 | 0,D,L,h,_=>⟨h,by show D.steps<=D.steps+((0:Nat):Int);omega⟩
 | n+1,D,L,h,hs=>by
  unfold resetF;split
  ·exact⟨h,by simp only;omega⟩
  ·have q:=tQ L h (by omega);split
   ·exact⟨q.1,by have:=q.2;omega⟩
   ·have ih:=pD base n (popW D L).1 (popW D L).2.1 q.1 (by have:=q.2;omega);exact⟨ih.1,by have:=ih.2;have:=q.2;omega⟩
theorem aE4:∀(L:List aJ),∃kk,aE8 L kk:=by
 intro L;have:∀n,n<=L.length->(∀j f,n<=j->L[j]? = some f->isW f=false) -> ∃kk,aE8 L kk:=by
  intro n
  induction n with
  | zero=>exact fun h1 h2=>⟨0,h1,h2,nofun⟩
  | succ n ih =>
   intro h1 h2;obtain⟨f,hf⟩:∃f,L[n]? = some f:=⟨_,List.getElem?_eq_getElem h1⟩;by_cases hw:isW f=true
   ·refine⟨n+1,h1,h2,fun g hg=>?_⟩;rw[List.getLast?_take,if_neg (by omega),Nat.add_sub_cancel,hf]at hg;obtain rfl:=Option.some.inj hg;exact hw
   ·refine ih (by omega) fun j g hj hg=>?_;by_cases e:n=j
    ·subst e;obtain rfl:=Option.some.inj (hf.symm.trans hg)
     simpa using hw
    ·exact h2 j g (by omega) hg
 exact this L.length (Nat.le_refl _) fun j f hj hf=>by have:=(List.getElem?_eq_some_iff.1 hf).1;omega
theorem wA {D:aA}{n:Int}(h:DF D n)(hn:n+1000<=1000000000)(base:Nat):aY (OW D base).1/\(OW D base).1.steps<=n+400/\LOk (OW D base).2.1/\(OW D base).2.1.fs.length<=128/\oJ (OW D base).1 (OW D base).2.1:=by
 have lz:∀b,LOk ⟨b,[],[],0⟩\/1152921504606846976<b:=fun b=>by
  by_cases q:1152921504606846976<b
  ·exact .inr q
  ·exact .inl ⟨nofun,Nat.le_refl _,Nat.zero_le _,by show b<=1152921504606846976;omega,Nat.le_refl _,nofun⟩
 have l0:LOk ⟨0,[],[],0⟩:=(lz 0).elim id fun q=>absurd q (by decide);have hst:=h.st;by_cases hb:H59<=base
 ·rw[aA2 h.calm.1 hb];exact⟨h.fX,by simp only;omega,l0,Nat.zero_le _,h.calm,h.ris,h.b8,nofun,List.Pairwise.nil⟩
 ·have hb2:base<H59:=by omega
  obtain⟨kk,ht⟩:=aE4 D.files;obtain⟨_,f1,f2,f3,f4,f5⟩:=rA h.fX h.calm h.ris h.b8 (by omega) ht;obtain⟨r,hr⟩:∃r,loadW (dH D) D ⟨0,[],[],0⟩=r:=⟨_,rfl⟩;rw[hr]at f1 f2 f3 f4 f5;obtain⟨D1,L1,k1⟩:=r;simp only at f1 f2 f3 f4 f5;by_cases hk:k1=0
  ·subst hk;have hset:∃D4,bU D1 L1=(D4,0)/\oJ D4 L1/\aY D4/\D4.steps<=n+130:=by
    have sg:=uZ L1 f4 (by omega);cases e:L1.fs.getLast? with
    | none =>
     have q:bU D1 L1=(D1,0):=by unfold bU;rw[e]
     exact⟨D1,q,f1,f4,by omega⟩
    | some g =>
     obtain⟨f,hf⟩:=f1.find (List.mem_of_getLast? e);have q:=pG f1 e hf;exact⟨(bU D1 L1).1,Prod.ext rfl q.2.2.1,q.2.2.2,sg.1,by have:=sg.2;omega⟩
   obtain⟨D4,q1,q2,q3,q4⟩:=hset;by_cases hc:L1.fs = []\/L1.last<base
   ·rw[(oN h.calm.1 hb2 hr q1 q2 hc).1];have hrc:=nU hb2 q2;have hrg:aY (bA D4 L1 base).1/\(bA D4 L1 base).1.steps<=D4.steps+L1.fs.length:=by
     unfold bA;rw[if_neg hb];exact pD base _ D4 L1 q3 (by omega)
    exact⟨hrg.1,by have:=hrg.2;simp only;omega,(lz base).elim id fun q=>by unfold H59 at hb2;omega,Nat.zero_le _,hrc.2⟩
   ·rw[pM h.calm.1 hb2 hr q1 hc];split
    ·exact⟨q3,by simp only;omega,l0,Nat.zero_le _,q2.calm,q2.ris,q2.b8,nofun,List.Pairwise.nil⟩
    ·exact⟨q3,by simp only;omega,⟨f2.nm,f2.sum,f2.few,f2.b,Nat.le_refl _,f2.size⟩,f3,q2.calm,q2.ris,q2.b8,q2.has,q2.dis⟩
  ·rw[aDl h.calm.1 hb2 hr hk];exact⟨f4,by simp only;omega,l0,Nat.zero_le _,f1.calm,f1.ris,f1.b8,nofun,List.Pairwise.nil⟩
def iX (D:aA):aA × eB × Nat :=
 if cN (aT D).1≠0 then ((bD (aT D).1).1,⟨(cO D).t,(cO D).v,bZ (aT D).1,⟨0,[],[],0⟩,false⟩,cN (aT D).1)
 else if (OW (bD (aT D).1).1 (bZ (aT D).1).i.toNat).2.2≠0 then ((OW (bD (aT D).1).1 (bZ (aT D).1).i.toNat).1,⟨(cO D).t,(cO D).v,bZ (aT D).1,(OW (bD (aT D).1).1 (bZ (aT D).1).i.toNat).2.1,false⟩,(OW (bD (aT D).1).1 (bZ (aT D).1).i.toNat).2.2)
 else if ((atW (OW (bD (aT D).1).1 (bZ (aT D).1).i.toNat).2.1 (bZ (aT D).1).i.toNat).getD ⟨0,0,[]⟩).t≠(bZ (aT D).1).t/\(atW (OW (bD (aT D).1).1 (bZ (aT D).1).i.toNat).2.1 (bZ (aT D).1).i.toNat).isSome=true then
  ((bA (OW (bD (aT D).1).1 (bZ (aT D).1).i.toNat).1 (OW (bD (aT D).1).1 (bZ (aT D).1).i.toNat).2.1 (bZ (aT D).1).i.toNat).1,⟨(cO D).t,(cO D).v,bZ (aT D).1,(bA (OW (bD (aT D).1).1 (bZ (aT D).1).i.toNat).1 (OW (bD (aT D).1).1 (bZ (aT D).1).i.toNat).2.1 (bZ (aT D).1).i.toNat).2.1,false⟩,(bA (OW (bD (aT D).1).1 (bZ (aT D).1).i.toNat).1 (OW (bD (aT D).1).1 (bZ (aT D).1).i.toNat).2.1 (bZ (aT D).1).i.toNat).2.2)
 else ((OW (bD (aT D).1).1 (bZ (aT D).1).i.toNat).1,⟨(cO D).t,(cO D).v,bZ (aT D).1,(OW (bD (aT D).1).1 (bZ (aT D).1).i.toNat).2.1,false⟩,0)
def QO (S:Nat->Prop)(r:aA × eB × Nat)(w:World):Ending->World->Prop:=fun e w'=>∃el p,e = .returned (.tuple #[vv r.1 r.2.1 p,.int .i64 r.2.2])/\Sf S w' (VR r.1 r.2.1 el p)/\Below w.heap.size w w'
theorem pA (D:aA):∃m:Nat,(bZ D).i=m:=by
 unfold bZ;split
 ·unfold cT;split
  ·exact⟨0,rfl⟩
  ·unfold dK;split
   ·exact⟨_,rfl⟩
   ·exact⟨0,rfl⟩
 ·exact⟨0,rfl⟩
structure OFq (D D1 D2 D3:aA)(ls:lN)(si st:Int)(ms:List Int)(sd:List Nat)(m e2 e3 lb:Nat)(es:List cU)(fs:List WF)(safe:Nat):Prop where
 qa:∀T w a c,In T w (DR D a c)->Calls Tryz.prog 139 #[dv D a c] w (QV T (D1,ls) w)
 qb:∀T w a c,In T w (DR D1 a c)->Calls Tryz.prog 140 #[dv D1 a c] w (QS T (D2,⟨m,st,ms,sd⟩,e2) w)
 qc:∀T w a c,In T w (DR D2 a c)->Calls Tryz.prog 141 #[dv D2 a c,.int .u64 m] w (QL T (D3,⟨lb,es,fs,safe⟩,e3) w)
 qd:∀T w el p,In T w (VR D3 ⟨ls.t,ls.v,⟨m,st,ms,sd⟩,⟨lb,es,fs,safe⟩,false⟩ el p)->Calls Tryz.prog 95 #[vv D3 ⟨ls.t,ls.v,⟨m,st,ms,sd⟩,⟨lb,es,fs,safe⟩,false⟩ p,.int .u64 m] w (QAt ⟨lb,es,fs,safe⟩ m w)
 qe:∀T w a c ea ec fa fc el,In T w (fun u=>DR D3 a c u/\LR ⟨lb,es,fs,safe⟩ el ea ec fa fc u)->Calls Tryz.prog 142 #[dv D3 a c,lgv ⟨lb,es,fs,safe⟩ ea ec fa fc,.int .u64 m] w (QL T (bA D3 ⟨lb,es,fs,safe⟩ m) w)
open Go.RowKit Go.Maps Go.Proofs.Own Go.Shelf

theorem aKr {D:aA}(h:Calm D):(aT D).2=0:=by
 obtain⟨g1,g2,_⟩:=aAn h;unfold aT;rw[if_neg (by rw[g1];decide)];generalize (dM D fH).1=E at *
 cases e:aE dR E.files with
 | none =>
  have h31:bI E dR=31:=by unfold bI;rw[if_neg (by rw[g2.1];decide),if_pos e]
  unfold dI;rw[if_pos h31]
 | some f =>
  have h0:bI E dR=0:=by unfold bI;rw[if_neg (by rw[g2.1];decide),if_neg (by rw[e];exact nofun)]
  unfold dI;rw[if_neg (by rw[h0];decide),if_neg (by rw[h0];decide)];have hs:(dD E).2=0/\Calm (dD E).1 /\ ∃f',aE dR (dD E).1.files=some f':=by
   unfold dD;rw[eI e];split
   ·obtain⟨c1,c2,c3⟩:=aBY g2 e (eF f.all).g (by omega);exact⟨c1,c2,_,c3⟩
   ·exact⟨rfl,g2,_,e⟩
  obtain⟨s1,s2,f',s3⟩:=hs;rw[if_neg (by rw[s1];decide)];exact(pZ s2 s3).1
theorem aBV (D:aA)(L:aQ)(b:Nat):((gE D L b).2.1=none/\(gE D L b).2.2≠0) \/ ∃L',(gE D L b).2.1=some L'/\(gE D L b).2.2=0:=by
 unfold gE;simp only;generalize (if L.fs = []\/L.last<b then bA D L b else (D,L,0))=r;split
 ·rename_i h;exact .inl ⟨rfl,h⟩
 ·split
  ·exact .inl ⟨rfl,by simp⟩
  ·exact .inr ⟨_,rfl,rfl⟩
theorem aDS (D:aA)(b:Nat):((dP D b).2.1=none/\(dP D b).2.2≠0) \/ ∃L,(dP D b).2.1=some L/\(dP D b).2.2=0:=by
 unfold dP;split
 ·exact .inl ⟨rfl,by simp⟩
 ·split
  ·exact .inl ⟨rfl,by simp⟩
  ·split
   ·rename_i h;exact .inl ⟨rfl,h⟩
   ·unfold xP;split
    ·rename_i h;exact .inl ⟨rfl,h⟩
    ·exact aBV _ _ _
def aGB (db mb tb:Nat)(r:aA × eB × Nat)(w:World):Ending->World->Prop:=fun e w' =>
 (r.2.2=0->aDm db mb tb r.1 r.2.1 w e w')/\(r.2.2≠0->e = .returned (.tuple #[.pointer none,.int .i64 r.2.2])/\aG w' db mb tb r.1/\Kept w w' (aZ db mb tb))
theorem aEm {db mb tb:Nat}{D:aA}{w:World}{n:Int}(hd:aG w db mb tb D)(hf:DF D n)(hn:n+2000<=1000000000) :
  Calls Tryz.prog 41 #[.pointer (some ⟨db,0,none⟩)] w (aGB db mb tb (iX D) w):=by
 have f1:=hf.aIa (by omega);have f2:=f1.gone (by omega);have h1:aT D=((aT D).1,0):=Prod.ext rfl (aKr hf.calm);have hst:D.steps+2000<=1000000000:=by have:=hf.st;omega
 by_cases h2:cN (aT D).1=0
 ·obtain⟨m,hm⟩:=pA (aT D).1;have hs:bZ (aT D).1=cT (aT D).1:=by unfold bZ;rw[if_pos h2]
  have hm2:(cT (aT D).1).i=m:=by rw[<- hs];exact hm
  have hR:iX D=iX D:=rfl
  conv at hR=>rhs;unfold iX;rw[if_neg (fun q=>q h2),hm,Int.toNat_natCast,hs]
  have g:=wA f2 (by omega) m;rcases aDS (bD (aT D).1).1 m with ⟨o1,o2⟩|⟨L,o1,o2⟩
  ·have hO:(OW (bD (aT D).1).1 m).2.2=(dP (bD (aT D).1).1 m).2.2:=rfl;rw[if_pos (by rw[hO];exact o2)]at hR;rw[hR];have h3:dP (bD (aT D).1).1 m=((dP (bD (aT D).1).1 m).1,none,(dP (bD (aT D).1).1 m).2.2):=by rw[<- o1]
   exact(aBC hd hf.fX hst h1 h2 hm2 h3 o2).mono fun e w' q=>⟨fun z=>absurd z o2,fun _=>q⟩
  ·have h3:dP (bD (aT D).1).1 m=((dP (bD (aT D).1).1 m).1,some L,0):=by rw[<- o1,<- o2]
   have hO:OW (bD (aT D).1).1 m=((dP (bD (aT D).1).1 m).1,L,0):=by unfold OW;rw[o1,o2];rfl
   rw[hO]at g hR;rw[if_neg (by simp)]at hR;generalize (dP (bD (aT D).1).1 m).1=D3 at *
   simp only at hR g;have hmb:m<H59:=Nat.lt_of_not_le fun q=>by
    have:=aA2 f2.calm.1 q;rw[hO]at this;exact absurd (congrArg (fun r=>r.2.2) this) (by simp)
   have hes:=g.2.2.1.few;by_cases hc:((atW L m).getD ⟨0,0,[]⟩).t≠(cT (aT D).1).t/\(atW L m).isSome=true
   ·rw[if_pos hc]at hR;have hrc:=nU hmb g.2.2.2.2;have e0:(bA D3 L m).2.2=0:=congrArg Prod.snd hrc.1;have hr2:bA D3 L m=((bA D3 L m).1,(bA D3 L m).2.1,0):=Prod.ext rfl (Prod.ext rfl e0);rw[hR];refine(rG hd hf.fX hst h1 h2 hm2 h3 g.2.2.1.last hes (D4:=(bA D3 L m).1) (L4:=(bA D3 L m).2.1) (fun q=>?_) fun _ _ _=>⟨hr2,g.1,g.2.2.1,by have:=g.2.1;have:=g.2.2.2.1;omega,by have:=g.2.2.2.1;omega⟩).mono fun e w' q=>⟨fun _=>q,fun z=>absurd e0 z⟩;obtain⟨y,hy⟩:=Option.isSome_iff_exists.1 hc.2;have h4:=hc.1;rw[hy]at h4;exact absurd (q y hy) h4
   ·rw[if_neg hc]at hR;rw[hR];refine(rG hd hf.fX hst h1 h2 hm2 h3 g.2.2.1.last hes (D4:=D3) (L4:=L) (fun _=>⟨rfl,rfl⟩) fun y hy hyt=>?_).mono fun e w' q=>⟨fun _=>q,fun z=>absurd rfl z⟩;exact absurd ⟨by rw[hy];exact hyt,by rw[hy];rfl⟩ hc
 ·have hR:iX D=((bD (aT D).1).1,⟨(cO D).t,(cO D).v,bZ (aT D).1,⟨0,[],[],0⟩,false⟩,cN (aT D).1):=by unfold iX;rw[if_pos h2]
  rw[hR];exact(aBB hd hf.fX hst h1 h2).mono fun e w' q=>⟨fun z=>absurd z h2,fun _=>q⟩

theorem tU:∀(n:Nat) (l:List Nat)(s:nI),(segF n l s).es.length<=s.es.length+n
 | 0,_,_=>Nat.le_refl _
 | n+1,l,s=>by
  unfold segF;split
  ·split
   ·have:=tU n (mT l) ⟨hdV l,s.es,s.g+(aF l).length+8⟩;simp only at this;omega
   ·omega
  ·split
   ·have:=tU n (mT l) ⟨s.f,s.es ++ [lnX l],s.g+(aF l).length+8⟩;simp only[List.length_append,List.length_singleton]at this;omega
   ·omega
theorem aGf (l:List Nat):(cZ l).es.length<=l.length:=by have:=tU l.length l ⟨0,[],0⟩;unfold cZ;simpa using this
theorem aEi (L:aQ)(n:Nat)(b:List Nat)(t:Bool):(dE L n b t).2.1.es.length<=L.es.length+b.length:=by
 unfold dE;have:=aGf b
 repeat' split
 ·simp only;omega
 ·simp only;omega
 all_goals (simp only[List.length_append];omega)
theorem qZ {D:aA}:∀(rs:List aJ) (L:aQ),(loadR D rs L).2.1.es.length<=L.es.length+total rs
 | [],L=>Nat.le_add_right _ _
 | f::r,L=>by
  have e:total (f::r)=f.all.length+total r:=rfl;have t:=aEi L (bB (aP f.name)) f.all (decide (r = []));unfold loadR;split
  ·have:=qZ (D:=D) r L;omega
  ·split
   ·simp only;omega
   ·split
    ·simp only;omega
    ·have:=qZ (D:=D) r (dE L (bB (aP f.name)) f.all (decide (r = []))).2.1;omega
theorem aIl {D:aA}{n:Int}(h:DF D n)(hn:n+1000<=1000000000)(base:Nat):(OW D base).2.1.es.length<=1048576:=by
 have hst:=h.st;by_cases hb:H59<=base
 ·rw[aA2 h.calm.1 hb];exact Nat.zero_le _
 ·have hb2:base<H59:=by omega
  obtain⟨kk,ht⟩:=aE4 D.files;obtain⟨f0,f1,f2,f3,f4,f5⟩:=rA h.fX h.calm h.ris h.b8 (by omega) ht;have hm:(loadW (dH D) D ⟨0,[],[],0⟩).2.1.es.length<=1048576:=by
   rw[<- f0];have:=qZ (D:=D) (D.files.take kk) ⟨0,[],[],0⟩;have:=oD D.files kk;have:=h.fX.tot;simp only[List.length_nil]at *
   omega
  obtain⟨r,hr⟩:∃r,loadW (dH D) D ⟨0,[],[],0⟩=r:=⟨_,rfl⟩;rw[hr]at f1 f2 f3 f4 f5 hm;obtain⟨D1,L1,k1⟩:=r;simp only at f1 f2 f3 f4 f5 hm;by_cases hk:k1=0
  ·subst hk;have hset:∃D4,bU D1 L1=(D4,0)/\oJ D4 L1:=by
    cases e:L1.fs.getLast? with
    | none =>
     have q:bU D1 L1=(D1,0):=by unfold bU;rw[e]
     exact⟨D1,q,f1⟩
    | some g =>
     obtain⟨f,hf⟩:=f1.find (List.mem_of_getLast? e);have q:=pG f1 e hf;exact⟨(bU D1 L1).1,Prod.ext rfl q.2.2.1,q.2.2.2⟩
   obtain⟨D4,q1,q2⟩:=hset;by_cases hc:L1.fs = []\/L1.last<base
   ·rw[(oN h.calm.1 hb2 hr q1 q2 hc).1];exact Nat.zero_le _
   ·rw[pM h.calm.1 hb2 hr q1 hc];split
    ·exact Nat.zero_le _
    ·exact hm
  ·rw[aDl h.calm.1 hb2 hr hk];exact Nat.zero_le _
structure aKz (r:aA × eB × Nat):Prop where
 wf:DWf r.1
 last:r.2.1.L.last<=HX
 many:r.2.1.L.es.length<=1048576
 term:r.2.2=0 -> ∀m:Nat,r.2.1.s.i=m -> ∀y,atW r.2.1.L m=some y->y.t=r.2.1.s.t
theorem aCz {D:aA}{n:Int}(h:DF D n)(hn:n+2000<=1000000000):aKz (iX D):=by
 have f1:=h.aIa (by omega);have f2:=f1.gone (by omega);obtain⟨m,hm⟩:=pA (aT D).1;have g:=wA f2 (by omega) m;have gm:=aIl f2 (by omega) m;unfold iX;rw[hm,Int.toNat_natCast];generalize OW (bD (aT D).1).1 m=o at g gm ⊢;obtain⟨D3,L3,e3⟩:=o;obtain⟨g1,g2,g3,g4,g5⟩:=g;simp only at g1 g2 g3 g4 g5 gm ⊢;have hl3:=g3.last;split
 ·rename_i q;exact⟨f2.fX.wf,Nat.zero_le _,Nat.zero_le _,fun e=>absurd e q⟩
 ·split
  ·rename_i q;exact⟨g1.wf,hl3,gm,fun e=>absurd e q⟩
  ·split
   ·by_cases hb:H59<=m
    ·have e:bA D3 L3 m=(D3,L3,2):=by unfold bA;rw[if_pos hb]
     rw[e];exact⟨g1.wf,hl3,gm,fun e=>by cases e⟩
    ·have hrc:=nU (base:=m) (by omega) g5;have hrg:aY (bA D3 L3 m).1:=by
      unfold bA;rw[if_neg hb];exact(pD m _ D3 L3 g1 (by omega)).1
     have e:(bA D3 L3 m).2.1=⟨m,[],[],0⟩:=by rw[hrc.1]
     refine⟨hrg.wf,?_,?_,fun _ m' hm' y hy=>?_⟩
     ·simp only[e];show m+0<=HX;unfold HX;unfold H59 at hb;omega
     ·simp only[e];exact Nat.zero_le _
     ·simp only[e]at hy;unfold atW at hy;split at hy
      ·cases hy
      ·simp at hy
   ·rename_i q;refine⟨g1.wf,hl3,gm,fun _ m' hm' y hy=>?_⟩;simp only at hm' hy;obtain rfl:m=m':=by omega
    refine Classical.byContradiction fun h2=>q ⟨?_,?_⟩
    ·rw[hy];exact h2
    ·rw[hy];rfl
