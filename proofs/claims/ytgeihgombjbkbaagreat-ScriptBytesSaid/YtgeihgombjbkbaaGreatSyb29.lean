/- For scbytes_law_holds. -/
import Derived.Lib.AppendStr
import Derived.Test.YtgeihgombjbkbaaGreatSyb27
namespace Go.Proofs.YtgeihgombjbkbaaGreat
open Go Go.RowKit Go.Maps Go.Proofs.Own

structure FrA (w0:World)(R:World->Prop)(v:Value)(l:List Nat)(w:World)(L:Bx):Prop where
 box:∀(i:Nat) p,L[i]? = some p->Box w p
 inj:∀(i j:Nat) p q,L[i]? = some p->L[j]? = some q->p.1=q.1->i=j
 rng:∀k,k ∈ L.map (·.1)->w0.heap.size<=k/\v.ownBlock≠some k
 bel:Below w0.heap.size w0 w
 own:aX w w0.heap.size 5 .u8 v (ints l)
 s1:Sf (fun k=>v.ownBlock=some k\/k ∈ L.map (·.1)) w R
section
variable {w0 w w':World} {v v':Value} {R R':World->Prop} {l l':List Nat} {L:Bx}
theorem FrA.start {w:World}(hR:∀u,Below w.heap.size w u->R u):FrA w R (.slice none 0 0) [] w [] :=
 ⟨nofun,nofun,nofun,Below.refl _ _,aX.nil _ _ _ _,fun u ku=>hR u (ku.below (Nat.le_refl _) fun _ hk=>hk.elim nofun nofun)⟩
theorem FrA.now (F:FrA w0 R v l w L):R w:=F.s1.now
theorem FrA.mem (F:FrA w0 R v l w L){k:Nat}(hk:k ∈ L.map (·.1)):k<w.heap.size:=by
 obtain⟨p,hp,rfl⟩:=List.mem_map.1 hk;obtain⟨i,hi⟩:=List.getElem?_of_mem hp;exact(F.box i p hi).lt
theorem FrA.imp (F:FrA w0 R v l w L)(h:∀u,R u->R' u):FrA w0 R' v l w L:=⟨F.box,F.inj,F.rng,F.bel,F.own,F.s1.imp h⟩
theorem FrA.put (F:FrA w0 R v l w L)(ho:aX w' w0.heap.size 5 .u8 v' (ints l'))(hk:Kept w w' (fun k=>v.ownBlock=some k))(hn:∀k,v'.ownBlock=some k->v.ownBlock=some k\/w.heap.size<=k):FrA w0 R v' l' w' L:=by
 refine⟨fun i p hp=>(F.box i p hp).kept hk (F.rng p.1 (List.mem_map.2 ⟨p,List.mem_of_getElem? hp,rfl⟩)).2,F.inj,fun k hk=>⟨(F.rng k hk).1,fun h=>?_⟩,F.bel.trans (hk.below F.bel.size fun k h=>(F.own.lt k h).1),ho,fun u ku=>F.s1 u (hk.andThen ku fun k hl h=>?_)⟩
 ·rcases hn k h with h|h
  ·exact(F.rng k hk).2 h
  ·have:=F.mem hk;omega
 ·rcases h with h|h|h
  ·exact .inl h
  ·rcases hn k h with h|h
   ·exact .inl h
   ·omega
  ·exact .inr h
theorem FrA.call (F:FrA w0 R v l w L)(hb:Below w.heap.size w w'):FrA w0 R v l w' L:=F.put (F.own.below hb) (Kept.aQ hb fun _ h1 h2=>by omega) fun _ h=>.inl h
theorem FrA.fG (F:FrA w0 R v l w L)(hb:Below w.heap.size w w')(hR:Sf (fun k=>k<w.heap.size) w' R'):FrA w0 (fun u=>R' u/\R u) v l w' L:=by
 have G:=F.call hb;refine⟨G.box,G.inj,G.rng,G.bel,G.own,Sf.and (hR.sub fun k _ h=>?_) G.s1⟩;rcases h with h|h
 ·exact(F.own.lt k h).2
 ·exact F.mem h
theorem FrA.aL5 (F:FrA w0 R v l w L)(hb:Below w.heap.size w w')(ho:aX w' w.heap.size 5 .u8 v' (ints l')):FrA w0 R v' l' w' L:=by
 have G:=F.call hb;refine⟨G.box,G.inj,fun k hk=>⟨(G.rng k hk).1,fun h=>?_⟩,G.bel,ho.lower fun k hk=>Nat.le_trans F.bel.size (ho.lt k hk).1,fun u ku=>F.s1 u ((Kept.aQ hb (S:=fun _=>False) fun _ h1 h2=>by omega).andThen ku fun k hl h=>?_)⟩
 ·have:=(ho.lt k h).1;have:=F.mem hk;omega
 ·rcases h with h|h|h
  ·exact h.elim
  ·have:=(ho.lt k h).1;omega
  ·exact .inr h
theorem FrA.frm (w0:World)(R:World->Prop)(v:Value)(l:List Nat):Frm (FrA w0 R v l) ⟨false,0⟩:=by
 refine⟨fun F i p h=>F.box i p h,fun {w L} F {i bb o c vs} hi hl _ _=>?_,fun {w L} F {c t} _=>?_,fun {w L} F=>F.call ((Below.refl _ _).drew)⟩
 ·have hfst:(L.set i (bb,putN c o vs)).map (·.1)=L.map (·.1):=by
   rw[List.map_set];refine List.ext_getElem? fun k=>?_;rw[List.getElem?_set];split
   ·rename_i hk;subst hk;rw[List.getElem?_map,hi];split
    ·rfl
    ·rename_i hlt;exact absurd (by simpa using (List.getElem?_eq_some_iff.1 hi).1) hlt
   ·rfl
  have hm:bb ∈ L.map (·.1):=List.mem_map.2 ⟨_,List.mem_of_getElem? hi,rfl⟩
  have hkk:Kept w (w.setCells bb o vs) (fun k=>k=bb):=Kept.setCells bb vs o w;have key:∀(k:Nat) p,(L.set i (bb,putN c o vs))[k]? = some p->(k=i/\p=(bb,putN c o vs))\/(k≠i/\L[k]? = some p):=by
   intro k p hp;rw[List.getElem?_set]at hp;split at hp
   ·rename_i hk;split at hp
    ·exact .inl ⟨hk.symm,(Option.some.inj hp).symm⟩
    ·cases hp
   ·rename_i hk;exact .inr ⟨fun h=>hk h.symm,hp⟩
  refine⟨fun k p hp=>?_,fun k j p q hp hq e=>?_,by rw[hfst];exact F.rng,(F.bel.trans ((hkk.below (B:=w0.heap.size) F.bel.size fun k hk=>hk ▸ (F.rng bb hm).1))),F.own.kept hkk (fun k hk h=>(F.rng bb hm).2 (h ▸ hk)),by rw[hfst];exact F.s1.to (hkk.mono fun k _ h=>.inr (h ▸ hm))⟩
  ·rcases key k p hp with ⟨rfl,rfl⟩|⟨hne,hp⟩
   ·have q:=Box.setL vs c o w (F.box _ _ hi)
    rwa [jZ vs c o hl]at q
   ·exact(F.box k p hp).kept hkk fun e=>hne (F.inj k i p _ hp hi e)
  ·rcases key k p hp with ⟨rfl,rfl⟩|⟨_,hp'⟩<;>rcases key j q hq with ⟨rfl,rfl⟩|⟨_,hq'⟩
   ·rfl
   ·exact F.inj _ j _ q hi hq' e
   ·exact F.inj k _ p _ hp' hi e
   ·exact F.inj k j p q hp' hq' e
 ·have hal:Below w.heap.size w (w.alloc (.cells c.toArray t)):=(Below.refl _ _).alloc (Nat.le_refl _) _;have F2:=F.call hal;have key:∀(i:Nat) p,(L ++ [(w.heap.size,c)])[i]? = some p->(L[i]? = some p/\p.1<w.heap.size)\/(i=L.length/\p=(w.heap.size,c)):=by
   intro i p hp;rw[List.getElem?_append]at hp;split at hp
   ·exact .inl ⟨hp,(F.box i p hp).lt⟩
   ·rename_i hi;rw[List.getElem?_singleton]at hp;split at hp
    ·exact .inr ⟨by omega,(Option.some.inj hp).symm⟩
    ·cases hp
  have hma:∀k,k ∈ (L ++ [(w.heap.size,c)]).map (·.1)->k ∈ L.map (·.1)\/k=w.heap.size:=fun k hk=>by
   rw[List.map_append]at hk;exact(List.mem_append.1 hk).imp id fun h=>by simpa using h
  refine⟨fun i p hp=>?_,fun i j p q hp hq e=>?_,fun k hk=>?_,F2.bel,F2.own,fun u ku=>F.s1 u ?_⟩
  ·rcases key i p hp with ⟨hp,_⟩|⟨_,rfl⟩
   ·exact F2.box i p hp
   ·exact Box.new
  ·rcases key i p hp with ⟨hp,lp⟩|⟨rfl,rfl⟩<;>rcases key j q hq with ⟨hq,lq⟩|⟨rfl,rfl⟩
   ·exact F.inj i j p q hp hq e
   ·simp only at e;omega
   ·simp only at e;omega
   ·rfl
  ·rcases hma k hk with hk|rfl
   ·exact F.rng k hk
   ·exact⟨F.bel.size,fun h=>Nat.lt_irrefl _ (F.own.lt _ h).2⟩
  ·refine(Kept.aQ hal (S:=fun _=>False) fun k h1 h2=>by omega).andThen ku fun k hl h=>?_;rcases h with h|h|h
   ·exact h.elim
   ·exact .inl h
   ·exact .inr ((hma k h).resolve_right (by omega))
theorem fp:Frm (FrA w0 R v l) ⟨false,0⟩:=FrA.frm _ _ _ _
theorem FrA.less {M:Bx}(F:FrA w0 R v l w (L++M)):FrA w0 R v l w L :=
 ⟨fun i p hp=>F.box i p (by rw[List.getElem?_append_left (List.getElem?_eq_some_iff.1 hp).1];exact hp),fun i j p q hp hq=>F.inj i j p q (by rw[List.getElem?_append_left (List.getElem?_eq_some_iff.1 hp).1];exact hp) (by rw[List.getElem?_append_left (List.getElem?_eq_some_iff.1 hq).1];exact hq),
  fun k hk=>F.rng k (by rw[List.map_append];exact List.mem_append_left _ hk),F.bel,F.own,F.s1.sub fun k _ h=>h.elim .inl fun h=>.inr (by rw[List.map_append];exact List.mem_append_left _ h)⟩
end
def gV (m:List Nat)(w:World):Ending->World->Prop:=fun e w'=>∃v,e = .returned v/\aX w' w.heap.size 5 .u8 v (ints m)/\Below w.heap.size w w'
section
variable {w0:World} {v:Value} {R:World->Prop} {l m:List Nat} {Q:Exit->Act->World->Prop} {k8:KB} {s:St} {k:List KF} {c:Cf} {dst:Option Tmp} {a:Option Addr} {n cc:Nat}
theorem bP {f:FuncId}{args:List AV}(hc:∀B w,R w->Calls Tryz.prog f (AV.denL B args).toArray w (gV m w))
  (h:∀(a2:Option Addr) (c2:Nat),Ok Tryz.prog Q (FrA w0 (fun u=>Reads u .u8 (.slice a2 m.length c2) (ints m)/\R u) v l) c (s.put dst (.sl (fun _=>a2) (fun _=>m.length) (fun _=>c2))) k) :
  bE Tryz.prog Q (FrA w0 R v l) k8 (.call f args dst c s k):=fun B w F=>by
 refine(hc B w F.now).mono ?_;rintro e w' ⟨v2,rfl,ho,hb⟩;obtain⟨a2,c2,rfl⟩:=ho.shape;rw[aD]at *
 exact⟨.sl (fun _=>a2) (fun _=>m.length) (fun _=>c2),_,rfl,fp.b,F.fG hb fun u ku=>ho.reads.kept ku fun j hj=>Nat.not_lt.2 (ho.lt j hj).1,h a2 c2⟩
theorem mF {f:FuncId}{args:List AV}(hc:∀B w,R w->Calls Tryz.prog f (AV.denL B args).toArray w (gV m w))
  (h:∀(a2:Option Addr) (c2:Nat),Ok Tryz.prog Q (FrA w0 R (.slice a2 m.length c2) m) c (s.put dst (.sl (fun _=>a2) (fun _=>m.length) (fun _=>c2))) k) :
  bE Tryz.prog Q (FrA w0 R v l) k8 (.call f args dst c s k):=fun B w F=>by
 refine(hc B w F.now).mono ?_;rintro e w' ⟨v2,rfl,ho,hb⟩;obtain⟨a2,c2,rfl⟩:=ho.shape;rw[aD]at *
 exact⟨.sl (fun _=>a2) (fun _=>m.length) (fun _=>c2),_,rfl,fp.b,F.aL5 hb ho,h a2 c2⟩
theorem wS {o:Oper}{x y:Operand}{A:Act}{w:World}{L:Bx}{a2:Option Addr}{c2:Nat}{ops:Array Oper}{rest:List Oper}{Q':Exit->Act->World->Prop}(F:FrA w0 (fun u=>Reads u .u8 (.slice a2 m.length c2) (ints m)/\R u) (.slice a l.length cc) l w L)(hl:l.length+m.length<=4000000)
  (ho:o.op = .call { callee:=.builtin .append,args:=#[x,y],argTypes:=#[22,22] }) (hg:o.guard=none) (hx:A.eval x = .slice a l.length cc) (hy:A.eval y = .slice a2 m.length c2)
  (h:∀(a':Option Addr) (c':Nat) w',FrA w0 R (.slice a' (l++m).length c') (l++m) w' L->wpList Tryz.prog ops Q' rest (A.put o.dst (.slice a' (l++m).length c')) w'):wpList Tryz.prog ops Q' (o::rest) A w:=by
 refine aG Tryz.u8s x y ho w0.heap.size (.slice a l.length cc) (.slice a2 m.length c2) (ints l) (ints m) hx hy F.own F.now.1 (by decide) (by rw[aD,aD];omega) F.bel.size hg fun v' w' h1 h2 h3 _ h5=>?_;obtain⟨a',c',rfl⟩:=h1.shape;rw[<- jS]at h1;rw[<- jS,aD]at *
 exact h a' c' w' ((F.put h1 (Kept.eX h2) fun k hk=>h3.elim (fun e=>.inl (e ▸ hk)) fun e=>by rw[e]at hk;exact .inr (Nat.le_of_eq (Option.some.inj hk))).imp fun _ h=>h.2)
theorem dN {L r:List Oper}{o:Oper}{x y:Operand}{a2:Option Addr}{c2 n2:Nat}(hl:l.length+m.length<=4000000)
  (h:∀(a':Option Addr) (c':Nat),Ok Tryz.prog Q (FrA w0 R (.slice a' (l++m).length c') (l++m)) (.ops L r) (s.put o.dst (.sl (fun _=>a') (fun _=>(l++m).length) (fun _=>c'))) k)
  (ho:o.op = .call { callee:=.builtin .append,args:=#[x,y],argTypes:=#[22,22] }:=by rfl) (hx:s.ev x = .sl (fun _=>a) (fun _=>l.length) (fun _=>cc):=by rfl) (hy:s.ev y = .sl (fun _=>a2) (fun _=>n2) (fun _=>c2):=by rfl) (hn:n2=m.length:=by rfl) (hg:o.guard=none:=by rfl) :
  bE Tryz.prog Q (FrA w0 (fun u=>Reads u .u8 (.slice a2 m.length c2) (ints m)/\R u) (.slice a l.length cc) l) k8 (.at (.ops L (o::r)) s k):=fun B w F=>by
 subst hn;refine wS F hl ho hg (by rw[St.aB,hx];rfl) (by rw[St.aB,hy];rfl) fun a' c' w' F'=>?_;have:=h a' c' B w' (by cases o.dst<;>exact F');rw[St.bR]at this;exact this
theorem nR {L:List Oper}{J j:Nat}{M:List Bool}{b0:List (List AV)}{ok:Bool}{st:List Stg}{o:Oper}{x y:Operand}{a2:Option Addr}{c2 n2:Nat}(hl:l.length+m.length<=4000000)
  (h:∀(a':Option Addr) (c':Nat),Ok Tryz.prog Q (FrA w0 R (.slice a' (l++m).length c') (l++m)) (.pl L J M b0 ok st) (s.put o.dst (.sl (fun _=>a') (fun _=>(l++m).length) (fun _=>c'))) k)
  (hj:getN L j=some o:=by rfl) (ho:o.op = .call { callee:=.builtin .append,args:=#[x,y],argTypes:=#[22,22] }:=by rfl) (hx:s.ev x = .sl (fun _=>a) (fun _=>l.length) (fun _=>cc):=by rfl) (hy:s.ev y = .sl (fun _=>a2) (fun _=>n2) (fun _=>c2):=by rfl) (hn:n2=m.length:=by rfl) (hg:o.guard=none:=by rfl) (hJ:(ok || !J.testBit j)=true:=by rfl) :
  bE Tryz.prog Q (FrA w0 (fun u=>Reads u .u8 (.slice a2 m.length c2) (ints m)/\R u) (.slice a l.length cc) l) k8 (.at (.pl L J M b0 ok (.o j::st)) s k):=fun B w F S ha=>by
 have g1:(L.drop j).take 1 = [o]:=by
  rw[cZ]at hj;obtain⟨hl,he⟩:=List.getElem?_eq_some_iff.1 hj;rw[List.drop_eq_getElem_cons hl,he];rfl
 subst hn;refine jH ?_;rw[g1];refine wS F hl ho hg (by rw[St.aB,hx];rfl) (by rw[St.aB,hy];rfl) fun a' c' w' F'=>wpList_nil (eQ (fun e=>by
  have hok:ok=true:=by rw[e]at hJ;simpa using hJ
  rw[(ha hok).1];exact fp.b.bxs F' (ha hok).2) ?_)
 have:=h a' c' B w' (by cases o.dst<;>exact F') S (by cases o.dst<;>exact ha);rw[St.bR]at this;exact this
end
theorem FrA.pY {w0 w:World}{v:Value}{R:World->Prop}{l:List Nat}{L:Bx}(F:FrA w0 R v l w L):gV l w0 (.returned v) w:=⟨v,rfl,F.own,F.bel⟩
theorem eV {n:Nat}(hn:(n:Int)<18446744073709551616)(w:World){z:Int}(hz:z=(n:Int)):Calls Tryz.prog 54 #[.int .u64 z] w (gV (aC n) w):=by
 subst hz;exact qL n w hn
