/- For scbytes_law_holds. -/
import Derived.Great.BuildSlice
import Derived.Test.YtgeihgombjbkbaaGreatSyb20
import Derived.Test.YtgeihgombjbkbaaGreatSyb19
namespace Go.Proofs.Own
open Go Go.RowKit

structure FrD (b rb:Nat)(w0:World)(R Z:World->Prop)(e:TypeId)(sz:Nat)(v:Value)(rs:List (List Value))(w:World)(L:Bx):Prop where
 box:∀(i:Nat) p,L[i]? = some p->Box w p
 inj:∀(i j:Nat) p q,L[i]? = some p->L[j]? = some q->p.1=q.1->i=j
 rng:∀k,k ∈ L.map (·.1)->w0.heap.size<=k/\k≠b/\k≠rb
 lt:b<w.heap.size/\rb<w.heap.size
 kept:Kept w0 w (fun k=>k=b)
 own:dZ w w0.heap.size e sz v rs
 nown:∀k,v.ownBlock=some k->k≠b/\k≠rb/\k ∉ L.map (·.1)
 s1:Sf (fun k=>k=b\/k<w0.heap.size\/v.ownBlock=some k\/k ∈ L.map (·.1)) w R
 s2:Sf (fun k=>v.ownBlock=some k\/k ∈ L.map (·.1)) w Z
section
variable {b rb:Nat} {w0 w w':World} {R Z R' Z':World->Prop} {e:TypeId} {sz:Nat} {v:Value} {rs:List (List Value)} {L:Bx}
theorem FrD.start (w:World)(hb:b<w.heap.size)(hr:rb<w.heap.size)(e:TypeId)(sz:Nat)(h1:Sf (fun k=>k=b\/k<w.heap.size) w R)(h2:∀u,Below w.heap.size w u->Z u):FrD b rb w R Z e sz (.slice none 0 0) [] w [] :=
 ⟨nofun,nofun,nofun,⟨hb,hr⟩,Kept.refl _ _,dZ.nil _ _ _ _,nofun,h1.sub fun _ _ hk=>hk.elim .inl fun h=>h.elim .inr fun h=>h.elim nofun nofun,fun u ku=>h2 u (ku.below (Nat.le_refl _) fun _ hk=>hk.elim nofun nofun)⟩
theorem FrD.now (F:FrD b rb w0 R Z e sz v rs w L):R w:=F.s1.now
theorem FrD.z (F:FrD b rb w0 R Z e sz v rs w L):Z w:=F.s2.now
theorem FrD.mem (F:FrD b rb w0 R Z e sz v rs w L){k:Nat}(hk:k ∈ L.map (·.1)):k<w.heap.size:=by
 obtain⟨p,hp,rfl⟩:=List.mem_map.1 hk;obtain⟨i,hi⟩:=List.getElem?_of_mem hp;exact(F.box i p hi).lt
theorem FrD.mv (F:FrD b rb w0 R Z e sz v rs w L){U:Nat->Prop}(hk:Kept w w' U)(hU:∀k,U k->k=b\/w0.heap.size<=k)(hb:∀k,k ∈ L.map (·.1) -> ¬U k)(ho:∀k,v.ownBlock=some k -> ¬U k)
  (h1:Sf (fun k=>k=b\/k<w0.heap.size\/v.ownBlock=some k\/k ∈ L.map (·.1)) w' R') (h2:Sf (fun k=>v.ownBlock=some k\/k ∈ L.map (·.1)) w' Z'):FrD b rb w0 R' Z' e sz v rs w' L :=
 ⟨fun i p hp=>(F.box i p hp).kept hk (hb _ (List.mem_map.2 ⟨p,List.mem_of_getElem? hp,rfl⟩)),F.inj,F.rng,⟨Nat.lt_of_lt_of_le F.lt.1 hk.size,Nat.lt_of_lt_of_le F.lt.2 hk.size⟩,
  F.kept.andThen hk fun k h1 h2=>h2.elim id fun h=>(hU k h).elim id fun h=>absurd h1 (Nat.not_lt.2 h),F.own.kept hk ho,F.nown,h1,h2⟩
theorem FrD.call (F:FrD b rb w0 R Z e sz v rs w L)(hb:Below w.heap.size w w'):FrD b rb w0 R Z e sz v rs w' L :=
 F.mv (Kept.aQ hb (S:=fun _=>False) fun k h1 h2=>by omega) nofun (fun _ _=>id) (fun _ _=>id) (F.s1.below hb) (F.s2.below hb)
theorem FrD.rd (F:FrD b rb w0 R Z e sz v rs w L)(hk:Kept w w' (fun k=>k=b))(hz:∀U:Nat->Prop,¬U b -> ¬U rb->Sf U w' Z'):FrD b rb w0 R Z' e sz v rs w' L :=
 F.mv hk (fun _ h=>.inl h) (fun k h1 h2=>(F.rng k h1).2.1 h2) (fun k h1 h2=>(F.nown k h1).1 h2) (F.s1.to (hk.mono fun _ _ h=>.inl h))
  (hz _ (fun h=>h.elim (fun h=>(F.nown b h).1 rfl) fun h=>(F.rng b h).2.1 rfl) (fun h=>h.elim (fun h=>(F.nown rb h).2.1 rfl) fun h=>(F.rng rb h).2.2 rfl))
theorem FrD.rdR (F:FrD b rb w0 R Z e sz v rs w L)(hk:Kept w w' (fun k=>k=b))(hz:∀U:Nat->Prop,¬U b -> ¬U rb->Sf U w' Z')(hR:Sf (fun k=>k<w.heap.size) w' R'):FrD b rb w0 (fun u=>R' u/\R u) Z' e sz v rs w' L:=by
 have G:=F.rd hk hz;refine⟨G.box,G.inj,G.rng,G.lt,G.kept,G.own,G.nown,Sf.and (hR.sub fun k _ h=>?_) G.s1,G.s2⟩;rcases h with rfl|h|h|h
 ·exact F.lt.1
 ·exact Nat.lt_of_lt_of_le h F.kept.size
 ·exact(F.own.lt k h).2
 ·exact F.mem h
theorem FrD.fG (F:FrD b rb w0 R Z e sz v rs w L)(hb:Below w.heap.size w w')(hR:Sf (fun k=>k<w.heap.size) w' R'):FrD b rb w0 (fun u=>R' u/\R u) Z e sz v rs w' L:=by
 have G:=F.call hb;refine⟨G.box,G.inj,G.rng,G.lt,G.kept,G.own,G.nown,Sf.and (hR.sub fun k _ h=>?_) G.s1,G.s2⟩;rcases h with rfl|h|h|h
 ·exact F.lt.1
 ·exact Nat.lt_of_lt_of_le h F.kept.size
 ·exact(F.own.lt k h).2
 ·exact F.mem h
theorem FrD.put (F:FrD b rb w0 R Z e sz v rs w L)(h:Sf (fun k=>k=b\/k<w0.heap.size\/v.ownBlock=some k\/k ∈ L.map (·.1)) w R'):FrD b rb w0 R' Z e sz v rs w L:=⟨F.box,F.inj,F.rng,F.lt,F.kept,F.own,F.nown,h,F.s2⟩
theorem FrD.imp (F:FrD b rb w0 R Z e sz v rs w L)(h:∀u,R u->R' u):FrD b rb w0 R' Z e sz v rs w L:=F.put (F.s1.imp h)
theorem FrD.qN (F:FrD b rb w0 R Z e sz v rs w L)(e':TypeId)(sz':Nat):FrD b rb w0 (fun u=>dZ u w0.heap.size e sz v rs/\R u) Z e' sz' (.slice none 0 0) [] w L :=
 ⟨F.box,F.inj,F.rng,F.lt,F.kept,dZ.nil _ _ _ _,nofun,fun u ku=>⟨F.own.kept ku fun k hk hu=>hu.elim (F.nown k hk).1 fun h=>h.elim (fun h=>by have:=(F.own.lt k hk).1;omega) fun h=>h.elim nofun (F.nown k hk).2.2,F.s1 u (ku.mono fun _ _ h=>h.elim .inl fun h=>h.elim (fun h=>.inr (.inl h)) fun h=>h.elim nofun fun h=>.inr (.inr (.inr h)))⟩,
  F.s2.sub fun _ _ h=>h.elim nofun .inr⟩
theorem FrD.frm (b rb:Nat)(w0:World)(R Z:World->Prop)(e:TypeId)(sz:Nat)(v:Value)(rs:List (List Value)):Frm (FrD b rb w0 R Z e sz v rs) ⟨false,0⟩:=by
 refine⟨fun F i p h=>F.box i p h,fun {w L} F {i bb o c vs} hi hl _ _=>?_,fun {w L} F {c t} _=>?_,fun {w L} F=>F.call ((Below.refl _ _).drew)⟩
 ·have hfst:(L.set i (bb,putN c o vs)).map (·.1)=L.map (·.1):=by
   rw[List.map_set];refine List.ext_getElem? fun k=>?_;rw[List.getElem?_set];split
   ·rename_i hk;subst hk;rw[List.getElem?_map,hi];split
    ·rfl
    ·rename_i hlt;exact absurd (by simpa using (List.getElem?_eq_some_iff.1 hi).1) hlt
   ·rfl
  have hm:bb ∈ L.map (·.1):=List.mem_map.2 ⟨_,List.mem_of_getElem? hi,rfl⟩
  have hkk:Kept w (w.setCells bb o vs) (fun k=>k=bb):=Kept.setCells bb vs o w;have key:∀(k:Nat) p,(L.set i (bb,putN c o vs))[k]? = some p->(k=i/\p=(bb,putN c o vs))\/(k≠i/\L[k]? = some p):=by
   intro k p hp;rw[List.getElem?_set]at hp;split at hp
   ·rename_i hk;split at hp
    ·exact .inl ⟨hk.symm,(Option.some.inj hp).symm⟩
    ·cases hp
   ·rename_i hk;exact .inr ⟨fun h=>hk h.symm,hp⟩
  refine⟨fun k p hp=>?_,fun k j p q hp hq e=>?_,by rw[hfst];exact F.rng,⟨Nat.lt_of_lt_of_le F.lt.1 hkk.size,Nat.lt_of_lt_of_le F.lt.2 hkk.size⟩,F.kept.xM hkk (F.rng bb hm).1,F.own.kept hkk fun k hk h=>(F.nown k hk).2.2 (h ▸ hm),by rw[hfst];exact F.nown,by rw[hfst];exact F.s1.to (hkk.mono fun k _ h=>.inr (.inr (.inr (h ▸ hm)))),by rw[hfst];exact F.s2.to (hkk.mono fun k _ h=>.inr (h ▸ hm))⟩
  ·rcases key k p hp with ⟨rfl,rfl⟩|⟨hne,hp⟩
   ·have q:=Box.setL vs c o w (F.box _ _ hi)
    rwa [jZ vs c o hl]at q
   ·exact(F.box k p hp).kept hkk fun e=>hne (F.inj k i p _ hp hi e)
  ·rcases key k p hp with ⟨rfl,rfl⟩|⟨_,hp'⟩<;>rcases key j q hq with ⟨rfl,rfl⟩|⟨_,hq'⟩
   ·rfl
   ·exact F.inj _ j _ q hi hq' e
   ·exact F.inj k _ p _ hp' hi e
   ·exact F.inj k j p q hp' hq' e
 ·have hal:Below w.heap.size w (w.alloc (.cells c.toArray t)):=(Below.refl _ _).alloc (Nat.le_refl _) _;have F2:=F.call hal;have key:∀(i:Nat) p,(L ++ [(w.heap.size,c)])[i]? = some p->(L[i]? = some p/\p.1<w.heap.size)\/(i=L.length/\p=(w.heap.size,c)):=by
   intro i p hp;rw[List.getElem?_append]at hp;split at hp
   ·exact .inl ⟨hp,(F.box i p hp).lt⟩
   ·rename_i hi;rw[List.getElem?_singleton]at hp;split at hp
    ·exact .inr ⟨by omega,(Option.some.inj hp).symm⟩
    ·cases hp
  have hma:∀k,k ∈ (L ++ [(w.heap.size,c)]).map (·.1)->k ∈ L.map (·.1)\/k=w.heap.size:=fun k hk=>by
   rw[List.map_append]at hk;exact(List.mem_append.1 hk).imp id fun h=>by simpa using h
  refine⟨fun i p hp=>?_,fun i j p q hp hq e=>?_,fun k hk=>?_,F2.lt,F2.kept,F2.own,fun k hk=>⟨(F.nown k hk).1,(F.nown k hk).2.1,fun h=>(hma k h).elim (F.nown k hk).2.2 fun h=>by have:=(F.own.lt k hk).2;omega⟩,fun u ku=>F.s1 u ?_,fun u ku=>F.s2 u ?_⟩
  ·rcases key i p hp with ⟨hp,_⟩|⟨_,rfl⟩
   ·exact F2.box i p hp
   ·exact Box.new
  ·rcases key i p hp with ⟨hp,lp⟩|⟨rfl,rfl⟩<;>rcases key j q hq with ⟨hq,lq⟩|⟨rfl,rfl⟩
   ·exact F.inj i j p q hp hq e
   ·simp only at e;omega
   ·simp only at e;omega
   ·rfl
  ·rcases hma k hk with hk|rfl
   ·exact F.rng k hk
   ·exact⟨F.kept.size,Nat.ne_of_gt F.lt.1,Nat.ne_of_gt F.lt.2⟩
  ·refine(Kept.aQ hal (S:=fun _=>False) fun k h1 h2=>by omega).andThen ku fun k hl h=>?_;rcases h with h|h|h|h|h
   ·exact h.elim
   ·exact .inl h
   ·exact .inr (.inl h)
   ·exact .inr (.inr (.inl h))
   ·exact .inr (.inr (.inr ((hma k h).resolve_right (by omega))))
  ·refine(Kept.aQ hal (S:=fun _=>False) fun k h1 h2=>by omega).andThen ku fun k hl h=>?_;rcases h with h|h|h
   ·exact h.elim
   ·exact .inl h
   ·exact .inr ((hma k h).resolve_right (by omega))
theorem FrD.old (F:FrD b rb w0 R Z e sz v rs w L):Sf (fun k=>k<w0.heap.size) w R:=F.s1.sub fun _ _ h=>.inr (.inl h)
theorem fd:Frm (FrD b rb w0 R Z e sz v rs) ⟨false,0⟩:=FrD.frm _ _ _ _ _ _ _ _ _
theorem FrD.ap (F:FrD b rb w0 R Z e sz v rs w L){v':Value}{rs':List (List Value)}(h1:dZ w' w0.heap.size e sz v' rs')(hk:Kept w w' (fun k=>v.ownBlock=some k))(hn:∀k,v'.ownBlock=some k->v.ownBlock=some k\/w.heap.size<k):FrD b rb w0 R Z e sz v' rs' w' L:=by
 refine⟨fun i p hp=>(F.box i p hp).kept hk fun h=>(F.nown _ h).2.2 (List.mem_map.2 ⟨p,List.mem_of_getElem? hp,rfl⟩),F.inj,F.rng,⟨Nat.lt_of_lt_of_le F.lt.1 hk.size,Nat.lt_of_lt_of_le F.lt.2 hk.size⟩,?_,h1,fun k hk2=>?_,fun u ku=>F.s1 u ?_,fun u ku=>F.s2 u ?_⟩
 ·refine F.kept.andThen hk fun k hl h=>h.elim id fun h=>?_;have:=(F.own.lt k h).1;omega
 ·rcases hn k hk2 with h|h
  ·exact F.nown k h
  ·exact⟨by have:=F.lt.1;omega,by have:=F.lt.2;omega,fun hm=>by have:=F.mem hm;omega⟩
 ·refine hk.andThen ku fun k hl h=>?_;rcases h with h|h|h|h|h
  ·exact .inr (.inr (.inl h))
  ·exact .inl h
  ·exact .inr (.inl h)
  ·exact .inr (.inr (.inl ((hn k h).resolve_right (by omega))))
  ·exact .inr (.inr (.inr h))
 ·refine hk.andThen ku fun k hl h=>?_;rcases h with h|h|h
  ·exact .inl h
  ·exact .inl ((hn k h).resolve_right (by omega))
  ·exact .inr h
end
theorem aLU {w:World}{n:Nat}{e:TypeId}{sz:Nat}{v:Value}{rs:List (List Value)}(h:dZ w n e sz v rs):Sf (fun k=>k<n) w (fun u=>dZ u n e sz v rs):=fun _ ku=>h.kept ku fun k hk hl=>by have:=(h.lt k hk).1;omega
theorem aHX {sz:Nat}{r z:List Value}(hr:r.length=sz)(hz:z.length=sz):Instr.fill (fun i=>some (i*sz,sz)) z.toArray [(0,.agg r.toArray)]=some r.toArray:=by
 have hs:(Value.agg r.toArray).cells.size=sz:=by simp[Value.cells,hr]
 simp only[Instr.fill,Nat.zero_mul];rw[if_neg (by rw[hs];simp[hz])]
 congr 1
 show (r.toArray.zipIdx.foldl (fun cs (p:Value × Nat)=>cs.setIfInBounds (0+p.2) p.1) z.toArray)=_;rw[<- Array.foldl_toList,Array.toList_zipIdx];show (r.zipIdx 0).foldl (fun cs (p:Value × Nat)=>cs.setIfInBounds (0+p.2) p.1) z.toArray=_;rw[foldl_put 0 r 0 z (by omega),gP _ _ _ (by omega)];simp only[Nat.zero_add,List.take_zero,List.nil_append];rw[List.drop_of_length_le (by omega),List.append_nil]
section
variable {P:Program} {Q:Exit->Act->World->Prop} {k8:KB} {F:World->Bx->Prop} {s:St} {k:List KF}
theorem aOK {l r:List Oper}{o:Oper}(h:∀B w,F w (mkB B 0 s.bx) -> ∀(K:Act->World->Prop) (Q':Exit->Act->World->Prop),(∀F' w' v,FrB F'->F' w' (mkB B 0 s.bx)->Ok P Q F' (.ops l r) (s.put o.dst v) k->K ((s.act B).put o.dst (v.den B)) w')->o.wp P (s.act B) w K Q')(hw:wantA l s o=some true:=by cbv):bE P Q F k8 (.at (.ops l (o::r)) s k):=fun B w H=>by
 refine wpList_on (want_den hw) (h B w H _ _ fun F' w' v hF H' hk=>?_);have:=hk B w' (by cases o.dst<;>exact H');rw[St.bR]at this;exact this
theorem jF {F':World->Bx->Prop}{c:Cf}(hi:∀w L,F w L->F' w L)(h:Ok P Q F' c s k):Ok P Q F c s k:=fun B w H=>h B w (hi _ _ H)
def Un (P:Program)(Q:Exit->Act->World->Prop)(c:Code):Nat->Act->World->Prop
 | 0=>fun _ _=>False
 | n+1=>fun a w=>c.wp P (Exit.then (Un P Q c n) Q) a w
theorem Un.loop {c:Code}{n:Nat}{a:Act}{w:World}(h:Un P Q c n a w):(Code.loop c).wp P Q a w:=by
 have key:∀(a:Act) (w:World),∃n,(∃m,Un P Q c m a w)->Un P Q c n a w /\ ∀m,Un P Q c m a w->n<=m:=by
  intro a w;by_cases hx:∃m,Un P Q c m a w
  ·obtain⟨m,hm⟩:=hx
   induction m using Nat.strongRecOn with
   | _ m ih =>
    by_cases hl:∃l,l<m/\Un P Q c l a w
    ·obtain⟨l,h1,h2⟩:=hl;exact ih l h1 h2
    ·exact⟨m,fun _=>⟨hm,fun l hl2=>Nat.le_of_not_lt fun h3=>hl ⟨l,h3,hl2⟩⟩⟩
  ·exact⟨0,fun h=>absurd h hx⟩
 let ν:Act->World->Nat:=fun a w=>Classical.choose (key a w)
 have hν:∀a w,(∃m,Un P Q c m a w)->Un P Q c (ν a w) a w /\ ∀m,Un P Q c m a w -> ν a w<=m:=fun a w=>Classical.choose_spec (key a w);refine wp_loop (fun a w=>∃m,Un P Q c m a w) ν ⟨n,h⟩ fun a w hI=>?_;have h1:=(hν a w hI).1;cases hn:ν a w with
 | zero=>rw[hn]at h1;exact h1.elim
 | succ m =>
  rw[hn]at h1;refine wp_mono h1 fun e a' w' he=>?_;cases e with
  | normal=>exact⟨⟨m,he⟩,Nat.lt_succ_of_le ((hν a' w' ⟨m,he⟩).2 m he)⟩
  | _=>exact he
theorem vK (n:Nat){c:Code}(h:∀J,J=Un P (semK P Q k) c n->Ok P Q F (.code c) s (.inv J::k)):bE P Q F k8 (.at (.code (.loop c)) s k):=fun B w H=>Un.loop (n:=n+1) (h _ rfl B w H)
theorem dK {n:Nat}{J:Act->World->Prop}{Q':Exit->Act->World->Prop}{c:Code}(hJ:J=Un P (semK P Q k) c (n+1))(h:∀J,J=Un P (semK P Q k) c n->Ok P Q F (.code c) s (.inv J::k)):bE P Q' F k8 (.inv J s):=fun B w H=>by
 subst hJ;exact h _ rfl B w H
section
variable {b rb:Nat} {w0:World} {R Z:World->Prop} {e:TypeId} {sz by':Nat} {rs:List (List Value)} {a:Option Addr} {n c:Nat} {q:List AV}
theorem aKH {t:TypeId}(I:cM P t e sz by'){o:Oper}{a:Act}{w:World}{K:Act->World->Prop}{x:Operand}{r:List Value}(ho:o.op = .buildSlice t 1 #[(0,x)])(hx:a.eval x = .agg r.toArray)(hr:r.length=sz)(hsz:sz<=100000)
  (h:K (a.put o.dst (.slice (some ⟨w.heap.size,0,none⟩) 1 1)) (w.alloc (.cells r.toArray e))) {Q':Exit->Act->World->Prop}:o.wp P a w K Q':=by
 obtain⟨i,z,hi,hz,h1,_,h2⟩:=I.info;have hp:=I.pos;refine wp_buildSlice t e 1 #[(0,x)] ho r.toArray i z I.under hi hz (by rw[h1];omega) (by rw[h1];omega) ?_ h;rw[h1];simp only[List.map_toArray,List.map_cons,List.map_nil,hx];exact aHX (z:=((Array.range (1*sz)).map (z.cells[· % z.cells.size]!)).toList) hr (by simp)
def ntB:Operand->Tmp->Bool
 | .tmp j,d=>!Nat.beq j d
 | _,_=>true
theorem aAo {t:TypeId}(I:cM P t e sz by'){l r:List Oper}{o1 o2:Oper}{x y:Operand}{d:Tmp}
  (hn:rs.length=n) (hrs:n<=4294967295)
  (h:∀(a' g:Option Addr) (c':Nat),Ok P Q (FrD b rb w0 R Z e sz (.slice a' (n+1) c') (rs ++ [AV.denL (fun _=>0) q])) (.ops l r) ((s.put (some d) (.sl (fun _=>g) (fun _=>1) (fun _=>1))).put o2.dst (.sl (fun _=>a') (fun _=>n+1) (fun _=>c'))) k)
  (h1:o1.op = .buildSlice t 1 #[(0,x)]:=by rfl) (hd:o1.dst=some d:=by rfl) (h2:o2.op = .call { callee:=.builtin .append,args:=#[y,.tmp d],argTypes:=#[t,t] }:=by rfl)
  (hx:s.ev x = .g q:=by rfl) (hy:(s.put (some d) (.v undef)).ev y = .sl (fun _=>a) (fun _=>n) (fun _=>c):=by rfl) (hd2:Nat.blt d s.tm.length=true:=by rfl) (hyd:ntB y d=true:=by rfl) (hq:q.length=sz:=by rfl) (hq1:oneL q=true:=by rfl) (hq0:AV.wfL 0 q=true:=by rfl) (hsz:Nat.ble sz 100000=true:=by rfl)
  (hw1:wantA l s o1=some true:=by rfl) (hg2:o2.guard=none:=by rfl) :
  bE P Q (FrD b rb w0 R Z e sz (.slice a n c) rs) k8 (.at (.ops l (o1::o2::r)) s k):=fun B w F=>by
 subst hn;have hsz:=Nat.le_of_ble_eq_true hsz;have hd2:d<s.tm.length:=by simpa using hd2
 refine wpList_on (want_den hw1) (aKH I h1 (r:=AV.denL B q) (by rw[St.aB,hx,AV.den]) (by rw[AV.denL_eq,List.length_map];exact hq) hsz ?_);have hkp:=F.kept.size;refine ap2 I F.own (by rw[AV.denL_eq,List.length_map];exact hq) (lV B hq1) (by omega) hkp h2 hg2 (s:=y) (x:=.tmp d) ?_ ?_ fun v' w' g1 g2 g3 g4=>?_
 ·have e1:∀u:Value,((s.act B).put o1.dst u).eval y=((s.act B).put o1.dst undef).eval y:=fun u=>by
   rw[hd];cases y with
   | const=>rfl
   | global=>rfl
   | func=>rfl
   | tmp j =>
    have hj:d≠j:=fun e=>by subst e;simp[ntB]at hyd
    simp[Act.eval,Act.put,Array.getD_eq_getD_getElem?,hj]
  rw[e1];have:=St.aB B (s.put (some d) (.v undef)) y;rw[hy,AV.den,St.bR]at this;rw[hd];exact this
 ·rw[hd];simp only[Act.eval,Act.put,Array.getD_eq_getD_getElem?];rw[Array.getElem?_setIfInBounds];have:d<(s.act B).tmps.size:=by simp[St.act,AV.denL_eq];exact hd2
  simp[this]
 ·obtain⟨a',c',rfl⟩:=g1.shape;rw[show (rs ++ [AV.denL B q]).length=rs.length+1 by simp]at *
  have F':=F.ap g1 g3 g4;rw[AV.tL (C:=fun _=>0) hq0]at F';have:=h a' (some ⟨w.heap.size,0,none⟩) c' B w' (by cases o2.dst<;>exact F');rw[St.bR,St.bR]at this;rw[hd];exact this
theorem mG {t:TypeId}(I:cM P t e sz by'){l:List Oper}{J j1 j2:Nat}{m:List Bool}{b0:List (List AV)}{ok:Bool}{st:List Stg}{o1 o2:Oper}{x y:Operand}{d:Tmp}
  (hn:rs.length=n) (hrs:n<=4294967295)
  (h:∀(a' g:Option Addr) (c':Nat),Ok P Q (FrD b rb w0 R Z e sz (.slice a' (n+1) c') (rs ++ [AV.denL (fun _=>0) q])) (.pl l J m b0 ok st) ((s.put (some d) (.sl (fun _=>g) (fun _=>1) (fun _=>1))).put o2.dst (.sl (fun _=>a') (fun _=>n+1) (fun _=>c'))) k)
  (hj1:getN l j1=some o1:=by rfl) (hj2:getN l j2=some o2:=by rfl)
  (h1:o1.op = .buildSlice t 1 #[(0,x)]:=by rfl) (hd:o1.dst=some d:=by rfl) (h2:o2.op = .call { callee:=.builtin .append,args:=#[y,.tmp d],argTypes:=#[t,t] }:=by rfl)
  (hx:s.ev x = .g q:=by rfl) (hy:(s.put (some d) (.v undef)).ev y = .sl (fun _=>a) (fun _=>n) (fun _=>c):=by rfl) (hd2:Nat.blt d s.tm.length=true:=by rfl) (hyd:ntB y d=true:=by rfl) (hq:q.length=sz:=by rfl) (hq1:oneL q=true:=by rfl) (hq0:AV.wfL 0 q=true:=by rfl) (hsz:Nat.ble sz 100000=true:=by rfl)
  (hw1:wantA l s o1=some true:=by rfl) (hg2:o2.guard=none:=by rfl) (hJ1:J.testBit j1=false:=by rfl) (hJ2:J.testBit j2=false:=by rfl) :
  bE P Q (FrD b rb w0 R Z e sz (.slice a n c) rs) k8 (.at (.pl l J m b0 ok (.o j1 :: .o j2::st)) s k):=fun B w F S ha=>by
 subst hn;have hsz:=Nat.le_of_ble_eq_true hsz;have hd2:d<s.tm.length:=by simpa using hd2
 have g1:(l.drop j1).take 1 = [o1]:=by
  rw[cZ]at hj1;obtain⟨hl,he⟩:=List.getElem?_eq_some_iff.1 hj1;rw[List.drop_eq_getElem_cons hl,he];rfl
 have g2:(l.drop j2).take 1 = [o2]:=by
  rw[cZ]at hj2;obtain⟨hl,he⟩:=List.getElem?_eq_some_iff.1 hj2;rw[List.drop_eq_getElem_cons hl,he];rfl
 refine jH ?_;rw[g1];refine wpList_on (want_den hw1) (aKH I h1 (r:=AV.denL B q) (by rw[St.aB,hx,AV.den]) (by rw[AV.denL_eq,List.length_map];exact hq) hsz ?_);have hkp:=F.kept.size;refine wpList_nil (eQ (fun e=>by rw[hJ1]at e;cases e) ?_);refine jH ?_;rw[g2];refine ap2 I F.own (by rw[AV.denL_eq,List.length_map];exact hq) (lV B hq1) (by omega) hkp h2 hg2 (s:=y) (x:=.tmp d) ?_ ?_ fun v' w' g1 g2 g3 g4=>wpList_nil (eQ (fun e=>by rw[hJ2]at e;cases e) ?_)
 ·have e1:∀u:Value,((s.act B).put o1.dst u).eval y=((s.act B).put o1.dst undef).eval y:=fun u=>by
   rw[hd];cases y with
   | const=>rfl
   | global=>rfl
   | func=>rfl
   | tmp j =>
    have hj:d≠j:=fun e=>by subst e;simp[ntB]at hyd
    simp[Act.eval,Act.put,Array.getD_eq_getD_getElem?,hj]
  rw[e1];have:=St.aB B (s.put (some d) (.v undef)) y;rw[hy,AV.den,St.bR]at this;rw[hd];exact this
 ·rw[hd];simp only[Act.eval,Act.put,Array.getD_eq_getD_getElem?];rw[Array.getElem?_setIfInBounds];have:d<(s.act B).tmps.size:=by simp[St.act,AV.denL_eq];exact hd2
  simp[this]
 ·obtain⟨a',c',rfl⟩:=g1.shape;rw[show (rs ++ [AV.denL B q]).length=rs.length+1 by simp]at *
  have F':=F.ap g1 g3 g4;rw[AV.tL (C:=fun _=>0) hq0]at F';have:=h a' (some ⟨w.heap.size,0,none⟩) c' B w' (by cases o2.dst<;>exact F') S (by cases o2.dst<;>exact ha);rw[St.bR,St.bR]at this;rw[hd];exact this
end
end
end Go.Proofs.Own
