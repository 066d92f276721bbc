/- For vltopens_law_holds. -/
import Derived.Test.YtjdglpcnkiioeaaGreatVob5
import Derived.Test.YtjdglpcnkiioeaaGreatVob2
namespace Go.Proofs.Own
open Go Go.RowKit

def Sf (S:Nat->Prop)(w:World)(R:World->Prop):Prop:=∀w',Kept w w' S->R w'
section
variable {S T:Nat->Prop} {w w':World} {R Z:World->Prop}
theorem Sf.now (h:Sf S w R):R w:=h w (Kept.refl w S)
theorem Sf.to (h:Sf S w R)(k:Kept w w' S):Sf S w' R:=fun v kv=>h v (k.trans kv)
theorem Sf.below (h:Sf S w R)(k:Below w.heap.size w w'):Sf S w' R:=h.to (Kept.aL k fun i h1 h2=>by omega)
theorem Sf.sub (h:Sf S w R)(hs:∀k,k<w.heap.size->T k->S k):Sf T w R:=fun v kv=>h v (kv.mono hs)
theorem Sf.imp (h:Sf S w R)(hi:∀v,R v->Z v):Sf S w Z:=fun v kv=>hi v (h v kv)
theorem Sf.and (h:Sf S w R)(g:Sf S w Z):Sf S w (fun v=>R v/\Z v):=fun v kv=>⟨h v kv,g v kv⟩
theorem Sf.all (S:Nat->Prop)(w:World):Sf S w (fun _=>True):=fun _ _=>trivial
end

abbrev Bx:=List (Nat × List Value)
def Box (w:World)(p:Nat × List Value):Prop:=p.1<w.heap.size /\ ∀(j:Nat) v,p.2[j]? = some v->w.cell? ⟨p.1,j,none⟩=some v/\w.frozen? ⟨p.1,j,none⟩=false
theorem Box.lt {w:World}{p:Nat × List Value}(h:Box w p):p.1<w.heap.size:=h.1
theorem Box.kept {w w':World}{p:Nat × List Value}{S:Nat->Prop}(h:Box w p)(hk:Kept w w' S)(hs:¬S p.1):Box w' p :=
 ⟨Nat.lt_of_lt_of_le h.1 hk.size,fun j v hj=>⟨hk.cell (h.2 j v hj).1 hs,(hk.frozen (a:=⟨p.1,j,none⟩) h.1 hs).trans (h.2 j v hj).2⟩⟩
theorem Box.new {w:World}{c:List Value}{t:TypeId}:Box (w.alloc (.cells c.toArray t)) (w.heap.size,c):=by
 refine⟨by simp,fun j v hj=>⟨?_,?_⟩⟩
 ·rw[World.cell?_alloc_new]
  simpa using hj
 ·show World.frozen? (w.alloc _) ⟨w.heap.size,j,none⟩=false;unfold World.frozen? World.alloc;simp
theorem Box.set {w:World}{b:Nat}{c:List Value}(h:Box w (b,c))(j:Nat)(v:Value):Box (w.setCell ⟨b,j,none⟩ v) (b,c.set j v):=by
 refine⟨by rw[World.size_setCell];exact h.1,fun i u hi=>?_⟩;rw[fsc];simp only at hi ⊢;rw[List.getElem?_set]at hi;split at hi
 ·rename_i e;subst e;split at hi
  ·rename_i hl;have h1:=h.2 j _ (List.getElem?_eq_getElem hl);exact⟨(css h1.1).trans hi,h1.2⟩
  ·cases hi
 ·rename_i e;exact⟨(cso (by simp)).trans (h.2 i u hi).1,(h.2 i u hi).2⟩
def ow (S:Nat->Prop)(l:List Nat):Nat->Prop:=fun k=>S k\/k ∈ l

structure Fr (S:Nat->Prop)(w0 w:World)(L:Bx)(R:World->Prop):Prop where
 box:∀(i:Nat) p,L[i]? = some p->Box w p
 inj:∀(i j:Nat) p q,L[i]? = some p->L[j]? = some q->p.1=q.1->i=j
 rng:∀p ∈ L,w0.heap.size<=p.1/\p.1<w.heap.size
 bel:Below w0.heap.size w0 w
 saf:Sf (ow S (L.map (·.1))) w R
 lim:∀k,S k->k<w.heap.size
section
variable {S:Nat->Prop} {w0 w w':World} {L:Bx} {R Z:World->Prop}
theorem Fr.zero (w:World)(hS:∀k,S k->k<w.heap.size)(h:Sf S w R):Fr S w w [] R :=
 ⟨fun i p h=>(by simp at h),fun i j p q h=>(by simp at h),nofun,Below.refl _ _,h.sub fun k _ hk=>hk.elim id fun h=>(by cases h),hS⟩
theorem Fr.r (h:Fr S w0 w L R):R w:=h.saf.now
theorem Fr.get (h:Fr S w0 w L R)(hi:∀v,R v->Z v):Sf (ow S (L.map (·.1))) w Z:=h.saf.imp hi
theorem Fr.few (h:Fr S w0 w L R):∀k,ow S (L.map (·.1)) k->k<w.heap.size:=fun k hk=>hk.elim (h.lim k) fun h1=>by
 obtain⟨p,hp,rfl⟩:=List.mem_map.1 h1;exact(h.rng p hp).2
theorem Fr.call (h:Fr S w0 w L R)(hb:Below w.heap.size w w'):Fr S w0 w' L R:=by
 have hz:w0.heap.size<=w.heap.size:=h.bel.size;refine⟨fun i p hp=>?_,h.inj,fun p hp=>⟨(h.rng p hp).1,Nat.lt_of_lt_of_le (h.rng p hp).2 hb.size⟩,h.bel.trans (hb.mono hz),h.saf.below hb,fun k hk=>Nat.lt_of_lt_of_le (h.lim k hk) hb.size⟩;exact(h.box i p hp).kept (Kept.aL hb (S:=fun _=>False) fun k h1 h2=>by omega) id
theorem Fr.put (h:Fr S w0 w L R)(g:Sf (ow S (L.map (·.1))) w Z):Fr S w0 w L (fun v=>Z v/\R v):=⟨h.box,h.inj,h.rng,h.bel,g.and h.saf,h.lim⟩
theorem Fr.imp (h:Fr S w0 w L R)(hi:∀v,R v->Z v):Fr S w0 w L Z:=⟨h.box,h.inj,h.rng,h.bel,h.saf.imp hi,h.lim⟩
theorem Fr.drew (h:Fr S w0 w L R)(e:w.drew=w'):Fr S w0 w' L R:=e ▸ h.call ((Below.refl _ _).drew)
theorem Fr.grow (h:Fr S w0 w L R){o:Obj}(e:w.alloc o=w'):Fr S w0 w' L R:=e ▸ h.call ((Below.refl _ _).alloc (Nat.le_refl _) _)
theorem Fr.snoc (h:Fr S w0 w L R){b:Nat}{c:List Value}{t:TypeId}(hb:w.heap.size=b)(e:w.alloc (.cells c.toArray t)=w'):Fr S w0 w' (L ++ [(b,c)]) R:=by
 subst hb;have h1:=h.grow e;have key:∀(i:Nat) p,(L ++ [(w.heap.size,c)])[i]? = some p->(L[i]? = some p/\p.1<w.heap.size)\/(i=L.length/\p=(w.heap.size,c)):=by
  intro i p hp;rw[List.getElem?_append]at hp;split at hp
  ·exact .inl ⟨hp,(h.rng p (List.mem_of_getElem? hp)).2⟩
  ·rename_i hi;rw[List.getElem?_singleton]at hp;split at hp
   ·exact .inr ⟨by omega,(Option.some.inj hp).symm⟩
   ·cases hp
 refine⟨fun i p hp=>?_,fun i j p q hp hq hpq=>?_,fun p hp=>?_,h1.bel,?_,h1.lim⟩
 ·rcases key i p hp with ⟨hp,_⟩|⟨_,rfl⟩
  ·exact h1.box i p hp
  ·exact e ▸ Box.new
 ·rcases key i p hp with ⟨hp,lp⟩|⟨rfl,rfl⟩<;>rcases key j q hq with ⟨hq,lq⟩|⟨rfl,rfl⟩
  ·exact h.inj i j p q hp hq hpq
  ·simp only at hpq;omega
  ·simp only at hpq;omega
  ·rfl
 ·rcases List.mem_append.1 hp with hp|hp
  ·exact h1.rng p hp
  ·obtain rfl:=List.mem_singleton.1 hp;exact⟨h.bel.size,by subst e;simp⟩
 ·intro v kv;have k1:Kept w v (ow S (L.map (·.1))):=by
   subst e;refine((Kept.alloc w _ (fun k=>ow S ((L ++ [(w.heap.size,c)]).map (·.1)) k)).trans kv).mono fun k hk hs=>?_
   rcases hs with hs|hs
   ·exact .inl hs
   ·rw[List.map_append]at hs;rcases List.mem_append.1 hs with hs|hs
    ·exact .inr hs
    ·simp only[List.map_cons,List.map_nil,List.mem_singleton]at hs;omega
  exact h.saf v k1
theorem Fr.jU (h:Fr S w0 w L R)(i:Nat){b:Nat}{c d:List Value}(hi:L[i]? = some (b,c))(hk:Kept w w' (fun k=>k=b))(hd:Box w' (b,d)):Fr S w0 w' (L.set i (b,d)) R:=by
 have hl:i<L.length:=(List.getElem?_eq_some_iff.1 hi).1;have key:∀(k:Nat) p,(L.set i (b,d))[k]? = some p->(k=i/\p=(b,d))\/(k≠i/\L[k]? = some p):=by
  intro k p hp;rw[List.getElem?_set]at hp;split at hp
  ·rename_i hk;exact .inl ⟨hk.symm,(Option.some.inj hp).symm⟩
  ·rename_i hk;exact .inr ⟨fun h=>hk h.symm,hp⟩
 have hfst:(L.set i (b,d)).map (·.1)=L.map (·.1):=by
  rw[List.map_set];refine List.ext_getElem? fun k=>?_;rw[List.getElem?_set];split
  ·rename_i hk;subst hk;rw[List.getElem?_map,hi];simp[hl]
  ·rfl
 have hb:(b,c) ∈ L:=List.mem_of_getElem? hi;refine⟨fun k p hp=>?_,fun k l p q hp hq hpq=>?_,fun p hp=>?_,hk.below (Nat.le_trans (h.rng _ hb).1 (Nat.le_of_lt (h.rng _ hb).2)) (fun k hk=>hk ▸ (h.rng _ hb).1) |> h.bel.trans,?_,fun k hs=>Nat.lt_of_lt_of_le (h.lim k hs) hk.size⟩
 ·rcases key k p hp with ⟨rfl,rfl⟩|⟨hne,hp⟩
  ·exact hd
  ·exact(h.box k p hp).kept hk fun he=>hne (h.inj k i p _ hp hi he)
 ·rcases key k p hp with ⟨rfl,rfl⟩|⟨_,hp'⟩<;>rcases key l q hq with ⟨rfl,rfl⟩|⟨_,hq'⟩
  ·rfl
  ·exact h.inj _ l _ q hi hq' hpq
  ·exact h.inj k _ p _ hp' hi hpq
  ·exact h.inj k l p q hp' hq' hpq
 ·obtain⟨k,hk2⟩:=List.getElem?_of_mem hp;rcases key k p hk2 with ⟨rfl,rfl⟩|⟨_,hp⟩
  ·exact⟨(h.rng _ hb).1,Nat.lt_of_lt_of_le (h.rng _ hb).2 hk.size⟩
  ·exact⟨(h.rng p (List.mem_of_getElem? hp)).1,Nat.lt_of_lt_of_le (h.rng p (List.mem_of_getElem? hp)).2 hk.size⟩
 ·rw[hfst];exact h.saf.to (hk.mono fun k _ hk=>.inr (hk ▸ List.mem_map.2 ⟨_,hb,rfl⟩))
theorem Fr.u (h:Fr S w0 w L R)(i:Nat){b:Nat}{c:List Value}{j:Nat}{v:Value}(hi:L[i]? = some (b,c))(e:w.setCell ⟨b,j,none⟩ v=w'):Fr S w0 w' (L.set i (b,c.set j v)) R :=
 h.jU i hi (e ▸ Kept.setCell w ⟨b,j,none⟩ v) (e ▸ (h.box _ _ hi).set j v)
structure In (S:Nat->Prop)(w:World)(R:World->Prop):Prop where
 lim:∀k,S k->k<w.heap.size
 saf:Sf S w R
theorem In.fr (h:In S w R):Fr S w w [] R:=Fr.zero w h.lim h.saf
theorem Fr.ins (h:Fr S w0 w L R)(hi:∀v,R v->Z v):In (ow S (L.map (·.1))) w Z:=⟨h.few,h.get hi⟩
theorem Fr.next (h:Fr S w0 w L R)(hb:Below w.heap.size w w')(g:Sf (ow S (L.map (·.1))) w' Z):Fr S w0 w' L (fun v=>Z v/\R v):=(h.call hb).put g
theorem Fr.fin (h:Fr S w0 w L R)(hi:∀v,R v->Z v):Sf S w Z:=(h.saf.sub fun _ _ hk=>.inl hk).imp hi
end
def qT (w:World)(b:Nat):Nat->List Value->Prop
 | _,[]=>True
 | j,v::r=>w.cell? ⟨b,j,none⟩=some v/\w.frozen? ⟨b,j,none⟩=false/\qT w b (j+1) r
def sU (w:World):Bx->Prop
 | []=>True
 | p::r=>p.1<w.heap.size/\qT w p.1 0 p.2/\sU w r
theorem aAa {w:World}{b:Nat}:∀(r:List Value) (j:Nat),(∀(i:Nat) v,r[i]? = some v->w.cell? ⟨b,j+i,none⟩=some v/\w.frozen? ⟨b,j+i,none⟩=false)->qT w b j r
 | [],_,_=>trivial
 | v::r,j,hr=>by
  have h0:=hr 0 v rfl;refine⟨h0.1,h0.2,aAa r (j+1) fun i u hu=>?_⟩;have:=hr (i+1) u (by simpa using hu)
  rwa [show j+(i+1)=j+1+i by omega]at this
theorem pP {w:World}:∀ {L:Bx},(∀p ∈ L,Box w p)->sU w L
 | [],_=>trivial
 | p::r,h=>⟨(h p List.mem_cons_self).1,aAa p.2 0 fun i v hv=>by rw[Nat.zero_add];exact(h p List.mem_cons_self).2 i v hv,pP fun q hq=>h q (List.mem_cons_of_mem _ hq)⟩
theorem Fr.facts {S:Nat->Prop}{w0 w:World}{L:Bx}{R:World->Prop}(h:Fr S w0 w L R):sU w L:=pP fun p hp=>let ⟨i,hi⟩:=List.getElem?_of_mem hp;h.box i p hi
theorem fO {w:World}:sU w []=True/\(∀b c r,sU w ((b,c)::r)=(b<w.heap.size/\qT w b 0 c/\sU w r))/\(∀b j,qT w b j []=True)/\(∀b j v r,qT w b j (v::r)=(w.cell? ⟨b,j,none⟩=some v/\w.frozen? ⟨b,j,none⟩=false/\qT w b (j+1) r)) :=
 ⟨rfl,fun _ _ _=>rfl,fun _ _=>rfl,fun _ _ _ _=>rfl⟩
theorem fS {α:Type}:(∀(a b:α) l,(a::l).set 0 b=b::l)/\(∀(a b:α) l i,(a::l).set (i+1) b=a::l.set i b)/\(∀l:List α,[]++l=l) /\ ∀(a:α) l m,(a::l)++m=a::(l++m):=⟨fun _ _ _=>rfl,fun _ _ _ _=>rfl,fun _=>rfl,fun _ _ _=>rfl⟩
inductive Stg where
 | h (H:List Nat)
 | o (j:Nat)
def planB (l:List Oper)(M:List Nat)(J:Nat):List Stg->Array Bool->Bool
 | [],L=>(Region.ready .any l.toArray L).isEmpty
 | .h H::r,L=>stageB l.toArray M J L H&&planB l M J r (H.foldl (fun b i=>b.setIfInBounds i true) L)
 | .o j::r,L=>(Region.ready .any l.toArray L == [j])&&planB l M J r (L.setIfInBounds j true)
def rX:List Stg->Nat
 | []=>0
 | .h H::r=>rX r+H.length
 | .o _::r=>rX r+1
def nB (J:Nat)(S:World->Prop)(Q:Exit->Act->World->Prop)(j:Nat)(K:Act->World->Prop):Exit->Act->World->Prop
 | .normal,a,w=>(J.testBit j=true->S w)/\K a w
 | e,a,w=>Q e a w
def wpPlan (P:Program)(l:List Oper)(J:Nat)(S:World->Prop)(Q:Exit->Act->World->Prop):List Stg->Act->World->Prop
 | [],a,w=>Q .normal a w
 | .h H::r,a,w=>((H.all fun i=>match l.toArray[i]? with|some o=>!mX J i o|none=>true)=true\/S w)/\fV P l.toArray S (fun A=>wpPlan P l J S Q r A w) (H.flatMap fun i=>(l.drop i).take 1) a
 | .o j::r,a,w=>wpList P l.toArray (nB J S Q j (wpPlan P l J S Q r)) ((l.drop j).take 1) a w
section
variable {P:Program} {l:List Oper} {J:Nat} {S:World->Prop} {Q:Exit->Act->World->Prop} {M:List Nat} {a:Act} {w:World}
theorem iL {j:Nat}{K:Act->World->Prop}(hS:J.testBit j=true->S w)(h:K a w):nB J S Q j K .normal a w:=⟨hS,h⟩
theorem xR {H:List Nat}{r:List Stg}(h1:(H.all fun i=>match l.toArray[i]? with|some o=>!mX J i o|none=>true)=true\/S w)
  (h:fV P l.toArray S (fun A=>wpPlan P l J S Q r A w) (H.flatMap fun i=>(l.drop i).take 1) a):wpPlan P l J S Q (.h H::r) a w:=⟨h1,h⟩
theorem pC {j:Nat}{r:List Stg}(h:wpList P l.toArray (nB J S Q j (wpPlan P l J S Q r)) ((l.drop j).take 1) a w):wpPlan P l J S Q (.o j::r) a w:=h
theorem Oper.aId {o:Oper}{Q Q':Exit->Act->World->Prop}{K K':Act->World->Prop}(h:∀a w,K a w->K' a w)(hp:∀c a w,Q (.panic c) a w->Q' (.panic c) a w)(hl:LetsOut Q->LetsOut Q')(hh:o.wp P a w K Q):o.wp P a w K' Q':=by
 unfold Oper.wp at *
 generalize (execOp a.eval o).run P w=r at *
 cases r with
 | ok n w' =>
  cases n<;>simp only[Oper.upon]at hh ⊢ <;>
   first
    | exact h _ _ hh
    | exact Calls.mono hh (fun e w'' he=>by cases e<;>first|exact h _ _ he|exact hp _ _ _ he|exact hl he)
    | exact Rows.mono hh (fun _ _ he=>h _ _ he)
 | halt x w'=>cases x<;>simp only[Oper.upon]at hh ⊢ <;> exact hp _ _ _ hh
theorem xS (h:Q .normal a w):wpPlan P l J S Q [] a w:=h
theorem nV (h0:(Region.noSelect l.toArray&&maskOk l.toArray M)=true)(hQ:∀c (a:Act) t w,Q (.panic c) { a with tmps:=t } w->Q (.panic c) a w)(hSa:∀w o,S w->S (w.alloc o)) :
  ∀(st:List Stg) (L:Array Bool) (a:Act) (w:World),planB l M J st L=true->wpPlan P l J S Q st a w->Rest P l.toArray M J S Q (rX st) L a w
 | [],L,a,w,hB,h=>bC (by simpa [planB] using hB) h
 | .h H::r,L,a,w,hB,h=>by
  simp only[planB,Bool.and_eq_true]at hB h0;refine aB H (by simp only[Bool.and_eq_true];exact⟨h0,hB.1⟩) rfl rfl hQ hSa h.1 ?_;have:(fun A=>wpPlan P l J S Q r A w)=(fun A=>wpPlan P l J S Q r A w):=rfl;have key:∀(os:List Oper) (K K':Act->Prop),(∀A,K A->K' A) -> ∀a,fV P l.toArray S K os a->fV P l.toArray S K' os a:=by
   intro os K K' hK
   induction os with
   | nil=>intro a h;exact hK a h
   | cons o os ih=>intro a h;obtain⟨v,h1,h2⟩:=h;exact⟨v,h1,ih _ h2⟩
  exact key _ _ _ (fun A hA=>nV (by simp only[Bool.and_eq_true];exact h0) hQ hSa r _ A w hB.2 hA) a h.2
 | .o j::r,L,a,w,hB,h=>by
  simp only[planB,Bool.and_eq_true,beq_iff_eq]at hB;refine aM j hB.1 rfl ?_;have hm:∀e a' w',nB J S Q j (wpPlan P l J S Q r) e a' w'->jR P l.toArray M J S Q (rX r) (L.setIfInBounds j true) j e a' w':=by
   intro e a' w' h;cases e
   case normal=>exact⟨h.1,nV h0 hQ hSa r _ a' w' hB.2 h.2⟩
   all_goals exact h
  obtain⟨o,_,hp⟩:=aCC (l:=l) (i:=j) (listed:=L) (by rw[hB.1];exact List.mem_singleton.2 rfl);unfold wpPlan at h;rw[hp]at h ⊢;unfold wpList at h ⊢;split
  ·rename_i hw;rw[if_pos hw]at h;have hl:LetsOut (nB J S Q j (wpPlan P l J S Q r))->LetsOut (jR P l.toArray M J S Q (rX r) (L.setIfInBounds j true) j):=fun ⟨a',w',h⟩=>⟨a',w',hm _ _ _ h⟩;exact h.imp (Oper.aId (fun a' w' h2=>hm .normal a' w' h2) (fun c a' w' h2=>hm (.panic c) a' w' h2) hl) fun h1=>⟨h1.1,hl h1.2⟩
  ·rename_i hw;rw[if_neg hw]at h;exact hm .normal _ _ h
theorem uU {id:Nat}(M:List Nat)(J:Nat)(st:List Stg)(S:World->Prop)(hm:P.follows .mixedOrders=true)(h0:(Region.noSelect l.toArray&&maskOk l.toArray M&&planB l M J st (Array.replicate l.length false)&&decide (rX st=l.length))=true)
  (hQ:∀c (a:Act) t w,Q (.panic c) { a with tmps:=t } w->Q (.panic c) a w) (hSa:∀w o,S w->S (w.alloc o)) (h:wpPlan P l J S Q st a w.drew):(Code.region id l.toArray true).wp P Q a w:=by
 simp only[Bool.and_eq_true,decide_eq_true_eq]at h0;refine aU M J S hm ?_;have:=nV (by simp only[Bool.and_eq_true];exact h0.1.1) hQ hSa st _ a w.drew h0.1.2 h
 rwa [h0.2]at this
end
def msk:List Bool->Bx->Bx
 | _,[]=>[]
 | [],p::L=>p::msk [] L
 | true::m,_::L=>msk m L
 | false::m,p::L=>p::msk m L
theorem mK:(∀m,msk m [] = [])/\(∀p L,msk [] (p::L)=p::msk [] L)/\(∀m p L,msk (true::m) (p::L)=msk m L)/\(∀m p L,msk (false::m) (p::L)=p::msk m L):=⟨fun m=>by cases m<;>rfl,fun _ _=>rfl,fun _ _ _=>rfl,fun _ _ _=>rfl⟩
theorem vU:∀(m:List Bool) (L:Bx),∀p ∈ msk m L,p ∈ L
 | [],[],p,h=>by simp[msk]at h
 | _::_,[],p,h=>by simp[msk]at h
 | [],q::L,p,h=>by
  rcases List.mem_cons.1 h with rfl|h
  ·exact List.mem_cons_self
  ·exact List.mem_cons_of_mem _ (vU [] L p h)
 | true::m,q::L,p,h=>List.mem_cons_of_mem _ (vU m L p h)
 | false::m,q::L,p,h=>by
  rcases List.mem_cons.1 h with rfl|h
  ·exact List.mem_cons_self
  ·exact List.mem_cons_of_mem _ (vU m L p h)
structure Rg (S:Nat->Prop)(m:List Bool)(L:Bx)(R:World->Prop)(w:World):Prop where
 box:∀p ∈ msk m L,Box w p
 saf:Sf (ow S (L.map (·.1))) w R
theorem Fr.rg {S:Nat->Prop}{w0 w:World}{L L':Bx}{R:World->Prop}{m:List Bool}(h:Fr S w0 w L' R)(h1:msk m L'=msk m L:=by rfl)(h2:L'.map (·.1)=L.map (·.1):=by rfl):Rg S m L R w :=
 ⟨fun p hp=>by
  rw[<- h1]at hp;obtain⟨i,hi⟩:=List.getElem?_of_mem (vU m L' p hp);exact h.box i p hi,by rw[<- h2];exact h.saf⟩
structure Pm (M:List Nat)(J:Nat)(st:List Stg)(m:List Bool):Prop where
theorem aFX {P:Program}{l:List Oper}{J:Nat}{Q:Exit->Act->World->Prop}{M:List Nat}{a:Act}{id:Nat}{st:List Stg}{m:List Bool}{S:Nat->Prop}{w0 w:World}{L:Bx}{R:World->Prop}(F:Fr S w0 w L R)(_:Pm M J st m)
  (hm:P.follows .mixedOrders=true) (h0:(Region.noSelect l.toArray&&maskOk l.toArray M&&planB l M J st (Array.replicate l.length false)&&decide (rX st=l.length))=true)
  (hQ:∀c (a:Act) t w,Q (.panic c) { a with tmps:=t } w->Q (.panic c) a w) (h:∀v,Fr S w0 v L R->wpPlan P l J (Rg S m L R) Q st a v):(Code.region id l.toArray true).wp P Q a w :=
 uU M J st (Rg S m L R) hm h0 hQ (fun v o hv=>⟨fun p hp=>(hv.box p hp).kept (Kept.alloc v o (fun _=>False)) (fun h=>h),hv.saf.below ((Below.refl _ _).alloc (Nat.le_refl _) o)⟩) (h _ (F.drew rfl))
theorem Fr.region {P:Program}{l:List Oper}{J:Nat}{Q:Exit->Act->World->Prop}{M:List Nat}{a:Act}{id:Nat}{st:List Stg}{m:List Bool}{S:Nat->Prop}{w0 w:World}{L:Bx}{R:World->Prop}(F:Fr S w0 w L R)(x:Pm M J st m)
  (hm:P.follows .mixedOrders=true) (h0:(Region.noSelect l.toArray&&maskOk l.toArray M&&planB l M J st (Array.replicate l.length false)&&decide (rX st=l.length))=true)
  (hQ:∀c (a:Act) t w,Q (.panic c) { a with tmps:=t } w->Q (.panic c) a w) (h:∀v,Fr S w0 v L R->wpPlan P l J (Rg S m L R) Q st a v):(Code.region id l.toArray true).wp P Q a w:=aFX F x hm h0 hQ h
theorem sX {α β:Type}:(∀f:α->List β,List.flatMap f [] = []) /\ ∀(x:α) (xs:List α) (f:α->List β),List.flatMap f (x::xs)=f x++List.flatMap f xs:=⟨fun _=>rfl,fun _ _ _=>rfl⟩
theorem sY {β:Type}:(∀(a:β) (l:List β) (i:Nat),(a::l).drop (i+1)=l.drop i)/\(∀l:List β,l.drop 0=l)/\(∀(i:Nat) (a:β) (l:List β),(a::l).take (i+1)=a::l.take i)/\(∀l:List β,l.take 0 = [])/\(∀(a:β) (l s:List β),(a::l)++s=a::(l++s))/\(∀l:List β,[]++l=l) /\ ∀l:List β,l ++ []=l:=⟨fun _ _ _=>rfl,fun _=>rfl,fun _ _ _=>rfl,fun _=>rfl,fun _ _ _=>rfl,fun _=>rfl,List.append_nil⟩
theorem sZ {α:Type}:(∀(l:List α) (i:Nat) (a:α),l.toArray.setIfInBounds i a=(l.set i a).toArray)/\(∀(a b:α) (l:List α),(a::l).set 0 b=b::l) /\ ∀(a b:α) (l:List α) (i:Nat),(a::l).set (i+1) b=a::l.set i b:=⟨fun l i a=>List.setIfInBounds_toArray l i a,fun _ _ _=>rfl,fun _ _ _ _=>rfl⟩

theorem aEh {w v:World}{a:Addr}{x:Value}{n:Nat}(e:w.setCell a x=v)(h:w.heap.size=n):v.heap.size=n:=by subst e;rw[World.size_setCell];exact h
theorem aC1 {w v:World}{o:Obj}{n:Nat}(e:w.alloc o=v)(h:w.heap.size=n):v.heap.size=n+1:=by subst e;rw[World.size_alloc,h]
theorem aE2 {w v:World}{n:Nat}(e:w.drew=v)(h:w.heap.size=n):v.heap.size=n:=e ▸ h
def aCQ (w:World)(a:Addr)(x:Value):World:=w.setCell a x
def aDn (w:World)(o:Obj):World:=w.alloc o
def aB3 (w:World):World:=w.drew
theorem nZ (w:World)(a:Addr)(x:Value):w.setCell a x=aCQ w a x:=rfl
theorem zW (w:World)(o:Obj):w.alloc o=aDn w o:=rfl
theorem rP (w:World):w.drew=aB3 w:=rfl
theorem fx {p q:Prop}(k:q->p)(h:q:=by have C:=And.intro F.facts F.r;simp only[fS,fO,Nat.zero_add,Nat.reduceAdd,and_true,true_and]at C;exact C):p:=k h
theorem stq {p q:Prop}(k:q)(h:q->p:=by
  intro k;have E:=Eq.refl w.heap.size
  (first
   | (rw [nZ w]
      generalize hW:aCQ w _ _=w
      first|replace F:=F.u 0 rfl hW|replace F:=F.u 1 rfl hW|replace F:=F.u 2 rfl hW|replace F:=F.u 3 rfl hW|replace F:=F.u 4 rfl hW|replace F:=F.u 5 rfl hW|replace F:=F.u 6 rfl hW
      try dsimp only[List.set_cons_zero,List.set_cons_succ]at F
      replace E:=aEh hW E;clear hW)
   | (rw [zW w]
      generalize hW:aDn w _=w
      first|replace F:=F.snoc E hW|replace F:=F.grow hW
      replace E:=aC1 hW E;clear hW)
   | (rw [rP w]
      generalize hW:aB3 w=w;replace F:=F.drew hW;replace E:=aE2 hW E;clear hW))
  repeat (first
   | (rw [nZ w]
      generalize hW:aCQ w _ _=w
      first|replace F:=F.u 0 rfl hW|replace F:=F.u 1 rfl hW|replace F:=F.u 2 rfl hW|replace F:=F.u 3 rfl hW|replace F:=F.u 4 rfl hW|replace F:=F.u 5 rfl hW|replace F:=F.u 6 rfl hW
      try dsimp only[List.set_cons_zero,List.set_cons_succ]at F
      replace E:=aEh hW E;clear hW)
   | (rw [zW w]
      generalize hW:aDn w _=w
      first|replace F:=F.snoc E hW|replace F:=F.grow hW
      replace E:=aC1 hW E;clear hW)
   | (rw [rP w]
      generalize hW:aB3 w=w;replace F:=F.drew hW;replace E:=aE2 hW E;clear hW))
  clear E
  try simp only[fS]at F
  have C:=And.intro F.facts F.r;simp only[fS,fO,Nat.zero_add,Nat.reduceAdd,and_true,true_and]at C;revert C;revert F;revert w;exact k):p:=h k
theorem ed {p:Prop}{α:Type}{f g:α}(hr:f=g)(h:f=g->p:=by
  intro hr;have C:=And.intro F.facts F.r;simp only[fS,fO,Nat.zero_add,Nat.reduceAdd,and_true,true_and]at C
  go_wp2_with (refine stq ?_;clear C;intro w F C)
  refine bodyPost_ret (by simp only[results,hr];go_simp;rfl) rfl ?_;clear C
  try rw[HV.out]
  first|exact⟨_,_,rfl,F.fin (fun _ h=>h),F.bel⟩|exact⟨_,_,rfl,F.fin (fun _ h=>h.1),F.bel⟩|exact⟨_,_,rfl,F.fin (fun _ h=>h.2),F.bel⟩|exact⟨rfl,F.fin (fun _ h=>h),F.bel⟩|exact⟨rfl,F.fin (fun _ h=>h.1),F.bel⟩|exact⟨rfl,F.bel⟩):p:=h hr
theorem rt {p q:Prop}{α:Type}{f g:α}(hr:f=g)(k:q)(h:f=g->q->p:=by
  intro hr k;have C:=And.intro F.facts F.r;simp only[fS,fO,Nat.zero_add,Nat.reduceAdd,and_true,true_and]at C;refine bodyPost_ret (by simp only[results,hr];go_simp;rfl) rfl ?_;clear C;exact k):p:=h hr k
theorem rg {p q:Prop}{M:List Nat}{J:Nat}{st:List Stg}{m:List Bool}(x:Pm M J st m)(k:q)(h:Pm M J st m->q->p:=by
  intro x k;refine F.region x (by kernel_rfl) (by kernel_rfl) (fun _ _ _ _ h=>h) ?_;intro w F
  repeat (first
   | (rw [nZ w]
      generalize hW:aCQ w _ _=w
      first|replace F:=F.u 0 rfl hW|replace F:=F.u 1 rfl hW|replace F:=F.u 2 rfl hW|replace F:=F.u 3 rfl hW|replace F:=F.u 4 rfl hW|replace F:=F.u 5 rfl hW|replace F:=F.u 6 rfl hW
      try dsimp only[List.set_cons_zero,List.set_cons_succ]at F
      clear hW)
   | (rw [rP w]
      generalize hW:aB3 w=w;replace F:=F.drew hW;clear hW)
   | (refine aW _ (by rfl) (fun w' hs => by have C := pP hs.box; have D := hs.saf.now; simp only [mK, fO, Nat.zero_add, Nat.reduceAdd, and_true] at C; go_simp; try with_reducible rfl) rfl ?_
      simp only[Act.put,sZ])
   | (refine aC _ (by rfl) (fun w' => by go_simp; try with_reducible rfl) ?_
      simp only[Act.put,sZ])
   | (refine eS (by rfl) ?_
      simp only[Act.put,sZ])
   | refine aI ?_
   | (refine xR (.inr F.rg) ?_
      simp only[sX,sY])
   | (refine xR (.inl (by decide +kernel)) ?_
      simp only[sX,sY])
   | (with_reducible refine iL ?_ ?_
      ·first|(intro h;exact absurd h (by decide))|(intro _;exact F.rg))
   | (refine pC ?_
      simp only[sX,sY];have C:=F.facts;simp only[fS,fO,Nat.zero_add,Nat.reduceAdd,and_true,true_and]at C;go_wp2_with fail;clear C
      repeat (rw [nZ w]
              generalize hW:aCQ w _ _=w
              first|replace F:=F.u 0 rfl hW|replace F:=F.u 1 rfl hW|replace F:=F.u 2 rfl hW|replace F:=F.u 3 rfl hW|replace F:=F.u 4 rfl hW|replace F:=F.u 5 rfl hW|replace F:=F.u 6 rfl hW
              clear hW)
      refine iL (by first|(intro h;exact absurd h (by decide))|(intro _;exact F.rg)) ?_)
   | refine xS ?_)
  try (refine pC ?_;simp only[sX,sY])
  try simp only[fS]at F
  have C:=And.intro F.facts F.r;simp only[fS,fO,Nat.zero_add,Nat.reduceAdd,and_true,true_and]at C;revert C;revert F;revert w;exact k):p:=h x k
theorem rc {p q:Prop}(k:q)(h:q->p:=by
  intro k w F
  repeat (first
   | (rw [nZ w]
      generalize hW:aCQ w _ _=w
      first|replace F:=F.u 0 rfl hW|replace F:=F.u 1 rfl hW|replace F:=F.u 2 rfl hW|replace F:=F.u 3 rfl hW|replace F:=F.u 4 rfl hW|replace F:=F.u 5 rfl hW|replace F:=F.u 6 rfl hW
      try dsimp only[List.set_cons_zero,List.set_cons_succ]at F
      clear hW)
   | (rw [rP w]
      generalize hW:aB3 w=w;replace F:=F.drew hW;clear hW)
   | (refine aW _ (by rfl) (fun w' hs => by have C := pP hs.box; have D := hs.saf.now; simp only [mK, fO, Nat.zero_add, Nat.reduceAdd, and_true] at C; go_simp; try with_reducible rfl) rfl ?_
      simp only[Act.put,sZ])
   | (refine aC _ (by rfl) (fun w' => by go_simp; try with_reducible rfl) ?_
      simp only[Act.put,sZ])
   | (refine eS (by rfl) ?_
      simp only[Act.put,sZ])
   | refine aI ?_
   | (refine xR (.inr F.rg) ?_
      simp only[sX,sY])
   | (refine xR (.inl (by decide +kernel)) ?_
      simp only[sX,sY])
   | (with_reducible refine iL ?_ ?_
      ·first|(intro h;exact absurd h (by decide))|(intro _;exact F.rg))
   | (refine pC ?_
      simp only[sX,sY];have C:=F.facts;simp only[fS,fO,Nat.zero_add,Nat.reduceAdd,and_true,true_and]at C;go_wp2_with fail;clear C
      repeat (rw [nZ w]
              generalize hW:aCQ w _ _=w
              first|replace F:=F.u 0 rfl hW|replace F:=F.u 1 rfl hW|replace F:=F.u 2 rfl hW|replace F:=F.u 3 rfl hW|replace F:=F.u 4 rfl hW|replace F:=F.u 5 rfl hW|replace F:=F.u 6 rfl hW
              clear hW)
      refine iL (by first|(intro h;exact absurd h (by decide))|(intro _;exact F.rg)) ?_)
   | refine xS ?_)
  try (refine pC ?_;simp only[sX,sY])
  try simp only[fS]at F
  have C:=And.intro F.facts F.r;simp only[fS,fO,Nat.zero_add,Nat.reduceAdd,and_true,true_and]at C;revert C;revert F;revert w;exact k):p:=h k

def aFN:Value->Bool
 | .int .u8 _=>false
 | _=>true
theorem aIS {v:Value}(h:aFN v=true)(x:Int):v ≠ .int .u8 x:=by rintro rfl;cases h
section
variable {S:Nat->Prop} {w0 w w':World} {L:Bx} {R Z:World->Prop}
end
end Go.Proofs.Own
