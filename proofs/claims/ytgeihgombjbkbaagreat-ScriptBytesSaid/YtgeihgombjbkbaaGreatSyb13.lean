/- For scbytes_law_holds. -/
import Derived.Test.YtgeihgombjbkbaaGreatSyb9
import Derived.Test.YtgeihgombjbkbaaGreatSyb5
namespace Go.Proofs.Own
open Go Go.RowKit

def Sf (S:Nat->Prop)(w:World)(R:World->Prop):Prop:=∀w',Kept w w' S->R w'
section
variable {S T:Nat->Prop} {w w':World} {R Z:World->Prop}
theorem Sf.now (h:Sf S w R):R w:=h w (Kept.refl w S)
theorem Sf.to (h:Sf S w R)(k:Kept w w' S):Sf S w' R:=fun v kv=>h v (k.trans kv)
theorem Sf.below (h:Sf S w R)(k:Below w.heap.size w w'):Sf S w' R:=h.to (Kept.aQ k fun i h1 h2=>by omega)
theorem Sf.sub (h:Sf S w R)(hs:∀k,k<w.heap.size->T k->S k):Sf T w R:=fun v kv=>h v (kv.mono hs)
theorem Sf.imp (h:Sf S w R)(hi:∀v,R v->Z v):Sf S w Z:=fun v kv=>hi v (h v kv)
theorem Sf.and (h:Sf S w R)(g:Sf S w Z):Sf S w (fun v=>R v/\Z v):=fun v kv=>⟨h v kv,g v kv⟩
theorem Sf.all (S:Nat->Prop)(w:World):Sf S w (fun _=>True):=fun _ _=>trivial
end

abbrev Bx:=List (Nat × List Value)
def Box (w:World)(p:Nat × List Value):Prop:=p.1<w.heap.size /\ ∀(j:Nat) v,p.2[j]? = some v->w.cell? ⟨p.1,j,none⟩=some v/\w.frozen? ⟨p.1,j,none⟩=false
theorem Box.lt {w:World}{p:Nat × List Value}(h:Box w p):p.1<w.heap.size:=h.1
theorem Box.kept {w w':World}{p:Nat × List Value}{S:Nat->Prop}(h:Box w p)(hk:Kept w w' S)(hs:¬S p.1):Box w' p :=
 ⟨Nat.lt_of_lt_of_le h.1 hk.size,fun j v hj=>⟨hk.cell (h.2 j v hj).1 hs,(hk.frozen (a:=⟨p.1,j,none⟩) h.1 hs).trans (h.2 j v hj).2⟩⟩
theorem Box.new {w:World}{c:List Value}{t:TypeId}:Box (w.alloc (.cells c.toArray t)) (w.heap.size,c):=by
 refine⟨by simp,fun j v hj=>⟨?_,?_⟩⟩
 ·rw[World.cell?_alloc_new]
  simpa using hj
 ·show World.frozen? (w.alloc _) ⟨w.heap.size,j,none⟩=false;unfold World.frozen? World.alloc;simp
theorem Box.set {w:World}{b:Nat}{c:List Value}(h:Box w (b,c))(j:Nat)(v:Value):Box (w.setCell ⟨b,j,none⟩ v) (b,c.set j v):=by
 refine⟨by rw[World.size_setCell];exact h.1,fun i u hi=>?_⟩;rw[fsc];simp only at hi ⊢;rw[List.getElem?_set]at hi;split at hi
 ·rename_i e;subst e;split at hi
  ·rename_i hl;have h1:=h.2 j _ (List.getElem?_eq_getElem hl);exact⟨(css h1.1).trans hi,h1.2⟩
  ·cases hi
 ·rename_i e;exact⟨(cso (by simp)).trans (h.2 i u hi).1,(h.2 i u hi).2⟩
def ow (S:Nat->Prop)(l:List Nat):Nat->Prop:=fun k=>S k\/k ∈ l

structure Fr (S:Nat->Prop)(w0 w:World)(L:Bx)(R:World->Prop):Prop where
 box:∀(i:Nat) p,L[i]? = some p->Box w p
 inj:∀(i j:Nat) p q,L[i]? = some p->L[j]? = some q->p.1=q.1->i=j
 rng:∀p ∈ L,w0.heap.size<=p.1/\p.1<w.heap.size
 bel:Below w0.heap.size w0 w
 saf:Sf (ow S (L.map (·.1))) w R
 lim:∀k,S k->k<w.heap.size
section
variable {S:Nat->Prop} {w0 w w':World} {L:Bx} {R Z:World->Prop}
theorem Fr.zero (w:World)(hS:∀k,S k->k<w.heap.size)(h:Sf S w R):Fr S w w [] R :=
 ⟨fun i p h=>(by simp at h),fun i j p q h=>(by simp at h),nofun,Below.refl _ _,h.sub fun k _ hk=>hk.elim id fun h=>(by cases h),hS⟩
theorem Fr.r (h:Fr S w0 w L R):R w:=h.saf.now
theorem Fr.get (h:Fr S w0 w L R)(hi:∀v,R v->Z v):Sf (ow S (L.map (·.1))) w Z:=h.saf.imp hi
theorem Fr.few (h:Fr S w0 w L R):∀k,ow S (L.map (·.1)) k->k<w.heap.size:=fun k hk=>hk.elim (h.lim k) fun h1=>by
 obtain⟨p,hp,rfl⟩:=List.mem_map.1 h1;exact(h.rng p hp).2
theorem Fr.call (h:Fr S w0 w L R)(hb:Below w.heap.size w w'):Fr S w0 w' L R:=by
 have hz:w0.heap.size<=w.heap.size:=h.bel.size;refine⟨fun i p hp=>?_,h.inj,fun p hp=>⟨(h.rng p hp).1,Nat.lt_of_lt_of_le (h.rng p hp).2 hb.size⟩,h.bel.trans (hb.mono hz),h.saf.below hb,fun k hk=>Nat.lt_of_lt_of_le (h.lim k hk) hb.size⟩;exact(h.box i p hp).kept (Kept.aQ hb (S:=fun _=>False) fun k h1 h2=>by omega) id
theorem Fr.put (h:Fr S w0 w L R)(g:Sf (ow S (L.map (·.1))) w Z):Fr S w0 w L (fun v=>Z v/\R v):=⟨h.box,h.inj,h.rng,h.bel,g.and h.saf,h.lim⟩
theorem Fr.drew (h:Fr S w0 w L R)(e:w.drew=w'):Fr S w0 w' L R:=e ▸ h.call ((Below.refl _ _).drew)
theorem Fr.grow (h:Fr S w0 w L R){o:Obj}(e:w.alloc o=w'):Fr S w0 w' L R:=e ▸ h.call ((Below.refl _ _).alloc (Nat.le_refl _) _)
theorem Fr.snoc (h:Fr S w0 w L R){b:Nat}{c:List Value}{t:TypeId}(hb:w.heap.size=b)(e:w.alloc (.cells c.toArray t)=w'):Fr S w0 w' (L ++ [(b,c)]) R:=by
 subst hb;have h1:=h.grow e;have key:∀(i:Nat) p,(L ++ [(w.heap.size,c)])[i]? = some p->(L[i]? = some p/\p.1<w.heap.size)\/(i=L.length/\p=(w.heap.size,c)):=by
  intro i p hp;rw[List.getElem?_append]at hp;split at hp
  ·exact .inl ⟨hp,(h.rng p (List.mem_of_getElem? hp)).2⟩
  ·rename_i hi;rw[List.getElem?_singleton]at hp;split at hp
   ·exact .inr ⟨by omega,(Option.some.inj hp).symm⟩
   ·cases hp
 refine⟨fun i p hp=>?_,fun i j p q hp hq hpq=>?_,fun p hp=>?_,h1.bel,?_,h1.lim⟩
 ·rcases key i p hp with ⟨hp,_⟩|⟨_,rfl⟩
  ·exact h1.box i p hp
  ·exact e ▸ Box.new
 ·rcases key i p hp with ⟨hp,lp⟩|⟨rfl,rfl⟩<;>rcases key j q hq with ⟨hq,lq⟩|⟨rfl,rfl⟩
  ·exact h.inj i j p q hp hq hpq
  ·simp only at hpq;omega
  ·simp only at hpq;omega
  ·rfl
 ·rcases List.mem_append.1 hp with hp|hp
  ·exact h1.rng p hp
  ·obtain rfl:=List.mem_singleton.1 hp;exact⟨h.bel.size,by subst e;simp⟩
 ·intro v kv;have k1:Kept w v (ow S (L.map (·.1))):=by
   subst e;refine((Kept.alloc w _ (fun k=>ow S ((L ++ [(w.heap.size,c)]).map (·.1)) k)).trans kv).mono fun k hk hs=>?_
   rcases hs with hs|hs
   ·exact .inl hs
   ·rw[List.map_append]at hs;rcases List.mem_append.1 hs with hs|hs
    ·exact .inr hs
    ·simp only[List.map_cons,List.map_nil,List.mem_singleton]at hs;omega
  exact h.saf v k1
theorem Fr.aL5 (h:Fr S w0 w L R)(i:Nat){b:Nat}{c d:List Value}(hi:L[i]? = some (b,c))(hk:Kept w w' (fun k=>k=b))(hd:Box w' (b,d)):Fr S w0 w' (L.set i (b,d)) R:=by
 have hl:i<L.length:=(List.getElem?_eq_some_iff.1 hi).1;have key:∀(k:Nat) p,(L.set i (b,d))[k]? = some p->(k=i/\p=(b,d))\/(k≠i/\L[k]? = some p):=by
  intro k p hp;rw[List.getElem?_set]at hp;split at hp
  ·rename_i hk;exact .inl ⟨hk.symm,(Option.some.inj hp).symm⟩
  ·rename_i hk;exact .inr ⟨fun h=>hk h.symm,hp⟩
 have hfst:(L.set i (b,d)).map (·.1)=L.map (·.1):=by
  rw[List.map_set];refine List.ext_getElem? fun k=>?_;rw[List.getElem?_set];split
  ·rename_i hk;subst hk;rw[List.getElem?_map,hi];simp[hl]
  ·rfl
 have hb:(b,c) ∈ L:=List.mem_of_getElem? hi;refine⟨fun k p hp=>?_,fun k l p q hp hq hpq=>?_,fun p hp=>?_,hk.below (Nat.le_trans (h.rng _ hb).1 (Nat.le_of_lt (h.rng _ hb).2)) (fun k hk=>hk ▸ (h.rng _ hb).1) |> h.bel.trans,?_,fun k hs=>Nat.lt_of_lt_of_le (h.lim k hs) hk.size⟩
 ·rcases key k p hp with ⟨rfl,rfl⟩|⟨hne,hp⟩
  ·exact hd
  ·exact(h.box k p hp).kept hk fun he=>hne (h.inj k i p _ hp hi he)
 ·rcases key k p hp with ⟨rfl,rfl⟩|⟨_,hp'⟩<;>rcases key l q hq with ⟨rfl,rfl⟩|⟨_,hq'⟩
  ·rfl
  ·exact h.inj _ l _ q hi hq' hpq
  ·exact h.inj k _ p _ hp' hi hpq
  ·exact h.inj k l p q hp' hq' hpq
 ·obtain⟨k,hk2⟩:=List.getElem?_of_mem hp;rcases key k p hk2 with ⟨rfl,rfl⟩|⟨_,hp⟩
  ·exact⟨(h.rng _ hb).1,Nat.lt_of_lt_of_le (h.rng _ hb).2 hk.size⟩
  ·exact⟨(h.rng p (List.mem_of_getElem? hp)).1,Nat.lt_of_lt_of_le (h.rng p (List.mem_of_getElem? hp)).2 hk.size⟩
 ·rw[hfst];exact h.saf.to (hk.mono fun k _ hk=>.inr (hk ▸ List.mem_map.2 ⟨_,hb,rfl⟩))
theorem Fr.next (h:Fr S w0 w L R)(hb:Below w.heap.size w w')(g:Sf (ow S (L.map (·.1))) w' Z):Fr S w0 w' L (fun v=>Z v/\R v):=(h.call hb).put g
end
inductive Stg where
 | h (H:List Nat)
 | o (j:Nat)
def planB (l:List Oper)(M:List Nat)(J:Nat):List Stg->Array Bool->Bool
 | [],L=>(Region.ready .any l.toArray L).isEmpty
 | .h H::r,L=>stageB l.toArray M J L H&&planB l M J r (H.foldl (fun b i=>b.setIfInBounds i true) L)
 | .o j::r,L=>(Region.ready .any l.toArray L == [j])&&planB l M J r (L.setIfInBounds j true)
def planN:List Stg->Nat
 | []=>0
 | .h H::r=>planN r+H.length
 | .o _::r=>planN r+1
def eY (J:Nat)(S:World->Prop)(Q:Exit->Act->World->Prop)(j:Nat)(K:Act->World->Prop):Exit->Act->World->Prop
 | .normal,a,w=>(J.testBit j=true->S w)/\K a w
 | e,a,w=>Q e a w
def wpPlan (P:Program)(l:List Oper)(J:Nat)(S:World->Prop)(Q:Exit->Act->World->Prop):List Stg->Act->World->Prop
 | [],a,w=>Q .normal a w
 | .h H::r,a,w=>((H.all fun i=>match l.toArray[i]? with|some o=>!hG J i o|none=>true)=true\/S w)/\dG P l.toArray S (fun A=>wpPlan P l J S Q r A w) (H.flatMap fun i=>(l.drop i).take 1) a
 | .o j::r,a,w=>wpList P l.toArray (eY J S Q j (wpPlan P l J S Q r)) ((l.drop j).take 1) a w
section
variable {P:Program} {l:List Oper} {J:Nat} {S:World->Prop} {Q:Exit->Act->World->Prop} {M:List Nat} {a:Act} {w:World}
theorem eQ {j:Nat}{K:Act->World->Prop}(hS:J.testBit j=true->S w)(h:K a w):eY J S Q j K .normal a w:=⟨hS,h⟩
theorem aIx {H:List Nat}{r:List Stg}(h1:(H.all fun i=>match l.toArray[i]? with|some o=>!hG J i o|none=>true)=true\/S w)
  (h:dG P l.toArray S (fun A=>wpPlan P l J S Q r A w) (H.flatMap fun i=>(l.drop i).take 1) a):wpPlan P l J S Q (.h H::r) a w:=⟨h1,h⟩
theorem jH {j:Nat}{r:List Stg}(h:wpList P l.toArray (eY J S Q j (wpPlan P l J S Q r)) ((l.drop j).take 1) a w):wpPlan P l J S Q (.o j::r) a w:=h
theorem Oper.pE {o:Oper}{Q Q':Exit->Act->World->Prop}{K K':Act->World->Prop}(h:∀a w,K a w->K' a w)(hp:∀c a w,Q (.panic c) a w->Q' (.panic c) a w)(hl:LetsOut Q->LetsOut Q')(hh:o.wp P a w K Q):o.wp P a w K' Q':=by
 unfold Oper.wp at *
 generalize (execOp a.eval o).run P w=r at *
 cases r with
 | ok n w' =>
  cases n<;>simp only[Oper.upon]at hh ⊢ <;>
   first
    | exact h _ _ hh
    | exact Calls.mono hh (fun e w'' he=>by cases e<;>first|exact h _ _ he|exact hp _ _ _ he|exact hl he)
    | exact Rows.mono hh (fun _ _ he=>h _ _ he)
 | halt x w'=>cases x<;>simp only[Oper.upon]at hh ⊢ <;> exact hp _ _ _ hh
theorem aIy (h:Q .normal a w):wpPlan P l J S Q [] a w:=h
theorem gQ (h0:(Region.noSelect l.toArray&&maskOk l.toArray M)=true)(hQ:∀c (a:Act) t w,Q (.panic c) { a with tmps:=t } w->Q (.panic c) a w)(hSa:∀w o,S w->S (w.alloc o)) :
  ∀(st:List Stg) (L:Array Bool) (a:Act) (w:World),planB l M J st L=true->wpPlan P l J S Q st a w->Rest P l.toArray M J S Q (planN st) L a w
 | [],L,a,w,hB,h=>eM (by simpa [planB] using hB) h
 | .h H::r,L,a,w,hB,h=>by
  simp only[planB,Bool.and_eq_true]at hB h0;refine bQ H (by simp only[Bool.and_eq_true];exact⟨h0,hB.1⟩) rfl rfl hQ hSa h.1 ?_;have:(fun A=>wpPlan P l J S Q r A w)=(fun A=>wpPlan P l J S Q r A w):=rfl;have key:∀(os:List Oper) (K K':Act->Prop),(∀A,K A->K' A) -> ∀a,dG P l.toArray S K os a->dG P l.toArray S K' os a:=by
   intro os K K' hK
   induction os with
   | nil=>intro a h;exact hK a h
   | cons o os ih=>intro a h;obtain⟨v,h1,h2⟩:=h;exact⟨v,h1,ih _ h2⟩
  exact key _ _ _ (fun A hA=>gQ (by simp only[Bool.and_eq_true];exact h0) hQ hSa r _ A w hB.2 hA) a h.2
 | .o j::r,L,a,w,hB,h=>by
  simp only[planB,Bool.and_eq_true,beq_iff_eq]at hB;refine fL j hB.1 rfl ?_;have hm:∀e a' w',eY J S Q j (wpPlan P l J S Q r) e a' w'->dF P l.toArray M J S Q (planN r) (L.setIfInBounds j true) j e a' w':=by
   intro e a' w' h;cases e
   case normal=>exact⟨h.1,gQ h0 hQ hSa r _ a' w' hB.2 h.2⟩
   all_goals exact h
  obtain⟨o,_,hp⟩:=lW (l:=l) (i:=j) (listed:=L) (by rw[hB.1];exact List.mem_singleton.2 rfl);unfold wpPlan at h;rw[hp]at h ⊢;unfold wpList at h ⊢;split
  ·rename_i hw;rw[if_pos hw]at h;have hl:LetsOut (eY J S Q j (wpPlan P l J S Q r))->LetsOut (dF P l.toArray M J S Q (planN r) (L.setIfInBounds j true) j):=fun ⟨a',w',h⟩=>⟨a',w',hm _ _ _ h⟩;exact h.imp (Oper.pE (fun a' w' h2=>hm .normal a' w' h2) (fun c a' w' h2=>hm (.panic c) a' w' h2) hl) fun h1=>⟨h1.1,hl h1.2⟩
  ·rename_i hw;rw[if_neg hw]at h;exact hm .normal _ _ h
theorem mZ {id:Nat}(M:List Nat)(J:Nat)(st:List Stg)(S:World->Prop)(hm:P.follows .mixedOrders=true)(h0:(Region.noSelect l.toArray&&maskOk l.toArray M&&planB l M J st (Array.replicate l.length false)&&decide (planN st=l.length))=true)
  (hQ:∀c (a:Act) t w,Q (.panic c) { a with tmps:=t } w->Q (.panic c) a w) (hSa:∀w o,S w->S (w.alloc o)) (h:wpPlan P l J S Q st a w.drew):(Code.region id l.toArray true).wp P Q a w:=by
 simp only[Bool.and_eq_true,decide_eq_true_eq]at h0;refine dE M J S hm ?_;have:=gQ (by simp only[Bool.and_eq_true];exact h0.1.1) hQ hSa st _ a w.drew h0.1.2 h
 rwa [h0.2]at this
end

def vY:Value->Bool
 | .int .u8 _=>false
 | _=>true
theorem aKd {v:Value}(h:vY v=true)(x:Int):v ≠ .int .u8 x:=by rintro rfl;cases h
structure Fn (S:Nat->Prop)(w0 w:World)(L:Bx)(R:World->Prop):Prop extends Fr S w0 w L R where
 n8:∀p ∈ L,lA w p.1
section
variable {S:Nat->Prop} {w0 w w':World} {L:Bx} {R Z:World->Prop}
theorem Fn.call (h:Fn S w0 w L R)(hb:Below w.heap.size w w'):Fn S w0 w' L R:=⟨h.toFr.call hb,fun p hp=>(h.n8 p hp).kept (Kept.aQ hb (S:=fun _=>False) fun k h1 h2=>by omega) (h.rng p hp).2 id⟩
theorem Fn.put (h:Fn S w0 w L R)(g:Sf (ow S (L.map (·.1))) w Z):Fn S w0 w L (fun v=>Z v/\R v):=⟨h.toFr.put g,h.n8⟩
theorem Fn.next (h:Fn S w0 w L R)(hb:Below w.heap.size w w')(g:Sf (ow S (L.map (·.1))) w' Z):Fn S w0 w' L (fun v=>Z v/\R v):=(h.call hb).put g
theorem Fn.drew (h:Fn S w0 w L R)(e:w.drew=w'):Fn S w0 w' L R:=e ▸ h.call ((Below.refl _ _).drew)
theorem Fn.grow (h:Fn S w0 w L R){o:Obj}(e:w.alloc o=w'):Fn S w0 w' L R:=e ▸ h.call ((Below.refl _ _).alloc (Nat.le_refl _) _)
theorem Fn.snoc (h:Fn S w0 w L R){b:Nat}{c:List Value}{t:TypeId}(hb:w.heap.size=b)(e:w.alloc (.cells c.toArray t)=w')(h8:c.all vY=true:=by rfl):Fn S w0 w' (L ++ [(b,c)]) R:=by
 refine⟨h.toFr.snoc hb e,fun p hp=>?_⟩;rcases List.mem_append.1 hp with hp|hp
 ·exact(h.grow e).n8 p hp
 ·obtain rfl:=List.mem_singleton.1 hp;subst hb e;exact lA.alloc fun x hx=>by
   have:=List.all_eq_true.1 h8 _ (by simpa using hx);cases this
end
end Go.Proofs.Own
namespace Go.Proofs.Rn
open Go Go.RowKit Go.Proofs.Own

inductive V where
 | i (k:IntKind) (n:Int)
 | b (b:Bool)
 | s (l:List Nat)
 | o (x:Value)
 | p (i o:Nat)
 | q (i o es n:Nat) (c:Option Nat)
 | z (i o es l:Nat)
 | m (i:Nat)
 | g (l:List V)
 | t (l:List V)
 | f (fn:Fn) (a c:List V)
 deriving Inhabited
inductive TK where
 | int (k:IntKind)|bool|str|ptr|sl (e:TypeId)|mp (k e:TypeId)|arr (n:Nat) (e:TypeId)|st (fs:List (Nat × TypeId × Nat))|fn|o
structure TJ where
 n:Nat
 bt:Nat
 z:List V
 k:TK
 eq:Bool
inductive Tr (α:Type) where
 | e
 | n (l:Tr α) (v:Option α) (r:Tr α)
def Tr.get {α:Type}:Tr α->Nat->Option α
 | .e,_=>none
 | .n l v r,i=>match i with
  | 0=>v
  | i+1=>match Nat.beq (i % 2) 0 with
   | true=>l.get (i / 2)
   | false=>r.get (i / 2)
def Tr.set {α:Type}:Nat->Tr α->Nat -> α->Tr α
 | 0,t,_,_=>t
 | d+1,.e,i,x=>match i with
  | 0=>.n .e (some x) .e
  | i+1=>match Nat.beq (i % 2) 0 with
   | true=>.n (Tr.set d .e (i / 2) x) none .e
   | false=>.n .e none (Tr.set d .e (i / 2) x)
 | d+1,.n l v r,i,x=>match i with
  | 0=>.n l (some x) r
  | i+1=>match Nat.beq (i % 2) 0 with
   | true=>.n (Tr.set d l (i / 2) x) v r
   | false=>.n l v (Tr.set d r (i / 2) x)
def Tr.put {α:Type}(t:Tr α)(i:Nat)(x:α):Tr α:=Tr.set (i+1) t i x
theorem Tr.get_e {α:Type}(i:Nat):(Tr.e:Tr α).get i=none:=by rw[Tr.get]
theorem Tr.get_set {α:Type}:∀(d:Nat) (t:Tr α) (i:Nat) (x:α),i<d->(Tr.set d t i x).get i=some x
 | 0,_,_,_,h=>absurd h (Nat.not_lt_zero _)
 | d+1,.e,0,x,_=>rfl
 | d+1,.n l v r,0,x,_=>rfl
 | d+1,.e,i+1,x,h=>by
  have hd:i / 2<d:=Nat.lt_of_le_of_lt (Nat.div_le_self i 2) (by omega);rw[Tr.set];split
  ·rename_i e;simp only[Tr.get,e];exact Tr.get_set d _ _ x hd
  ·rename_i e;simp only[Tr.get,e];exact Tr.get_set d _ _ x hd
 | d+1,.n l v r,i+1,x,h=>by
  have hd:i / 2<d:=Nat.lt_of_le_of_lt (Nat.div_le_self i 2) (by omega);rw[Tr.set];split
  ·rename_i e;simp only[Tr.get,e];exact Tr.get_set d _ _ x hd
  ·rename_i e;simp only[Tr.get,e];exact Tr.get_set d _ _ x hd
theorem half_ne {i j:Nat}{b:Bool}(h:i≠j)(hi:Nat.beq (i % 2) 0=b)(hj:Nat.beq (j % 2) 0=b):i / 2≠j / 2:=fun e=>h (by
 have h1:i % 2=j % 2:=by
  cases b
  ·have a1:i % 2≠0:=fun q=>by rw[q]at hi;cases hi
   have a2:j % 2≠0:=fun q=>by rw[q]at hj;cases hj
   omega
  ·rw[Nat.eq_of_beq_eq_true hi,Nat.eq_of_beq_eq_true hj]
 omega)
theorem Tr.get_set_ne {α:Type}:∀(d:Nat) (t:Tr α) (i:Nat) (x:α) (j:Nat),j≠i->(Tr.set d t i x).get j=t.get j
 | 0,_,_,_,_,_=>by rw[Tr.set]
 | d+1,.e,0,x,j,h=>by
  cases j with
  | zero=>exact absurd rfl h
  | succ j=>simp only[Tr.set,Tr.get];split<;>rfl
 | d+1,.n l v r,0,x,j,h=>by
  cases j with
  | zero=>exact absurd rfl h
  | succ j=>simp only[Tr.set,Tr.get]
 | d+1,.e,i+1,x,j,h=>by
  rw[Tr.set];cases j with
  | zero=>split<;>simp only[Tr.get]
  | succ j =>
   split<;>rename_i e<;>simp only[Tr.get]<;>split<;>rename_i e'
   ·rw[Tr.get_set_ne d _ _ x _ (half_ne (fun q=>h (by rw[q])) e' e)];exact Tr.get_e _
   ·rfl
   ·rfl
   ·rw[Tr.get_set_ne d _ _ x _ (half_ne (fun q=>h (by rw[q])) e' e)];exact Tr.get_e _
 | d+1,.n l v r,i+1,x,j,h=>by
  rw[Tr.set];cases j with
  | zero=>split<;>simp only[Tr.get]
  | succ j =>
   split<;>rename_i e<;>simp only[Tr.get]<;>split<;>rename_i e'
   ·exact Tr.get_set_ne d _ _ x _ (half_ne (fun q=>h (by rw[q])) e' e)
   ·rfl
   ·rfl
   ·exact Tr.get_set_ne d _ _ x _ (half_ne (fun q=>h (by rw[q])) e' e)
theorem Tr.get_put {α:Type}(t:Tr α)(i:Nat)(x:α):(t.put i x).get i=some x:=Tr.get_set _ _ _ _ (Nat.lt_succ_self i)
theorem Tr.get_put_ne {α:Type}(t:Tr α){i j:Nat}(x:α)(h:j≠i):(t.put i x).get j=t.get j:=Tr.get_set_ne _ _ _ _ _ h
inductive Ent where
 | dead
 | cells (l:List V) (u:Bool)
 | map (es:List (V × V × Nat)) (clock:Nat)
 | siter (s:List Nat) (pos:Nat)
 | miter (m:Option Nat) (since:Nat) (seen:List Nat) (stepped:Nat)
structure Hp where
 n:Nat
 zn:Nat
 t:Tr Ent
 fz:List (Nat × Nat × Nat)
def fzHas (fz:List (Nat × Nat × Nat))(b:Nat):Bool:=fz.any fun e=>Nat.beq e.1 b
def fzHit (fz:List (Nat × Nat × Nat))(b lo hi:Nat):Bool:=fz.any fun e=>Nat.beq e.1 b&&(Nat.blt e.2.1 hi&&Nat.blt lo e.2.2)
def Hp.get (h:Hp)(i:Nat):Option Ent:=h.t.get i
def Hp.put (h:Hp)(i:Nat)(e:Ent):Hp:=⟨h.n,h.zn,h.t.put i e,h.fz⟩
def Hp.new (h:Hp)(e:Ent):Hp:=⟨h.n+1,h.zn,h.t.put h.n e,h.fz⟩
def lget {α:Type}:List α->Nat->Option α
 | [],_=>none
 | a::_,0=>some a
 | _::l,n+1=>lget l n
def lcut {α:Type}:List α->Nat->Nat->Option (List α)
 | _,0,0=>some []
 | [],0,_+1=>none
 | a::l,0,n+1=>match lcut l 0 n with|some r=>some (a::r)|none=>none
 | [],_+1,_=>none
 | _::l,o+1,n=>lcut l o n
def lput {α:Type}:List α->Nat->List α->List α
 | l,0,[]=>l
 | [],_,_=>[]
 | _::l,0,x::r=>x::lput l 0 r
 | a::l,o+1,r=>a::lput l o r
def repL:Nat->List V->List V
 | 0,_=>[]
 | n+1,z=>z++repL n z
theorem lget_eq {α:Type}:∀(l:List α) (n:Nat),lget l n=l[n]?
 | [],_=>rfl
 | _::_,0=>rfl
 | a::l,n+1=>by rw[lget,lget_eq l n];rfl
theorem lcut_some {α:Type}:∀(l:List α) (o n:Nat) (r:List α),lcut l o n=some r->r.length=n/\o+n<=l.length /\ ∀j,j<n->r[j]? = l[o+j]?
 | l,0,0,r,h=>by
  simp only[lcut,Option.some.injEq]at h;subst h;exact⟨rfl,Nat.zero_le _,fun j hj=>absurd hj (Nat.not_lt_zero j)⟩
 | [],0,n+1,r,h=>by simp[lcut]at h
 | a::l,0,n+1,r,h=>by
  rw[lcut]at h;split at h
  ·rename_i s hs;cases h;obtain⟨h1,h2,h3⟩:=lcut_some l 0 n s hs;refine⟨by simp[h1],by simp;omega,fun j hj=>?_⟩;cases j with
   | zero=>simp
   | succ j=>have:=h3 j (by omega);simpa using this
  ·cases h
 | [],_+1,n,r,h=>by simp[lcut]at h
 | a::l,o+1,n,r,h=>by
  rw[lcut]at h;obtain⟨h1,h2,h3⟩:=lcut_some l o n r h;refine⟨h1,by simp;omega,fun j hj=>?_⟩;rw[h3 j hj,show o+1+j=o+j+1 by omega];rfl
theorem lput_eq {α:Type}:∀(l:List α) (o:Nat) (r:List α),o+r.length<=l.length->lput l o r=l.take o++r++l.drop (o+r.length)
 | l,0,[],_=>by simp[lput]
 | [],0,_::_,h=>by simp at h
 | _::l,0,x::r,h=>by
  rw[lput,lput_eq l 0 r (by simp at h;omega)];simp
 | [],_+1,r,h=>by
  simp only[List.length_nil]at h;omega
 | a::l,o+1,r,h=>by
  rw[lput,lput_eq l o r (by simp at h;omega)];simp[show o+1+r.length=o+r.length+1 by omega]
theorem lput_get {α:Type}{l:List α}{o:Nat}{r:List α}(h:o+r.length<=l.length)(j:Nat):(lput l o r)[j]? = if o<=j/\j<o+r.length then r[j-o]? else l[j]?:=by
 rw[lput_eq l o r h];have h1:(l.take o).length=o:=by rw[List.length_take];omega
 by_cases h2:j<o
 ·rw[if_neg (by omega),List.append_assoc,List.getElem?_append_left (by omega),List.getElem?_take_of_lt h2]
 ·by_cases h3:j<o+r.length
  ·rw[if_pos ⟨by omega,h3⟩,List.getElem?_append_left (by rw[List.length_append];omega),List.getElem?_append_right (by omega),h1]
  ·rw[if_neg (by omega),List.getElem?_append_right (by rw[List.length_append];omega),List.length_append,h1,List.getElem?_drop]
   congr 1
   omega
theorem lput_length {α:Type}{l:List α}{o:Nat}{r:List α}(h:o+r.length<=l.length):(lput l o r).length=l.length:=by
 rw[lput_eq l o r h];simp only[List.length_append,List.length_take,List.length_drop];omega
structure En where
 B:Nat->Nat × Nat
 C:Nat->Nat
 Z:Nat->Addr × Nat
def mkS (l:List Nat):ByteArray:=⟨(l.map UInt8.ofNat).toArray⟩
def En.at (E:En)(i o:Nat):Addr:=⟨(E.B i).1,(E.B i).2+o,none⟩
mutual
def V.den (E:En):V->Value
 | .i k n=>.int k n
 | .b x=>.bool x
 | .s l=>.string (mkS l)
 | .o x=>x
 | .p w u=>.pointer (some (E.at w u))
 | .q w u r n c=>.slice (some (E.at w u)) n (match c with|some c=>c|none=>(E.C w-u) / r)
 | .z w u r l=>.slice (some (if (E.C w-u) / r=l then E.at w u else E.at w (u+l*r))) 0 ((E.C w-u) / r-l)
 | .m w=>.map (some (E.B w).1)
 | .g l=>.agg (V.denL E l).toArray
 | .t l=>.tuple (V.denL E l).toArray
 | .f fn a c=>.func fn (V.denL E a).toArray (V.denL E c).toArray
def V.denL (E:En):List V->List Value
 | []=>[]
 | a::l=>a.den E::V.denL E l
end
mutual
def V.wf (n zn:Nat):V->Prop
 | .i _ _ | .b _ | .s _ | .o _=>True
 | .p j _ | .m j=>j<n
 | .q j _ es _ _=>j<n/\0<es
 | .z j _ es _=>j<n/\0<es
 | .g l | .t l=>V.wfL n zn l
 | .f _ a c=>V.wfL n zn a/\V.wfL n zn c
def V.wfL (n zn:Nat):List V->Prop
 | []=>True
 | a::l=>a.wf n zn/\V.wfL n zn l
end
theorem denL_eq (E:En):∀l,V.denL E l=l.map (V.den E)
 | []=>by rw[V.denL];rfl
 | a::l=>by rw[V.denL,denL_eq E l];rfl
theorem denL_get (E:En)(l:List V)(j:Nat):(V.denL E l)[j]? = (l[j]?).map (V.den E):=by rw[denL_eq,List.getElem?_map]
theorem denL_len (E:En)(l:List V):(V.denL E l).length=l.length:=by rw[denL_eq,List.length_map]
theorem wfL_iff {n zn:Nat}:∀ {l:List V},V.wfL n zn l ↔ ∀v ∈ l,v.wf n zn
 | []=>by simp[V.wfL]
 | a::l=>by simp[V.wfL,wfL_iff (l:=l)]
structure Ext (n zn:Nat)(E E':En):Prop where
 B:∀i,i<n->E'.B i=E.B i
 C:∀i,i<n->E'.C i=E.C i
 Z:∀j,j<zn->E'.Z j=E.Z j
theorem Ext.refl (n zn:Nat)(E:En):Ext n zn E E:=⟨fun _ _=>rfl,fun _ _=>rfl,fun _ _=>rfl⟩
mutual
theorem V.den_ext {n zn:Nat}{E E':En}(h:Ext n zn E E'):∀v:V,v.wf n zn->v.den E'=v.den E
 | .i _ _,_ | .b _,_ | .s _,_ | .o _,_=>by simp only[V.den]
 | .p j _,w=>by simp only[V.wf]at w;simp only[V.den,En.at,h.B j w]
 | .q j _ _ _ _,w=>by simp only[V.wf]at w;simp only[V.den,En.at,h.B j w.1,h.C j w.1]
 | .z j _ _ _,w=>by simp only[V.wf]at w;simp only[V.den,En.at,h.B j w.1,h.C j w.1]
 | .m j,w=>by simp only[V.wf]at w;simp only[V.den,h.B j w]
 | .g l,w=>by simp only[V.wf]at w;simp only[V.den,V.denL_ext h l w]
 | .t l,w=>by simp only[V.wf]at w;simp only[V.den,V.denL_ext h l w]
 | .f _ a c,w=>by simp only[V.wf]at w;simp only[V.den,V.denL_ext h a w.1,V.denL_ext h c w.2]
theorem V.denL_ext {n zn:Nat}{E E':En}(h:Ext n zn E E'):∀l:List V,V.wfL n zn l->V.denL E' l=V.denL E l
 | [],_=>by simp only[V.denL]
 | a::l,w=>by simp only[V.wfL]at w;simp only[V.denL,V.den_ext h a w.1,V.denL_ext h l w.2]
end
mutual
theorem V.wf_mono {n zn n' zn':Nat}(h1:n<=n')(h2:zn<=zn'):∀v:V,v.wf n zn->v.wf n' zn'
 | .i _ _,_ | .b _,_ | .s _,_ | .o _,_=>by simp only[V.wf]
 | .p j _,w=>by simp only[V.wf]at w ⊢;omega
 | .q j _ _ _ _,w=>by simp only[V.wf]at w ⊢;omega
 | .z j _ _ _,w=>by simp only[V.wf]at w ⊢;omega
 | .m j,w=>by simp only[V.wf]at w ⊢;omega
 | .g l,w=>by simp only[V.wf]at w ⊢;exact V.wfL_mono h1 h2 l w
 | .t l,w=>by simp only[V.wf]at w ⊢;exact V.wfL_mono h1 h2 l w
 | .f _ a c,w=>by simp only[V.wf]at w ⊢;exact⟨V.wfL_mono h1 h2 a w.1,V.wfL_mono h1 h2 c w.2⟩
theorem V.wfL_mono {n zn n' zn':Nat}(h1:n<=n')(h2:zn<=zn'):∀l:List V,V.wfL n zn l->V.wfL n' zn' l
 | [],_=>by simp only[V.wfL]
 | a::l,w=>by simp only[V.wfL]at w ⊢;exact⟨V.wf_mono h1 h2 a w.1,V.wfL_mono h1 h2 l w.2⟩
end
def Ent.wf (n zn:Nat):Ent->Prop
 | .dead | .siter _ _=>True
 | .cells l _=>V.wfL n zn l
 | .map es _=>∀e ∈ es,e.1.wf n zn/\e.2.1.wf n zn
 | .miter m _ _ _=>∀i,m=some i->i<n
theorem Ent.wf_mono {n zn n' zn':Nat}(h1:n<=n')(h2:zn<=zn'):∀e:Ent,e.wf n zn->e.wf n' zn'
 | .dead,_ | .siter _ _,_=>trivial
 | .cells l _,w=>V.wfL_mono h1 h2 l w
 | .map _ _,w=>fun e he=>⟨V.wf_mono h1 h2 _ (w e he).1,V.wf_mono h1 h2 _ (w e he).2⟩
 | .miter _ _ _ _,w=>fun i hi=>Nat.lt_of_lt_of_le (w i hi) h1
def mapO (E:En)(es:List (V × V × Nat))(clock:Nat):Obj:=.map (es.map fun e=>⟨e.1.den E,e.2.1.den E,e.2.2⟩).toArray clock
def EntOk (E:En)(n0 i:Nat)(w:World):Ent->Prop
 | .dead=>True
 | .cells l u=>n0<=(E.B i).1/\(E.B i).1<w.heap.size/\(∀(j:Nat) v,l[j]? = some v->w.cell? (E.at i j)=some (v.den E)/\w.frozen? (E.at i j)=false) /\
  (u=true->l.length<=E.C i /\ ∀j,j<E.C i->(w.cell? (E.at i j)).isSome=true/\w.frozen? (E.at i j)=false)/\(u=false->(E.B i).2=0)
 | .map es c=>n0<=(E.B i).1/\w.heap[(E.B i).1]? = some (mapO E es c)
 | .siter s p=>n0<=(E.B i).1/\(E.B i).2=0/\w.heap[(E.B i).1]? = some (.stringIter (mkS s) p)
 | .miter m a b c=>n0<=(E.B i).1/\(E.B i).2=0/\w.heap[(E.B i).1]? = some (.mapIter (m.map fun i=>(E.B i).1) a b.toArray c)
theorem EntOk.lt {E:En}{n0 i:Nat}{w:World}{e:Ent}(h:EntOk E n0 i w e)(hd:e ≠ .dead):n0<=(E.B i).1/\(E.B i).1<w.heap.size:=by
 cases e with
 | dead=>exact absurd rfl hd
 | cells l u=>exact⟨h.1,h.2.1⟩
 | map _ c=>exact⟨h.1,(Array.getElem?_eq_some_iff.1 h.2).1⟩
 | siter s p=>exact⟨h.1,(Array.getElem?_eq_some_iff.1 h.2.2).1⟩
 | miter _ a b c=>exact⟨h.1,(Array.getElem?_eq_some_iff.1 h.2.2).1⟩
theorem EntOk.kept {E:En}{n0 i:Nat}{w w':World}{e:Ent}(h:EntOk E n0 i w e)(hs:w.heap.size<=w'.heap.size)(hb:e ≠ .dead->w'.heap[(E.B i).1]? = w.heap[(E.B i).1]?):EntOk E n0 i w' e:=by
 cases e with
 | dead=>exact trivial
 | cells l u =>
  have hb:=hb nofun;refine⟨h.1,Nat.lt_of_lt_of_le h.2.1 hs,fun j v hv=>?_,fun hu=>⟨(h.2.2.2.1 hu).1,fun j hj=>?_⟩,h.2.2.2.2⟩
  ·rw[World.cell?_of_block (a:=E.at i j) hb,World.frozen?_of_block (a:=E.at i j) hb];exact h.2.2.1 j v hv
  ·rw[World.cell?_of_block (a:=E.at i j) hb,World.frozen?_of_block (a:=E.at i j) hb];exact(h.2.2.2.1 hu).2 j hj
 | map es c=>exact⟨h.1,(hb nofun).trans h.2⟩
 | siter s p=>exact⟨h.1,h.2.1,(hb nofun).trans h.2.2⟩
 | miter m a b c=>exact⟨h.1,h.2.1,(hb nofun).trans h.2.2⟩
theorem EntOk.ext {E E':En}{n zn n0 i:Nat}{w:World}{e:Ent}(x:Ext n zn E E')(hi:i<n)(hw:e.wf n zn)(h:EntOk E n0 i w e):EntOk E' n0 i w e:=by
 have hB:=x.B i hi;have hA:∀j,E'.at i j=E.at i j:=fun j=>by simp only[En.at,hB]
 cases e with
 | dead=>exact trivial
 | cells l u =>
  refine⟨by rw[hB];exact h.1,by rw[hB];exact h.2.1,fun j v hv=>?_,fun hu=>?_,fun hu=>by rw[hB];exact h.2.2.2.2 hu⟩
  ·rw[hA,V.den_ext x v (wfL_iff.1 hw v (List.mem_of_getElem? hv))];exact h.2.2.1 j v hv
  ·rw[x.C i hi];exact⟨(h.2.2.2.1 hu).1,fun j hj=>by rw[hA];exact(h.2.2.2.1 hu).2 j hj⟩
 | map es c =>
  refine⟨by rw[hB];exact h.1,?_⟩;rw[hB,h.2];unfold mapO;rw[show es.map (fun e=>(⟨e.1.den E',e.2.1.den E',e.2.2⟩:MapEntry))=es.map (fun e=>⟨e.1.den E,e.2.1.den E,e.2.2⟩) from List.map_congr_left fun e he=>by rw[V.den_ext x _ (hw e he).1,V.den_ext x _ (hw e he).2]]
 | siter s p=>exact⟨by rw[hB];exact h.1,by rw[hB];exact h.2.1,by rw[hB];exact h.2.2⟩
 | miter m a b c =>
  refine⟨by rw[hB];exact h.1,by rw[hB];exact h.2.1,?_⟩;rw[hB,h.2.2]
  congr 2
  cases m with
  | none=>rfl
  | some j=>simp only[Option.map_some,x.B j (hw j rfl)]
structure Hp.Wf (h:Hp):Prop where
 lt:∀ {i e},h.get i=some e->i<h.n
 wf:∀ {i e},h.get i=some e->e.wf h.n h.zn
 fzl:∀i ∈ h.fz,i.1<h.n
structure Gd (E:En)(w0:World)(h:Hp)(w:World):Prop where
 bel:Below w0.heap.size w0 w
 wf:h.Wf
 ent:∀ {i e},h.get i=some e->EntOk E w0.heap.size i w e
 inj:∀ {i j e f},h.get i=some e->h.get j=some f->e ≠ .dead->f ≠ .dead->(E.B i).1=(E.B j).1->i=j
section
variable {E:En} {w0 w w':World} {h:Hp}
theorem Gd.size (g:Gd E w0 h w):w0.heap.size<=w.heap.size:=g.bel.size
theorem Gd.step (g:Gd E w0 h w)(hk:Kept w w' (fun _=>False)):Gd E w0 h w' :=
 ⟨g.bel.trans (hk.below g.size nofun),g.wf,fun hi=>(g.ent hi).kept hk.size fun hd=>hk.block _ (EntOk.lt (g.ent hi) hd).2 id,g.inj⟩
theorem Gd.stepS (g:Gd E w0 h w){S:Nat->Prop}(hk:Kept w w' S)(h0:∀k,S k->w0.heap.size<=k)(hs:∀ {j f},h.get j=some f->f ≠ .dead -> ¬S (E.B j).1):Gd E w0 h w' :=
 ⟨g.bel.trans (hk.below g.size h0),g.wf,fun hi=>(g.ent hi).kept hk.size fun hd=>hk.block _ (EntOk.lt (g.ent hi) hd).2 (hs hi hd),g.inj⟩
theorem Gd.put (g:Gd E w0 h w){i:Nat}{e e':Ent}(hi:h.get i=some e)(hd:e ≠ .dead)(hk:Kept w w' (fun k=>k=(E.B i).1))(hw:e'.wf h.n h.zn)(he:EntOk E w0.heap.size i w' e'):Gd E w0 (h.put i e') w':=by
 have hlt:=(g.ent hi).lt hd;have key:∀ {j f},(h.put i e').get j=some f->(j=i/\f=e')\/(j≠i/\h.get j=some f):=fun {j f} hj=>by
  by_cases q:j=i
  ·subst q;have:(h.put j e').get j=some e':=Tr.get_put _ _ _;rw[this]at hj;exact .inl ⟨rfl,(Option.some.inj hj).symm⟩
  ·exact .inr ⟨q,by rw[<- hj];exact(Tr.get_put_ne _ _ q).symm⟩
 refine⟨g.bel.trans (hk.below g.size fun k hk=>hk ▸ hlt.1),⟨fun hj=>?_,fun hj=>?_,g.wf.fzl⟩,fun {j f} hj=>?_,fun {j k f f'} hj hk' fd fd' eb=>?_⟩
 ·rcases key hj with ⟨rfl,_⟩|⟨_,hj⟩
  ·exact g.wf.lt hi
  ·exact g.wf.lt hj
 ·rcases key hj with ⟨rfl,rfl⟩|⟨_,hj⟩
  ·exact hw
  ·exact g.wf.wf hj
 ·rcases key hj with ⟨rfl,rfl⟩|⟨q,hj⟩
  ·exact he
  ·exact(g.ent hj).kept hk.size fun fd=>hk.block _ (EntOk.lt (g.ent hj) fd).2 fun eb=>q (g.inj hj hi fd hd eb)
 ·rcases key hj with ⟨e1,e2⟩|⟨q,h1⟩<;>rcases key hk' with ⟨e3,e4⟩|⟨q',h2⟩
  ·rw[e1,e3]
  ·exact e1.trans (g.inj hi h2 hd fd' (e1 ▸ eb))
  ·exact(g.inj h1 hi fd hd (e3 ▸ eb)).trans e3.symm
  ·exact g.inj h1 h2 fd fd' eb
theorem Gd.kill (g:Gd E w0 h w)(i:Nat){e:Ent}(hi:h.get i=some e):Gd E w0 (h.put i .dead) w:=by
 have key:∀ {j f},(h.put i .dead).get j=some f->(j=i/\f = .dead)\/(j≠i/\h.get j=some f):=fun {j f} hj=>by
  by_cases q:j=i
  ·subst q;have:(h.put j .dead).get j=some .dead:=Tr.get_put _ _ _;rw[this]at hj;exact .inl ⟨rfl,(Option.some.inj hj).symm⟩
  ·exact .inr ⟨q,by rw[<- hj];exact(Tr.get_put_ne _ _ q).symm⟩
 refine⟨g.bel,⟨fun hj=>?_,fun hj=>?_,g.wf.fzl⟩,fun {j f} hj=>?_,fun {j k f f'} hj hk' fd fd' eb=>?_⟩
 ·rcases key hj with ⟨rfl,_⟩|⟨_,hj⟩
  ·exact g.wf.lt hi
  ·exact g.wf.lt hj
 ·rcases key hj with ⟨rfl,rfl⟩|⟨_,hj⟩
  ·exact trivial
  ·exact g.wf.wf hj
 ·rcases key hj with ⟨rfl,rfl⟩|⟨_,hj⟩
  ·exact trivial
  ·exact g.ent hj
 ·rcases key hj with ⟨_,e2⟩|⟨q,h1⟩
  ·exact absurd e2 fd
  ·rcases key hk' with ⟨_,e4⟩|⟨q',h2⟩
   ·exact absurd e4 fd'
   ·exact g.inj h1 h2 fd fd' eb
def En.new (E:En)(n:Nat)(b:Nat × Nat)(c:Nat):En:=⟨fun i=>if i=n then b else E.B i,fun i=>if i=n then c else E.C i,E.Z⟩
theorem En.new_ext (E:En)(n zn:Nat)(b:Nat × Nat)(c:Nat):Ext n zn E (E.new n b c):=⟨fun i hi=>if_neg (by omega),fun i hi=>if_neg (by omega),fun _ _=>rfl⟩
theorem Gd.ext (g:Gd E w0 h w){E':En}(x:Ext h.n h.zn E E'):Gd E' w0 h w :=
 ⟨g.bel,g.wf,fun hi=>(g.ent hi).ext x (g.wf.lt hi) (g.wf.wf hi),fun {i j e f} hi hj hd hd' eb=>g.inj hi hj hd hd' (by rw[<- x.B i (g.wf.lt hi),<- x.B j (g.wf.lt hj)];exact eb)⟩
theorem Gd.new (g:Gd E w0 h w){e:Ent}{b:Nat × Nat}{c:Nat}(hk:Kept w w' (fun _=>False))(hw:e.wf (h.n+1) h.zn)(he:EntOk (E.new h.n b c) w0.heap.size h.n w' e)
  (hb:∀ {j f},h.get j=some f->f ≠ .dead->(E.B j).1≠b.1):Gd (E.new h.n b c) w0 (h.new e) w':=by
 have g2:=(g.step hk).ext (E.new_ext h.n h.zn b c);have key:∀ {j f},(h.new e).get j=some f->(j=h.n/\f=e)\/(j<h.n/\h.get j=some f):=fun {j f} hj=>by
  by_cases q:j=h.n
  ·subst q;have:(h.new e).get h.n=some e:=Tr.get_put _ _ _;rw[this]at hj;exact .inl ⟨rfl,(Option.some.inj hj).symm⟩
  ·have:h.get j=some f:=by rw[<- hj];exact(Tr.get_put_ne _ _ q).symm
   exact .inr ⟨g.wf.lt this,this⟩
 have hb':∀ {j f},j<h.n->h.get j=some f->f ≠ .dead->((E.new h.n b c).B j).1≠((E.new h.n b c).B h.n).1:=fun {j f} hl hj fd=>by
  simp only[En.new,if_true,if_neg (show j≠h.n by omega)];exact hb hj fd
 refine⟨g2.bel,⟨fun {j f} hj=>?_,fun {j f} hj=>?_,fun i hi=>Nat.lt_succ_of_lt (g.wf.fzl i hi)⟩,fun {j f} hj=>?_,fun {j k f f'} hj hk' fd fd' eb=>?_⟩
 ·show j<h.n+1;rcases key hj with ⟨rfl,_⟩|⟨hl,_⟩<;>omega
 ·rcases key hj with ⟨rfl,rfl⟩|⟨_,hj⟩
  ·exact hw
  ·exact Ent.wf_mono (Nat.le_succ _) (Nat.le_refl _) _ (g.wf.wf hj)
 ·rcases key hj with ⟨rfl,rfl⟩|⟨_,hj⟩
  ·exact he
  ·exact g2.ent hj
 ·rcases key hj with ⟨e1,e2⟩|⟨q,h1⟩<;>rcases key hk' with ⟨e3,e4⟩|⟨q',h2⟩
  ·rw[e1,e3]
  ·exact(hb' q' h2 fd' (e1 ▸ eb.symm)).elim
  ·exact(hb' q h1 fd (e3 ▸ eb)).elim
  ·exact g2.inj h1 h2 fd fd' eb
end
end Go.Proofs.Rn
