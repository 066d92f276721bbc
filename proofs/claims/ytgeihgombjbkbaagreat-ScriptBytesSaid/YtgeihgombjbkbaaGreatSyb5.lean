/- For scbytes_law_holds. -/
import Derived.OrdersHeld
import Derived.Tactics
import Derived.KernelRfl
import Derived.Laws.World
import Derived.WalkKit
namespace Go.Proofs.Own
open Go

section gentle
variable {P:Program}
def dA {α:Type}(P:Program)(s:Sem α):Prop:=∀w,(∃a,s.run P w = .ok a w)\/(∃h,s.run P w = .halt h w /\ ∀v,h ≠ .panic v)
def bS {α:Type}(P:Program)(s:Sem α):Prop:=∀w,(∃a x,s.run P w = .ok a (w.alloc x))\/(∃h w',s.run P w = .halt h w' /\ ∀v,h ≠ .panic v)
theorem dA.pure {α:Type}(a:α):dA P (pure a:Sem α):=fun _=>.inl ⟨a,rfl⟩
theorem dA.halt {α:Type}(h:Halt)(hp:∀v,h ≠ .panic v):dA P (Sem.halt h:Sem α):=fun _=>.inr ⟨h,rfl,hp⟩
theorem bS.halt {α:Type}(h:Halt)(hp:∀v,h ≠ .panic v):bS P (Sem.halt h:Sem α):=fun w=>.inr ⟨h,w,rfl,hp⟩
theorem dA.bind {α β:Type}{s:Sem α}{f:α->Sem β}(h:dA P s)(hf:∀a,dA P (f a)):dA P (s >>= f):=fun w=>by
 rcases h w with ⟨a,ha⟩|⟨x,hx,hp⟩
 ·rw[Sem.run_bind,ha];exact hf a w
 ·right;exact⟨x,by rw[Sem.run_bind,hx];rfl,hp⟩
theorem bS.bind {α β:Type}{s:Sem α}{f:α->Sem β}(h:dA P s)(hf:∀a,bS P (f a)):bS P (s >>= f):=fun w=>by
 rcases h w with ⟨a,ha⟩|⟨x,hx,hp⟩
 ·rw[Sem.run_bind,ha];exact hf a w
 ·right;exact⟨x,w,by rw[Sem.run_bind,hx];rfl,hp⟩
theorem bS.then {α β:Type}{s:Sem α}{f:α -> β}(h:bS P s):bS P (s >>= fun a=>Pure.pure (f a)):=fun w=>by
 rcases h w with ⟨a,x,ha⟩|⟨x,w',hx,hp⟩
 ·left;exact⟨f a,x,by rw[Sem.run_bind,ha];rfl⟩
 ·right;exact⟨x,w',by rw[Sem.run_bind,hx];rfl,hp⟩
theorem dA.typeInfo (t:TypeId):dA P (typeInfo t):=fun w=>by
 cases h:P.info? t with
 | some i=>exact .inl ⟨i,by simp[Go.typeInfo,h,go_sem]⟩
 | none => exact .inr ⟨.stuck "no such type", by simp [Go.typeInfo, h, go_sem, stuck], nofun⟩
theorem dA.underlying (t:TypeId):dA P (underlying t):=fun w=>by
 cases h:P.underlying t with
 | some i=>exact .inl ⟨i,by simp[Go.underlying,h,go_sem]⟩
 | none => exact .inr ⟨.stuck "no such type", by simp [Go.underlying, h, go_sem, stuck], nofun⟩
theorem dA.sizeOf (t:TypeId):dA P (Go.sizeOf t):=dA.bind (dA.typeInfo t) fun _=>dA.pure _
theorem dA.zeroValue (t:TypeId):dA P (zeroValue t):=dA.bind (dA.typeInfo t) fun i=>by
 cases i.zero with
 | some v=>exact dA.pure v
 | none=>exact dA.halt _ nofun
theorem bS.newObj (o:Obj):bS P (newObj o):=fun w=>.inl ⟨w.heap.size,o,rfl⟩
theorem bS.newRow (t:TypeId)(cs:Array Value):bS P (newRow t cs):=bS.then (bS.newObj _)

def gentle:Op->Bool
 | .alloc _ | .box .. | .buildSlice .. | .makeMap _ none=>true
 | _=>false

theorem bS.value {s:Sem Value}(h:bS P s):∀w,(∃u x,(s >>= fun v=>(Pure.pure (Next.value v):Sem Next)).run P w = .ok (.value u) (w.alloc x))\/(∃h w',(s >>= fun v=>(Pure.pure (Next.value v):Sem Next)).run P w = .halt h w' /\ ∀v,h ≠ .panic v):=fun w=>by
 rcases h w with ⟨a,x,ha⟩|⟨x,w',hx,hp⟩
 ·left;exact⟨a,x,by rw[Sem.run_bind,ha];rfl⟩
 ·right;exact⟨x,w',by rw[Sem.run_bind,hx];rfl,hp⟩

theorem bS.yG {α β:Type}{h:Halt}(hp:∀v,h ≠ .panic v)(f:α->Sem β):bS P ((Sem.halt h:Sem α) >>= f):=fun w=>.inr ⟨h,w,rfl,hp⟩

theorem calm_buildSlice (t:TypeId)(n:Nat)(ps:Array (Nat × Value)):bS P (Instr.buildSlice t n ps):=by
 unfold Instr.buildSlice;refine bS.bind (dA.underlying t) fun d=>?_;cases d with
 | slice elem =>
  refine bS.bind (dA.sizeOf elem) fun size=>?_;have fin:∀zero:Array Value,bS P (match Instr.fill (fun i=>some (i*size,size)) (Array.map (fun x=>zero[x % zero.size]!) (Array.range (n*size))) ps.toList with
    | some cells=>do
     let a <- newRow elem cells
     pure (Value.slice (some a) n n)
    | x => stuck "buildSlice: a part of the wrong size") := fun zero => by
   split
   ·exact bS.then (bS.newRow _ _)
   ·exact bS.halt _ nofun
  dsimp only;split
  ·exact bS.yG (fun v e=>by cases e) _
  ·split
   ·exact bS.bind (dA.pure _) fin
   ·exact bS.bind (dA.zeroValue elem) fun z=>bS.bind (dA.pure _) fin
 | _=>exact bS.halt _ nofun

theorem vR {o:Oper}(h:gentle o.op=true)(ρ:Operand->Value)(w:World) :
  (∃u x,(execOp ρ o).run P w = .ok (.value u) (w.alloc x))\/(∃h w',(execOp ρ o).run P w = .halt h w' /\ ∀v,h ≠ .panic v):=by
 obtain⟨dst,op,type,pos,after,guard⟩:=o;cases op<;>simp only[gentle,Bool.false_eq_true]at h
 case alloc e =>
  have:bS P (Instr.alloc e true (.tuple #[])):=bS.bind (dA.zeroValue e) fun z=>bS.then (bS.newRow _ _);exact this.value w
 case box e x =>
  have:bS P (Instr.box e (ρ x)):=bS.then (bS.newRow _ _);exact this.value w
 case buildSlice t n ps=>exact(calm_buildSlice t n _).value w
 case makeMap t r =>
  cases r with
  | some _=>simp at h
  | none =>
   have:bS P (Instr.makeMap t none):=bS.then (bS.newObj _);exact this.value w
end gentle

section plan
variable {P:Program} {ops:Array Oper} {Q:Exit->Act->World->Prop} {S:World->Prop} {M H:List Nat} {J:Nat}

def jQ (ops:Array Oper)(listed:Array Bool):Prop :=
 ∀j oj,ops[j]? = some oj->listed.getD j false=true -> ∀e ∈ oj.after,Region.binds .any e=true->listed.getD e.on false=true

def maskOk (ops:Array Oper)(M:List Nat):Bool :=
 (List.range ops.size).all fun j=>(List.range ops.size).all fun i =>
  !(M.getD j 0).testBit i || (match ops[j]? with
    | some oj=>oj.after.any fun e=>Region.binds .any e&&decide (e.on<j)&&(e.on==i || (M.getD e.on 0).testBit i)
    | none=>false)

theorem yL {listed:Array Bool}(hM:maskOk ops M=true)(hc:jQ ops listed){i:Nat}(hi:i<ops.size):∀n j,j<n -> ∀oj,ops[j]? = some oj ->
  (∀e ∈ oj.after,Region.binds .any e=true->listed.getD e.on false=true)->(M.getD j 0).testBit i=true->listed.getD i false=true:=by
 intro n
 induction n with
 | zero=>intro j hj;omega
 | succ n ih =>
  intro j hj oj hoj hall hbit;have hjs:j<ops.size:=(Array.getElem?_eq_some_iff.1 hoj).1;have h1:=List.all_eq_true.1 (List.all_eq_true.1 hM j (List.mem_range.2 hjs)) i (List.mem_range.2 hi);simp only[hbit,Bool.not_true,Bool.false_or,hoj]at h1;obtain⟨e,he,h2⟩:=Array.any_eq_true'.1 h1;simp only[Bool.and_eq_true,decide_eq_true_eq,Bool.or_eq_true,beq_iff_eq]at h2;obtain⟨⟨hb,hlt⟩,h3⟩:=h2;have hl:=hall e he hb;rcases h3 with rfl|h3
  ·exact hl
  ·have hes:e.on<ops.size:=by omega
   have hoe:ops[e.on]? = some ops[e.on]:=Array.getElem?_eq_getElem hes;exact ih e.on (by omega) _ hoe (fun e' he' hb'=>hc e.on _ hoe hl e' he' hb') h3

def loadLike:Op->Bool
 | .load .. | .lookup .. | .convert ..=>true
 | _=>false

def hG (J i:Nat)(o:Oper):Bool:=loadLike o.op || J.testBit i

structure aAb (ops:Array Oper)(M:List Nat)(J:Nat)(listed:Array Bool)(H:List Nat):Prop where
 inr:∀i ∈ H,i<ops.size/\listed.getD i true=false
 pred:∀i ∈ H,∀oi,ops[i]? = some oi -> ∀e ∈ oi.after,Region.binds .any e=true->listed.getD e.on false=true\/(e.on ∈ H/\e.on<i)
 self:∀i ∈ H,∀oi,ops[i]? = some oi -> ∃d,oi.dst=some d/\d ∉ oi.looksAt ops
 free:∀i ∈ H,∀oi,ops[i]? = some oi -> ∀(j:Nat) oj,ops[j]? = some oj->listed.getD j true=false->j≠i ->
  (M.getD j 0).testBit i=true\/((∀d,oi.dst=some d->d ∉ oj.looksAt ops)/\(j ∈ H\/(oi.apart ops oj=true/\(hG J i oi=true->gentle oj.op=true\/J.testBit j=true))))
 dsts:∀i ∈ H,∀j ∈ H,i≠j -> ∀oi oj,ops[i]? = some oi->ops[j]? = some oj->oi.dst≠oj.dst

structure sK (ops:Array Oper)(hd:List (Nat × Value))(a A:Act):Prop where
 defers:A.defers=a.defers
 size:A.tmps.size=a.tmps.size
 hit:∀p ∈ hd,∀o,ops[p.1]? = some o -> ∀d,o.dst=some d->d<a.tmps.size->A.tmps[d]? = some p.2
 miss:∀t,(∀p ∈ hd,∀o,ops[p.1]? = some o->o.dst≠some t)->A.tmps[t]? = a.tmps[t]?

structure zZ (hd:List (Nat × Value))(listed L:Array Bool):Prop where
 size:L.size=listed.size
 hit:∀p ∈ hd,p.1<listed.size->L[p.1]? = some true
 miss:∀k,(∀p ∈ hd,p.1≠k)->L[k]? = listed[k]?

theorem sK.nil {a A:Act}(h:sK ops [] a A):A=a:=by
 obtain⟨t,d⟩:=a;obtain⟨t',d'⟩:=A;have h1:d'=d:=h.defers;have h2:t'=t:=by
  apply Array.ext_getElem?;intro i;exact h.miss i (fun p hp=>by cases hp)
 rw[h1,h2]
theorem zZ.nil {listed L:Array Bool}(h:zZ [] listed L):L=listed:=by
 apply Array.ext_getElem?;intro i;exact h.miss i (fun p hp=>by cases hp)

theorem yE {hd:List (Nat × Value)}{a A:Act}(h:sK ops hd a A){x:Operand}(hx:∀p ∈ hd,∀o,ops[p.1]? = some o -> ∀d,o.dst=some d->x ≠ .tmp d):A.eval x=a.eval x:=by
 cases x with
 | tmp t =>
  have:=h.miss t (fun p hp o ho hd'=>hx p hp o ho t hd' rfl);simp only[Act.eval,Array.getD_eq_getD_getElem?,this]
 | _=>rfl

theorem nC {hd:List (Nat × Value)}{a A:Act}(h:sK ops hd a A){o:Oper}(hx:∀p ∈ hd,∀op,ops[p.1]? = some op -> ∀d,op.dst=some d->d ∉ o.looksAt ops) :
  Region.wanted o (yielded ops A.tmps)=Region.wanted o (yielded ops a.tmps):=by
 unfold Region.wanted;cases hg:o.guard with
 | none=>rfl
 | some gw =>
  obtain⟨g,want⟩:=gw;have hy:yielded ops A.tmps g=yielded ops a.tmps g:=by
   unfold yielded;cases ht:(ops[g]?).bind (·.dst) with
   | none=>rfl
   | some t =>
    have:=h.miss t (fun p hp op ho hd'=>hx p hp op ho t hd' (by simp[Oper.looksAt,hg,ht]));simp only[Option.bind_some,this]
  simp only[hy]

theorem mT {hd:List (Nat × Value)}{a A:Act}(h:sK ops hd a A){o:Oper}(hs:∀cs b,o.op ≠ .select cs b)(hx:∀p ∈ hd,∀op,ops[p.1]? = some op -> ∀d,op.dst=some d->d ∉ o.looksAt ops) :
  execOp A.eval o=execOp a.eval o :=
 execOp_congr o hs fun x hxo=>yE h fun p hp op ho d hd' hxd=>hx p hp op ho d hd' (by
  subst hxd;exact List.mem_append_left _ (List.mem_filterMap.2 ⟨.tmp d,by simpa using hxo,rfl⟩))

def wpAnyS (P:Program)(ops:Array Oper)(Q:Exit->Act->World->Prop)(S:World->Prop)(J:Nat):Nat->Array Bool->Act->World->Prop
 | 0,listed,a,w=>Region.ready .any ops listed = []/\Q .normal a w
 | f+1,listed,a,w=>(Region.ready .any ops listed = []->Q .normal a w) /\
  ∀i ∈ Region.ready .any ops listed,wpOp P ops Q i (fun a' w'=>(J.testBit i=true->S w')/\wpAnyS P ops Q S J f (listed.setIfInBounds i true) a' w') a w

theorem sV:∀f listed a w,wpAnyS P ops Q S J f listed a w->wpAny P .any ops Q f listed a w
 | 0,_,_,_,h=>h
 | f+1,_,_,_,h=>⟨h.1,fun i hi=>wpOp_mono (fun a' w' h'=>sV f _ a' w' h'.2) (h.2 i hi)⟩

theorem jM {listed:Array Bool}{i:Nat}(h:listed.getD i true=false):listed.getD i false=false:=by
 rcases Nat.lt_or_ge i listed.size with h'|h'
 ·simp only[Array.getD_eq_getD_getElem?,Array.getElem?_eq_getElem h',Option.getD_some]at h ⊢;exact h
 ·simp[Array.getElem?_eq_none h']at h
theorem kP {listed:Array Bool}{i:Nat}(hi:i<listed.size)(h:¬listed.getD i false=true):listed.getD i true=false:=by
 simp only[Array.getD_eq_getD_getElem?,Array.getElem?_eq_getElem hi,Option.getD_some]at h ⊢
 simpa using h

theorem oP {listed0:Array Bool}(st:aAb ops M J listed0 H){hd:List (Nat × Value)}{listed:Array Bool}(hsz:listed.size=ops.size)
  (hmono:∀k,listed0.getD k false=true->listed.getD k false=true)
  (hmem:∀p ∈ hd,p.1 ∈ H/\listed.getD p.1 true=false) (hall:∀i ∈ H,listed.getD i true=false -> ∃p ∈ hd,p.1=i) :
  ∀n,∀p ∈ hd,p.1<n -> ∃r,r ∈ Region.ready .any ops listed:=by
 intro n
 induction n with
 | zero=>intro p _ h;omega
 | succ n ih =>
  intro p hp hlt;obtain⟨hH,hun⟩:=hmem p hp;have hi:=(st.inr _ hH).1;have ho:ops[p.1]? = some ops[p.1]:=Array.getElem?_eq_getElem hi;by_cases hpre:∀e ∈ ops[p.1].after,Region.binds .any e=true->listed.getD e.on false=true
  ·exact⟨p.1,mem_ready.2 ⟨hun,_,ho,hpre⟩⟩
  ·have:∃e,e ∈ ops[p.1].after/\Region.binds .any e=true /\ ¬listed.getD e.on false=true:=by
    false_or_by_contra
    rename_i hne;exact hpre fun e he hb=>by
     false_or_by_contra
     rename_i hl;exact hne ⟨e,he,hb,hl⟩
   obtain⟨e,he,hb,hl⟩:=this;rcases st.pred _ hH _ ho e he hb with h0|⟨heH,helt⟩
   ·exact(hl (hmono _ h0)).elim
   ·have heun:=kP (by rw[hsz];exact(st.inr _ heH).1) hl;obtain⟨p',hp',hpe⟩:=hall _ heH heun;exact ih p' hp' (by omega)

theorem jQ.set {listed:Array Bool}(hc:jQ ops listed){j:Nat}(hj:j ∈ Region.ready .any ops listed):jQ ops (listed.setIfInBounds j true):=by
 obtain⟨_,oj,hoj,hall⟩:=mem_ready.1 hj;intro k ok hok hl e he hb;by_cases hkj:j=k
 ·subst hkj;obtain rfl:ok=oj:=Option.some.inj (hok.symm.trans hoj);exact getD_set_true (hall e he hb)
 ·rw[getD_set_ne false hkj]at hl;exact getD_set_true (hc k ok hok hl e he hb)

theorem wN {j:Nat}{oj:Oper}{hd:List (Nat × Value)}{a A:Act}{w:World}{K K':Act->World->Prop}(hoj:ops[j]? = some oj)(hput:sK ops hd a A)
  (hex:execOp A.eval oj=execOp a.eval oj) (hwt:Region.wanted oj (yielded ops A.tmps)=Region.wanted oj (yielded ops a.tmps))
  (hQ:∀c (a:Act) t w,Q (.panic c) { a with tmps:=t } w->Q (.panic c) a w)
  (hK:∀ds u w',K (({ A with defers:=ds }:Act).put oj.dst u) w'->K' (({ a with defers:=ds }:Act).put oj.dst u) w') (h:wpOp P ops Q j K A w):wpOp P ops Q j K' a w:=by
 have hA:A = { a with tmps:=A.tmps }:=by
  obtain⟨t,d⟩:=A;have h1:d=a.defers:=hput.defers;rw[h1]
 have hQ':∀c w,Q (.panic c) A w->Q (.panic c) a w:=fun c w hq=>hQ c a A.tmps w (by rw[<- hA];exact hq);unfold wpOp at h ⊢;simp only[hoj]at h ⊢;rw[hwt]at h;split
 ·rename_i hw;rw[if_pos hw]at h;rcases h with h|⟨hasks,hlets⟩
  ·left;unfold Oper.wp at h ⊢;rw[hex]at h;generalize (execOp a.eval oj).run P w=r at *
   cases r with
   | ok n w' =>
    cases n<;>simp only[Oper.upon]at h ⊢
    case value u=>exact hK _ _ _ (by rw[<- hput.defers];exact h)
    case skip=>exact hK _ _ _ (by rw[<- hput.defers];exact h)
    case defer d =>
     rw[hput.defers]at h;exact hK _ _ _ h
    case enter f args =>
     refine Calls.mono h fun e w'' he=>?_;cases e with
     | returned u=>exact hK _ _ _ (by rw[<- hput.defers];exact he)
     | panicked c=>exact hQ' _ _ he
     | outgrown=>exact he
    case row row args=>exact Rows.mono h fun u w'' he=>hK _ _ _ (by rw[<- hput.defers];exact he)
   | halt x w' =>
    cases x<;>simp only[Oper.upon]at h ⊢
    case panic u=>exact hQ' _ _ h
  ·right;refine⟨?_,hlets⟩;unfold Oper.asks at hasks ⊢;rw[hex]at hasks;exact hasks
 ·rename_i hw;rw[if_neg hw]at h;exact hK a.defers undef w (by rw[<- hput.defers];exact h)

theorem rA (hsel:∀(j:Nat) (o:Oper) cs b,ops[j]? = some o->o.op ≠ .select cs b)(hM:maskOk ops M=true){listed0:Array Bool}(st:aAb ops M J listed0 H)(hsz0:listed0.size=ops.size)
  (hSa:∀w o,S w->S (w.alloc o)) (hQ:∀c (a:Act) t w,Q (.panic c) { a with tmps:=t } w->Q (.panic c) a w) :
  ∀(n fuel:Nat) (hd:List (Nat × Value)) (listed L:Array Bool) (a A:Act) (w:World),n=fuel+hd.length->(hd.map (·.1)).Nodup ->
    (∀p ∈ hd,p.1 ∈ H/\listed.getD p.1 true=false)->(∀i ∈ H,listed.getD i true=false -> ∃p ∈ hd,p.1=i)->listed.size=ops.size->jQ ops listed ->
    (∀k,listed0.getD k false=true->listed.getD k false=true) ->
    sK ops hd a A->zZ hd listed L->((∃p ∈ hd,∃o,ops[p.1]? = some o/\hG J p.1 o=true)->S w) ->
    (∀p ∈ hd,∀o,ops[p.1]? = some o->YieldsIf P ops (fun w=>loadLike o.op=true->S w) o p.2 A) ->
    wpAnyS P ops Q S J fuel L A w->wpAnyS P ops Q S J n listed a w:=by
 intro n
 induction n with
 | zero =>
  intro fuel hd listed L a A w hn _ _ _ _ _ _ hput hlst _ _ h;have h1:hd = []:=List.eq_nil_of_length_eq_zero (by omega);have h2:fuel=0:=by omega
  subst h1 h2;rw[<- hput.nil,<- hlst.nil];exact h
 | succ n ih =>
  intro fuel hd listed L a A w hn hnd hmem hall hsz hcl hmono hput hlst hS hy h;by_cases hne:hd = []
  ·subst hne;have h2:fuel=n+1:=by simpa using hn.symm
   subst h2;rw[<- hput.nil,<- hlst.nil];exact h
  obtain⟨p0,hp0⟩:=List.exists_mem_of_ne_nil hd hne;have hun0:∀k,k<ops.size->listed.getD k true=false->listed0.getD k true=false:=fun k hk hun =>
   kP (by rw[hsz0];exact hk) fun h0=>by
    have h1:=hmono k h0;rw[jM hun]at h1;cases h1
  refine⟨fun h0=>?_,fun j hj=>?_⟩
  ·obtain⟨r,hr⟩:=oP st hsz hmono hmem hall (p0.1+1) p0 hp0 (Nat.lt_succ_self _);rw[h0]at hr;cases hr
  ·obtain⟨hjun,oj,hoj,hpre⟩:=mem_ready.1 hj;have hjo:j<ops.size:=(Array.getElem?_eq_some_iff.1 hoj).1;have hjs:j<listed.size:=by rw[hsz];exact hjo
   have hjun0:=hun0 j hjo hjun;have hnm:∀p ∈ hd,¬(M.getD j 0).testBit p.1=true:=fun p hp hb=>by
    have h1:=yL hM hcl (st.inr _ (hmem p hp).1).1 (j+1) j (Nat.lt_succ_self _) oj hoj hpre hb;rw[jM (hmem p hp).2]at h1;cases h1
   have hlook:∀p ∈ hd,∀op,ops[p.1]? = some op -> ∀d,op.dst=some d->d ∉ oj.looksAt ops:=fun p hp op hop d hd'=>by
    by_cases hpj:j=p.1
    ·subst hpj;obtain rfl:op=oj:=Option.some.inj (hop.symm.trans hoj);obtain⟨d0,hd0,hno⟩:=st.self _ (hmem p hp).1 _ hop;obtain rfl:d0=d:=Option.some.inj (hd0.symm.trans hd');exact hno
    ·rcases st.free _ (hmem p hp).1 _ hop j oj hoj hjun0 hpj with hb|⟨hap,_⟩
     ·exact(hnm p hp hb).elim
     ·exact hap d hd'
   have hex:=mT hput (fun cs b=>hsel j oj cs b hoj) hlook;have hwt:=nC hput hlook;have hmono':∀k,listed0.getD k false=true->(listed.setIfInBounds j true).getD k false=true:=fun k hk=>getD_set_true (hmono k hk);by_cases hjd:∃p ∈ hd,p.1=j
   ·obtain⟨⟨j',v⟩,hp,hpj⟩:=hjd;dsimp only at hpj;subst hpj;obtain⟨l1,l2,rfl⟩:=List.append_of_mem hp;have hya:YieldsIf P ops (fun w=>loadLike oj.op=true->S w) oj v a:=(hy _ hp oj hoj).of_same hex.symm hwt.symm;have hSw:loadLike oj.op=true->S w:=fun hl=>hS ⟨_,hp,oj,hoj,by simp[hG,hl]⟩;refine hya.wpOp hoj hSw ⟨fun hJ=>hS ⟨_,hp,oj,hoj,by simp[hG,hJ]⟩,?_⟩;have hmem':∀p ∈ l1++l2,p ∈ l1++(j',v)::l2:=fun p hp'=>by
     rcases List.mem_append.1 hp' with h1|h1
     ·exact List.mem_append_left _ h1
     ·exact List.mem_append_right _ (List.mem_cons_of_mem _ h1)
    have hmemc:∀p ∈ l1++(j',v)::l2,p ∈ l1++l2\/p=(j',v):=fun p hp'=>by
     rcases List.mem_append.1 hp' with h1|h1
     ·exact .inl (List.mem_append_left _ h1)
     ·rcases List.mem_cons.1 h1 with h1|h1
      ·exact .inr h1
      ·exact .inl (List.mem_append_right _ h1)
    have hnd':((l1++l2).map (·.1)).Nodup /\ ∀p ∈ l1++l2,p.1≠j':=by
     simp only[List.map_append,List.map_cons,List.nodup_append,List.nodup_cons]at hnd ⊢;obtain⟨n1,⟨n2,n3⟩,n4⟩:=hnd;refine⟨⟨n1,n3,fun x hx y hy'=>n4 x hx y (List.mem_cons_of_mem _ hy')⟩,fun p hp'=>?_⟩;rcases List.mem_append.1 hp' with h1|h1
     ·exact n4 p.1 (List.mem_map.2 ⟨p,h1,rfl⟩) j' List.mem_cons_self
     ·intro e;exact n2 (e ▸ List.mem_map.2 ⟨p,h1,rfl⟩)
    obtain⟨d,hdj,hself⟩:=st.self _ (hmem _ hp).1 _ hoj;refine ih fuel (l1++l2) (listed.setIfInBounds j' true) L (a.put oj.dst v) A w (by simp only[List.length_append,List.length_cons]at hn ⊢;omega) hnd'.1 ?_ ?_ (by simp[hsz]) (hcl.set hj) hmono' ?_ ?_
     (fun ⟨p,hp',o,ho,hl⟩=>hS ⟨p,hmem' p hp',o,ho,hl⟩) (fun p hp'=>hy p (hmem' p hp')) h
    ·intro p hp';exact⟨(hmem p (hmem' p hp')).1,by rw[getD_set_ne true (Ne.symm (hnd'.2 p hp'))];exact(hmem p (hmem' p hp')).2⟩
    ·intro i hi hun;have hij:i≠j':=fun e=>by
      subst e;simp only[Array.getD_eq_getD_getElem?,Array.getElem?_setIfInBounds_self_of_lt hjs,Option.getD_some]at hun;cases hun
     rw[getD_set_ne true (Ne.symm hij)]at hun;obtain⟨p,hp',he⟩:=hall i hi hun;rcases hmemc p hp' with h1|rfl
     ·exact⟨p,h1,he⟩
     ·exact absurd he.symm hij
    ·refine⟨by rw[hput.defers,hdj];rfl,by rw[hput.size,hdj];simp[Act.put],fun p hp' o ho d' hd' hlt=>?_,fun t ht=>?_⟩
     ·exact hput.hit p (hmem' p hp') o ho d' hd' (by rw[hdj]at hlt;simpa [Act.put] using hlt)
     ·by_cases htd:t=d
      ·subst htd;rcases Nat.lt_or_ge t a.tmps.size with h1|h1
       ·rw[hput.hit _ hp oj hoj t hdj h1,hdj];simp[Act.put,h1]
       ·rw[hdj,Array.getElem?_eq_none (by rw[hput.size];exact h1),Array.getElem?_eq_none (by simpa [Act.put] using h1)]
      ·rw[hput.miss t (fun p hp' o ho hd'=>by
        rcases hmemc p hp' with h1|rfl
        ·exact ht p h1 o ho hd'
        ·obtain rfl:o=oj:=Option.some.inj (ho.symm.trans hoj);rw[hdj]at hd';exact htd (Option.some.inj hd').symm)]
       rw[hdj];simp[Act.put,Array.getElem?_setIfInBounds_ne (Ne.symm htd)]
    ·refine⟨by simp[hlst.size],fun p hp' hlt=>hlst.hit p (hmem' p hp') (by simpa using hlt),fun k hk=>?_⟩;by_cases hkj:k=j'
     ·subst hkj;rw[hlst.hit _ hp hjs,Array.getElem?_setIfInBounds_self_of_lt hjs]
     ·rw[Array.getElem?_setIfInBounds_ne (Ne.symm hkj)];exact hlst.miss k (fun p hp'=>by
       rcases hmemc p hp' with h1|rfl
       ·exact hk p h1
       ·exact Ne.symm hkj)
   ·have hjd':∀p ∈ hd,p.1≠j:=fun p hp e=>hjd ⟨p,hp,e⟩;have hjH:j ∉ H:=fun hH=>hjd (hall j hH hjun);have hap:∀p ∈ hd,∀op,ops[p.1]? = some op->op.apart ops oj=true/\(hG J p.1 op=true->gentle oj.op=true\/J.testBit j=true):=fun p hp op hop=>by
     rcases st.free _ (hmem p hp).1 _ hop j oj hoj hjun0 (Ne.symm (hjd' p hp)) with hb|⟨_,hap⟩
     ·exact(hnm p hp hb).elim
     ·exact hap.resolve_left hjH
    have hLj:L[j]? = listed[j]?:=hlst.miss j hjd';have hjL:j ∈ Region.ready .any ops L:=mem_ready.2 ⟨by simpa only[Array.getD_eq_getD_getElem?,hLj] using hjun,oj,hoj,fun e he hb=>by
     have hl:=hpre e he hb;by_cases hep:∃p ∈ hd,p.1=e.on
     ·obtain⟨p,hp,hpe⟩:=hep;have:=hlst.hit p hp (by rw[hsz];exact(st.inr _ (hmem p hp).1).1);rw[hpe]at this;simp[this]
     ·have:=hlst.miss e.on (fun p hp he'=>hep ⟨p,hp,he'⟩)
      simpa only[Array.getD_eq_getD_getElem?,this] using hl⟩
    cases fuel with
    | zero=>rw[h.1]at hjL;cases hjL
    | succ f =>
     have h1:=h.2 j hjL;have step:∀ds u w',((∃p ∈ hd,∃o,ops[p.1]? = some o/\hG J p.1 o=true)->S w')->wpAnyS P ops Q S J f (L.setIfInBounds j true) (({ A with defers:=ds }:Act).put oj.dst u) w' ->
       wpAnyS P ops Q S J n (listed.setIfInBounds j true) (({ a with defers:=ds }:Act).put oj.dst u) w':=fun ds u w' hS' h'=>by
      refine ih f hd (listed.setIfInBounds j true) (L.setIfInBounds j true) _ _ w' (by omega) hnd ?_ ?_ (by simp[hsz]) (hcl.set hj) hmono' ?_ ?_ hS' ?_ h'
      ·intro p hp;exact⟨(hmem p hp).1,by rw[getD_set_ne true (Ne.symm (hjd' p hp))];exact(hmem p hp).2⟩
      ·intro i hi hun;have hij:i≠j:=fun e=>by subst e;exact hjH hi
       rw[getD_set_ne true (Ne.symm hij)]at hun;exact hall i hi hun
      ·cases hdj:oj.dst with
       | none=>exact⟨rfl,hput.size,hput.hit,hput.miss⟩
       | some d =>
        refine⟨rfl,by simp[Act.put,hput.size],fun p hp o ho d' hd' hlt=>?_,fun t ht=>?_⟩
        ·have hne':d≠d':=fun e=>by
          have:=(Oper.apart_spec (hap p hp o ho).1).2.1 d' hd';exact this (by rw[hdj,e])
         simp only[Act.put,Array.getElem?_setIfInBounds_ne hne'];exact hput.hit p hp o ho d' hd' (by simpa [Act.put] using hlt)
        ·by_cases htd:d=t
         ·subst htd;rcases Nat.lt_or_ge d a.tmps.size with h2|h2
          ·simp[Act.put,h2,hput.size]
          ·simp[Act.put,h2,hput.size]
         ·simp only[Act.put,Array.getElem?_setIfInBounds_ne htd];exact hput.miss t ht
      ·refine⟨by simp[hlst.size],fun p hp hlt=>?_,fun k hk=>?_⟩
       ·rw[Array.getElem?_setIfInBounds_ne (Ne.symm (hjd' p hp))];exact hlst.hit p hp (by simpa using hlt)
       ·by_cases hkj:j=k
        ·subst hkj;rw[Array.getElem?_setIfInBounds_self_of_lt hjs,Array.getElem?_setIfInBounds_self_of_lt (by rw[hlst.size];exact hjs)]
        ·rw[Array.getElem?_setIfInBounds_ne hkj,Array.getElem?_setIfInBounds_ne hkj];exact hlst.miss k hk
      ·intro p hp o ho;have hlk:=(Oper.apart_spec (hap p hp o ho).1).2.2;exact(hy p hp o ho).of_same (execOp_put (ops:=ops) o (fun cs b=>hsel p.1 o cs b ho) ({ A with defers:=ds }:Act) oj.dst u (fun d hd'=>hlk d hd')) (wanted_put o ({ A with defers:=ds }:Act) oj.dst u (fun d hd'=>hlk d hd'))
     by_cases hgl:(∃p ∈ hd,∃o,ops[p.1]? = some o/\hG J p.1 o=true)/\gentle oj.op=true
     ·-- it only makes memory: S stands
      obtain⟨hld,hgen⟩:=hgl;have hSw:=hS hld;unfold wpOp at h1 ⊢;simp only[hoj]at h1 ⊢;rw[hwt]at h1;have hAd:∀u,({ A with defers:=a.defers }:Act).put oj.dst u=A.put oj.dst u:=fun u=>by rw[<- hput.defers]
      split
      ·rename_i hw;rw[if_pos hw]at h1;rcases h1 with h1|⟨hasks,hlets⟩
       ·left;unfold Oper.wp at h1 ⊢;rw[hex]at h1;rcases vR (P:=P) hgen a.eval w with ⟨u,x,hr⟩|⟨x,w',hr,hnp⟩
        ·rw[hr]at h1 ⊢;exact⟨h1.1,step a.defers u _ (fun _=>hSa w x hSw) (by rw[hAd];exact h1.2)⟩
        ·rw[hr]at h1 ⊢;cases x<;>first|exact h1.elim|exact(hnp _ rfl).elim
       ·right;refine⟨?_,hlets⟩;unfold Oper.asks at hasks ⊢;rw[hex]at hasks;exact hasks
      ·rename_i hw;rw[if_neg hw]at h1;exact⟨h1.1,step a.defers undef w (fun _=>hSw) (by rw[hAd];exact h1.2)⟩
     ·refine wN hoj hput hex hwt hQ (fun ds u w' hk=>⟨hk.1,step ds u w' (fun hld=>?_) hk.2⟩) h1;obtain⟨p,hp,o,ho,hl⟩:=hld;rcases(hap p hp o ho).2 hl with hg|hJ
      ·exact(hgl ⟨⟨p,hp,o,ho,hl⟩,hg⟩).elim
      ·exact hk.1 hJ
def dG (P:Program)(ops:Array Oper)(S:World->Prop)(L:Act->Prop):List Oper->Act->Prop
 | [],a=>L a
 | o::os,a=>∃v,YieldsIf P ops (fun w=>loadLike o.op=true->S w) o v a/\dG P ops S L os (a.put o.dst v)

def orderB (ops:Array Oper):List Oper->Bool
 | []=>true
 | o::os=>os.all (fun o'=>match o'.dst with|some d=>!(o.looksAt ops).contains d|none=>true)&&orderB ops os

theorem tP {L:Act->Prop}(hsel:∀(j:Nat) (o:Oper) cs b,ops[j]? = some o->o.op ≠ .select cs b):∀(l:List Nat),l.Nodup ->
  (∀i ∈ l,∃o,ops[i]? = some o /\ ∃d,o.dst=some d/\d ∉ o.looksAt ops)->(∀i ∈ l,∀j ∈ l,i≠j -> ∀oi oj,ops[i]? = some oi->ops[j]? = some oj->oi.dst≠oj.dst) ->
  orderB ops (l.flatMap fun i=>(ops.toList.drop i).take 1)=true -> ∀a,dG P ops S L (l.flatMap fun i=>(ops.toList.drop i).take 1) a ->
  ∃(hd:List (Nat × Value)) (A:Act),hd.map (·.1)=l/\sK ops hd a A/\L A /\ ∀p ∈ hd,∀o,ops[p.1]? = some o->YieldsIf P ops (fun w=>loadLike o.op=true->S w) o p.2 A
 | [],_,_,_,_,a,h=>⟨[],a,rfl,⟨rfl,rfl,fun p hp=>(by cases hp),fun _ _=>rfl⟩,h,fun p hp=>(by cases hp)⟩
 | i::l,hnd,hin,hds,hor,a,h=>by
  obtain⟨o,ho,d,hd,hself⟩:=hin i List.mem_cons_self;have hpick:(ops.toList.drop i).take 1 = [o]:=by
   have hlt:i<ops.toList.length:=by have:=(Array.getElem?_eq_some_iff.1 ho).1;simpa using this
   rw[List.drop_eq_getElem_cons hlt];have:ops.toList[i]=o:=by have:=ho;rw[Array.getElem?_eq_some_iff]at this;obtain⟨_,h1⟩:=this;simpa using h1
   simp[this]
  simp only[List.flatMap_cons,hpick,List.cons_append,List.nil_append]at h hor;obtain⟨v,hy,hrest⟩:=h;simp only[orderB,Bool.and_eq_true]at hor;obtain⟨hor1,hor2⟩:=hor;have hnd':=List.nodup_cons.1 hnd;obtain⟨hd',A,hmap,hput,hL,hall⟩:=tP hsel l hnd'.2 (fun k hk=>hin k (List.mem_cons_of_mem _ hk)) (fun x hx y hy'=>hds x (List.mem_cons_of_mem _ hx) y (List.mem_cons_of_mem _ hy')) hor2 _ hrest;have hmem:∀p ∈ hd',p.1 ∈ l:=fun p hp=>by rw[<- hmap];exact List.mem_map.2 ⟨p,hp,rfl⟩
  have hlater:∀p ∈ hd',∀op,ops[p.1]? = some op -> ∀d',op.dst=some d'->d' ∉ o.looksAt ops:=fun p hp op hop d' hd''=>by
   have hm:op ∈ l.flatMap fun i=>(ops.toList.drop i).take 1:=List.mem_flatMap.2 ⟨p.1,hmem p hp,by
    have hlt:p.1<ops.toList.length:=by have:=(Array.getElem?_eq_some_iff.1 hop).1;simpa using this
    rw[List.drop_eq_getElem_cons hlt];have:ops.toList[p.1]=op:=by have:=hop;rw[Array.getElem?_eq_some_iff]at this;obtain⟨_,h1⟩:=this;simpa using h1
    simp[this]⟩
   have:=List.all_eq_true.1 hor1 op hm;rw[hd'']at this
   simpa using this
  refine⟨(i,v)::hd',A,by simp[hmap],⟨by rw[hput.defers,hd];rfl,by rw[hput.size,hd];simp[Act.put],fun p hp op hop d' hd'' hlt=>?_,fun t ht=>?_⟩,hL,fun p hp op hop=>?_⟩
  ·rcases List.mem_cons.1 hp with rfl|hp
   ·obtain rfl:op=o:=Option.some.inj (hop.symm.trans ho);obtain rfl:d'=d:=Option.some.inj (hd''.symm.trans hd);rw[hput.miss d' (fun p hp op' hop' e=>hds i List.mem_cons_self p.1 (List.mem_cons_of_mem _ (hmem p hp)) (fun e'=>hnd'.1 (e' ▸ hmem p hp)) op op' ho hop' (by rw[hd,e]))];rw[hd];simp[Act.put,hlt]
   ·exact hput.hit p hp op hop d' hd'' (by rw[hd];simpa [Act.put] using hlt)
  ·rw[hput.miss t (fun p hp op hop e=>ht p (List.mem_cons_of_mem _ hp) op hop e)];have htd:t≠d:=fun e=>ht (i,v) List.mem_cons_self o ho (by rw[hd,e]);rw[hd];simp[Act.put,Array.getElem?_setIfInBounds_ne (Ne.symm htd)]
  ·rcases List.mem_cons.1 hp with rfl|hp
   ·obtain rfl:op=o:=Option.some.inj (hop.symm.trans ho);have hself':∀d',op.dst=some d'->d' ∉ op.looksAt ops:=fun d' hd''=>by
     obtain rfl:d'=d:=Option.some.inj (hd''.symm.trans hd);exact hself
    have hy1:YieldsIf P ops (fun w=>loadLike op.op=true->S w) op v (a.put op.dst v):=hy.of_same (execOp_put op (fun cs b=>hsel i op cs b ho) a op.dst v hself') (wanted_put op a op.dst v hself');exact hy1.of_same (mT hput (fun cs b=>hsel i op cs b ho) hlater) (nC hput hlater)
   ·exact hall p hp op hop


def stageB (ops:Array Oper)(M:List Nat)(J:Nat)(listed:Array Bool)(H:List Nat):Bool :=
 decide H.Nodup&&decide (listed.size=ops.size)&&orderB ops (H.flatMap fun i=>(ops.toList.drop i).take 1)&&H.all (fun i=>match ops[i]? with
  | none=>false
  | some oi =>
   !listed.getD i true&&oi.after.all (fun e=>!Region.binds .any e || listed.getD e.on false || (H.contains e.on&&decide (e.on<i))) &&
   (match oi.dst with|some d=>!(oi.looksAt ops).contains d|none=>false) &&
   (List.range ops.size).all (fun j=>j==i || (match ops[j]? with
    | some oj=>(listed.getD j true || (M.getD j 0).testBit i ||
      ((match oi.dst with|some d=>!(oj.looksAt ops).contains d|none=>true)&&(H.contains j || (oi.apart ops oj&&(!hG J i oi || gentle oj.op || J.testBit j)))))&&(!H.contains j || oi.dst != oj.dst)
    | none=>true)))

theorem aIY {listed:Array Bool}(h:stageB ops M J listed H=true):aAb ops M J listed H/\H.Nodup/\listed.size=ops.size/\orderB ops (H.flatMap fun i=>(ops.toList.drop i).take 1)=true:=by
 simp only[stageB,Bool.and_eq_true,decide_eq_true_eq]at h;obtain⟨⟨⟨h0,h1⟩,h2⟩,h3⟩:=h;have key:∀i ∈ H,∃oi,ops[i]? = some oi/\listed.getD i true=false/\(∀e ∈ oi.after,Region.binds .any e=true->listed.getD e.on false=true\/(e.on ∈ H/\e.on<i))/\(∃d,oi.dst=some d/\d ∉ oi.looksAt ops) /\
   ∀(j:Nat) oj,ops[j]? = some oj->j≠i->(listed.getD j true=false->(M.getD j 0).testBit i=true\/((∀d,oi.dst=some d->d ∉ oj.looksAt ops)/\(j ∈ H\/(oi.apart ops oj=true/\(hG J i oi=true->gentle oj.op=true\/J.testBit j=true)))))/\(j ∈ H->oi.dst≠oj.dst):=by
  intro i hi;have h4:=List.all_eq_true.1 h3 i hi;cases ho:ops[i]? with
  | none=>rw[ho]at h4;cases h4
  | some oi =>
   rw[ho]at h4;simp only[Bool.and_eq_true]at h4;obtain⟨⟨⟨h4a,h5⟩,h6⟩,h7⟩:=h4;refine⟨oi,rfl,by simpa using h4a,fun e he hb=>?_,?_,fun j oj hj hne=>?_⟩
   ·have:=Array.all_eq_true_iff_forall_mem.1 h5 e he;simp only[hb,Bool.not_true,Bool.false_or,Bool.or_eq_true,Bool.and_eq_true,decide_eq_true_eq,List.contains_iff_mem]at this;exact this
   ·cases hd:oi.dst with
    | none=>rw[hd]at h6;cases h6
    | some d=>rw[hd]at h6;exact⟨d,rfl,by simpa using h6⟩
   ·have h8:=List.all_eq_true.1 h7 j (List.mem_range.2 (Array.getElem?_eq_some_iff.1 hj).1);rw[hj]at h8;simp only[Bool.or_eq_true,beq_iff_eq,hne,false_or,Bool.and_eq_true,List.contains_iff_mem]at h8;obtain⟨h9,h10⟩:=h8;refine⟨fun hun=>?_,fun hjH=>?_⟩
    ·rcases h9 with (h9|h9)|⟨h9,h11⟩
     ·rw[hun]at h9;cases h9
     ·exact .inl h9
     ·refine .inr ⟨fun d hd=>by rw[hd]at h9;simpa using h9,h11.imp id fun h12=>⟨h12.1,fun hl=>?_⟩⟩;rcases h12.2 with (h13|h13)|h13
      ·simp[hl]at h13
      ·exact .inl h13
      ·exact .inr h13
    ·rcases h10 with h10|h10
     ·simp[hjH]at h10
     ·simpa using h10
 have uniq:∀ {i:Nat} {oi oi':Oper},ops[i]? = some oi->ops[i]? = some oi'->oi=oi':=fun h h'=>Option.some.inj (h.symm.trans h');refine⟨⟨fun i hi=>?_,fun i hi oi ho=>?_,fun i hi oi ho=>?_,fun i hi oi ho j oj hj hun hne=>?_,fun i hi j hj hne oi oj ho hoj=>?_⟩,h0,h1,h2⟩
 ·obtain⟨oi,ho,hl,_⟩:=key i hi;exact⟨(Array.getElem?_eq_some_iff.1 ho).1,hl⟩
 ·obtain⟨oi',ho',_,hp,_⟩:=key i hi;obtain rfl:=uniq ho ho';exact hp
 ·obtain⟨oi',ho',_,_,hs,_⟩:=key i hi;obtain rfl:=uniq ho ho';exact hs
 ·obtain⟨oi',ho',_,_,_,hf⟩:=key i hi;obtain rfl:=uniq ho ho';exact(hf j oj hj hne).1 hun
 ·obtain⟨oi',ho',_,_,_,hf⟩:=key i hi;obtain rfl:=uniq ho ho';exact(hf j oj hoj (Ne.symm hne)).2 hj

structure Rest (P:Program)(ops:Array Oper)(M:List Nat)(J:Nat)(S:World->Prop)(Q:Exit->Act->World->Prop)(f:Nat)(listed:Array Bool)(a:Act)(w:World):Prop where
 out:jQ ops listed->wpAnyS P ops Q S J f listed a w

theorem dE {id:Nat}{l:List Oper}{a:Act}{w:World}(M:List Nat)(J:Nat)(S:World->Prop)(hm:P.follows .mixedOrders=true)
  (h:Rest P l.toArray M J S Q l.length (Array.replicate l.length false) a w.drew):(Code.region id l.toArray true).wp P Q a w:=by
 refine wp_region_any hm (sV (J:=J) (S:=S) _ _ _ _ ?_);have:=h.out fun j _ _ h=>by
  rw[show (Array.replicate l.length false).getD j false=false from by
   rcases Nat.lt_or_ge j l.length with h|h<;>simp[h]]at h
  cases h
 simpa using this

theorem bQ {f f':Nat}{l:List Oper}{listed L:Array Bool}{a:Act}{w:World}(H:List Nat)(hB:(Region.noSelect l.toArray&&maskOk l.toArray M&&stageB l.toArray M J listed H)=true)
  (hL:H.foldl (fun b i=>b.setIfInBounds i true) listed=L) (hf:f=f'+H.length) (hQ:∀c (a:Act) t w,Q (.panic c) { a with tmps:=t } w->Q (.panic c) a w)
  (hSa:∀w o,S w->S (w.alloc o)) (hS:(H.all fun i=>match l.toArray[i]? with|some o=>!hG J i o|none=>true)=true\/S w)
  (h:dG P l.toArray S (fun A=>Rest P l.toArray M J S Q f' L A w) (H.flatMap fun i=>(l.drop i).take 1) a):Rest P l.toArray M J S Q f listed a w:=by
 simp only[Bool.and_eq_true]at hB;obtain⟨⟨hsel0,hM⟩,hB1⟩:=hB;obtain⟨st,hnd,hsz,hor⟩:=aIY hB1;have hsel:=Region.noSelect_spec hsel0;obtain⟨hd,A,hmap,hput,hR,hy⟩:=tP (P:=P) (ops:=l.toArray) (S:=S) hsel H hnd (fun i hi=>by
   have hlt:=(st.inr i hi).1;exact⟨_,Array.getElem?_eq_getElem hlt,st.self i hi _ (Array.getElem?_eq_getElem hlt)⟩) st.dsts hor a (by simpa using h)
 subst hf;have hlen:hd.length=H.length:=by rw[<- hmap];simp
 have hfold:∀(H':List Nat) (b:Array Bool) (k:Nat),(H'.foldl (fun b i=>b.setIfInBounds i true) b).size=b.size /\
   (H'.foldl (fun b i=>b.setIfInBounds i true) b)[k]? = if k ∈ H'/\k<b.size then some true else b[k]?:=by
  intro H'
  induction H' with
  | nil=>intro b k;simp
  | cons i H' ih =>
   intro b k;obtain⟨h1,h2⟩:=ih (b.setIfInBounds i true) k;refine⟨by simpa using h1,?_⟩;simp only[List.foldl_cons,h2,Array.size_setIfInBounds,List.mem_cons];by_cases hk:k ∈ H'
   ·by_cases hkb:k<b.size
    ·simp[hk,hkb]
    ·simp[hk,hkb]
   ·by_cases hki:k=i
    ·subst hki;by_cases hkb:k<b.size
     ·simp[hk,hkb]
     ·simp[hk,hkb]
    ·simp only[hk,hki,false_and,or_self,if_false];rw[Array.getElem?_setIfInBounds_ne (Ne.symm hki)]
 have hmemH:∀i,i ∈ H ↔ ∃p ∈ hd,p.1=i:=fun i=>by rw[<- hmap];simp
 refine⟨fun hcl=>?_⟩;have hclL:jQ l.toArray L:=by
  intro j oj hoj hl e he hb;have hget:∀k b,L.getD k b=if k ∈ H/\k<listed.size then true else listed.getD k b:=fun k b=>by
   simp only[Array.getD_eq_getD_getElem?,<- hL,(hfold H listed k).2];split<;>rfl
  rw[hget]at hl ⊢;split
  ·rfl
  ·rename_i hno;split at hl
   ·rename_i hyes;rcases st.pred j hyes.1 oj hoj e he hb with h1|⟨h1,_⟩
    ·exact h1
    ·exact(hno ⟨h1,by rw[hsz];exact(st.inr _ h1).1⟩).elim
   ·exact hcl j oj hoj hl e he hb
 exact rA (P:=P) (Q:=Q) (S:=S) hsel hM st hsz hSa hQ _ f' hd listed L a A w (by omega) (by rw[hmap];exact hnd)
  (fun p hp=>⟨(hmemH p.1).2 ⟨p,hp,rfl⟩,(st.inr _ ((hmemH p.1).2 ⟨p,hp,rfl⟩)).2⟩)
  (fun i hi _=>(hmemH i).1 hi) hsz hcl (fun _ h=>h) hput
  ⟨by rw[<- hL,(hfold H _ 0).1],fun p hp hlt=>by
   rw[<- hL,(hfold H _ p.1).2,if_pos ⟨(hmemH _).2 ⟨p,hp,rfl⟩,hlt⟩],fun k hk=>by
   rw[<- hL,(hfold H _ k).2,if_neg (fun h=>by obtain⟨p,hp,e⟩:=(hmemH k).1 h.1;exact hk p hp e)]⟩ (fun ⟨p,hp,o,ho,hl⟩=>by
   rcases hS with hS|hS
   ·have:=List.all_eq_true.1 hS p.1 ((hmemH _).2 ⟨p,hp,rfl⟩);rw[ho]at this;simp[hl]at this
   ·exact hS) hy (hR.out hclL)

def dF (P:Program)(ops:Array Oper)(M:List Nat)(J:Nat)(S:World->Prop)(Q:Exit->Act->World->Prop)(f:Nat)(listed:Array Bool)(j:Nat):Exit->Act->World->Prop
 | .normal,a,w=>(J.testBit j=true->S w)/\Rest P ops M J S Q f listed a w
 | e,a,w=>Q e a w

theorem cS {f:Nat}{listed:Array Bool}{j:Nat}{a:Act}{w:World}(hS:J.testBit j=true->S w)(h:Rest P ops M J S Q f listed a w):dF P ops M J S Q f listed j .normal a w:=⟨hS,h⟩

theorem lW {l:List Oper}{i:Nat}{listed:Array Bool}(hi:i ∈ Region.ready .any l.toArray listed):∃o,l.toArray[i]? = some o/\(l.drop i).take 1 = [o]:=by
 obtain⟨_,o,ho,_⟩:=mem_ready.1 hi;refine⟨o,ho,?_⟩;have hlt:i<l.length:=by have:=(Array.getElem?_eq_some_iff.1 ho).1;simpa using this
 have h1:l[i]=o:=by have:=ho;rw[Array.getElem?_eq_some_iff]at this;obtain⟨_,h1⟩:=this;simpa using h1
 rw[List.drop_eq_getElem_cons hlt,h1];rfl

theorem mA {l:List Oper}{f i:Nat}{listed L:Array Bool}{a:Act}{w:World}(hcl:jQ l.toArray listed)(hi:i ∈ Region.ready .any l.toArray listed)(hL:listed.setIfInBounds i true=L)
  (h:wpList P l.toArray (dF P l.toArray M J S Q f L i) ((l.drop i).take 1) a w) :
  wpOp P l.toArray Q i (fun a' w'=>(J.testBit i=true->S w')/\wpAnyS P l.toArray Q S J f (listed.setIfInBounds i true) a' w') a w:=by
 have hcl':=hcl.set hi;obtain⟨o,ho,hp⟩:=lW hi;rw[hp]at h;unfold wpOp;simp only[ho];simp only[wpList]at h;rw[hL]at hcl' ⊢;split
 ·rename_i hw;rw[if_pos hw]at h;refine h.imp (fun h1=>?_) id;have:o.wp P a w (fun a' w'=>(J.testBit i=true->S w')/\wpAnyS P l.toArray Q S J f L a' w') (dF P l.toArray M J S Q f L i):=Oper.wp_mono (fun a' w' h2=>⟨h2.1,h2.2.out hcl'⟩) h1;exact this
 ·rename_i hw;rw[if_neg hw]at h;exact⟨h.1,h.2.out hcl'⟩

theorem fL {l:List Oper}{f:Nat}{listed L:Array Bool}{a:Act}{w:World}(j:Nat)(hr:Region.ready .any l.toArray listed = [j])(hL:listed.setIfInBounds j true=L)
  (h:wpList P l.toArray (dF P l.toArray M J S Q f L j) ((l.drop j).take 1) a w):Rest P l.toArray M J S Q (f+1) listed a w:=by
 refine⟨fun hcl=>⟨fun h0=>(by rw[hr]at h0;cases h0),fun i hi=>?_⟩⟩;have hi':=hi;rw[hr]at hi';obtain rfl:i=j:=by simpa using hi'
 exact mA hcl hi hL h

theorem zO {l:List Oper}{f:Nat}{listed:Array Bool}{a:Act}{w:World}(j k:Nat){Lj Lk:Array Bool}(hr:Region.ready .any l.toArray listed = [j,k])
  (hLj:listed.setIfInBounds j true=Lj) (hLk:listed.setIfInBounds k true=Lk)
  (h1:wpList P l.toArray (dF P l.toArray M J S Q f Lj j) ((l.drop j).take 1) a w) (h2:wpList P l.toArray (dF P l.toArray M J S Q f Lk k) ((l.drop k).take 1) a w):Rest P l.toArray M J S Q (f+1) listed a w:=by
 refine⟨fun hcl=>⟨fun h0=>(by rw[hr]at h0;cases h0),fun i hi=>?_⟩⟩;have hi':=hi;rw[hr]at hi';rcases List.mem_cons.1 hi' with rfl|hi'
 ·exact mA hcl hi hLj h1
 ·obtain rfl:i=k:=by simpa using hi'
  exact mA hcl hi hLk h2

theorem eM {f:Nat}{listed:Array Bool}{a:Act}{w:World}(hr:Region.ready .any ops listed = [])(h:Q .normal a w):Rest P ops M J S Q f listed a w :=
 ⟨fun _=>match f with
  | 0=>⟨hr,h⟩
  | _+1=>⟨fun _=>h,by rw[hr];simp⟩⟩

theorem cP {L:Act->Prop}{a:Act}(h:L a):dG P ops S L [] a:=h
theorem cK {L:Act->Prop}{a:Act}{o:Oper}{os:List Oper}(v:Value)(hw:Region.wanted o (yielded ops a.tmps)=true)
  (hy:∀w,S w->(execOp a.eval o).run P w = .ok (.value v) w) (hl:loadLike o.op=true) (h:dG P ops S L os (a.put o.dst v)):dG P ops S L (o::os) a:=⟨v,.inl ⟨hw,fun w hS=>hy w (hS hl)⟩,h⟩
theorem cA {L:Act->Prop}{a:Act}{o:Oper}{os:List Oper}(v:Value)(hw:Region.wanted o (yielded ops a.tmps)=true)
  (hy:∀w,(execOp a.eval o).run P w = .ok (.value v) w) (h:dG P ops S L os (a.put o.dst v)):dG P ops S L (o::os) a:=⟨v,.inl ⟨hw,fun w _=>hy w⟩,h⟩
theorem fD {L:Act->Prop}{a:Act}{o:Oper}{os:List Oper}(hw:Region.wanted o (yielded ops a.tmps)=false)
  (h:dG P ops S L os (a.put o.dst undef)):dG P ops S L (o::os) a:=⟨undef,.inr ⟨hw,rfl⟩,h⟩
end plan
def bm (n m:Nat):Array Bool:=((List.range n).map fun i=>m / 2 ^ i % 2==1).toArray
theorem sF {α β:Type}:(∀f:α->List β,List.flatMap f [] = []) /\ ∀(x:α) (xs:List α) (f:α->List β),List.flatMap f (x::xs)=f x++List.flatMap f xs:=⟨fun _=>rfl,fun _ _ _=>rfl⟩
theorem sL {α:Type}:(∀(a:α) (l:List α) (i:Nat),(a::l).drop (i+1)=l.drop i)/\(∀l:List α,l.drop 0=l)/\(∀(i:Nat) (a:α) (l:List α),(a::l).take (i+1)=a::l.take i)/\(∀l:List α,l.take 0 = [])/\(∀(a:α) (l s:List α),(a::l)++s=a::(l++s))/\(∀l:List α,[]++l=l) /\ ∀l:List α,l ++ []=l:=⟨fun _ _ _=>rfl,fun _=>rfl,fun _ _ _=>rfl,fun _=>rfl,fun _ _ _=>rfl,fun _=>rfl,List.append_nil⟩
theorem sA {α:Type}:(∀(l:List α) (i:Nat) (a:α),l.toArray.setIfInBounds i a=(l.set i a).toArray)/\(∀(a b:α) (l:List α),(a::l).set 0 b=b::l) /\ ∀(a b:α) (l:List α) (i:Nat),(a::l).set (i+1) b=a::l.set i b:=⟨fun l i a=>List.setIfInBounds_toArray l i a,fun _ _ _=>rfl,fun _ _ _ _=>rfl⟩
end Go.Proofs.Own
