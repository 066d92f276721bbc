/- For scbytes_law_holds. -/
import GoSem.ClaimLoops
import GoSem.ClaimJoined
import GoSem.ClaimFn
import Derived.Test.YtgeihgombjbkbaaGreatSyb37
namespace Go.Proofs.Rn
open Go

variable {P:Program}
theorem grown_fix {s:List TypeId}(h:P.grow s=s):∀d,P.grown d s=s
 | 0=>rfl
 | d+1=>by
  rw[Program.grown,h];exact grown_fix h d
theorem grown_add:∀(a b:Nat) (s:List TypeId),P.grown (a+b) s=P.grown b (P.grown a s)
 | 0,b,s=>by rw[Nat.zero_add];rfl
 | a+1,b,s=>by
  rw[show a+1+b=(a+b)+1 by omega,Program.grown,Program.grown];exact grown_add a b _
def shutB (P:Program)(k:Nat)(t:TypeId):Bool:=P.grow (P.grown k [t])==P.grown k [t]
theorem book_eq {k:Nat}(hk:k<=P.types.size){t:TypeId}(h:shutB P k t=true):P.book t=P.grown k [t]:=by
 unfold shutB at h;unfold Program.book;obtain⟨m,hm⟩:=Nat.exists_eq_add_of_le hk;rw[hm,grown_add];exact grown_fix (by simpa using h) m
def shutAll (P:Program)(k:Nat)(t:TypeId):Bool:=shutB P k t&&(P.grown k [t]).all fun u=>shutB P k u&&(P.partsOf u).all fun v=>shutB P k v
def readB (P:Program)(k:Nat)(t:TypeId):Bool:=(P.grown k [t]).all fun u=>P.fineRow u&&(P.partsOf u).all ((P.grown k [t]).contains ·)
def loopB (P:Program)(k:Nat)(t:TypeId):Bool:=(P.grown k [t]).any fun u=>(P.partsOf u).any fun v=>(P.grown k [v]).contains u
def anyB (P:Program)(k:Nat)(t:TypeId)(p:TypeId->Bool):Bool:=(P.grown k [t]).any p
section
variable {k:Nat} {t:TypeId} (hk:k<=P.types.size) (h:shutAll P k t=true)
include hk h
theorem shut_self:P.book t=P.grown k [t]:=by
 unfold shutAll at h;rw[Bool.and_eq_true]at h;exact book_eq hk h.1
theorem read_eq:P.readableRec t=readB P k t:=by
 unfold Program.readableRec readB;rw[shut_self hk h]
theorem any_eq (p:TypeId->Bool):(P.book t).any p=anyB P k t p:=by
 unfold anyB;rw[shut_self hk h]
theorem loop_eq:P.loopsFrom t=loopB P k t:=by
 have hs:=shut_self hk h;unfold Program.loopsFrom loopB;rw[hs];unfold shutAll at h;simp only[Bool.and_eq_true,List.all_eq_true]at h;rw[Bool.eq_iff_iff,List.any_eq_true,List.any_eq_true];constructor
 ·rintro⟨u,hu,hx⟩;refine⟨u,hu,?_⟩;rw[List.any_eq_true]at hx ⊢;obtain⟨v,hv,hc⟩:=hx;exact⟨v,hv,by rw[<- book_eq hk ((h.2 u hu).2 v hv)];exact hc⟩
 ·rintro⟨u,hu,hx⟩;refine⟨u,hu,?_⟩;rw[List.any_eq_true]at hx ⊢;obtain⟨v,hv,hc⟩:=hx;exact⟨v,hv,by rw[book_eq hk ((h.2 u hu).2 v hv)];exact hc⟩
end

def edge (E:Tr (List Nat))(f:Nat):List Nat:=match E.get f with
 | some l=>l
 | none=>[]
def clT (E:Tr (List Nat)):Nat->List Nat->List Nat->Tr Unit->Option (List Nat)
 | 0,[],seen,_=>some seen.reverse
 | 0,_::_,_,_=>none
 | _+1,[],seen,_=>some seen.reverse
 | n+1,f::todo,seen,st=>match st.get f with
  | some _=>clT E n todo seen st
  | none=>clT E n (edge E f++todo) (f::seen) (st.put f ())
def EdgeOk (P:Program)(E:Tr (List Nat)):Prop:=∀f,(P.funcs[f]?).elim [] P.leadsTo=edge E f
theorem via_nil {P:Program}:∀(m:Nat) (seen:List Nat),P.closureVia m [] seen=seen.reverse
 | 0,_=>rfl
 | _+1,_=>rfl
theorem clT_ok {P:Program}{E:Tr (List Nat)}(hE:EdgeOk P E):∀ {n:Nat} {todo seen:List Nat} {st:Tr Unit} {r:List Nat},(∀f,(st.get f).isSome=seen.contains f)->clT E n todo seen st=some r -> ∀m,n<=m->P.closureVia m todo seen=r
 | 0,[],seen,st,r,_,h,m,_=>by
  simp only[clT,Option.some.injEq]at h;rw[via_nil,h]
 | 0,_::_,_,_,_,_,h,_,_=>by simp[clT]at h
 | n+1,[],seen,st,r,_,h,m,_=>by
  simp only[clT,Option.some.injEq]at h;rw[via_nil,h]
 | n+1,f::todo,seen,st,r,hs,h,m,hm=>by
  obtain⟨m,rfl⟩:∃k,m=k+1:=⟨m-1,by omega⟩;rw[clT]at h;rw[Program.closureVia];have hf:=hs f;split at h
  ·rename_i e;rw[e]at hf;rw[<- hf];exact clT_ok hE hs h m (by omega)
  ·rename_i e;rw[e]at hf;rw[<- hf];simp only[Option.isSome_none,Bool.false_eq_true,if_false];rw[hE f];refine clT_ok hE (fun g=>?_) h m (by omega);by_cases q:g=f
   ·subst q;rw[Tr.get_put];simp
   ·rw[Tr.get_put_ne _ _ q,hs g];simp[q]
def fuelT (E:Tr (List Nat)):Nat->Nat
 | 0=>0
 | n+1=>fuelT E n+((edge E n).length+1)
theorem fuel_eq {P:Program}{E:Tr (List Nat)}(hE:EdgeOk P E):(P.funcs.toList.map fun g=>(P.leadsTo g).length+1).sum=fuelT E P.funcs.size:=by
 have key:∀n,n<=P.funcs.size->((P.funcs.toList.take n).map fun g=>(P.leadsTo g).length+1).sum=fuelT E n:=fun n=>by
  induction n with
  | zero=>intro _;rfl
  | succ n ih =>
   intro h;have hl:n<P.funcs.toList.length:=by rw[Array.length_toList];omega
   rw[List.take_succ_eq_append_getElem hl,List.map_append,List.sum_append,ih (by omega),fuelT];have:=hE n;rw[Array.getElem?_eq_getElem (by omega)]at this;simp only[Option.elim_some]at this;simp[<- this]
 have:=key P.funcs.size (Nat.le_refl _)
 rwa [List.take_of_length_le (by rw[Array.length_toList];exact Nat.le_refl _)]at this
theorem closure_eq {P:Program}{E:Tr (List Nat)}(hE:EdgeOk P E){f n s:Nat}{r:List Nat}(hs:P.funcs.size=s)(h:clT E n [f] [] .e=some r)(hn:Nat.ble n (1+fuelT E s)=true):P.closure f=r:=by
 unfold Program.closure;refine clT_ok hE (fun g=>?_) h _ ?_
 ·rw[Tr.get_e];rfl
 ·rw[fuel_eq hE,hs];exact Nat.le_of_ble_eq_true hn
def edL (P:Program)(E:Tr (List Nat)):List Func->Nat->Prop
 | [],_=>True
 | g::l,i=>P.leadsTo g=edge E i/\edL P E l (i+1)
theorem edL_ok {P:Program}{E:Tr (List Nat)}(h:edL P E P.funcs.toList 0)(ho:∀f,P.funcs.size<=f->edge E f = []):EdgeOk P E:=by
 have key:∀(l:List Func) (i:Nat),edL P E l i -> ∀j g,l[j]? = some g->P.leadsTo g=edge E (i+j):=fun l=>by
  induction l with
  | nil=>intro i _ j g hg;simp at hg
  | cons x l ih =>
   intro i hi j g hg;cases j with
   | zero=>simp at hg;subst hg;exact hi.1
   | succ j =>
    have:=ih (i+1) hi.2 j g (by simpa using hg);rw[this];congr 1;omega
 intro f;cases e:P.funcs[f]? with
 | none =>
  rw[ho f (by simpa using e)];rfl
 | some g =>
  have:=key _ 0 h f g (by rw[<- e];simp);rw[Nat.zero_add]at this;exact this
def outB (s:Nat)(i:Nat)(_:List Nat):Bool:=Nat.blt i s
def inP (fn : Func) : Bool := fn.ours || fn.body.isNone || fn.name == "runtime.NumGoroutine"
def hasT (T:Tr Unit)(f:Nat):Bool:=match T.get f with
 | some _=>true
 | none=>false
def ipL (T:Tr Unit):List Func->Nat->Prop
 | [],_=>True
 | g::l,i=>inP g=hasT T i/\ipL T l (i+1)
theorem ipL_at {T:Tr Unit}:∀ {l:List Func} {i:Nat},ipL T l i -> ∀ {j:Nat} {g:Func},l[j]? = some g->inP g=hasT T (i+j)
 | [],_,_,_,_,hg=>by simp at hg
 | x::l,i,h,0,g,hg=>by simp at hg;subst hg;exact h.1
 | x::l,i,h,j+1,g,hg=>by
  have:=ipL_at h.2 (j:=j) (g:=g) (by simpa using hg);rw[this];congr 1;omega
theorem inPlace_eq {P:Program}{T:Tr Unit}(h:ipL T P.funcs.toList 0){f:Nat}{r:List Nat}(hr:P.closure f=r):P.inPlace f=(r.filter (hasT T)).filterMap fun g=>(P.funcs[g]?).map (·.name):=by
 unfold Program.inPlace;rw[hr];clear hr
 induction r with
 | nil=>rfl
 | cons g r ih =>
  have key : ((P.funcs[g]?).bind fun fn => if fn.ours || fn.body.isNone || fn.name == "runtime.NumGoroutine" then some fn.name else none) = if hasT T g then (P.funcs[g]?).map (·.name) else none := by
   cases e:P.funcs[g]? with
   | none=>simp
   | some fn =>
    have:=ipL_at h (j:=g) (g:=fn) (by rw[<- e];simp);rw[Nat.zero_add]at this;unfold inP at this;simp only[Option.bind_some,Option.map_some,this]
  rw[List.filterMap_cons,key,ih,List.filter_cons];cases hasT T g with
  | false=>simp
  | true=>simp[List.filterMap_cons]
theorem edge_out {E:Tr (List Nat)}{s:Nat}(h:E.all (outB s) 1 0=true):∀f,s<=f->edge E f = []:=fun f hf=>by
 unfold edge;split
 ·rename_i l e;have:=Tr.all_ok h e;simp only[outB,Nat.blt_eq]at this;omega
 ·rfl
end Go.Proofs.Rn
