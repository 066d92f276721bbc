/- For scbytes_law_holds. -/
import Derived.Laws.StructEq
import Derived.Test.YtgeihgombjbkbaaGreatSyb14
namespace Go.Proofs.Own
open Go Go.RowKit

def mkB (B:Nat->Nat):Nat->List (List AV)->Bx
 | _,[]=>[]
 | k,c::r=>(B k,AV.denL B c)::mkB B (k+1) r
theorem fJ (B:Nat->Nat):∀(l:List (List AV)) (k i:Nat),(mkB B k l)[i]? = (l[i]?).map fun c=>(B (k+i),AV.denL B c)
 | [],k,i=>by simp[mkB]
 | c::r,k,0=>by simp[mkB]
 | c::r,k,i+1=>by
  have:=fJ B r (k+1) i;simp only[mkB,List.getElem?_cons_succ,this,show k+1+i=k+(i+1) by omega]
theorem denL_get (B:Nat->Nat)(l:List AV)(j:Nat):(AV.denL B l)[j]? = (l[j]?).map (AV.den B):=by rw[AV.denL_eq,List.getElem?_map]
def Cel (B:Nat->Nat)(s:St)(w:World):Prop:=∀(i:Nat) c,s.bx[i]? = some c -> ∀(j:Nat) v,(AV.denL B c)[j]? = some v->w.cell? ⟨B i,j,none⟩=some v
def quiet:Op->Bool
 | .alloc _ | .box _ _ | .store _ _ _=>false
 | _=>true
section
variable {P:Program} {tt:TypeId->Option TI} {B:Nat->Nat} {s s':St} {w:World} {r:AV}
theorem TyOk.info {t:TypeId}{i:TI}(h:TyOk P t i):∃q,P.info? t=some q/\q.size=i.n:=by
 have:=h.size;cases e:P.info? t with
 | none=>rw[e]at this;cases this
 | some q=>rw[e]at this;exact⟨q,rfl,by simpa using this⟩
theorem TyOk.agg {t:TypeId}{i:TI}(h:TyOk P t i):(isAgg t).run P w = .ok i.a w:=by
 obtain⟨d,h1,h2,_⟩:=h.und;unfold isAgg;rw[Sem.run_bind,run_underlying h1 w];rw[<- h2];cases d<;>simp[TypeDesc.isRow]
theorem TyOk.sizeOf {t:TypeId}{i:TI}(h:TyOk P t i):(Go.sizeOf t).run P w = .ok i.n w:=by
 obtain⟨q,h1,h2⟩:=h.info;simp[Go.sizeOf,typeInfo,h1,h2]
theorem tK {l r:List AV}{o n:Nat}(h:cutN l o n=some r):(AV.denL B r).length=n /\ ∀(j:Nat) v,(AV.denL B r)[j]? = some v->(AV.denL B l)[o+j]? = some v:=by
 obtain⟨h1,h2,h3⟩:=iN l o n r h;refine⟨by rw[AV.denL_eq,List.length_map,h1],fun j v hv=>?_⟩;rw[denL_get]at hv ⊢;have hj:j<n:=by
  rw[<- h1];cases e:r[j]? with
  | none=>rw[e]at hv;cases hv
  | some q=>exact(List.getElem?_eq_some_iff.1 e).1
 rw[<- h3 j hj];exact hv
theorem wY {t:TypeId}(h:P.underlying t=some .bool)(x y:Bool):(Op.equal t (.bool x) (.bool y)).run P w = .ok (x==y) w:=by
 rw[Op.equal,show Op.maxDepth=9999+1 from rfl,Op.equalIn,Sem.run_bind,run_underlying h w,Result.andThen_ok];rfl
theorem iF {t e:TypeId}(h:P.underlying t=some (.pointer e))(x:Option Addr):(Op.equal t (.pointer x) (.pointer none)).run P w = .ok x.isNone w:=by
 cases x<;>(rw[Op.equal,show Op.maxDepth=9999+1 from rfl,Op.equalIn,Sem.run_bind,run_underlying h w,Result.andThen_ok];rfl)
theorem nK {t e:TypeId}(h:P.underlying t=some (.slice e))(x:Option Addr)(n c m d:Nat):(Op.equal t (.slice x n c) (.slice none m d)).run P w = .ok x.isNone w:=by
 cases x<;>(rw[Op.equal,show Op.maxDepth=9999+1 from rfl,Op.equalIn,Sem.run_bind,run_underlying h w,Result.andThen_ok];rfl)
theorem eql_ok {t:TypeId}{a b:Operand}{x y:Value}{q:Bool}(h:(Op.equal t x y).run P w = .ok q w)(hx:(match x,y with
  | .bool _,.bool _ | .pointer _,.pointer none | .slice _ _ _,.slice none _ _=>true
  | _,_=>false)=true) :
  (do eqGuard .eql t a b x y;Go.binOp .eql t x y:Sem Value).run P w = .ok (.bool q) w/\(do eqGuard .neq t a b x y;Go.binOp .neq t x y:Sem Value).run P w = .ok (.bool !q) w:=by
 split at hx<;>first|(cases hx;done)|skip
 all_goals
  rename_i hk;rw[Sem.run_bind,Sem.run_bind];refine⟨?_,?_⟩
  all_goals
   simp only[eqGuard,Go.binOp];simp[hk]
theorem tZ {t:TypeId}{d:TypeDesc}(h:P.underlying t=some d)(hd:d.isRow=false){l:List AV}{o:Nat}{x:AV}(hx:getN l o=some x):(part t (AV.denL B l).toArray o).run P w = .ok (x.den B) w:=by
 have ha:(isAgg t).run P w = .ok false w:=by
  unfold isAgg;rw[Sem.run_bind,run_underlying h w];cases d<;>first|(cases hd;done)|simp
 unfold part;rw[Sem.run_bind,ha,Result.andThen_ok];rw[cZ]at hx;rw[if_neg (by decide),List.getElem?_toArray,denL_get,hx];rfl
theorem aAE {n:Nat}{l m:List AV}:∀ {fs:List Field} {r:List (Nat × Sh)} {e:BE},EqF P fs r->eqA r l m=some e->(Op.eqFields (n+1) (AV.denL B l).toArray (AV.denL B m).toArray fs).run P w = .ok e.den w
 | [],[],e,_,h=>by cases h;rfl
 | f::fs,(o,sh)::r,e,hf,h=>by
  obtain⟨h1,h2,⟨d,h3,h4,h5⟩,h6⟩:=hf;rw[eqA]at h;split at h
  ·rename_i x y hx hy;split at h
   ·rename_i a b ha hb;cases h;have ih:=aAE (n:=n) h6 hb;rw[Op.eqFields,if_pos h1,h2];rw[Sem.run_bind,tZ h3 h5 hx,Result.andThen_ok,Sem.run_bind,tZ h3 h5 hy,Result.andThen_ok,Sem.run_bind];have key:(Op.equalIn (n+1) f.type (x.den B) (y.den B)).run P w = .ok a.den w:=by
     unfold eq1 at ha;split at ha
     ·split at ha
      ·rename_i hk;subst hk;cases ha;cases d<;>first|(cases h4;done)|skip
       simp only[AV.den,BE.tH,cmpB];exact run_equalIn_int w n f.type _ _ _ _ h3
      ·cases ha
     ·cases ha;cases d<;>first|(cases h4;done)|skip
      simp only[AV.den,BE.wW];exact run_equalIn_bool' w n f.type _ _ h3
     ·cases ha;cases d<;>first|(cases h4;done)|skip
      simp only[AV.den,BE.den];exact run_equalIn_string w n f.type _ _ h3
     ·cases ha
    rw[key,Result.andThen_ok];simp only[aMp,BE.tS,BE.den];cases a.den
    ·simp
    ·simpa using ih
   ·cases h
  ·cases h
 | [],_::_,_,hf,_=>hf.elim
 | _::_,[],_,hf,_=>hf.elim
theorem evBin_ok {t:TypeId}{i:TI}(hi:TyOk P t i){op:BinOp}{x y:AV}{a b:Operand}(h:evBin i.sh i.eq op x y=some r) :
  (do eqGuard op t a b (x.den B) (y.den B);Go.binOp op t (x.den B) (y.den B):Sem Value).run P w = .ok (r.den B) w:=by
 obtain⟨d,h1,h2,h3,_⟩:=hi.und;unfold evBin at h;split at h
 ·rename_i l m;split at h
  ·cases h
  ·rename_i hne;obtain⟨fs,u1,u2,u3,u4⟩:=hi.eqs (fun e=>hne (by rw[e];rfl));split at h
   ·rename_i e he;have q:=aAE (B:=B) (w:=w) (n:=9998) u2 he;have hfo:P.fieldsOf t=fs:=by unfold Program.fieldsOf;rw[u1]
    have hq:=run_equalIn_struct (P:=P) w 9999 t (AV.denL B l).toArray (AV.denL B m).toArray (by rw[u1,hfo]) u4;rw[hfo,q]at hq;split at h<;>first|(cases h;done)|skip
    ·cases h;simp only[AV.den];rw[Sem.run_bind,run_eqGuard_agg w _ t _ _ _ _ u3,Result.andThen_ok,run_eql_struct,hq];rfl
    ·cases h;simp only[AV.den,BE.oK];rw[Sem.run_bind,run_eqGuard_agg w _ t _ _ _ _ u3,Result.andThen_ok,run_neq_struct,hq];rfl
   ·cases h
 ·split at h
  ·rename_i k a k' b hk;subst hk;split at h
   ·cases h;simp[AV.den,eqGuard,Go.binOp,Op.intArith,IE.aAj]
   ·cases h;simp[AV.den,eqGuard,Go.binOp,Op.intArith,IE.aI2]
   ·split at h
    ·rename_i hc;cases h;cases op<;>first|(cases hc;done)|simp[AV.den,eqGuard,Go.binOp,Op.intCmp,BE.tH,cmpB]
    ·cases h
  ·cases h
 ·split at h<;>first|(cases h;done)|skip
  all_goals
   rename_i hs;cases h;rw[hs]at h3;cases d<;>first|(cases h3;done)|skip
   simp only[AV.den,BE.wW,BE.oK]
   first
    | exact(@eql_ok P w t a b _ _ _ (wY h1 _ _) (by rfl)).1
    | exact(@eql_ok P w t a b _ _ _ (wY h1 _ _) (by rfl)).2
 ·split at h<;>first|(cases h;done)|skip
  all_goals
   rename_i hs;cases h;rw[hs]at h3;cases d<;>first|(cases h3;done)|skip
   simp only[AV.den,BE.den]
   first
    | exact(@eql_ok P w t a b _ _ _ (iF h1 _) (by rfl)).1
    | exact(@eql_ok P w t a b _ _ _ (iF h1 _) (by rfl)).2
 ·split at h<;>first|(cases h;done)|skip
  all_goals
   rename_i hs;cases h;rw[hs]at h3;cases d<;>first|(cases h3;done)|skip
   simp only[AV.den,BE.den]
   first
    | exact(@eql_ok P w t a b _ _ _ (iF h1 _) (by rfl)).1
    | exact(@eql_ok P w t a b _ _ _ (iF h1 _) (by rfl)).2
 ·split at h<;>first|(cases h;done)|skip
  all_goals
   rename_i hs;cases h;rw[hs]at h3;cases d<;>first|(cases h3;done)|skip
   simp only[AV.den,BE.den]
   first
    | exact(@eql_ok P w t a b _ _ _ (iF h1 _) (by rfl)).1
    | exact(@eql_ok P w t a b _ _ _ (iF h1 _) (by rfl)).2
 ·split at h<;>first|(cases h;done)|skip
  all_goals
   rename_i hs;cases h;rw[hs]at h3;cases d<;>first|(cases h3;done)|skip
   simp only[AV.den,BE.den]
   first
    | exact(@eql_ok P w t a b _ _ _ (iF h1 _) (by rfl)).1
    | exact(@eql_ok P w t a b _ _ _ (iF h1 _) (by rfl)).2
 ·split at h<;>first|(cases h;done)|skip
  all_goals
   rename_i hs;cases h;rw[hs]at h3;cases d<;>first|(cases h3;done)|skip
   simp only[AV.den,BE.den]
   first
    | exact(@eql_ok P w t a b _ _ _ (nK h1 _ _ _ _ _) (by rfl)).1
    | exact(@eql_ok P w t a b _ _ _ (nK h1 _ _ _ _ _) (by rfl)).2
 ·split at h<;>first|(cases h;done)|skip
  all_goals
   rename_i hs;cases h;rw[hs]at h3;cases d<;>first|(cases h3;done)|skip
   simp only[AV.den,BE.den]
   first
    | exact(@eql_ok P w t a b _ _ _ (nK h1 _ _ _ _ _) (by rfl)).1
    | exact(@eql_ok P w t a b _ _ _ (nK h1 _ _ _ _ _) (by rfl)).2
 ·split at h<;>cases h<;>simp[AV.den,BE.den,eqGuard,Go.binOp,Op.stringOp]
 ·cases h
theorem oG {l:List AV}{k:Nat}(h:getN l k=some r):(AV.denL B l)[k]? = some (r.den B):=by
 rw[cZ]at h;rw[denL_get,h];rfl
theorem val_run {m:Sem Value}{v:Value}(h:m.run P w = .ok v w):(do pure (.value (<- m)):Sem Next).run P w = .ok (.value v) w:=by
 rw[Sem.run_bind,h];rfl
theorem part_ok {t:TypeId}{i:TI}(hi:TyOk P t i){l:List AV}{k:Nat}(h:(if i.a then (match cutN l k i.n with|some q=>some (AV.g q)|none=>none) else getN l k)=some r):(part t (AV.denL B l).toArray k).run P w = .ok (r.den B) w:=by
 unfold part;rw[Sem.run_bind,hi.agg,Result.andThen_ok];split at h
 ·rename_i ha;rw[if_pos ha];split at h
  ·rename_i q hq;cases h;obtain⟨h1,h2⟩:=tK (B:=B) hq;rw[Sem.run_bind,hi.sizeOf,Result.andThen_ok];simp only[Sem.run_pure,AV.den]
   congr 2
   refine Array.ext_getElem? fun j=>?_;rw[Array.getElem?_extract,List.getElem?_toArray,List.getElem?_toArray];split
   ·rename_i hj;cases e:(AV.denL B q)[j]? with
    | some v=>exact h2 j v e
    | none =>
     have:=List.getElem?_eq_none_iff.1 e;have hc:=iN _ _ _ _ hq;simp at hj;omega
   ·rename_i hj;symm;rw[List.getElem?_eq_none_iff];have hc:=iN _ _ _ _ hq;have hl:(AV.denL B l).length=l.length:=by rw[AV.denL_eq,List.length_map]
    simp at hj;omega
  ·cases h
 ·rename_i ha;rw[if_neg ha];rw[List.getElem?_toArray,oG h];rfl
theorem load_ok {t:TypeId}{i:TI}(hi:TyOk P t i){c:List AV}{b o:Nat}(hc:∀(j:Nat) v,(AV.denL B c)[j]? = some v->w.cell? ⟨b,j,none⟩=some v)(h:(if i.a then (match cutN c o i.n with|some q=>some (AV.g q)|none=>none) else getN c o)=some r):(loadVar t ⟨b,o,none⟩).run P w = .ok (r.den B) w:=by
 split at h
 ·rename_i ha;split at h
  ·rename_i q hq;cases h;obtain⟨h1,h2⟩:=tK (B:=B) hq;obtain⟨d,u1,u2,_⟩:=hi.und;have:=run_loadVar_mid (P:=P) w b o t (AV.denL B q) d (fun j v hv=>hc _ _ (h2 j v hv)) u1 (by rw[u2,ha]) (by rw[hi.size,h1])
   simpa only[AV.den] using this
  ·cases h
 ·rename_i ha;unfold loadVar;rw[Sem.run_bind,hi.agg,Result.andThen_ok,if_neg ha,run_load,hc _ _ (oG h)]
theorem fld {t:TypeId}{i:TI}(hi:TyOk P t i){j k:Nat}{ft:TypeId}(h:getN i.fs j=some (k,ft)):∃fs f,P.underlying t=some (.struct fs)/\fs[j]? = some f/\f.offset=k/\f.type=ft:=by
 rw[cZ]at h;obtain⟨d,h1,_,_,h4,h5,_⟩:=hi.und;obtain⟨fs,rfl⟩:=h5 (fun e=>by rw[e]at h;cases h);have h6:=h4 fs rfl;rw[<- h6,List.getElem?_map]at h;cases e:fs.toList[j]? with
 | none=>rw[e]at h;cases h
 | some f =>
  rw[e]at h;simp only[Option.map_some,Option.some.injEq,Prod.mk.injEq]at h;exact⟨fs,f,h1,by rw[<- Array.getElem?_toList];exact e,h.1,h.2⟩
theorem oM {c l:List AV}{o:Nat}(h:o+l.length<=c.length):AV.denL B (putN c o l)=putN (AV.denL B c) o (AV.denL B l):=by
 rw[gP _ _ _ h,gP _ _ _ (by rw[AV.denL_eq,AV.denL_eq,List.length_map,List.length_map];exact h)];simp only[AV.denL_eq,List.map_append,List.map_take,List.map_drop,List.length_map]
theorem qH {c:List Value}{o:Nat}{x:Value}{l:List Value}(h:o+(l.length+1)<=c.length):putN c o (x::l)=putN (c.set o x) (o+1) l:=by
 rw[gP _ _ _ (by simpa using h),gP _ _ _ (by rw[List.length_set];omega),List.take_add_one,List.take_set_of_le (Nat.le_refl o),List.getElem?_set_self (by omega)];simp only[Option.toList_some,List.append_assoc,List.singleton_append,List.length_cons]
 congr 2
 rw[List.drop_set_of_lt (by omega),show o+1+l.length=o+(l.length+1) by omega]
theorem foldl_put (o:Nat):∀(l:List Value) (k:Nat) (c:List Value),o+k+l.length<=c.length->(l.zipIdx k).foldl (fun cs (p:Value × Nat)=>cs.setIfInBounds (o+p.2) p.1) c.toArray=(putN c (o+k) l).toArray
 | [],k,c,h=>by rw[gP _ _ _ (by simpa using h)];simp
 | x::l,k,c,h=>by
  simp only[List.length_cons]at h;rw[List.zipIdx_cons,List.foldl_cons,List.setIfInBounds_toArray,foldl_put o l (k+1) _ (by rw[List.length_set];omega),qH (by omega)];rw[Nat.add_assoc]
theorem wZ {ps:List (Nat × Nat)}:∀(l:List (Nat × Operand)) (c q:List AV),fillA ps s c l=some q->Instr.fill (ps.toArray[·]?) (AV.denL B c).toArray (l.map fun p=>(p.1,(s.act B).eval p.2))=some (AV.denL B q).toArray
 | [],c,q,h=>by cases h;rfl
 | (j,x)::l,c,q,h=>by
  rw[fillA]at h;split at h
  ·rename_i o n hn;split at h
   ·rename_i m hm;split at h
    ·rename_i hc;simp only[Bool.and_eq_true,beq_iff_eq,Nat.ble_eq]at hc;have ih:=wZ l _ _ h;rw[List.map_cons,Instr.fill];rw[cZ]at hn;have hg:ps.toArray[j]? = some (o,n):=by rw[List.getElem?_toArray];exact hn
     have hcs:=(AV.cs_den B hm).1;have hl:(AV.denL B m).length=m.length:=by rw[AV.denL_eq,List.length_map]
     have hlc:(AV.denL B c).length=c.length:=by rw[AV.denL_eq,List.length_map]
     simp only[hg,St.aB,hcs];rw[if_neg (by simp only[List.size_toArray,hl,hlc,hc.1,Bool.or_eq_true,decide_eq_true_eq,ne_eq,not_true_eq_false,false_or];omega)];rw[oM hc.2]at ih;have:=foldl_put o (AV.denL B m) 0 (AV.denL B c) (by omega);simp only[St.aB]at ih;rw[<- Array.foldl_toList,Array.toList_zipIdx];simp only[Nat.add_zero]at this;rw[<- ih,<- this]
    ·cases h
   ·cases h
  ·cases h
theorem denL_map (l:List Operand):AV.denL B (l.map s.ev)=l.map (s.act B).eval:=by
 rw[AV.denL_eq,List.map_map];exact List.map_congr_left fun x _=>(St.aB B s x).symm
theorem evQ_ok (hT:TTok P tt)(hc:Cel B s w)(o:Oper){k8:KB}(h:evOp tt k8 s o.op = .val r s')(hq:quiet o.op=true):s'=s/\(execOp (s.act B).eval o).run P w = .ok (.value (r.den B)) w:=by
 obtain⟨dst,op,ty,pos,after,gd⟩:=o;simp only at h hq;cases op
 case move x=>cases h;exact⟨rfl,by simp only[execOp,St.aB];rfl⟩
 case assign x=>cases h;exact⟨rfl,by simp only[execOp,St.aB];rfl⟩
 case pick c a b =>
  simp only[evOp]at h;split at h
  ·rename_i e;cases h;exact⟨rfl,by simp[execOp,St.aB,e,AV.den,BE.den,asBool]⟩
  ·rename_i e;cases h;exact⟨rfl,by simp[execOp,St.aB,e,AV.den,BE.den,asBool]⟩
  ·rename_i e1 _ _ e;split at h
   ·rename_i ea eb;cases h;refine⟨rfl,?_⟩;simp only[execOp,St.aB,e,ea,eb,AV.den,BE.tS];cases BE.den e1<;>simp[asBool]
   ·cases h
  ·cases h
 case build t ps =>
  simp only[evOp]at h;split at h
  ·rename_i i hi;split at h
   ·split at h
    ·rename_i l hl;split at h
     ·cases h
     ·rename_i hne;cases h;refine⟨rfl,?_⟩;have ty:=hT _ _ hi;obtain⟨d,h1,_,_,_,h5,h6⟩:=ty.und;obtain⟨fs,rfl⟩:=h5 (fun e=>hne (by rw[e];rfl));obtain⟨q,hq1,_⟩:=ty.info;obtain⟨z,hz1,hz2⟩:=ty.zero;rw[hq1]at hz1;have hz3:q.zero=some z:=hz1;have hf:=wZ (B:=B) (s:=s) ps.toList _ _ hl;rw[iX]at hf;simp only[execOp];refine val_run (run_build w t _ _ ?_);unfold Program.built;rw[hq1,h1];simp only[hz3,h6 fs rfl];rw[hz2];rw[<- hf]
      congr 1
      simp
    ·cases h
   ·cases h
  ·cases h
 case load t x =>
  simp only[evOp]at h;split at h
  ·rename_i b o e;split at h
   ·rename_i i c hi hb;have ty:=hT _ _ hi;rw[cZ]at hb;have hl:=load_ok (r:=r) (B:=B) (w:=w) (c:=c) (o:=o) (b:=B b) ty (hc b c hb);have key:s'=s/\(if i.a then (match cutN c o i.n with|some q=>some (AV.g q)|none=>none) else getN c o)=some r:=by
     split at h
     ·rename_i ha;split at h
      ·rename_i q hq2;cases h;exact⟨rfl,by rw[if_pos ha,hq2]⟩
      ·cases h
     ·rename_i ha;split at h
      ·rename_i q hq2;cases h;exact⟨rfl,by rw[if_neg ha,hq2]⟩
      ·cases h
    refine⟨key.1,?_⟩;simp only[execOp];refine val_run ?_;rw[St.aB,e];simp only[AV.den,Instr.loadAt,Instr.sureAddr,Sem.run_bind,Sem.run_pure,Result.andThen_ok];exact hl key.2
   ·cases h
  ·cases h
 case fieldAddr t x j =>
  simp only[evOp]at h;split at h
  ·rename_i b o e;split at h
   ·rename_i i hi;split at h
    ·rename_i k ft hk;split at h
     ·rename_i fi hfi;split at h
      ·cases h
      ·rename_i hn;cases h;refine⟨rfl,?_⟩;obtain⟨fs,f,u1,u2,u3,u4⟩:=fld (hT _ _ hi) hk;have hz:fi.n≠0:=by simpa using hn
       simp only[execOp];refine val_run ?_;rw[St.aB,e];have hs:=(hT _ _ hfi).sizeOf (w:=w);rw[<- u4]at hs;simp only[AV.den,Instr.fieldAt,Instr.sureAddr,Sem.run_bind,run_underlying u1,Sem.run_pure,Result.andThen_ok,u2,fieldPlace,hs,if_neg hz,Addr.add_mid,u3]
     ·cases h
    ·cases h
   ·cases h
  ·cases h
 case field t x j =>
  simp only[evOp]at h;split at h
  ·rename_i l e;split at h
   ·rename_i i hi;split at h
    ·rename_i k ft hk;split at h
     ·rename_i fi hfi;obtain⟨fs,f,u1,u2,u3,u4⟩:=fld (hT _ _ hi) hk;have key:s'=s/\(if fi.a then (match cutN l k fi.n with|some q=>some (AV.g q)|none=>none) else getN l k)=some r:=by
       split at h
       ·rename_i ha;split at h
        ·rename_i q hq2;cases h;exact⟨rfl,by rw[if_pos ha,hq2]⟩
        ·cases h
       ·rename_i ha;split at h
        ·rename_i q hq2;cases h;exact⟨rfl,by rw[if_neg ha,hq2]⟩
        ·cases h
      refine⟨key.1,?_⟩;have hp:=part_ok (B:=B) (w:=w) (hT _ _ hfi) key.2;rw[<- u3,<- u4]at hp;simp only[execOp];refine val_run ?_;rw[St.aB,e];simp only[AV.den,Instr.field,asAgg,Sem.run_bind,run_underlying u1,Sem.run_pure,Result.andThen_ok,u2];exact hp
     ·cases h
    ·cases h
   ·cases h
  ·cases h
 case extract x j =>
  simp only[evOp]at h;split at h
  ·rename_i l e;split at h
   ·rename_i q hq2;cases h;refine⟨rfl,?_⟩;simp only[execOp];refine val_run ?_;rw[St.aB,e];simp only[AV.den,Instr.extract,List.getElem?_toArray,oG hq2,Sem.run_pure]
   ·cases h
  ·cases h
 case nilCheck x =>
  simp only[evOp]at h;split at h
  all_goals first|(cases h;done)|skip
  all_goals
   rename_i e;cases h;exact⟨rfl,by simp only[execOp,St.aB,e,AV.den];rfl⟩
 case binOp op t x y yt =>
  simp only[evOp]at h;split at h
  ·rename_i i hi;split at h
   ·rename_i q hb;cases h;refine⟨rfl,?_⟩;simp only[execOp];refine val_run ?_;rw[St.aB,St.aB];exact evBin_ok (hT _ _ hi) hb
   ·cases h
  ·cases h
 case unOp op t x =>
  cases op<;>simp only[evOp]at h<;>first|(cases h;done)|skip
  split at h
  ·rename_i e he;cases h;refine⟨rfl,?_⟩;simp only[execOp];refine val_run ?_;rw[St.aB,he];simp only[AV.den,Op.unary,Sem.run_pure,BE.oK]
  ·cases h
 case convert t u x =>
  simp only[evOp]at h;split at h
  ·rename_i k0 e he;split at h
   ·rename_i i j hi hj;split at h
    ·rename_i k1 k hk1 hk;cases h;refine⟨rfl,?_⟩;obtain⟨d1,a1,_,a3,_⟩:=(hT _ _ hi).und;obtain⟨d2,b1,_,b3,_⟩:=(hT _ _ hj).und;rw[hk1]at a3;rw[hk]at b3;simp only[execOp];refine val_run ?_;rw[St.aB,he];cases d1<;>first|(cases a3;done)|skip
     cases d2<;>first|(cases b3;done)|skip
     cases b3;simp only[AV.den,convert,Sem.run_bind,run_underlying a1,run_underlying b1,Result.andThen_ok,Conv.intToInt,Sem.run_pure,IE.aJr]
    ·cases h
   ·cases h
  ·cases h
 case makeFunc fn a c =>
  simp only[evOp]at h;cases h;refine⟨rfl,?_⟩;simp only[execOp];refine val_run ?_;simp only[Instr.makeFunc,Sem.run_pure,AV.den,denL_map];rw[<- List.map_toArray,<- List.map_toArray,Array.toArray_toList,Array.toArray_toList]
 case call c =>
  simp only[evOp]at h;split at h
  ·rename_i x t hc1 hc2 hc3;have ha:c.args = #[x]:=by rw[<- Array.toList_inj,hc2]
   have hb:c.argTypes = #[t]:=by rw[<- Array.toList_inj,hc3]
   split at h
   all_goals first|(cases h;done)|skip
   all_goals
    rename_i e;split at h
    ·rename_i i hi;split at h
     ·rename_i hsh;cases h;refine⟨rfl,?_⟩;obtain⟨d,u1,_,u3,_⟩:=(hT _ _ hi).und;rw[hsh]at u3;cases d<;>first|(cases u3;done)|skip
      simp only[execOp,resolve,hc1,Sem.run_bind,Sem.run_pure,Result.andThen_ok,invoke,Go.builtin,Builtin.len_,hb,ha];simp[St.aB,e,AV.den,IE.den,run_underlying u1,goInt]
     ·cases h
    ·cases h
  ·cases h
 all_goals first|(cases hq;done)|(simp only[evOp]at h;cases h;done)
end
end Go.Proofs.Own
