/- For scbytes_law_holds. -/
import Derived.ChangeKeysEq
import Derived.Test.YtgeihgombjbkbaaGreatSyb15
namespace Go.Proofs.Rn
open Go Go.RowKit Go.Proofs.Own

def cmpK:Value->Value->Bool
 | .bool _,.bool _ | .pointer _,.pointer _ | .slice _ _ _,.slice _ _ _ | .map _,.map _ | .nilFunc,.nilFunc | .func _ _ _,.nilFunc=>true
 | _,_=>false
section
variable {P:Program} {tt:TypeId->Option TJ} {look lens:Nat->Option Ent} {ev:Operand->V} {ρ:Operand->Value} {E:En} {w:World} {r x y:V} {n0 n zn:Nat}
theorem val_run {m:Sem Value}{v:Value}(h:m.run P w = .ok v w):(do pure (.value (<- m)):Sem Next).run P w = .ok (.value v) w:=by
 rw[Sem.run_bind,h];rfl
theorem asN_den {v:V}{k:Nat}(h:asN v=some k):∃q,v.den E = .int q (k:Int):=by
 unfold asN at h;split at h
 ·cases h;exact⟨_,by simp only[V.den];rfl⟩
 ·cases h
theorem eq1_ok {t:TypeId}{d:TypeDesc}{k:TK}(hd:P.underlying t=some d)(hk:kOk P d k){b:Bool}(h:eq1 k x y=some b)(m:Nat):(Op.equalIn (m+1) t (x.den E) (y.den E)).run P w = .ok b w:=by
 unfold eq1 at h;split at h
 ·split at h
  ·rename_i e;subst e;cases h;cases d<;>first|exact hk.elim|skip
   simp only[V.den];exact run_equalIn_int w m t _ _ _ _ hd
  ·cases h
 ·cases h;cases d<;>first|exact hk.elim|skip
  simp only[V.den];exact run_equalIn_bool' w m t _ _ hd
 ·cases h;cases d<;>first|exact hk.elim|skip
  simp only[V.den];exact run_equalIn_string w m t _ _ hd
 ·cases h
theorem mapM_len {α β:Type}{f:α->Option β}:∀ {l:List α} {r:List β},l.mapM f=some r -> ∀(j:Nat) a,l[j]? = some a -> ∃b,f a=some b/\r[j]? = some b
 | [],r,h,j,a,ha=>by simp at ha
 | x::l,r,h,j,a,ha=>by
  rw[List.mapM_cons]at h;cases e:f x with
  | none=>rw[e]at h;cases h
  | some b =>
   rw[e]at h;cases e2:l.mapM f with
   | none=>rw[e2]at h;cases h
   | some q =>
    rw[e2]at h;cases h;cases j with
    | zero=>simp only[List.getElem?_cons_zero,Option.some.injEq]at ha;subst ha;exact⟨b,e,rfl⟩
    | succ j=>exact mapM_len e2 j a (by simpa using ha)
theorem mapM_size {α β:Type}{f:α->Option β}:∀ {l:List α} {r:List β},l.mapM f=some r->r.length=l.length
 | [],r,h=>by simp at h;subst h;rfl
 | x::l,r,h=>by
  rw[List.mapM_cons]at h;cases e:f x with
  | none=>rw[e]at h;cases h
  | some b =>
   rw[e]at h;cases e2:l.mapM f with
   | none=>rw[e2]at h;cases h
   | some q =>
    rw[e2]at h;cases h;simp[mapM_size e2]
theorem mapM_map {α β γ:Type}{f:α->Option β}{g:β -> γ}:∀ {l:List α} {r:List β},l.mapM f=some r->l.mapM (fun a=>(f a).map g)=some (r.map g)
 | [],r,h=>by simp at h;subst h;rfl
 | x::l,r,h=>by
  rw[List.mapM_cons]at h;cases e:f x with
  | none=>rw[e]at h;cases h
  | some b =>
   rw[e]at h;cases e2:l.mapM f with
   | none=>rw[e2]at h;cases h
   | some q =>
    rw[e2]at h;cases h;rw[List.mapM_cons,e,mapM_map e2];rfl
def plainEq (P:Program)(t:TypeId):Bool:=match P.underlying t with
 | some (.struct fs) => fs.toList.all (fun f => f.name != "_") && !P.eqGuardType P.depth t && !P.stoodInHeld t
 | some (.array _ _)=>!P.eqGuardType P.depth t
 | _=>false
theorem eqL_ok (hT : TTok P tt) {l m : List V} {k : Nat} : ∀ {fs : List Field} {q : List (Nat × TypeId × Nat)} {b : Bool}, fs.mapM (fun f => (P.info? f.type).map fun i => (f.offset, f.type, i.size)) = some q → fs.all (fun f => f.name != "_") = true → eqL tt l m q = some b →
  (Op.eqFields (k+1) (V.denL E l).toArray (V.denL E m).toArray fs).run P w = .ok b w
 | [],q,b,hf,_,h=>by
  simp at hf;subst hf;cases h;rfl
 | f::fs,q,b,hf,hn,h=>by
  rw[List.mapM_cons]at hf;cases e:P.info? f.type with
  | none=>rw[e]at hf;cases hf
  | some it =>
   rw[e]at hf;cases e2:fs.mapM (fun f=>(P.info? f.type).map fun i=>(f.offset,f.type,i.size)) with
   | none=>rw[e2]at hf;cases hf
   | some q' =>
    rw[e2]at hf;cases hf;simp only[List.all_cons,Bool.and_eq_true,bne_iff_ne,ne_eq]at hn;rw[eqL]at h;split at h
    ·rename_i i x y hi hx hy;obtain⟨d,u1,u2⟩:=(hT _ _ hi).und;have ih:=fun {b} (hb:eqL tt l m q'=some b)=>eqL_ok hT (k:=k) e2 hn.2 hb;have hag:isAgg' i.k=false:=by
      cases hk:i.k<;>simp only[hk]at h<;>first|rfl|(simp[eq1]at h)
     have hp1:=part_ok (E:=E) (w:=w) (hT _ _ hi) (l:=l) (k:=f.offset) (r:=x) (by unfold loadV;rw[hag];exact hx);have hp2:=part_ok (E:=E) (w:=w) (hT _ _ hi) (l:=m) (k:=f.offset) (r:=y) (by unfold loadV;rw[hag];exact hy);rw[Op.eqFields,if_pos hn.1];rw[Sem.run_bind,hp1,Result.andThen_ok,Sem.run_bind,hp2,Result.andThen_ok,Sem.run_bind];split at h
     ·rename_i he;rw[eq1_ok (E:=E) (w:=w) u1 u2 he k,Result.andThen_ok]
      simpa using ih h
     ·rename_i he;rw[eq1_ok (E:=E) (w:=w) u1 u2 h k,Result.andThen_ok];cases b with
      | false=>simp
      | true=>exact(he h).elim
    ·cases h
theorem eqR_ok {e:TypeId}{i:TJ}(hi:TyOk P e i){n:Nat}(l m:List V):∀(j:Nat) (l' m':List V) {b:Bool},l.drop j=l'->m.drop j=m'->eqR i.k l' m'=some b ->
  (Op.eqItems (n+1) e 1 (V.denL E l).toArray (V.denL E m).toArray (List.range' j l'.length)).run P w = .ok b w
 | j,[],[],b,_,_,h=>by cases h;rfl
 | j,a::l',c::m',b,hl,hm,h=>by
  obtain⟨d,u1,u2⟩:=hi.und;rw[eqR]at h;have hag:isAgg' i.k=false:=by
   cases hk:i.k<;>simp only[hk]at h<;>first|rfl|(simp[eq1]at h)
  have hla:l[j]? = some a:=by
   have:=congrArg (fun x=>x[0]?) hl
   simpa using this
  have hmc:m[j]? = some c:=by
   have:=congrArg (fun x=>x[0]?) hm
   simpa using this
  have hp1:=part_ok (E:=E) (w:=w) hi (l:=l) (k:=j) (r:=a) (by unfold loadV;rw[hag];rw[<- lget_eq]at hla;exact hla);have hp2:=part_ok (E:=E) (w:=w) hi (l:=m) (k:=j) (r:=c) (by unfold loadV;rw[hag];rw[<- lget_eq]at hmc;exact hmc);rw[List.length_cons,List.range'_succ,Op.eqItems,Nat.mul_one];rw[Sem.run_bind,hp1,Result.andThen_ok,Sem.run_bind,hp2,Result.andThen_ok,Sem.run_bind];have ih:=fun {b} (hb:eqR i.k l' m'=some b)=>eqR_ok hi (n:=n) l m (j+1) l' m' (by rw[<- List.drop_drop,hl];rfl) (by rw[<- List.drop_drop,hm];rfl) hb;split at h
  ·rename_i he;rw[eq1_ok (E:=E) (w:=w) u1 u2 he n,Result.andThen_ok]
   simpa using ih h
  ·rename_i he;rw[eq1_ok (E:=E) (w:=w) u1 u2 h n,Result.andThen_ok];cases b with
   | false=>simp
   | true=>exact(he h).elim
 | j,[],_::_,b,_,_,h=>by cases h
 | j,_::_,[],b,_,_,h=>by cases h
theorem eqb_ok {t:TypeId}{a b:Operand}{u v:Value}{q:Bool}(h:(Op.equal t u v).run P w = .ok q w)(hx:cmpK u v=true) :
  (do eqGuard .eql t a b u v;Go.binOp .eql t u v:Sem Value).run P w = .ok (.bool q) w/\(do eqGuard .neq t a b u v;Go.binOp .neq t u v:Sem Value).run P w = .ok (.bool !q) w:=by
 unfold cmpK at hx;split at hx<;>first|(cases hx;done)|skip
 all_goals
  have hk:=h;rw[Sem.run_bind,Sem.run_bind];refine⟨?_,?_⟩
  all_goals
   simp only[eqGuard,Go.binOp];simp[hk]
theorem equal_nil {t:TypeId}{d:TypeDesc}{k:TK}(hd:P.underlying t=some d)(hk:kOk P d k){b:Bool}(h:nilEq tt k x y=some b)(h1:match k with | .ptr | .sl _ | .mp _ _ | .fn=>True|_=>False):(Op.equal t (x.den E) (y.den E)).run P w = .ok b w/\cmpK (x.den E) (y.den E)=true:=by
 rw[Op.equal,show Op.maxDepth=9999+1 from rfl,Op.equalIn,Sem.run_bind,run_underlying hd,Result.andThen_ok];cases k<;>first|exact h1.elim|skip
 all_goals
  cases d<;>first|exact hk.elim|skip
  simp only[nilEq]at h;split at h<;>first|(cases h;done)|skip
  all_goals
   cases h;simp only[V.den];exact⟨rfl,rfl⟩
theorem evBin_ok (hT:TTok P tt)(hS:∀t i,tt t=some i->i.eq=true->plainEq P t=true){op:BinOp}{t:TypeId}{a b:Operand}(h:evBin P tt op t x y=some r) :
  (do eqGuard op t a b (x.den E) (y.den E);Go.binOp op t (x.den E) (y.den E):Sem Value).run P w = .ok (r.den E) w:=by
 have eqs:∀ {i:TJ} {q:Bool},tt t=some i->nilEqG tt i x y=some q->(do eqGuard .eql t a b (x.den E) (y.den E);Go.binOp .eql t (x.den E) (y.den E):Sem Value).run P w = .ok (.bool q) w/\(do eqGuard .neq t a b (x.den E) (y.den E);Go.binOp .neq t (x.den E) (y.den E):Sem Value).run P w = .ok (.bool !q) w:=by
  intro i q hi hq;have hEq:isAgg' i.k=true->i.eq=true:=fun ha=>by
   unfold nilEqG at hq;rw[ha]at hq;cases he:i.eq with
   | true=>rfl
   | false=>rw[he]at hq;cases hq
  replace hq:nilEq tt i.k x y=some q:=by
   unfold nilEqG at hq;split at hq
   ·exact hq
   ·cases hq
  obtain⟨d,u1,u2⟩:=(hT _ _ hi).und;cases hk:i.k with
  | ptr =>
   rw[hk]at u2 hq;obtain⟨k1,k2⟩:=equal_nil (E:=E) (w:=w) u1 u2 hq trivial;exact eqb_ok k1 k2
  | sl e =>
   rw[hk]at u2 hq;obtain⟨k1,k2⟩:=equal_nil (E:=E) (w:=w) u1 u2 hq trivial;exact eqb_ok k1 k2
  | mp e f =>
   rw[hk]at u2 hq;obtain⟨k1,k2⟩:=equal_nil (E:=E) (w:=w) u1 u2 hq trivial;exact eqb_ok k1 k2
  | fn =>
   rw[hk]at u2 hq;obtain⟨k1,k2⟩:=equal_nil (E:=E) (w:=w) u1 u2 hq trivial;exact eqb_ok k1 k2
  | st fs =>
   rw[hk]at u2 hq;simp only[nilEq]at hq;split at hq
   ·rename_i l m;have hp:=hS t i hi (hEq (by rw[hk];rfl));unfold plainEq at hp;rw[u1]at hp;cases d<;>first|exact u2.elim|skip
    rename_i fl;simp only[Bool.and_eq_true,Bool.not_eq_true']at hp;have q1:=eqL_ok (E:=E) (w:=w) hT (k:=9998) u2 hp.1.1 hq;have hfo:P.fieldsOf t=fl:=by unfold Program.fieldsOf;rw[u1]
    have q2:=run_equalIn_struct (P:=P) w 9999 t (V.denL E l).toArray (V.denL E m).toArray (by rw[u1,hfo]) hp.2;rw[hfo,q1]at q2;simp only[V.den];refine⟨?_,?_⟩
    ·rw[Sem.run_bind,run_eqGuard_agg w _ t _ _ _ _ hp.1.2,Result.andThen_ok,run_eql_struct,q2];rfl
    ·rw[Sem.run_bind,run_eqGuard_agg w _ t _ _ _ _ hp.1.2,Result.andThen_ok,run_neq_struct,q2];rfl
   ·cases hq
  | int k =>
   rw[hk]at hq;simp only[nilEq,eq1]at hq;split at hq
   ·split at hq
    ·rename_i e;subst e;cases hq;refine⟨?_,?_⟩
     ·simp[V.den,eqGuard,Go.binOp,Op.intCmp]
     ·simp[V.den,eqGuard,Go.binOp,Op.intCmp,bne]
    ·cases hq
   ·rename_i e;cases e
   ·rename_i e;cases e
   ·cases hq
  | bool =>
   rw[hk]at u2 hq;have q1:=eq1_ok (E:=E) (w:=w) u1 u2 hq 9999;simp only[nilEq,eq1]at hq;split at hq
   ·rename_i e;cases e
   ·cases hq;exact eqb_ok q1 rfl
   ·rename_i e;cases e
   ·cases hq
  | str =>
   rw[hk]at hq;simp only[nilEq,eq1]at hq;split at hq
   ·rename_i e;cases e
   ·rename_i e;cases e
   ·cases hq;simp[V.den,eqGuard,Go.binOp,Op.stringOp]
   ·cases hq
  | arr n e =>
   rw[hk]at u2 hq;simp only[nilEq]at hq;split at hq
   ·rename_i l m ei hei;split at hq
    ·rename_i hl hn1;have hp:=hS t i hi (hEq (by rw[hk];rfl));unfold plainEq at hp;rw[u1]at hp;cases d<;>first|exact u2.elim|skip
     rename_i dn de;obtain⟨rfl,rfl⟩:=u2;simp only[Bool.not_eq_true']at hp;have hl:=Nat.eq_of_beq_eq_true hl;have hn1:=Nat.eq_of_beq_eq_true hn1;obtain⟨qi,hi1,hi2,_⟩:=(hT _ _ hei).info;have hc:P.cellsOf de=1:=by unfold Program.cellsOf;rw[hi1];simp[hi2,hn1]
     have q2:=run_equalIn_array (P:=P) w 9999 (V.denL E l).toArray (V.denL E m).toArray u1 hi1;rw[hc]at q2;have q3:=eqR_ok (E:=E) (w:=w) (hT _ _ hei) (n:=9998) l m 0 l m rfl rfl hq;rw[hl,<- List.range_eq_range']at q3;rw[q3]at q2;simp only[V.den];refine⟨?_,?_⟩
     ·rw[Sem.run_bind,run_eqGuard_agg w _ t _ _ _ _ hp,Result.andThen_ok,run_eql_struct,q2];rfl
     ·rw[Sem.run_bind,run_eqGuard_agg w _ t _ _ _ _ hp,Result.andThen_ok,run_neq_struct,q2];rfl
    ·cases hq
   ·cases hq
  | o=>rw[hk]at hq;simp[nilEq,eq1]at hq
 unfold evBin at h;split at h
 ·split at h
  ·rename_i i hi;split at h
   ·rename_i q hq;cases h;simp only[V.den];exact(eqs hi hq).1
   ·cases h
  ·cases h
 ·split at h
  ·rename_i i hi;split at h
   ·rename_i q hq;cases h;simp only[V.den];exact(eqs hi hq).2
   ·cases h
  ·cases h
 ·rename_i k a' k' b' h1 h2;split at h
  ·rename_i q hq;cases h;have:=pureRun_ok hq w;rw[constV_den,Sem.run_bind];have hg:(eqGuard op t a b (.int k a') (.int k' b'):Sem Unit).run P w = .ok () w:=by
    unfold eqGuard;cases op<;>simp
   simp only[V.den];rw[hg,Result.andThen_ok,this]
  ·cases h
 ·rename_i a' b' h1 h2;split at h
  ·rename_i q hq;cases h;have:=pureRun_ok hq w;rw[constV_den,Sem.run_bind];have hg:(eqGuard op t a b (.string (mkS a')) (.string (mkS b')):Sem Unit).run P w = .ok () w:=by
    unfold eqGuard;cases op<;>simp
   simp only[V.den];rw[hg,Result.andThen_ok];cases op<;>exact this
  ·cases h
 ·cases h
end

section
variable {P:Program} {tt:TypeId->Option TJ} {look lens:Nat->Option Ent} {ev:Operand->V} {ρ:Operand->Value} {E:En} {w:World} {r x y:V} {n0 n zn:Nat}
theorem bound_ok {v:V}{k m:Nat}(h:asN v=some k)(hb:k<=m)(code:BoundsCode):(Instr.sliceBound (v.den E) m code).run P w = .ok k w:=by
 obtain⟨q,hq⟩:=asN_den (E:=E) h;rw[hq];have h1:(0:Int)<=(k:Int)/\(k:Int)<=(m:Int):=by omega
 simp[Instr.sliceBound,asIntOf,h1]
theorem bounds_ok (is:Bool){lo hi:Option V}{len cap l h:Nat}(hl:lo.elim (some 0) asN=some l)(hh:hi.elim (some len) asN=some h)(h1:l<=h)(h2:h<=cap) :
  (Instr.sliceBounds is len cap (lo.map (V.den E)) (hi.map (V.den E)) none).run P w = .ok (l,h,cap) w:=by
 unfold Instr.sliceBounds;cases lo with
 | none =>
  cases hi with
  | none =>
   simp only[Option.elim_none,Option.some.injEq]at hl hh;subst hl hh;simp
  | some hv =>
   simp only[Option.elim_none,Option.elim_some,Option.some.injEq]at hl hh;subst hl;simp[bound_ok (E:=E) hh h2]
 | some lv =>
  cases hi with
  | none =>
   simp only[Option.elim_none,Option.elim_some,Option.some.injEq]at hl hh;subst hh;simp[bound_ok (E:=E) hl h1]
  | some hv =>
   simp only[Option.elim_some]at hl hh;simp[bound_ok (E:=E) hl h1,bound_ok (E:=E) hh h2]
theorem bounds3_ok {lo hi:Option V}{mv:V}{len cap l h m:Nat}(hl:lo.elim (some 0) asN=some l)(hh:hi.elim (some len) asN=some h)(hi0:hi≠none)(hm:asN mv=some m)(h1:l<=h)(h2:h<=m)(h3:m<=cap) :
  (Instr.sliceBounds true len cap (lo.map (V.den E)) (hi.map (V.den E)) (some (mv.den E))).run P w = .ok (l,h,m) w:=by
 unfold Instr.sliceBounds;cases hi with
 | none=>exact absurd rfl hi0
 | some hv =>
  simp only[Option.elim_some]at hh;cases lo with
  | none =>
   simp only[Option.elim_none,Option.some.injEq]at hl;subst hl;simp[bound_ok (E:=E) hm h3,bound_ok (E:=E) hh h2]
  | some lv =>
   simp only[Option.elim_some]at hl;simp[bound_ok (E:=E) hm h3,bound_ok (E:=E) hh h2,bound_ok (E:=E) hl h1]
theorem at_add (i o k:Nat):(E.at i o).add k=E.at i (o+k):=by
 unfold Addr.add En.at;split
 ·rename_i h;subst h;rfl
 ·simp[Nat.add_assoc]
theorem sliceQ_ok {t e:TypeId}{es:Nat}(ht:P.underlying t=some (.slice e))(hs:(sizeOf e).run P w = .ok es w)(hl:∀ {i l},lens i=some (.cells l true)->l.length<=E.C i)(hw:∀ {i o es n c},x = .q i o es n c->0<es)
  {lo hi mx:Option V} (h:sliceQ lens x lo hi mx es=some r) (hmx:mx=none\/hi≠none):(Instr.sliceAt t (x.den E) (lo.map (V.den E)) (hi.map (V.den E)) (mx.map (V.den E))).run P w = .ok (r.den E) w:=by
 have hcap:∀ {i o k cl:Nat},0<es->o+k*es<=cl->cl<=E.C i->k<=(E.C i-o) / es:=fun {i o k cl} h0 h1 h2=>(Nat.le_div_iff_mul_le h0).2 (by omega);unfold sliceQ at h;split at h
 ·split at h
  ·rename_i h1 h2 h3;cases h;cases mx with
   | none =>
    have q:=bounds_ok (P:=P) (E:=E) (w:=w) true (lo:=lo) (hi:=hi) (len:=0) (cap:=0) h1 h2 (Nat.le_refl _) (Nat.le_refl _);simp only[V.den,Instr.sliceAt,Instr.slice,Option.map_none,Sem.run_bind,run_underlying ht,Result.andThen_ok,q,hs];simp
   | some mv =>
    have q:=bounds3_ok (P:=P) (E:=E) (w:=w) (lo:=lo) (hi:=hi) (len:=0) (cap:=0) h1 h2 (hmx.resolve_left nofun) h3 (Nat.le_refl _) (Nat.le_refl _) (Nat.le_refl _);simp only[V.den,Instr.sliceAt,Instr.slice,Option.map_some,Sem.run_bind,run_underlying ht,Result.andThen_ok,q,hs];simp
  ·cases h
 ·rename_i i o es' k c;split at h
  ·rename_i he;subst he;have h0:=hw rfl;split at h
   ·rename_i l hh h1 h2;split at h
    ·rename_i cc;split at h
     ·rename_i hb;cases h;simp only[Bool.and_eq_true,Nat.ble_eq]at hb;have q:=bounds_ok (P:=P) (E:=E) (w:=w) true (lo:=lo) (hi:=hi) (len:=k) (cap:=cc) h1 h2 hb.1 hb.2;simp only[V.den,Instr.sliceAt,Instr.slice,Option.map_none,Sem.run_bind,run_underlying ht,Result.andThen_ok,q,hs,Sem.run_pure,Option.map_some,at_add];split<;>rfl
     ·cases h
    ·rename_i mv cc;split at h
     ·rename_i m hm;split at h
      ·rename_i hb;cases h;simp only[Bool.and_eq_true,Nat.ble_eq]at hb;have q:=bounds3_ok (P:=P) (E:=E) (w:=w) (lo:=lo) (hi:=hi) (len:=k) (cap:=cc) h1 h2 (hmx.resolve_left nofun) hm hb.1.1 hb.1.2 hb.2;simp only[V.den,Instr.sliceAt,Instr.slice,Sem.run_bind,run_underlying ht,Result.andThen_ok,Option.map_some,q,hs,Sem.run_pure,at_add];split<;>rfl
      ·cases h
     ·cases h
    ·split at h
     ·rename_i cl hcl;split at h
      ·rename_i hb;simp only[Bool.and_eq_true,Nat.ble_eq]at hb;have hle:=hl hcl;have g1:=hcap h0 hb.2 hle;have q:=bounds_ok (P:=P) (E:=E) (w:=w) true (lo:=lo) (hi:=hi) (len:=k) (cap:=(E.C i-o) / es') h1 h2 hb.1 g1;split at h
       ·rename_i hb2;cases h;simp only[Nat.ble_eq]at hb2;have g2:=hcap h0 hb2 hle;simp only[V.den,Instr.sliceAt,Instr.slice,Option.map_none,Sem.run_bind,run_underlying ht,Result.andThen_ok,q,hs,Sem.run_pure,Option.map_some,at_add];rw[if_neg (by omega)]
        congr 2
        rw[Nat.sub_add_eq,Nat.mul_comm l es',Nat.sub_mul_div]
       ·split at h
        ·rename_i hlh;cases h;have hlh:=Nat.eq_of_beq_eq_true hlh;subst hlh;simp only[V.den,Instr.sliceAt,Instr.slice,Option.map_none,Sem.run_bind,run_underlying ht,Result.andThen_ok,q,hs,Sem.run_pure,Option.map_some,at_add,Nat.sub_self];split<;>rfl
        ·cases h
      ·cases h
     ·cases h
    ·split at h
     ·rename_i m cl hm hcl;split at h
      ·rename_i hb;cases h;simp only[Bool.and_eq_true,Nat.ble_eq]at hb;have q:=bounds3_ok (P:=P) (E:=E) (w:=w) (lo:=lo) (hi:=hi) (len:=k) (cap:=(E.C i-o) / es') h1 h2 (hmx.resolve_left nofun) hm hb.1.1 hb.1.2 (hcap h0 hb.2 (hl hcl));simp only[V.den,Instr.sliceAt,Instr.slice,Sem.run_bind,run_underlying ht,Result.andThen_ok,Option.map_some,q,hs,Sem.run_pure,at_add];split<;>rfl
      ·cases h
     ·cases h
   ·cases h
  ·cases h
 ·cases h
theorem keyFind_ok {d:TypeDesc}{k:TK}(hk:kOk P d k){es:List (V × V × Nat)}:∀ {i:Nat} {q:Option (Nat × V)},keyFind k x es i=some q ->
  Instr.findNow d (x.den E) (es.map fun e=>(⟨e.1.den E,e.2.1.den E,e.2.2⟩:MapEntry)) i=some (q.map fun p=>(p.1,p.2.den E)):=by
 induction es with
 | nil=>intro i q h;cases h;rfl
 | cons e0 es ih =>
  intro i q h;obtain⟨a,v,b⟩:=e0;unfold keyFind at h;split at h
  ·split at h
   ·rename_i e;subst e;cases d<;>first|exact hk.elim|skip
    split at h
    ·rename_i e;cases h;simp only[List.map_cons,Instr.findNow,V.den,Instr.sameNow,if_true,e,Option.map_some]
    ·rename_i e;simp only[List.map_cons,Instr.findNow,V.den,Instr.sameNow,if_true,e];have:=ih h
     simpa only[V.den] using this
   ·cases h
  ·cases d<;>first|exact hk.elim|skip
   split at h
   ·rename_i e;cases h;simp only[List.map_cons,Instr.findNow,V.den,Instr.sameNow,e,Option.map_some]
   ·rename_i e;simp only[List.map_cons,Instr.findNow,V.den,Instr.sameNow,e];have:=ih h
    simpa only[V.den] using this
  ·cases h
theorem u8L_ok:∀ {l:List V}{q:List Nat},u8L l=some q->V.denL E l=q.map fun n=>.int .u8 (n:Int)
 | [],q,h=>by cases h;simp[V.denL]
 | a::l,q,h=>by
  unfold u8L at h;split at h
  ·rename_i e;cases e
  ·rename_i e;cases e;split at h
   ·rename_i r hr;cases h;simp only[V.denL,u8L_ok hr,V.den,List.map_cons];rfl
   ·cases h
  ·cases h
end
end Go.Proofs.Rn
