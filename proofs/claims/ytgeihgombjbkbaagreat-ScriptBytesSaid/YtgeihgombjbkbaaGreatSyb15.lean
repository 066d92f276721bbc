/- For scbytes_law_holds. -/
import Derived.Laws.StructEq
import Derived.Test.YtgeihgombjbkbaaGreatSyb13
namespace Go.Proofs.Rn
open Go Go.RowKit Go.Proofs.Own

def isAgg':TK->Bool
 | .arr _ _ | .st _=>true
 | _=>false
def zeroV (i:TJ):V:=if isAgg' i.k then .g i.z else match i.z with
 | [a]=>a
 | l=>.g l
def bytesL (s:ByteArray):List Nat:=s.data.toList.map (·.toNat)
def constV:Value->V
 | .int k n=>.i k n
 | .bool b=>.b b
 | .string s=>.s (bytesL s)
 | x=>.o x
theorem mkS_bytesL (s:ByteArray):mkS (bytesL s)=s:=by
 cases s with
 | mk d =>
  unfold mkS bytesL
  congr 1
  rw[List.map_map,show (UInt8.ofNat ∘ fun x:UInt8=>x.toNat)=id from funext fun x=>by simp];simp
theorem constV_den (E:En)(x:Value):(constV x).den E=x:=by
 cases x<;>simp only[constV,V.den,mkS_bytesL]
theorem constV_wf (n zn:Nat)(x:Value):(constV x).wf n zn:=by
 cases x<;>simp only[constV,V.wf]
def unV:V->Option Value
 | .i k n=>some (.int k n)
 | .b b=>some (.bool b)
 | .s l=>some (.string (mkS l))
 | _=>none
theorem unV_den {E:En}{v:V}{x:Value}(h:unV v=some x):v.den E=x:=by
 cases v<;>simp only[unV,Option.some.injEq,reduceCtorEq]at h<;>first|(cases h;done)|(subst h;simp only[V.den])
def pureRun {α:Type}(P:Program):Sem α->Option α
 | .pure a=>some a
 | .program k=>pureRun P (k P)
 | _=>none
theorem pureRun_ok {α:Type}{P:Program}:∀ {s:Sem α} {a:α},pureRun P s=some a -> ∀w,s.run P w = .ok a w
 | .pure b,a,h,w=>by
  simp only[pureRun,Option.some.injEq]at h;subst h;rfl
 | .program k,a,h,w=>by
  rw[pureRun]at h;exact pureRun_ok h w
 | .load ..,_,h,_ | .store ..,_,h,_ | .new ..,_,h,_ | .shape ..,_,h,_ | .freeze ..,_,h,_ | .frozen ..,_,h,_ | .getObj ..,_,h,_ | .setObj ..,_,h,_ | .choose ..,_,h,_ | .sys ..,_,h,_ | .mark ..,_,h,_ | .halt ..,_,h,_=>by simp[pureRun]at h
def kOk (P:Program):TypeDesc->TK->Prop
 | .int k,.int k'=>k=k'
 | .bool,.bool=>True
 | .string,.str=>True
 | .pointer _,.ptr=>True
 | .slice e,.sl e'=>e=e'
 | .map k e,.mp k' e'=>k=k'/\e=e'
 | .array n e,.arr n' e'=>n=n'/\e=e'
 | .struct fs,.st l=>fs.toList.mapM (fun f=>(P.info? f.type).map fun i=>(f.offset,f.type,i.size))=some l
 | .func _ _ _,.fn=>True
 | d,.o=>d.isRow=false
 | _,_=>False
structure TyOk (P:Program)(t:TypeId)(i:TJ):Prop where
 info:∃q,P.info? t=some q/\q.size=i.n/\q.bytes=i.bt
 zero:∀E,∃q,P.info? t=some q/\q.zero=some ((zeroV i).den E)/\((zeroV i).den E).cells=(V.denL E i.z).toArray
 one:∀(E:En),∀v ∈ V.denL E i.z,v.oneCell'=true
 zwf:∀n zn,V.wfL n zn i.z
 zlen:i.z.length=i.n
 und:∃d,P.underlying t=some d/\kOk P d i.k
def TTok (P:Program)(tt:TypeId->Option TJ):Prop:=∀t i,tt t=some i->TyOk P t i
theorem kOk_row {P:Program}{d:TypeDesc}{k:TK}(h:kOk P d k):d.isRow=isAgg' k:=by
 cases d<;>cases k<;>first|rfl|exact h.elim|exact h
def oneVal:Value->Bool
 | .agg _ | .tuple _=>false
 | _=>true
def V.one:V->Bool
 | .g _ | .t _=>false
 | .o x=>oneVal x
 | _=>true
def oneVL:List V->Bool
 | []=>true
 | a::l=>a.one&&oneVL l
theorem V.one_den (E:En){a:V}(h:a.one=true):(a.den E).oneCell'=true:=by
 cases a with
 | o x=>cases x<;>simp_all[V.one,oneVal,V.den,Value.oneCell']
 | g l=>cases h
 | t l=>cases h
 | _=>simp[V.den,Value.oneCell']
theorem oneVL_den (E:En):∀ {l:List V},oneVL l=true -> ∀v ∈ V.denL E l,v.oneCell'=true
 | [],_,v,hv=>by simp[V.denL]at hv
 | a::l,h,v,hv=>by
  simp only[oneVL,Bool.and_eq_true]at h;rw[V.denL]at hv;rcases List.mem_cons.1 hv with rfl|hv
  ·exact V.one_den E h.1
  ·exact oneVL_den E h.2 v hv
def V.cs:V->Option (List V)
 | .g l=>if oneVL l then some l else none
 | a=>if a.one then some [a] else none
theorem V.cs_den (E:En){a:V}{l:List V}(h:a.cs=some l):(a.den E).cells=(V.denL E l).toArray /\ ∀v ∈ V.denL E l,v.oneCell'=true:=by
 unfold V.cs at h;split at h
 ·split at h
  ·cases h;rename_i l0 hl;exact⟨by simp only[V.den,Value.cells],oneVL_den E hl⟩
  ·cases h
 ·split at h
  ·cases h;rename_i ho;have h1:=V.one_den E ho;refine⟨?_,fun v hv=>?_⟩
   ·rw[V.denL,V.denL];generalize a.den E=x at h1;cases x<;>first|rfl|cases h1
   ·rw[V.denL,V.denL]at hv;obtain rfl:=List.mem_singleton.1 hv;exact h1
  ·cases h
theorem V.cs_wf {n zn:Nat}{a:V}{l:List V}(h:a.cs=some l)(hw:a.wf n zn):V.wfL n zn l:=by
 unfold V.cs at h;split at h
 ·split at h
  ·cases h
   simpa only[V.wf] using hw
  ·cases h
 ·split at h
  ·cases h;simp only[V.wfL,and_true];exact hw
  ·cases h
section
variable {P:Program} {E:En} {w:World} {r:V}
theorem TyOk.agg {t:TypeId}{i:TJ}(h:TyOk P t i):(isAgg t).run P w = .ok (isAgg' i.k) w:=by
 obtain⟨d,h1,h2⟩:=h.und;unfold isAgg;rw[Sem.run_bind,run_underlying h1 w,<- kOk_row h2];cases d<;>simp[TypeDesc.isRow]
theorem TyOk.sizeOf {t:TypeId}{i:TJ}(h:TyOk P t i):(Go.sizeOf t).run P w = .ok i.n w:=by
 obtain⟨q,h1,h2,_⟩:=h.info;simp[Go.sizeOf,typeInfo,h1,h2]
theorem TyOk.zeroR {t:TypeId}{i:TJ}(h:TyOk P t i)(E:En):(zeroValue t).run P w = .ok ((zeroV i).den E) w:=by
 obtain⟨q,h1,h2,_⟩:=h.zero E;simp[zeroValue,typeInfo,h1,h2]
theorem lcut_den {l r:List V}{o n:Nat}(h:lcut l o n=some r):(V.denL E r).length=n /\ ∀(j:Nat) v,(V.denL E r)[j]? = some v->(V.denL E l)[o+j]? = some v:=by
 obtain⟨h1,h2,h3⟩:=lcut_some l o n r h;refine⟨by rw[denL_len,h1],fun j v hv=>?_⟩;rw[denL_get]at hv ⊢;have hj:j<n:=by
  rw[<- h1];cases e:r[j]? with
  | none=>rw[e]at hv;cases hv
  | some q=>exact(List.getElem?_eq_some_iff.1 e).1
 rw[<- h3 j hj];exact hv
theorem lcut_wf {n zn:Nat}{l r:List V}{o k:Nat}(h:lcut l o k=some r)(hw:V.wfL n zn l):V.wfL n zn r:=wfL_iff.2 fun v hv=>by
 obtain⟨j,hj⟩:=List.getElem?_of_mem hv;obtain⟨h1,h2,h3⟩:=lcut_some l o k r h;have hjk:j<k:=by rw[<- h1];exact(List.getElem?_eq_some_iff.1 hj).1
 rw[h3 j hjk]at hj;exact wfL_iff.1 hw v (List.mem_of_getElem? hj)
theorem lget_wf {n zn:Nat}{l:List V}{k:Nat}(h:lget l k=some r)(hw:V.wfL n zn l):r.wf n zn:=by
 rw[lget_eq]at h;exact wfL_iff.1 hw r (List.mem_of_getElem? h)
theorem lget_den {l:List V}{k:Nat}(h:lget l k=some r):(V.denL E l)[k]? = some (r.den E):=by
 rw[lget_eq]at h;rw[denL_get,h];rfl
def loadV (i:TJ)(c:List V)(o:Nat):Option V:=if isAgg' i.k then (match lcut c o i.n with|some l=>some (.g l)|none=>none) else lget c o
theorem loadV_wf {n zn:Nat}{i:TJ}{c:List V}{o:Nat}(h:loadV i c o=some r)(hw:V.wfL n zn c):r.wf n zn:=by
 unfold loadV at h;split at h
 ·split at h
  ·rename_i l hl;cases h
   simpa only[V.wf] using lcut_wf hl hw
  ·cases h
 ·exact lget_wf h hw
theorem part_ok {t:TypeId}{i:TJ}(hi:TyOk P t i){l:List V}{k:Nat}(h:loadV i l k=some r):(part t (V.denL E l).toArray k).run P w = .ok (r.den E) w:=by
 unfold part;rw[Sem.run_bind,hi.agg,Result.andThen_ok];unfold loadV at h;split at h
 ·rename_i ha;rw[if_pos ha];split at h
  ·rename_i q hq;cases h;obtain⟨h1,h2⟩:=lcut_den (E:=E) hq;rw[Sem.run_bind,hi.sizeOf,Result.andThen_ok];simp only[Sem.run_pure,V.den]
   congr 2
   refine Array.ext_getElem? fun j=>?_;rw[Array.getElem?_extract,List.getElem?_toArray,List.getElem?_toArray];have hc:=lcut_some _ _ _ _ hq;have hl:(V.denL E l).length=l.length:=denL_len E l;split
   ·rename_i hj;cases e:(V.denL E q)[j]? with
    | some v=>exact h2 j v e
    | none =>
     have:=List.getElem?_eq_none_iff.1 e;simp at hj;omega
   ·rename_i hj;symm;rw[List.getElem?_eq_none_iff];simp at hj;omega
  ·cases h
 ·rename_i ha;rw[if_neg ha,List.getElem?_toArray,lget_den h];rfl
theorem load_ok {t:TypeId}{i:TJ}(hi:TyOk P t i){c:List V}{b o:Nat}(hc:∀(j:Nat) v,(j=o\/(o<=j/\j<o+i.n))->(V.denL E c)[j]? = some v->w.cell? (E.at b j)=some v)(h:loadV i c o=some r):(loadVar t (E.at b o)).run P w = .ok (r.den E) w:=by
 unfold loadV at h;split at h
 ·rename_i ha;split at h
  ·rename_i q hq;cases h;obtain⟨h1,h2⟩:=lcut_den (E:=E) hq;obtain⟨d,u1,u2⟩:=hi.und;obtain⟨qi,hq1,hq2,_⟩:=hi.info;have:=run_loadVar_mid (P:=P) w (E.B b).1 ((E.B b).2+o) t (V.denL E q) d (fun j v hv=>by
    have:=hc _ _ (.inr ⟨Nat.le_add_right _ _,by have:=(List.getElem?_eq_some_iff.1 hv).1;omega⟩) (h2 j v hv);simp only[En.at]at this
    rwa [<- Nat.add_assoc]at this) u1 (by rw[kOk_row u2,ha]) (by rw[hq1,Option.map_some,hq2,h1])
   simpa only[V.den,En.at] using this
  ·cases h
 ·rename_i ha;unfold loadVar;rw[Sem.run_bind,hi.agg,Result.andThen_ok,if_neg ha,run_load,hc _ _ (.inl rfl) (lget_den h)]
theorem lput_den {c l:List V}{o:Nat}(h:o+l.length<=c.length):V.denL E (lput c o l)=lput (V.denL E c) o (V.denL E l):=by
 rw[lput_eq _ _ _ h,lput_eq _ _ _ (by rw[denL_len,denL_len];exact h)];simp only[denL_eq,List.map_append,List.map_take,List.map_drop,List.length_map]
theorem lput_wf {n zn:Nat}{c l:List V}{o:Nat}(h:o+l.length<=c.length)(h1:V.wfL n zn c)(h2:V.wfL n zn l):V.wfL n zn (lput c o l):=wfL_iff.2 fun v hv=>by
 rw[lput_eq _ _ _ h]at hv;rcases List.mem_append.1 hv with hv|hv
 ·rcases List.mem_append.1 hv with hv|hv
  ·exact wfL_iff.1 h1 v (List.mem_of_mem_take hv)
  ·exact wfL_iff.1 h2 v hv
 ·exact wfL_iff.1 h1 v (List.mem_of_mem_drop hv)
theorem lput_cons {c:List Value}{o:Nat}{x:Value}{l:List Value}(h:o+(l.length+1)<=c.length):lput c o (x::l)=lput (c.set o x) (o+1) l:=by
 rw[lput_eq _ _ _ (by simpa using h),lput_eq _ _ _ (by rw[List.length_set];omega),List.take_add_one,List.take_set_of_le (Nat.le_refl o),List.getElem?_set_self (by omega)];simp only[Option.toList_some,List.append_assoc,List.singleton_append,List.length_cons]
 congr 2
 rw[List.drop_set_of_lt (by omega),show o+1+l.length=o+(l.length+1) by omega]
theorem foldl_put (o:Nat):∀(l:List Value) (k:Nat) (c:List Value),o+k+l.length<=c.length->(l.zipIdx k).foldl (fun cs (p:Value × Nat)=>cs.setIfInBounds (o+p.2) p.1) c.toArray=(lput c (o+k) l).toArray
 | [],k,c,h=>by rw[lput_eq _ _ _ (by simpa using h)];simp
 | x::l,k,c,h=>by
  simp only[List.length_cons]at h;rw[List.zipIdx_cons,List.foldl_cons,List.setIfInBounds_toArray,foldl_put o l (k+1) _ (by rw[List.length_set];omega),lput_cons (by omega)];rw[Nat.add_assoc]
def fillV (place:Nat->Option (Nat × Nat))(ev:Operand->V):List V->List (Nat × Operand)->Option (List V)
 | c,[]=>some c
 | c,(j,x)::r=>match place j with
  | some (o,n)=>match (ev x).cs with
   | some l=>if l.length==n&&Nat.ble (o+l.length) c.length then fillV place ev (lput c o l) r else none
   | none=>none
  | none=>none
variable {ev:Operand->V} {ρ:Operand->Value}
theorem fillV_ok (hr:∀x,ρ x=(ev x).den E){pl:Nat->Option (Nat × Nat)}:∀(l:List (Nat × Operand)) (c q:List V),fillV pl ev c l=some q->Instr.fill pl (V.denL E c).toArray (l.map fun p=>(p.1,ρ p.2))=some (V.denL E q).toArray
 | [],c,q,h=>by cases h;rfl
 | (j,x)::l,c,q,h=>by
  rw[fillV]at h;split at h
  ·rename_i o n hn;split at h
   ·rename_i m hm;split at h
    ·rename_i hc;simp only[Bool.and_eq_true,beq_iff_eq,Nat.ble_eq]at hc;have ih:=fillV_ok hr l _ _ h;rw[List.map_cons,Instr.fill];have hcs:=(V.cs_den E hm).1;have hl:=denL_len E m;have hlc:=denL_len E c;simp only[hn,hr,hcs];rw[if_neg (by simp only[List.size_toArray,hl,hlc,hc.1,Bool.or_eq_true,decide_eq_true_eq,ne_eq,not_true_eq_false,false_or];omega)];rw[lput_den hc.2]at ih;have:=foldl_put o (V.denL E m) 0 (V.denL E c) (by omega);simp only[hr]at ih;rw[<- Array.foldl_toList,Array.toList_zipIdx];simp only[Nat.add_zero]at this;rw[<- ih,<- this]
    ·cases h
   ·cases h
  ·cases h
theorem fillV_wf {n zn:Nat}(hw:∀x,(ev x).wf n zn){pl:Nat->Option (Nat × Nat)}:∀(l:List (Nat × Operand)) (c q:List V),fillV pl ev c l=some q->V.wfL n zn c->V.wfL n zn q
 | [],c,q,h,hc=>by cases h;exact hc
 | (j,x)::l,c,q,h,hc=>by
  rw[fillV]at h;split at h
  ·split at h
   ·rename_i m hm;split at h
    ·rename_i hb;simp only[Bool.and_eq_true,beq_iff_eq,Nat.ble_eq]at hb;exact fillV_wf hw l _ _ h (lput_wf hb.2 hc (V.cs_wf hm (hw x)))
    ·cases h
   ·cases h
  ·cases h
end

def asN:V->Option Nat
 | .i _ (.ofNat n)=>some n
 | _=>none
def eq1:TK->V->V->Option Bool
 | .int _,.i k a,.i k' b=>if k=k' then some (a==b) else none
 | .bool,.b a,.b b=>some (a==b)
 | .str,.s a,.s b=>some ((mkS a).toList==(mkS b).toList)
 | _,_,_=>none
def eqL (tt:TypeId->Option TJ)(l m:List V):List (Nat × TypeId × Nat)->Option Bool
 | []=>some true
 | (o,t,_)::r=>match tt t,lget l o,lget m o with
  | some i,some x,some y=>match eq1 i.k x y with
   | some true=>eqL tt l m r
   | q=>q
  | _,_,_=>none
def eqR (k:TK):List V->List V->Option Bool
 | [],[]=>some true
 | a::l,b::m=>match eq1 k a b with
  | some true=>eqR k l m
  | q=>q
 | _,_=>none
def nilEq (tt:TypeId->Option TJ)(k:TK)(x y:V):Option Bool:=match k with
 | .ptr=>match x,y with
  | .p _ _,.o (.pointer none)=>some false
  | .o (.pointer none),.p _ _=>some false
  | .o (.pointer none),.o (.pointer none)=>some true
  | _,_=>none
 | .sl _=>match x,y with
  | .q _ _ _ _ _,.o (.slice none _ _)=>some false
  | .z _ _ _ _,.o (.slice none _ _)=>some false
  | .o (.slice none _ _),.o (.slice none _ _)=>some true
  | _,_=>none
 | .mp _ _=>match x,y with
  | .m _,.o (.map none)=>some false
  | .o (.map none),.o (.map none)=>some true
  | _,_=>none
 | .fn=>match x,y with
  | .f _ _ _,.o .nilFunc=>some false
  | .o .nilFunc,.o .nilFunc=>some true
  | _,_=>none
 | .st fs=>match x,y with
  | .g l,.g m=>eqL tt l m fs
  | _,_=>none
 | .arr n e=>match x,y,tt e with
  | .g l,.g m,some i=>match Nat.beq l.length n,Nat.beq i.n 1 with
   | true,true=>eqR i.k l m
   | _,_=>none
  | _,_,_=>none
 | k=>eq1 k x y
def nilEqG (tt:TypeId->Option TJ)(i:TJ)(x y:V):Option Bool:=match !isAgg' i.k || i.eq with
 | true=>nilEq tt i.k x y
 | false=>none
def evBin (P:Program)(tt:TypeId->Option TJ)(op:BinOp)(t:TypeId)(x y:V):Option V:=match op,x,y with
 | .eql,x,y=>match tt t with
  | some i=>match nilEqG tt i x y with
   | some b=>some (.b b)
   | none=>none
  | none=>none
 | .neq,x,y=>match tt t with
  | some i=>match nilEqG tt i x y with
   | some b=>some (.b !b)
   | none=>none
  | none=>none
 | op,.i k a,.i k' b=>match pureRun P (Go.binOp op t (.int k a) (.int k' b)) with
  | some r=>some (constV r)
  | none=>none
 | op,.s a,.s b=>match pureRun P (Op.stringOp op (mkS a) (mkS b)) with
  | some r=>some (constV r)
  | none=>none
 | _,_,_=>none
def keyFind (kd:TK)(k:V):List (V × V × Nat)->Nat->Option (Option (Nat × V))
 | [],_=>some none
 | (a,v,_)::r,i=>match kd,k,a with
  | .int _,.i kk x,.i k' y=>if kk=k' then (match x==y with
   | true=>some (some (i,v))
   | false=>keyFind kd k r (i+1)) else none
  | .str,.s x,.s y=>match mkS x==mkS y with
   | true=>some (some (i,v))
   | false=>keyFind kd k r (i+1)
  | _,_,_=>none
def unL:List V->Option (List Value)
 | []=>some []
 | v::l=>match unV v,unL l with
  | some x,some r=>some (x::r)
  | _,_=>none
def u8L:List V->Option (List Nat)
 | []=>some []
 | .i .u8 (.ofNat n)::l=>match u8L l with
  | some r=>some (n::r)
  | none=>none
 | _=>none
section
variable (P:Program) (tt:TypeId->Option TJ) (look lens:Nat->Option Ent) (ev:Operand->V)
def sliceQ (x:V)(lo hi mx:Option V)(es:Nat):Option V:=match x with
 | .o (.slice none 0 0)=>match lo.elim (some 0) asN,hi.elim (some 0) asN,mx.elim (some 0) asN with
  | some 0,some 0,some 0=>some (.o (.slice none 0 0))
  | _,_,_=>none
 | .q i o es' n c=>if es'=es then (match lo.elim (some 0) asN,hi.elim (some n) asN with
  | some l,some h=>match mx,c with
   | none,some cc=>if Nat.ble l h&&Nat.ble h cc then some (.q i (if cc=l then o else o+l*es) es (h-l) (some (cc-l))) else none
   | some m,some cc=>match asN m with
    | some m=>if Nat.ble l h&&Nat.ble h m&&Nat.ble m cc then some (.q i (if m=l then o else o+l*es) es (h-l) (some (m-l))) else none
    | none=>none
   | none,none=>match lens i with
    | some (.cells cl true)=>match Nat.ble l h&&Nat.ble (o+h*es) cl.length with
     | true=>match Nat.ble (o+(l+1)*es) cl.length with
      | true=>some (.q i (o+l*es) es (h-l) none)
      | false=>match Nat.beq l h with
       | true=>some (.z i o es l)
       | false=>none
     | false=>none
    | _=>none
   | some m,none=>match asN m,lens i with
    | some m,some (.cells cl true)=>if Nat.ble l h&&Nat.ble h m&&Nat.ble (o+m*es) cl.length then some (.q i (if m=l then o else o+l*es) es (h-l) (some (m-l))) else none
    | _,_=>none
  | _,_=>none) else none
 | _=>none
def evQ:Op->Option V
 | .move x | .assign x=>some (ev x)
 | .pick c a b=>match ev c with
  | .b true=>some (ev a)
  | .b false=>some (ev b)
  | _=>none
 | .build t ps=>match tt t with
  | some i=>match i.k with
   | .st fs=>match fillV (fun j=>(lget fs j).map fun f=>(f.1,f.2.2)) ev i.z ps.toList with
    | some l=>some (.g l)
    | none=>none
   | .arr _ e=>match tt e with
    | some ei=>match fillV (fun j=>some (j*ei.n,ei.n)) ev i.z ps.toList with
     | some l=>some (.g l)
     | none=>none
    | none=>none
   | _=>none
  | none=>none
 | .load t x=>match ev x with
  | .p b o=>match tt t,look b with
   | some i,some (.cells c _)=>loadV i c o
   | _,_=>none
  | _=>none
 | .fieldAddr t x j=>match ev x with
  | .p b o=>match tt t with
   | some i=>match i.k with
    | .st fs=>match lget fs j with
     | some (k,_,n)=>match n with
      | 0=>none
      | _=>some (.p b (o+k))
     | none=>none
    | _=>none
   | none=>none
  | _=>none
 | .field t x j=>match ev x with
  | .g l=>match tt t with
   | some i=>match i.k with
    | .st fs=>match lget fs j with
     | some (k,ft,_)=>match tt ft with
      | some fi=>loadV fi l k
      | none=>none
     | none=>none
    | _=>none
   | none=>none
  | _=>none
 | .extract x j=>match ev x with
  | .t l=>lget l j
  | _=>none
 | .nilCheck x=>match ev x with
  | .p b o=>some (.p b o)
  | .f (.func f) a c=>some (.f (.func f) a c)
  | _=>none
 | .binOp op t x y _=>evBin P tt op t (ev x) (ev y)
 | .unOp op _ x=>match unV (ev x) with
  | some a=>match pureRun P (Op.unary op a) with
   | some r=>some (constV r)
   | none=>none
  | none=>none
 | .convert t u x=>match tt t,tt u with
  | some i,some j=>match j.k with
   | .int k=>match ev x with
    | .i _ n=>some (.i k (k.wrap n))
    | _=>none
   | .str=>match i.k,ev x with
    | .str,.s l=>some (.s l)
    | .sl e,.o (.slice none _ _)=>match tt e with
     | some ei=>match ei.k with
      | .int .u8=>some (.s [])
      | _=>none
     | none=>none
    | .sl e,.q i o es n _=>match tt e,look i with
     | some ei,some (.cells c _)=>match ei.k,es,lcut c o n with
      | .int .u8,1,some l=>match u8L l with
       | some l=>some (.s l)
       | none=>none
      | _,_,_=>none
     | _,_=>none
    | _,_=>none
   | _=>none
  | _,_=>none
 | .makeFunc fn a c=>some (.f fn (a.toList.map ev) (c.toList.map ev))
 | .indexAddr t x ix=>match tt t,asN (ev ix) with
  | some i,some n=>match i.k,ev x with
   | .arr len e,.p b o=>match tt e with
    | some ei=>if Nat.blt n len then some (.p b (o+n*ei.n)) else none
    | none=>none
   | .sl e,.q b o es len _=>match tt e with
    | some ei=>if Nat.blt n len&&Nat.beq es ei.n then some (.p b (o+n*es)) else none
    | none=>none
   | _,_=>none
  | _,_=>none
 | .index t x ix=>match tt t,asN (ev ix) with
  | some i,some n=>match i.k,ev x with
   | .arr len e,.g l=>match tt e with
    | some ei=>if Nat.blt n len then loadV ei l (n*ei.n) else none
    | none=>none
   | .str,.s l=>match lget l n with
    | some b=>if Nat.blt b 256 then some (.i .u8 b) else none
    | none=>none
   | _,_=>none
  | _,_=>none
 | .slice t x lo hi mx=>match tt t with
  | some i=>match i.k with
   | .sl e=>match tt e with
    | some ei=>sliceQ lens (ev x) (lo.map ev) (hi.map ev) (mx.map ev) ei.n
    | none=>none
   | .arr n e=>match tt e,ev x with
    | some ei,.p b o=>match mx,(lo.map ev).elim (some 0) asN,(hi.map ev).elim (some n) asN with
     | none,some l,some h=>if Nat.ble l h&&Nat.ble h n&&Nat.blt 0 ei.n then some (.q b (if n=l then o else o+l*ei.n) ei.n (h-l) (some (n-l))) else none
     | _,_,_=>none
    | _,_=>none
   | .str=>match ev x,mx,(lo.map ev).elim (some 0) asN with
    | .s s,none,some l=>match (hi.map ev).elim (some s.length) asN with
     | some h=>if Nat.ble l h&&Nat.ble h s.length then some (.s ((s.drop l).take (h-l))) else none
     | none=>none
    | _,_,_=>none
   | _=>none
  | none=>none
 | .lookup t x ix ok=>match tt t with
  | some i=>match i.k with
   | .mp kt e=>match tt e,tt kt with
    | some ei,some ki=>match (match ki.k with | .int _=>true | .str=>true|_=>false) with
     | true=>match (match ev x with
       | .o (.map none)=>some []
       | .m r=>match look r with
        | some (.map es _)=>some es
        | _=>none
       | _=>none:Option (List (V × V × Nat))) with
      | some es=>match keyFind ki.k (ev ix) es 0 with
       | some (some (_,v))=>match ok with
        | true=>some (.t [v,.b true])
        | false=>some v
       | some none=>match ok with
        | true=>some (.t [zeroV ei,.b false])
        | false=>some (zeroV ei)
       | none=>none
      | none=>none
     | false=>none
    | _,_=>none
   | _=>none
  | none=>none
 | .call c=>match c.callee,c.args.toList,c.argTypes.toList with
  | .builtin .len,[x],[t]=>match tt t with
   | some i=>match i.k with
    | .sl _=>match ev x with
     | .q _ _ _ n _=>some (.i .i64 n)
     | .z _ _ _ _=>some (.i .i64 0)
     | .o (.slice _ n _)=>some (.i .i64 n)
     | _=>none
    | .str=>match ev x with
     | .s l=>some (.i .i64 l.length)
     | .o (.string s)=>some (.i .i64 s.size)
     | _=>none
    | .arr n _=>some (.i .i64 n)
    | .mp _ _=>match ev x with
     | .o (.map none)=>some (.i .i64 0)
     | .m r=>match look r with
      | some (.map es _)=>some (.i .i64 es.length)
      | _=>none
     | _=>none
    | _=>none
   | none=>none
  | .builtin .min,xs,_=>match unL (xs.map ev) with
   | some l=>match pureRun P (Builtin.min_ #[] 0 l.toArray) with
    | some r=>some (constV r)
    | none=>none
   | none=>none
  | .builtin .max,xs,_=>match unL (xs.map ev) with
   | some l=>match pureRun P (Builtin.max_ #[] 0 l.toArray) with
    | some r=>some (constV r)
    | none=>none
   | none=>none
  | _,_,_=>none
 | _=>none
end
end Go.Proofs.Rn
