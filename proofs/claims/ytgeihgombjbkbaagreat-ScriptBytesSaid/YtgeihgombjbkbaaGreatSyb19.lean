/- For scbytes_law_holds. -/
import Derived.Test.YtgeihgombjbkbaaGreatSyb17
namespace Go.Proofs.Own
open Go Go.RowKit

structure Frm (F:World->Bx->Prop)(k8:KB):Prop where
 box:∀ {w:World} {L:Bx},F w L -> ∀ {i:Nat} {p:Nat × List Value},L[i]? = some p->Box w p
 set:∀ {w:World} {L:Bx},F w L -> ∀ {i b o:Nat} {c vs:List Value},L[i]? = some (b,c)->o+vs.length<=c.length->(k8.b=true->vs.all vY=true)->k8.ro<=i->F (w.setCells b o vs) (L.set i (b,putN c o vs))
 new:∀ {w:World} {L:Bx},F w L -> ∀ {c:List Value} {t:TypeId},(k8.b=true->c.all vY=true)->F (w.alloc (.cells c.toArray t)) (L ++ [(w.heap.size,c)])
 drew:∀ {w:World} {L:Bx},F w L->F w.drew L
structure FrB (F:World->Bx->Prop):Prop where
 box:∀ {w:World} {L:Bx},F w L -> ∀ {i:Nat} {p:Nat × List Value},L[i]? = some p->Box w p
theorem Frm.b {F:World->Bx->Prop}{k8:KB}(h:Frm F k8):FrB F:=⟨fun h1=>h.box h1⟩
theorem jZ:∀(vs c:List Value) (o:Nat),o+vs.length<=c.length->setL c o vs=putN c o vs
 | [],c,o,h=>by rw[setL,gP _ _ _ h];simp
 | v::r,c,o,h=>by
  simp only[List.length_cons]at h;rw[setL,jZ r _ _ (by rw[List.length_set];omega),qH h]
theorem Fr.aKm {S:Nat->Prop}{w0 w:World}{L:Bx}{R:World->Prop}(F:Fr S w0 w L R){i b o:Nat}{c vs:List Value}(hi:L[i]? = some (b,c))(hl:o+vs.length<=c.length):Fr S w0 (w.setCells b o vs) (L.set i (b,putN c o vs)) R:=by
 have q:=F.aL5 i hi (Kept.setCells b vs o w) (Box.setL vs c o w (F.box i _ hi))
 rwa [jZ vs c o hl]at q
theorem Fr.frm (S:Nat->Prop)(w0:World)(R:World->Prop):Frm (fun w L=>Fr S w0 w L R) ⟨false,0⟩ :=
 ⟨fun F i p h=>F.box i p h,fun F _ _ _ _ _ hi hl _ _=>F.aKm hi hl,fun F _ _ _=>F.snoc rfl rfl,fun F=>F.drew rfl⟩
theorem lA.setCells {b:Nat}:∀(vs c:List Value) (o:Nat) (w:World) (k:Nat),Box w (b,c)->o+vs.length<=c.length->vs.all vY=true->lA w k->lA (w.setCells b o vs) k
 | [],_,_,_,_,_,_,_,h=>h
 | v::r,c,o,w,k,hb,hl,h8,h=>by
  simp only[List.length_cons]at hl;rw[List.all_cons,Bool.and_eq_true]at h8;rw[World.setCells];refine lA.setCells r (c.set o v) (o+1) _ k (hb.set o v) (by rw[List.length_set];omega) h8.2 ?_;exact h.set ⟨b,o,none⟩ (hb.2 o _ (List.getElem?_eq_getElem (by simp only;omega))).1 (aKd h8.1)
theorem Fn.frm (S:Nat->Prop)(w0:World)(R:World->Prop):Frm (fun w L=>Fn S w0 w L R) ⟨true,0⟩:=by
 refine⟨fun F i p h=>F.box i p h,fun {w L} F {i b o c vs} hi hl h8 _=>?_,fun F _ _ h8=>F.snoc rfl rfl (h8 rfl),fun F=>F.drew rfl⟩;refine⟨F.toFr.aKm hi hl,fun p hp=>?_⟩;have hm:p.1 ∈ L.map (·.1):=by
  have h1:p.1 ∈ (L.set i (b,putN c o vs)).map (·.1):=List.mem_map.2 ⟨p,hp,rfl⟩
  rw[List.map_set]at h1;rcases List.mem_or_eq_of_mem_set h1 with h2|h2
  ·exact h2
  ·rw[h2];exact List.mem_map.2 ⟨(b,c),List.mem_of_getElem? hi,rfl⟩
 obtain⟨q,hq,eq⟩:=List.mem_map.1 hm;rw[<- eq];exact lA.setCells vs c o w _ (F.box i _ hi) hl (h8 rfl) (F.n8 q hq)
def Fo (ro:Bx)(S:Nat->Prop)(w0:World)(R:World->Prop)(w:World)(L:Bx):Prop:=∃L',L=ro++L'/\Fr S w0 w L' (fun v=>(∀p ∈ ro,Box v p)/\R v)
theorem Fo.frm (ro:Bx)(S:Nat->Prop)(w0:World)(R:World->Prop)(n:Nat)(hn:ro.length=n):Frm (Fo ro S w0 R) ⟨false,n⟩:=by
 subst hn;refine⟨fun {w L} F {i p} h=>?_,fun {w L} F {i b o c vs} hi hl _ hr=>?_,fun {w L} F {c t} _=>?_,fun {w L} F=>?_⟩
 ·obtain⟨L',rfl,F⟩:=F;rw[List.getElem?_append]at h;split at h
  ·exact F.r.1 p (List.mem_of_getElem? h)
  ·exact F.box _ p h
 ·obtain⟨L',rfl,F⟩:=F;have hr':ro.length<=i:=hr;rw[List.getElem?_append_right hr']at hi;exact⟨_,List.set_append_right _ _ hr',F.aKm hi hl⟩
 ·obtain⟨L',rfl,F⟩:=F;exact⟨_,List.append_assoc _ _ _,F.snoc rfl rfl⟩
 ·obtain⟨L',rfl,F⟩:=F;exact⟨L',rfl,F.drew rfl⟩
theorem Box.below {w w':World}{p:Nat × List Value}(h:Box w p)(hb:Below w.heap.size w w'):Box w' p:=h.kept (Kept.aQ hb (S:=fun _=>False) fun k h1 h2=>by omega) id
theorem Fo.start {w:World}{ro:Bx}{R:World->Prop}(hr:∀p ∈ ro,Box w p)(h:∀v,Below w.heap.size w v->R v):Fo ro (fun _=>False) w R w ro :=
 ⟨[],(List.append_nil _).symm,Fr.zero w nofun fun v kv=>have b:Below w.heap.size w v:=kv.below (Nat.le_refl _) nofun;⟨fun p hp=>(hr p hp).below b,h v b⟩⟩
theorem Fo.now {ro L:Bx}{S:Nat->Prop}{w0 w:World}{R:World->Prop}(F:Fo ro S w0 R w L):R w:=let ⟨_,_,f⟩:=F;f.r.2
theorem Fo.bel {ro L:Bx}{S:Nat->Prop}{w0 w:World}{R:World->Prop}(F:Fo ro S w0 R w L):Below w0.heap.size w0 w:=let ⟨_,_,f⟩:=F;f.bel
theorem Fo.boxes {ro L:Bx}{S:Nat->Prop}{w0 w:World}{R:World->Prop}(F:Fo ro S w0 R w L):∀p ∈ L,Box w p:=by
 obtain⟨L',rfl,f⟩:=F;intro p hp;rcases List.mem_append.1 hp with hp|hp
 ·exact f.r.1 p hp
 ·obtain⟨i,hi⟩:=List.getElem?_of_mem hp;exact f.box i p hi
theorem Fo.later {ro L:Bx}{S:Nat->Prop}{w0 w v:World}{R:World->Prop}(F:Fo ro S w0 R w L)(hb:Below w.heap.size w v):R v:=let ⟨_,_,f⟩:=F;((f.saf.below hb).now).2
theorem Fo.step {ro L:Bx}{S:Nat->Prop}{w0 w w':World}{R Z:World->Prop}(F:Fo ro S w0 R w L)(hb:Below w.heap.size w w')(hz:∀v,Below w'.heap.size w' v->Z v):Fo L (fun _=>False) w' (fun v=>Z v/\R v) w' L :=
 Fo.start (fun p hp=>(F.boxes p hp).below hb) fun v bv=>⟨hz v bv,F.later (hb.trans (bv.mono hb.size))⟩
theorem Fo.on {ro L:Bx}{S:Nat->Prop}{w0 w w':World}{R:World->Prop}(F:Fo ro S w0 R w L)(hb:Below w.heap.size w w'):Fo L (fun _=>False) w' R w' L :=
 Fo.start (fun p hp=>(F.boxes p hp).below hb) fun _ bv=>F.later (hb.trans (bv.mono hb.size))
section
variable {P:Program} {tt:TypeId->Option TI} {k8:KB} {F:World->Bx->Prop} {B:Nat->Nat} {s s':St} {w:World} {r:AV}
theorem Frm.cel (hF:Frm F k8)(h:F w (mkB B 0 s.bx)):Cel B s w:=fun i c hi j v hv=>by
 have:=(hF.box h (i:=i) (by rw[fJ,hi];rfl)).2 j v hv;rw[Nat.zero_add]at this;exact this.1
theorem AV.aLS {a:AV}(h:a.n8=true):vY (a.den B)=true:=by
 cases a with
 | i k e=>cases k<;>first|(cases h;done)|rfl
 | v x=>cases x<;>first|rfl|(rename_i k n;cases k<;>first|(cases h;done)|rfl)
 | _=>rfl
theorem rQ:∀ {l:List AV},n8L l=true->(AV.denL B l).all vY=true
 | [],_=>rfl
 | a::l,h=>by
  simp only[n8L,Bool.and_eq_true]at h;rw[AV.denL,List.all_cons,AV.aLS h.1,rQ h.2];rfl
theorem qE {C:Nat->Nat}{n:Nat}(h:∀i,i<n->B i=C i):∀(l:List (List AV)) (k:Nat),k+l.length<=n->l.all (AV.wfL n)=true->mkB B k l=mkB C k l
 | [],_,_,_=>rfl
 | c::r,k,hl,hw=>by
  simp only[List.length_cons]at hl;rw[List.all_cons,Bool.and_eq_true]at hw;rw[mkB,mkB,h k (by omega),AV.cU h c hw.1,qE h r (k+1) (by omega) hw.2]
theorem oI:∀(l m:List (List AV)) (k:Nat),mkB B k (l++m)=mkB B k l++mkB B (k+l.length) m
 | [],m,k=>rfl
 | c::r,m,k=>by
  simp only[List.cons_append,mkB,oI r m (k+1),List.length_cons];rw[show k+1+r.length=k+(r.length+1) by omega]
theorem xD:∀(l:List (List AV)) (k i:Nat) (c:List AV),mkB B k (l.set i c)=(mkB B k l).set i (B (k+i),AV.denL B c)
 | [],_,_,_=>rfl
 | _::r,k,0,c=>rfl
 | a::r,k,i+1,c=>by
  simp only[List.set_cons_succ,mkB,xD r (k+1) i c];rw[show k+1+i=k+(i+1) by omega]
theorem new_ok (hF:Frm F k8)(H:F w (mkB B 0 s.bx)){c:List AV}(h:s.new k8 c = .val r s')(t:TypeId):∃B',F (w.alloc (.cells (AV.denL B c).toArray t)) (mkB B' 0 s'.bx)/\s'.act B'=s.act B/\r.den B' = .pointer (some ⟨w.heap.size,0,none⟩)/\(∀(i:Nat) c,s.bx[i]? = some c->B' i=B i/\AV.denL B' c=AV.denL B c):=by
 unfold St.new at h;split at h
 ·rename_i hw;cases h;simp only[Bool.and_eq_true,Bool.or_eq_true,Bool.not_eq_true']at hw;obtain⟨⟨⟨h8,h1⟩,h2⟩,h3⟩:=hw;have hB:∀i,i<s.bx.length->B i=(fun i=>if i=s.bx.length then w.heap.size else B i) i:=fun i hi=>by
   simp only;rw[if_neg (by omega)]
  refine⟨fun i=>if i=s.bx.length then w.heap.size else B i,?_,?_,?_,fun i c hi=>?_⟩
  ·rw[oI,<- qE hB s.bx 0 (by omega) h3];simp only[mkB,Nat.zero_add,if_true,<- AV.cU hB c h2];exact hF.new H fun hk=>rQ (h8.resolve_left (by rw[hk];decide))
  ·simp only[St.act,<- AV.cU hB s.tm h1]
  ·simp only[AV.den,if_true]
  ·have hl:=(List.getElem?_eq_some_iff.1 hi).1;exact⟨(hB i hl).symm,(AV.cU hB c (List.all_eq_true.1 h3 c (List.mem_of_getElem? hi))).symm⟩
 ·cases h
theorem evM_ok (hF:Frm F k8)(hT:TTok P tt)(H:F w (mkB B 0 s.bx))(o:Oper)(h:evOp tt k8 s o.op = .val r s')(hq:quiet o.op=false) :
  ∃B' w',F w' (mkB B' 0 s'.bx)/\s'.act B'=s.act B/\((execOp (s.act B).eval o).run P w = .ok (.value (r.den B')) w'\/((execOp (s.act B).eval o).run P w = .ok .skip w'/\r.den B'=undef))/\(∀(i:Nat) c,s.bx[i]? = some c->B' i=B i/\AV.denL B' c=AV.denL B c):=by
 obtain⟨dst,op,ty,pos,after,gd⟩:=o;simp only at h hq;cases op<;>first|(cases hq;done)|skip
 case alloc t =>
  simp only[evOp]at h;split at h
  ·rename_i i hi;obtain⟨B',h1,h2,h3,h4⟩:=new_ok hF H h t;refine⟨B',_,h1,h2,.inl ?_,h4⟩;obtain⟨q,hq1,_⟩:=(hT _ _ hi).info;obtain⟨z,hz1,hz2⟩:=(hT _ _ hi).zero;rw[hq1]at hz1;have hz3:q.zero=some z:=hz1;rw[h3,iX];simp only[execOp];simp[Instr.alloc,zeroValue,typeInfo,hq1,hz3,newVar,newRow,newObj,hz2];rfl
  ·cases h
 case box t x =>
  simp only[evOp]at h;split at h
  ·rename_i l hl;obtain⟨B',h1,h2,h3,h4⟩:=new_ok hF H h t;refine⟨B',_,h1,h2,.inl ?_,h4⟩;have hc:=(AV.cs_den B hl).1;rw[h3];simp only[execOp];simp[Instr.box,newVar,newRow,newObj,St.aB,hc];rfl
  ·cases h
 case store t x y =>
  simp only[evOp]at h;split at h
  ·rename_i b o e;split at h
   ·rename_i i c l hi hb hl;split at h
    ·rename_i hw;cases h;simp only[Bool.and_eq_true,Bool.or_eq_true,Bool.not_eq_true',beq_iff_eq,Nat.ble_eq]at hw;obtain⟨⟨⟨hro,h8⟩,hn⟩,hlen⟩:=hw;rw[cZ]at hb;have hg:(mkB B 0 s.bx)[b]? = some (B b,AV.denL B c):=by rw[fJ,hb,Nat.zero_add];rfl
     have hll:(AV.denL B l).length=l.length:=by rw[AV.denL_eq,List.length_map]
     have hlc:(AV.denL B c).length=c.length:=by rw[AV.denL_eq,List.length_map]
     have H2:=hF.set H (vs:=AV.denL B l) (o:=o) hg (by omega) (fun hk=>rQ (h8.resolve_left (by rw[hk];decide))) hro;refine⟨B,w.setCells (B b) o (AV.denL B l),?_,rfl,.inr ⟨?_,rfl⟩,fun _ _ _=>⟨rfl,rfl⟩⟩
     ·rw[sH,xD,oM hlen,Nat.zero_add];exact H2
     ·have bx:=hF.box H hg;obtain⟨hcs,hone⟩:=AV.cs_den B hl;have q:=run_storeCells_cells (P:=P) (B b) o (AV.denL B l) 0 w (fun j hj=>by
       rw[Nat.add_zero];rw[(bx.2 (o+j) _ (List.getElem?_eq_getElem (by simp only;omega))).1];rfl) (fun j hj=>by
       rw[Nat.add_zero];exact(bx.2 (o+j) _ (List.getElem?_eq_getElem (by simp only;omega))).2) hone
      obtain⟨ti,ht1,ht2⟩:=(hT _ _ hi).info;simp only[execOp];rw[St.aB,St.aB,e];rw[Nat.add_zero]at q;simp[AV.den,Instr.storeAt,Instr.sureAddr,storeVar,sizeOf,typeInfo,ht1,ht2,hcs,hll,hn,q]
    ·cases h
   ·cases h
  ·cases h
end

structure Pl where
 M:List Nat
 J:Nat
 st:List Stg
 m:List Bool
inductive Ex where
 | n|exit (id:Nat)|goto (l:Nat)|ret
def Ex.out:Ex->Exit
 | .n=>.normal
 | .exit id=>.exit id
 | .goto l=>.goto l
 | .ret=>.ret
inductive KF where
 | seq (c:Code)
 | blk (id:Nat)
 | inv (J:Act->World->Prop)
inductive Cf where
 | code (c:Code)
 | ops (l r:List Oper)
 | pl (l:List Oper) (J:Nat) (m:List Bool) (b0:List (List AV)) (ok:Bool) (st:List Stg)
 | hd (l:List Oper) (J:Nat) (m:List Bool) (b0:List (List AV)) (ok:Bool) (h:List Nat) (st:List Stg)
 | ex (e:Ex)
inductive Out where
 | fin (e:Ex) (s:St)
 | call (f:FuncId) (args:List AV) (dst:Option Tmp) (c:Cf) (s:St) (k:List KF)
 | br (e:BE) (x y:Code) (s:St) (k:List KF)
 | inv (J:Act->World->Prop) (s:St)
 | at (c:Cf) (s:St) (k:List KF)
inductive Rs where
 | go (c:Cf) (s:St) (k:List KF)
 | out (o:Out)
def wantA (l:List Oper)(s:St)(o:Oper):Option Bool:=match o.guard with
 | none=>some true
 | some (j,b)=>match getN l j with
  | some g=>match g.dst with
   | some d=>match getN s.tm d with
    | some (.b (.l x))=>some (x==b)
    | _=>none
   | none=>none
  | none=>none
def isMk (m:List Bool)(b:Nat):Bool:=match getN m b with
 | some x=>x
 | none=>false
def stOk (m:List Bool)(b0:List (List AV))(s:St):Op->Bool
 | .store _ x _=>match s.ev x with
  | .p b _=>isMk m b || Nat.ble b0.length b
  | _=>false
 | _=>true
def callA (s:St):Op->Option (FuncId × List AV)
 | .call c=>match c.callee with
  | .value f=>match s.ev f with
   | .f (.func g) a x=>some (g,a++c.args.toList.map s.ev++x)
   | _=>none
  | _=>none
 | _=>none
def mskA:List Bool->List (List AV)->List (List AV)
 | _,[]=>[]
 | [],c::l=>c::mskA [] l
 | x::m,c::l=>(match x with|true=>[]|false=>c)::mskA m l
def hdB (ok:Bool)(m:List Bool)(b0:List (List AV)):Op->List (List AV)
 | .load _ _=>match ok with
  | true=>mskA m b0
  | false=>[]
 | _=>[]
def stp (tt:TypeId->Option TI)(k8:KB)(pls:Nat->Option Pl)(fs:FuncId->Bool):Cf->St->List KF->Rs
 | .code .skip,s,k=>.go (.ex .n) s k
 | .code (.label _),s,k=>.go (.ex .n) s k
 | .code (.seq a b),s,k=>.go (.code a) s (.seq b::k)
 | .code (.block id c),s,k=>.go (.code c) s (.blk id::k)
 | .code .ret,s,k=>.go (.ex .ret) s k
 | .code (.exit id),s,k=>.go (.ex (.exit id)) s k
 | .code (.goto l),s,k=>.go (.ex (.goto l)) s k
 | .code (.cond c x y),s,k=>match s.ev c with
  | .b (.l true)=>.go (.code x) s k
  | .b (.l false)=>.go (.code y) s k
  | .b e=>.out (.br e x y s k)
  | _=>.out (.at (.code (.cond c x y)) s k)
 | .code (.region id l d),s,k=>match d with
  | false=>.go (.ops l.toList l.toList) s k
  | true=>match pls id with
   | some p=>.go (.pl l.toList p.J p.m s.bx true p.st) s k
   | none=>.out (.at (.code (.region id l true)) s k)
 | .code c,s,k=>.out (.at (.code c) s k)
 | .ops _ [],s,k=>.go (.ex .n) s k
 | .ops l (o::r),s,k=>match wantA l s o with
  | none=>.out (.at (.ops l (o::r)) s k)
  | some false=>.go (.ops l r) (s.put o.dst (.v undef)) k
  | some true=>match evOp tt k8 s o.op with
   | .val v s'=>.go (.ops l r) (s'.put o.dst v) k
   | .no=>match callA s o.op with
    | some (f,a)=>match fs f with
     | true=>.out (.call f a o.dst (.ops l r) s k)
     | false=>.out (.at (.ops l (o::r)) s k)
    | none=>.out (.at (.ops l (o::r)) s k)
 | .pl _ _ _ _ _ [],s,k=>.go (.ex .n) s k
 | .pl l J m b0 ok (.h h::st),s,k=>match ok || h.all fun i=>match l.toArray[i]? with|some o=>!hG J i o|none=>true with
  | true=>.go (.hd l J m b0 ok h st) s k
  | false=>.out (.at (.pl l J m b0 ok (.h h::st)) s k)
 | .pl l J m b0 ok (.o j::st),s,k=>match getN l j with
  | none=>.out (.at (.pl l J m b0 ok (.o j::st)) s k)
  | some o=>match wantA l s o with
   | none=>.out (.at (.pl l J m b0 ok (.o j::st)) s k)
   | some false=>match ok || !J.testBit j with
    | true=>.go (.pl l J m b0 ok st) (s.put o.dst (.v undef)) k
    | false=>.out (.at (.pl l J m b0 ok (.o j::st)) s k)
   | some true=>match evOp tt k8 s o.op with
    | .val v s'=>match (ok&&stOk m b0 s o.op) || !J.testBit j with
     | true=>.go (.pl l J m b0 (ok&&stOk m b0 s o.op) st) (s'.put o.dst v) k
     | false=>.out (.at (.pl l J m b0 ok (.o j::st)) s k)
    | .no=>match callA s o.op with
     | some (f,a)=>match fs f&&(ok || !J.testBit j) with
      | true=>.out (.call f a o.dst (.pl l J m b0 ok st) s k)
      | false=>.out (.at (.pl l J m b0 ok (.o j::st)) s k)
     | none=>.out (.at (.pl l J m b0 ok (.o j::st)) s k)
 | .hd l J m b0 ok [] st,s,k=>.go (.pl l J m b0 ok st) s k
 | .hd l J m b0 ok (j::h) st,s,k=>match getN l j with
  | none=>.out (.at (.hd l J m b0 ok (j::h) st) s k)
  | some o=>match wantA l s o with
   | none=>.out (.at (.hd l J m b0 ok (j::h) st) s k)
   | some false=>.go (.hd l J m b0 ok h st) (s.put o.dst (.v undef)) k
   | some true=>match quiet o.op,evOp tt k8 ⟨s.tm,hdB ok m b0 o.op⟩ o.op with
    | true,.val v _=>.go (.hd l J m b0 ok h st) (s.put o.dst v) k
    | _,_=>.out (.at (.hd l J m b0 ok (j::h) st) s k)
 | .ex e,s,[]=>.out (.fin e s)
 | .ex .n,s,.seq c::k=>.go (.code c) s k
 | .ex e,s,.seq _::k=>.go (.ex e) s k
 | .ex (.exit i),s,.blk id::k=>match i==id with
  | true=>.go (.ex .n) s k
  | false=>.go (.ex (.exit i)) s k
 | .ex e,s,.blk _::k=>.go (.ex e) s k
 | .ex .n,s,.inv J::_=>.out (.inv J s)
 | .ex e,s,.inv _::k=>.go (.ex e) s k
def run (tt:TypeId->Option TI)(k8:KB)(pls:Nat->Option Pl)(fs:FuncId->Bool):Nat->Cf->St->List KF->Out
 | 0,c,s,k=>.at c s k
 | n+1,c,s,k=>match stp tt k8 pls fs c s k with
  | .go c s k=>run tt k8 pls fs n c s k
  | .out o=>o
def plB (pls:Nat->Option Pl):Code->Bool
 | .region id l true=>match pls id with
  | some p=>Region.noSelect l&&maskOk l p.M&&planB l.toList p.M p.J p.st (Array.replicate l.toList.length false)&&decide (planN p.st=l.toList.length)
  | none=>true
 | .seq a b | .cond _ a b=>plB pls a&&plB pls b
 | .block _ c | .loop c | .scope c=>plB pls c
 | _=>true
section
variable (P:Program) (Q:Exit->Act->World->Prop)
def semK:List KF->Exit->Act->World->Prop
 | []=>Q
 | .seq c::k=>Exit.then (fun a w=>c.wp P (semK k) a w) (semK k)
 | .blk id::k=>Exit.inBlock id (semK k)
 | .inv J::k=>Exit.then J (semK k)
def Bxs (B:Nat->Nat)(m:List Bool)(b0:List (List AV))(w:World):Prop:=∀(i:Nat) c,b0[i]? = some c->isMk m i=false->Box w (B i,AV.denL B c)
def Agr (m:List Bool)(b0 bx:List (List AV)):Prop:=∀(i:Nat) c,b0[i]? = some c->isMk m i=false->bx[i]? = some c
def Ok (F:World->Bx->Prop)(c:Cf)(s:St)(k:List KF):Prop:=∀B w,F w (mkB B 0 s.bx)->match c with
 | .code c=>c.wp P (semK P Q k) (s.act B) w
 | .ops l r=>wpList P l.toArray (semK P Q k) r (s.act B) w
 | .pl l J m b0 ok st=>∀S,(ok=true->S=Bxs B m b0/\Agr m b0 s.bx)->wpPlan P l J S (semK P Q k) st (s.act B) w
 | .hd l J m b0 ok h st=>∀S,(ok=true->S=Bxs B m b0/\Agr m b0 s.bx)->dG P l.toArray S (fun A=>wpPlan P l J S (semK P Q k) st A w) (h.flatMap fun i=>(l.drop i).take 1) (s.act B)
 | .ex e=>semK P Q k e.out (s.act B) w
def bE (F:World->Bx->Prop)(_k8:KB):Out->Prop
 | .fin e s=>∀B w,F w (mkB B 0 s.bx)->Q e.out (s.act B) w
 | .call f args dst c s k=>∀B w,F w (mkB B 0 s.bx)->Calls P f (AV.denL B args).toArray w fun e w'=>∃r F',e = .returned (r.den B)/\FrB F'/\F' w' (mkB B 0 s.bx)/\Ok P Q F' c (s.put dst r) k
 | .br e x y s k=>(e.den=true->Ok P Q F (.code x) s k)/\(e.den=false->Ok P Q F (.code y) s k)
 | .inv J s=>∀B w,F w (mkB B 0 s.bx)->J (s.act B) w
 | .at c s k=>Ok P Q F c s k
end
def plCf (pls:Nat->Option Pl):Cf->Bool
 | .code c=>plB pls c
 | _=>true
def plK (pls:Nat->Option Pl):List KF->Bool
 | []=>true
 | .seq c::k=>plB pls c&&plK pls k
 | _::k=>plK pls k
section
variable {P:Program} {Q:Exit->Act->World->Prop} {tt:TypeId->Option TI} {k8:KB} {pls:Nat->Option Pl} {fs:FuncId->Bool} {F:World->Bx->Prop} {B:Nat->Nat} {s s':St} {w:World} {r:AV} {k k':List KF} {c c':Cf}
theorem want_den {l:List Oper}{o:Oper}{x:Bool}(h:wantA l s o=some x):Region.wanted o (yielded l.toArray (s.act B).tmps)=x:=by
 unfold wantA at h;unfold Region.wanted;split at h
 ·rename_i hg;rw[hg];cases h;rfl
 ·rename_i j b hg;rw[hg];split at h
  ·rename_i g hj;split at h
   ·rename_i d hd;split at h
    ·rename_i y hy;cases h;rw[cZ]at hj hy;simp only[yielded,List.getElem?_toArray,hj,Option.bind_some,hd,St.act];rw[denL_get,hy];simp only[Option.map_some,AV.den,BE.den];cases y<;>cases b<;>rfl
    ·cases h
   ·cases h
  ·cases h
theorem oJ:∀(m:List Bool) (l:List (List AV)) (i:Nat) c,(mskA m l)[i]? = some c->c = []\/(l[i]? = some c/\isMk m i=false)
 | _,[],i,c,h=>by simp[mskA]at h
 | [],a::l,0,c,h=>by simp only[mskA,List.getElem?_cons_zero]at h;exact .inr ⟨h,rfl⟩
 | [],a::l,i+1,c,h=>by
  simp only[mskA,List.getElem?_cons_succ]at h;rcases oJ [] l i c h with h|⟨h,_⟩
  ·exact .inl h
  ·exact .inr ⟨h,rfl⟩
 | x::m,a::l,0,c,h=>by
  cases x
  ·simp only[mskA,List.getElem?_cons_zero]at h;exact .inr ⟨h,rfl⟩
  ·simp only[mskA,List.getElem?_cons_zero]at h;cases h;exact .inl rfl
 | x::m,a::l,i+1,c,h=>by
  simp only[mskA,List.getElem?_cons_succ]at h;rcases oJ m l i c h with h|⟨h,h2⟩
  ·exact .inl h
  ·exact .inr ⟨h,h2⟩
theorem Bxs.cel {m:List Bool}{b0:List (List AV)}{tm:List AV}(h:Bxs B m b0 w):Cel B ⟨tm,mskA m b0⟩ w:=fun i c hi j v hv=>by
 rcases oJ m b0 i c hi with rfl|⟨h1,h2⟩
 ·simp[AV.denL]at hv
 ·exact((h i c h1 h2).2 j v hv).1
theorem FrB.bxs (hF:FrB F){m:List Bool}{b0:List (List AV)}(H:F w (mkB B 0 s.bx))(ha:Agr m b0 s.bx):Bxs B m b0 w:=fun i c hi hm=>by
 have:=hF.box H (i:=i) (by rw[fJ,ha i c hi hm];rfl)
 rwa [Nat.zero_add]at this
theorem run_callF {f : FuncId} {fn : Func} {args : Array Value} (hf : P.funcs[f]? = some fn) (hb : fn.body.isSome = true) (hn : (fn.name == "runtime.NumGoroutine") = false) : (callFunc f args).run P w = .ok (.enter f args) w := by
 have hnb:fn.body.isNone=false:=by cases e:fn.body<;>simp_all
 unfold callFunc;rw[Sem.run_bind];show Sem.run P (match P.funcs[f]? with|none=>_|some fn=>_) w=_;rw[hf];simp only;rw[if_neg (by rw[hn];decide),if_neg (by rw[hnb];decide)];rfl
theorem xU {o : Oper} {f : FuncId} {a : List AV} (h : callA s o.op = some (f, a)) {fn : Func} (hf : P.funcs[f]? = some fn) (hb : fn.body.isSome = true) (hn : (fn.name == "runtime.NumGoroutine") = false) : (execOp (s.act B).eval o).run P w = .ok (.enter f (AV.denL B a).toArray) w := by
 obtain⟨dst,op,ty,pos,after,gd⟩:=o;simp only at h;cases op<;>simp only[callA]at h<;>first|(cases h;done)|skip
 rename_i c;split at h
 ·rename_i x hc;split at h
  ·rename_i g a1 a2 hx;cases h;simp only[execOp,resolve,hc,St.aB,hx,AV.den,Deferred.ofValue,Sem.run_bind,Sem.run_pure,Result.andThen_ok,invoke];rw[run_callF hf hb hn]
   congr 2
   simp only[AV.denL_eq,List.map_append,List.map_map];rw[<- Array.toList_inj];simp[Function.comp_def,St.aB]
  ·cases h
 ·cases h
structure Env (P:Program)(Q:Exit->Act->World->Prop)(tt:TypeId->Option TI)(fs:FuncId->Bool):Prop where
 tt:TTok P tt
 mix:P.follows .mixedOrders=true
 pan:∀c (a:Act) t w,Q (.panic c) { a with tmps:=t } w->Q (.panic c) a w
 fs : ∀ f, fs f = true → ∃ fn, P.funcs[f]? = some fn ∧ fn.body.isSome = true ∧ (fn.name == "runtime.NumGoroutine") = false
theorem hP (hp:∀c (a:Act) t w,Q (.panic c) { a with tmps:=t } w->Q (.panic c) a w):∀(k:List KF) c (a:Act) t w,semK P Q k (.panic c) { a with tmps:=t } w->semK P Q k (.panic c) a w
 | [],c,a,t,w,h=>hp c a t w h
 | .seq _::k,c,a,t,w,h=>hP hp k c a t w h
 | .blk _::k,c,a,t,w,h=>hP hp k c a t w h
 | .inv _::k,c,a,t,w,h=>hP hp k c a t w h
theorem wpList_on {l:List Oper}{o:Oper}{rs:List Oper}{Q':Exit->Act->World->Prop}{a:Act}(hw:Region.wanted o (yielded l.toArray a.tmps)=true)(h:o.wp P a w (wpList P l.toArray Q' rs) Q'):wpList P l.toArray Q' (o::rs) a w:=by
 unfold wpList;rw[if_pos hw];exact .inl h
theorem wpList_off {l:List Oper}{o:Oper}{rs:List Oper}{Q':Exit->Act->World->Prop}{a:Act}(hw:Region.wanted o (yielded l.toArray a.tmps)=false)(h:wpList P l.toArray Q' rs (a.put o.dst undef) w):wpList P l.toArray Q' (o::rs) a w:=by
 unfold wpList;rw[if_neg (by rw[hw];decide)];exact h
theorem aKE (E:Env P Q tt fs)(hF:Frm F k8){o:Oper}(h:evOp tt k8 s o.op = .val r s')(H:F w (mkB B 0 s.bx)){K:Act->World->Prop}{Q':Exit->Act->World->Prop}
  (hk:∀B' w',F w' (mkB B' 0 s'.bx)->(quiet o.op=true->s'=s)->(∀(i:Nat) c,s.bx[i]? = some c->B' i=B i/\AV.denL B' c=AV.denL B c)->K ((s'.put o.dst r).act B') w'):o.wp P (s.act B) w K Q':=by
 unfold Oper.wp;cases hq:quiet o.op
 ·obtain⟨B',w',h1,h2,h3,h5⟩:=evM_ok hF E.tt H o h hq;have:=hk B' w' h1 (fun e=>by rw[hq]at e;cases e) h5;rw[St.bR,h2]at this;rcases h3 with h3|⟨h3,h4⟩
  ·rw[h3];exact this
  ·rw[h3,Oper.upon_skip,<- h4];exact this
 ·obtain⟨rfl,h1⟩:=evQ_ok E.tt (hF.cel H) o h hq;rw[h1];have:=hk B w H (fun _=>rfl) (fun _ _ _=>⟨rfl,rfl⟩);rw[St.bR]at this;exact this
theorem aKN {op:Op}{m:List Bool}{b0:List (List AV)}(h:evOp tt k8 s op = .val r s')(hq:quiet op=true->s'=s)(hs:stOk m b0 s op=true)(ha:Agr m b0 s.bx):Agr m b0 s'.bx:=by
 have new:∀c,s.new k8 c = .val r s'->Agr m b0 s'.bx:=fun c hc i d hi hm=>by
  unfold St.new at hc;split at hc
  ·cases hc;have:=ha i d hi hm;rw[List.getElem?_append_left (List.getElem?_eq_some_iff.1 this).1];exact this
  ·cases hc
 cases op with
 | alloc t =>
  simp only[evOp]at h;split at h
  ·exact new _ h
  ·cases h
 | box t x =>
  simp only[evOp]at h;split at h
  ·exact new _ h
  ·cases h
 | store t x y =>
  simp only[evOp]at h;simp only[stOk]at hs;split at h
  ·rename_i b o e;rw[e]at hs;split at h
   ·split at h
    ·cases h;intro i d hi hm;rw[sH,List.getElem?_set_ne (by rintro rfl;simp only[hm,Bool.false_or,Nat.ble_eq]at hs;have:=(List.getElem?_eq_some_iff.1 hi).1;omega)];exact ha i d hi hm
    ·cases h
   ·cases h
  ·cases h
 | _=>rw[hq rfl];exact ha
theorem Bxs.eq {C:Nat->Nat}{m:List Bool}{b0:List (List AV)}(h:∀(i:Nat) c,b0[i]? = some c->isMk m i=false->C i=B i/\AV.denL C c=AV.denL B c):Bxs C m b0=Bxs B m b0:=by
 funext w
 refine propext ⟨fun q i c hi hm=>?_,fun q i c hi hm=>?_⟩
 ·have:=q i c hi hm
  rwa [(h i c hi hm).1,(h i c hi hm).2]at this
 ·rw[(h i c hi hm).1,(h i c hi hm).2];exact q i c hi hm
theorem wU (E:Env P Q tt fs){o:Oper}{f:FuncId}{a:List AV}(h:callA s o.op=some (f,a))(hf:fs f=true){K:Act->World->Prop}{Q':Exit->Act->World->Prop}
  {R:Ending->World->Prop} (hc:Calls P f (AV.denL B a).toArray w R) (hk:∀e w',R e w' -> ∃r:AV,e = .returned (r.den B)/\K ((s.put o.dst r).act B) w'):o.wp P (s.act B) w K Q':=by
 unfold Oper.wp;obtain⟨fn,h1,h2,h3⟩:=E.fs f hf;rw[xU h h1 h2 h3,Oper.upon_enter];refine hc.mono fun e w' he=>?_;obtain⟨r,rfl,hr⟩:=hk e w' he;rw[St.bR]at hr;exact hr
theorem stp_ok (E:Env P Q tt fs)(hF:Frm F k8)(hc:plCf pls c=true)(hk:plK pls k=true):match stp tt k8 pls fs c s k with
  | .go c' s' k'=>plCf pls c'=true/\plK pls k'=true/\(Ok P Q F c' s' k'->Ok P Q F c s k)
  | .out o=>bE P Q F k8 o->Ok P Q F c s k:=by
 cases c with
 | code c =>
  cases c with
  | skip=>exact⟨rfl,hk,fun h B w H=>wp_skip (h B w H)⟩
  | label l=>exact⟨rfl,hk,fun h B w H=>wp_label (h B w H)⟩
  | ret=>exact⟨rfl,hk,fun h B w H=>wp_ret (h B w H)⟩
  | exit i=>exact⟨rfl,hk,fun h B w H=>wp_exit (h B w H)⟩
  | goto l=>exact⟨rfl,hk,fun h B w H=>wp_goto (h B w H)⟩
  | seq a b =>
   simp only[plCf,plB,Bool.and_eq_true]at hc;exact⟨hc.1,by simp only[plK,Bool.and_eq_true];exact⟨hc.2,hk⟩,fun h B w H=>wp_seq (h B w H)⟩
  | block id c=>exact⟨hc,hk,fun h B w H=>wp_block (h B w H)⟩
  | cond c x y =>
   simp only[plCf,plB,Bool.and_eq_true]at hc;simp only[stp];split
   ·rename_i h;split at h
    ·rename_i e;cases h;exact⟨hc.1,hk,fun h B w H=>wp_cond_true (by rw[St.aB,e];rfl) (h B w H)⟩
    ·rename_i e;cases h;exact⟨hc.2,hk,fun h B w H=>wp_cond_false (by rw[St.aB,e];rfl) (h B w H)⟩
    ·cases h
    ·cases h
   ·rename_i h;split at h
    ·cases h
    ·cases h
    ·rename_i e _ _ he;cases h;intro h B w H;exact wp_cond_split (t:=e.den) (by rw[St.aB,he,AV.den]) (fun ht=>h.1 ht B w H) (fun ht=>h.2 ht B w H)
    ·cases h;exact id
  | region id l d =>
   cases d with
   | false =>
    refine⟨rfl,hk,fun h B w H=>?_⟩;have:=h B w H;exact wp_region_list (by simpa using this)
   | true =>
    simp only[stp];split
    ·rename_i h;split at h
     ·rename_i p hp;cases h;refine⟨rfl,hk,fun h B w H=>?_⟩;simp only[plCf,plB,hp]at hc;have q:=mZ (P:=P) (l:=l.toList) (Q:=semK P Q k) (a:=s.act B) (w:=w) (id:=id) p.M p.J p.st (Bxs B p.m s.bx) E.mix (by simpa using hc) (hP E.pan k)
       (fun v o hv i c hi hm=>(hv i c hi hm).kept (Kept.alloc v o (fun _=>False)) (fun h=>h)) (h B w.drew (hF.drew H) _ (fun _=>⟨rfl,fun i c hi _=>hi⟩))
      simpa using q
     ·cases h
    ·rename_i h;split at h
     ·cases h
     ·cases h;exact fun h=>h
  | loop c=>exact id
  | rangeFunc f p a b=>exact id
  | scope c=>exact id
  | refuse y=>exact id
 | ops l r =>
  cases r with
  | nil=>exact⟨rfl,hk,fun h B w H=>wpList_nil (h B w H)⟩
  | cons o r =>
   simp only[stp];split
   ·rename_i h;split at h
    ·cases h
    ·rename_i hw;cases h;refine⟨rfl,hk,fun h B w H=>wpList_off (want_den hw) ?_⟩;have:=h B w (by cases o.dst<;>exact H)
     rwa [St.bR]at this
    ·rename_i hw;split at h
     ·rename_i v s' hv;cases h;refine⟨rfl,hk,fun h B w H=>wpList_on (want_den hw) (aKE E hF hv H fun B' w' H' _ _=>h B' w' ?_)⟩;cases o.dst<;>exact H'
     ·split at h
      ·split at h<;>cases h
      ·cases h
   ·rename_i h;split at h
    ·cases h;exact fun h=>h
    ·cases h
    ·rename_i hw;split at h
     ·cases h
     ·split at h
      ·rename_i f a hca;split at h
       ·rename_i hfs;cases h;intro h B w H;refine wpList_on (want_den hw) (wU E hca hfs (h B w H) fun e w' he=>?_);obtain⟨x,F',h1,_,h3,h4⟩:=he;exact⟨x,h1,h4 B w' (by cases o.dst<;>exact h3)⟩
       ·cases h;exact fun h=>h
      ·cases h;exact fun h=>h
 | pl l J m b0 ok st =>
  cases st with
  | nil=>exact⟨rfl,hk,fun h B w H _ _=>aIy (h B w H)⟩
  | cons x st =>
   cases x with
   | h hs =>
    simp only[stp];split
    ·rename_i h;split at h
     ·rename_i hok;cases h;refine⟨rfl,hk,fun h B w H S ha=>aIx ?_ (h B w H S ha)⟩;rcases Bool.or_eq_true _ _ ▸ hok with h1|h1
      ·exact .inr (by rw[(ha h1).1];exact hF.b.bxs H (ha h1).2)
      ·exact .inl h1
     ·cases h
    ·rename_i h;split at h
     ·cases h
     ·cases h;exact fun h=>h
   | o j =>
    have tk:∀o,getN l j=some o->(l.drop j).take 1 = [o]:=fun o ho=>by
     rw[cZ]at ho;obtain⟨hl,he⟩:=List.getElem?_eq_some_iff.1 ho;rw[List.drop_eq_getElem_cons hl,he];rfl
    have or2:∀ {x:Bool},(x || !J.testBit j)=true->J.testBit j=true->x=true:=fun {x} h1 h2=>by cases x<;>simp_all
    simp only[stp];split
    ·rename_i h;split at h
     ·cases h
     ·rename_i o ho;split at h
      ·cases h
      ·rename_i hw;split at h
       ·rename_i hok;cases h;refine⟨rfl,hk,fun h B w H S ha=>jH ?_⟩;rw[tk o ho];refine wpList_off (want_den hw) (wpList_nil (eQ (fun hJ=>by rw[(ha (or2 hok hJ)).1];exact hF.b.bxs H (ha (or2 hok hJ)).2) ?_));have:=h B w (by cases o.dst<;>exact H) S (by cases o.dst<;>exact ha)
        rwa [St.bR]at this
       ·cases h
      ·rename_i hw;split at h
       ·rename_i v s' hv;split at h
        ·rename_i hst;cases h;refine⟨rfl,hk,fun h B w H S ha=>jH ?_⟩;rw[tk o ho];refine wpList_on (want_den hw) (aKE E hF hv H fun B' w' H' hq hB=>wpList_nil ?_);have hagr:(ok&&stOk m b0 s o.op)=true->S=Bxs B' m b0/\Agr m b0 s'.bx:=fun e=>by
          rw[Bool.and_eq_true]at e;have ha2:=ha e.1;exact⟨ha2.1.trans (Bxs.eq fun i c hi hm=>hB i c (ha2.2 i c hi hm)).symm,aKN hv hq e.2 ha2.2⟩
         refine eQ (fun hJ=>?_) (h B' w' (by cases o.dst<;>exact H') S (by cases o.dst<;>exact hagr));have:=hagr (or2 hst hJ);rw[this.1];exact hF.b.bxs H' this.2
        ·cases h
       ·split at h
        ·split at h<;>cases h
        ·cases h
    ·rename_i h;split at h
     ·cases h;exact fun h=>h
     ·rename_i o ho;split at h
      ·cases h;exact fun h=>h
      ·split at h
       ·cases h
       ·cases h;exact fun h=>h
      ·rename_i hw;split at h
       ·split at h
        ·cases h
        ·cases h;exact fun h=>h
       ·split at h
        ·rename_i f a hca;split at h
         ·rename_i hfs;cases h;rw[Bool.and_eq_true]at hfs;intro h B w H S ha;refine jH ?_;rw[tk o ho];refine wpList_on (want_den hw) (wU E hca hfs.1 (h B w H) fun e w' he=>?_);obtain⟨x,F',h1,hF',h3,h4⟩:=he;have h3':F' w' (mkB B 0 (s.put o.dst x).bx):=by cases o.dst<;>exact h3
          have ha':ok=true->S=Bxs B m b0/\Agr m b0 (s.put o.dst x).bx:=by cases o.dst<;>exact ha
          exact⟨x,h1,wpList_nil (eQ (fun hJ=>by rw[(ha' (or2 hfs.2 hJ)).1];exact FrB.bxs hF' h3' (ha' (or2 hfs.2 hJ)).2) (h4 B w' h3' S ha'))⟩
         ·cases h;exact fun h=>h
        ·cases h;exact fun h=>h
 | hd l J m b0 ok hs st =>
  cases hs with
  | nil=>exact⟨rfl,hk,fun h B w H S ha=>cP (h B w H S ha)⟩
  | cons j hs =>
   have tk:∀o,getN l j=some o->((j::hs).flatMap fun i=>(l.drop i).take 1)=o::(hs.flatMap fun i=>(l.drop i).take 1):=fun o ho=>by
    rw[cZ]at ho;obtain⟨hl,he⟩:=List.getElem?_eq_some_iff.1 ho;rw[List.flatMap_cons,List.drop_eq_getElem_cons hl,he];rfl
   simp only[stp];split
   ·rename_i h;split at h
    ·cases h
    ·rename_i o ho;split at h
     ·cases h
     ·rename_i hw;cases h;refine⟨rfl,hk,fun h B w H S ha=>?_⟩;rw[tk o ho];refine fD (want_den hw) ?_;have:=h B w (by cases o.dst<;>exact H) S (by cases o.dst<;>exact ha)
      rwa [St.bR]at this
     ·rename_i hw;split at h
      ·rename_i v s1 hq hv;cases h;refine⟨rfl,hk,fun h B w H S ha=>?_⟩;rw[tk o ho];have hgo:=h B w (by cases o.dst<;>exact H) S (by cases o.dst<;>exact ha);rw[St.bR]at hgo;have hact:St.act B ⟨s.tm,hdB ok m b0 o.op⟩=s.act B:=rfl;cases hld:loadLike o.op
       ·refine cA (v.den B) (want_den hw) (fun w'=>?_) hgo;have hc:Cel B ⟨s.tm,hdB ok m b0 o.op⟩ w':=fun i c hi=>by
         cases e:o.op<;>rw[e]at hi hld<;>first|(cases hld;done)|(simp[hdB]at hi)
        exact(evQ_ok E.tt hc o hv hq).2
       ·refine cK (v.den B) (want_den hw) (fun w' hS=>?_) hld hgo;have hc:Cel B ⟨s.tm,hdB ok m b0 o.op⟩ w':=fun i c hi=>by
         cases e:o.op<;>rw[e]at hi hld<;>first|(cases hld;done)|(simp[hdB]at hi;done)|skip
         cases hok:ok
         ·rw[hok]at hi;simp[hdB]at hi
         ·rw[hok]at hi;rw[(ha hok).1]at hS;exact Bxs.cel (tm:=s.tm) hS i c hi
        exact(evQ_ok E.tt hc o hv hq).2
      ·cases h
   ·rename_i h;split at h
    ·cases h;exact fun h=>h
    ·split at h
     ·cases h;exact fun h=>h
     ·cases h
     ·split at h
      ·cases h
      ·cases h;exact fun h=>h
 | ex e =>
  cases k with
  | nil=>exact fun h=>h
  | cons x k =>
   cases x with
   | seq c =>
    simp only[plK,Bool.and_eq_true]at hk;cases e with
    | n=>exact⟨hk.1,hk.2,fun h=>h⟩
    | _=>exact⟨rfl,hk.2,fun h=>h⟩
   | blk i =>
    cases e with
    | exit q =>
     simp only[stp];split
     ·rename_i h;split at h
      ·rename_i e;cases h;refine⟨rfl,hk,fun h B w H=>?_⟩;have:=h B w H;simp only[semK,Exit.inBlock,Ex.out];rw[if_pos (by simpa using e)];exact this
      ·rename_i e;cases h;refine⟨rfl,hk,fun h B w H=>?_⟩;have:=h B w H;simp only[semK,Exit.inBlock,Ex.out];rw[if_neg (by simpa using e)];exact this
     ·rename_i h;split at h<;>cases h
    | _=>exact⟨rfl,hk,fun h=>h⟩
   | inv I =>
    cases e with
    | n=>exact fun h=>h
    | _=>exact⟨rfl,hk,fun h=>h⟩
theorem run_ok (E:Env P Q tt fs)(hF:Frm F k8):∀(n:Nat) (c:Cf) (s:St) (k:List KF),plCf pls c=true->plK pls k=true->bE P Q F k8 (run tt k8 pls fs n c s k)->Ok P Q F c s k
 | 0,c,s,k,_,_,h=>h
 | n+1,c,s,k,hc,hk,h=>by
  have q:=stp_ok (s:=s) E hF hc hk;rw[run]at h;split at h
  ·rename_i c' s' k' e;rw[e]at q;exact q.2.2 (run_ok E hF n c' s' k' q.1 q.2.1 h)
  ·rename_i o e;rw[e]at q;exact q h
end

def z1:Value->Value->Bool
 | .int k n,.int k' n'=>decide (k=k')&&n==n'
 | .bool b,.bool b'=>b==b'
 | .string s,.string t=>s.data.toList==t.data.toList
 | .pointer none,.pointer none=>true
 | .slice none n c,.slice none n' c'=>n==n'&&c==c'
 | .map none,.map none=>true
 | .nilFunc,.nilFunc=>true
 | .nilIface,.nilIface=>true
 | _,_=>false
def zL:List Value->List Value->Bool
 | [],[]=>true
 | a::l,b::m=>z1 a b&&zL l m
 | _,_=>false
theorem aOI {a b:Value}(h:z1 a b=true):a=b:=by
 unfold z1 at h;split at h
 ·simp only[Bool.and_eq_true,decide_eq_true_eq,beq_iff_eq]at h;rw[h.1,h.2]
 ·simp only[beq_iff_eq]at h;rw[h]
 ·rename_i s t;simp only[beq_iff_eq]at h
  congr 1
  cases s;cases t
  congr 1
  exact Array.toList_inj.1 h
 ·rfl
 ·simp only[Bool.and_eq_true,beq_iff_eq]at h;rw[h.1,h.2]
 ·rfl
 ·rfl
 ·rfl
 ·cases h
theorem aKJ:∀ {a b:List Value},zL a b=true->a=b
 | [],[],_=>rfl
 | a::l,b::m,h=>by
  simp only[zL,Bool.and_eq_true]at h;rw[aOI h.1,aKJ h.2]
 | [],_::_,h=>by cases h
 | _::_,[],h=>by cases h
def shB:TypeDesc->Sh->Bool
 | .int k,.int k'=>decide (k=k')
 | .bool,.bool=>true
 | .pointer _,.ptr=>true
 | .slice _,.sl=>true
 | .string,.str=>true
 | _,.o=>true
 | .struct _,.row=>true
 | .array _ _,.row=>true
 | _,_=>false
def fsB (P:Program)(i:TI):TypeDesc->Bool
 | .struct fs=>fs.toList.map (fun f=>(f.offset,f.type))==i.fs&&fs.toList.mapM (fun f=>(P.info? f.type).map fun i=>(f.offset,i.size))==some i.ps
 | _=>i.fs.isEmpty
def eqFB (P:Program):List Field->List (Nat × Sh)->Bool
 | [],[]=>true
 | f :: fs, (o, sh) :: r => f.name != "_" && f.offset == o && (match P.underlying f.type with | some d => shB d sh && !d.isRow | none => false) && eqFB P fs r
 | _,_=>false
def aMu (P:Program)(t:TypeId)(i:TI):TypeDesc->Bool
 | .struct fs=>i.eq.isEmpty || (eqFB P fs.toList i.eq && !P.eqGuardType P.depth t && !P.stoodInHeld t)
 | _=>i.eq.isEmpty
def tyB (P:Program)(t:TypeId)(i:TI):Bool:=match P.info? t,P.underlying t with
 | some q,some d=>q.size==i.n&&(match q.zero with|some v=>zL v.cells.toList i.z|none=>false)&&d.isRow==i.a&&shB d i.sh&&fsB P i d&&aMu P t i d
 | _,_=>false
theorem aIW {d:TypeDesc}{s:Sh}(h:shB d s=true):aL2 d s:=by
 cases d<;>cases s<;>first|(cases h;done)|trivial|rfl|(simp only[shB,decide_eq_true_eq]at h;exact h)
theorem wX {P:Program}:∀ {fs:List Field} {r:List (Nat × Sh)},eqFB P fs r=true->EqF P fs r
 | [],[],_=>trivial
 | f::fs,(o,sh)::r,h=>by
  simp only[eqFB,Bool.and_eq_true,bne_iff_ne,beq_iff_eq]at h;obtain⟨⟨⟨h1,h2⟩,h3⟩,h4⟩:=h;refine⟨h1,h2,?_,wX h4⟩;split at h3
  ·rename_i d hd;simp only[Bool.and_eq_true,Bool.not_eq_true']at h3;exact⟨d,hd,aIW h3.1,h3.2⟩
  ·cases h3
 | [],_::_,h=>by cases h
 | _::_,[],h=>by cases h
theorem tyB_ok {P:Program}{t:TypeId}{i:TI}(h:tyB P t i=true):TyOk P t i:=by
 unfold tyB at h;split at h
 ·rename_i q d hq hd;simp only[Bool.and_eq_true,beq_iff_eq]at h;obtain⟨⟨⟨⟨⟨h1,h2⟩,h3⟩,h4⟩,h5⟩,h6⟩:=h;refine⟨by rw[hq,Option.map_some,h1],?_,⟨d,hd,h3,aIW h4,fun fs e=>?_,fun e=>?_,fun fs e=>?_⟩,fun e=>?_⟩
  ·split at h2
   ·rename_i v hv;exact⟨v,by rw[hq];exact hv,by rw[<- aKJ h2]⟩
   ·cases h2
  ·subst e;simp only[fsB,Bool.and_eq_true,beq_iff_eq]at h5;exact h5.1
  ·cases d with
   | struct fs=>exact⟨fs,rfl⟩
   | _=>exact absurd (List.isEmpty_iff.1 h5) e
  ·subst e;simp only[fsB,Bool.and_eq_true,beq_iff_eq]at h5;exact h5.2
  ·cases d with
   | struct fs =>
    simp only[aMu,Bool.or_eq_true,Bool.and_eq_true,Bool.not_eq_true']at h6;have h7:=h6.resolve_left (fun q=>e (List.isEmpty_iff.1 q));exact⟨fs,hd,wX h7.1.1,h7.1.2,h7.2⟩
   | _=>exact absurd (List.isEmpty_iff.1 h6) e
 ·cases h
inductive TT where
 | e
 | n (l:TT) (t:TypeId) (i:TI) (r:TT)
def TT.look:TT->TypeId->Option TI
 | .e,_=>none
 | .n l t i r,k=>match Nat.blt k t with
  | true=>l.look k
  | false=>match Nat.beq k t with
   | true=>some i
   | false=>r.look k
def TT.ok (P:Program):TT->Bool
 | .e=>true
 | .n l t i r=>tyB P t i&&l.ok P&&r.ok P
theorem TT.look_ok {P:Program}:∀ {T:TT},T.ok P=true->TTok P T.look
 | .e,_,t,i,h=>by cases h
 | .n l t j r,hT,k,i,h=>by
  simp only[TT.ok,Bool.and_eq_true]at hT;rw[TT.look]at h;split at h
  ·exact TT.look_ok hT.1.2 k i h
  ·split at h
   ·rename_i hb;cases h;rw[Nat.eq_of_beq_eq_true hb];exact tyB_ok hT.1.1
   ·exact TT.look_ok hT.2 k i h
def fnB (P:Program)(f:FuncId):Bool:=match P.funcs[f]? with
 | some fn => fn.body.isSome && !(fn.name == "runtime.NumGoroutine")
 | none=>false
theorem aLH {P : Program} {f : FuncId} (h : fnB P f = true) : ∃ fn, P.funcs[f]? = some fn ∧ fn.body.isSome = true ∧ (fn.name == "runtime.NumGoroutine") = false := by
 unfold fnB at h;split at h
 ·rename_i fn hf;simp only[Bool.and_eq_true,Bool.not_eq_true']at h;exact⟨fn,hf,h.1,h.2⟩
 ·cases h
def aLL (n:Nat)(xs:List Nat)(f:FuncId):Bool:=Nat.blt f n && !xs.contains f
theorem aJ5 {P : Program} {n : Nat} {xs : List Nat} (h : (List.range n).all (fun f => xs.contains f || fnB P f) = true) : ∀ f, aLL n xs f = true → ∃ fn, P.funcs[f]? = some fn ∧ fn.body.isSome = true ∧ (fn.name == "runtime.NumGoroutine") = false := fun f hf => by
 simp only[aLL,Bool.and_eq_true,Bool.not_eq_true']at hf;have:=List.all_eq_true.1 h f (List.mem_range.2 (by simpa using hf.1));simp only[Bool.or_eq_true]at this;exact aLH (this.resolve_left (by rw[hf.2];decide))
section
variable {P:Program} {Q:Exit->Act->World->Prop} {tt:TypeId->Option TI} {k8:KB} {pls:Nat->Option Pl} {fs:FuncId->Bool} {F:World->Bx->Prop} {s:St} {w:World} {k:List KF}
theorem aMt {fn : Func} {R : Ending → World → Prop} (h1 : TTok P tt) (h2 : P.follows .mixedOrders = true) (h3 : ∀ f, fs f = true → ∃ fn, P.funcs[f]? = some fn ∧ fn.body.isSome = true ∧ (fn.name == "runtime.NumGoroutine") = false) : Env P (bodyPost P fn R) tt fs := ⟨h1, h2, fun _ _ _ _ h => h, h3⟩
def res1 (tt:TypeId->Option TI)(s:St):ResultVar->Option AV
 | .tmp t=>some (getT s.tm t)
 | .cell a t=>match getT s.tm a with
  | .p b o=>match tt t,getN s.bx b with
   | some i,some c=>match i.a with
    | true=>match cutN c o i.n with|some q=>some (.g q)|none=>none
    | false=>getN c o
   | _,_=>none
  | _=>none
def resL (tt:TypeId->Option TI)(s:St):List ResultVar->Option (List AV)
 | []=>some []
 | x::l=>match res1 tt s x,resL tt s l with
  | some a,some r=>some (a::r)
  | _,_=>none
def resV:List AV->AV
 | [a]=>a
 | l=>.t l
def resS (tm:Array Value):ResultVar->Sem Value
 | .tmp t=>pure (tm.getD t undef)
 | .cell a t=>do loadVar t (<- asAddr (tm.getD a undef))
theorem results_eq (fn:Func)(tm:Array Value):results fn tm=(do let vs <- fn.results.mapM (resS tm);pure (if h:vs.size=1 then vs[0] else .tuple vs)):=by
 unfold results
 congr 2
theorem res1_ok (hT:TTok P tt)(hF:Frm F k8){B:Nat->Nat}(H:F w (mkB B 0 s.bx)){x:ResultVar}{a:AV}(h:res1 tt s x=some a):(resS (s.act B).tmps x).run P w = .ok (a.den B) w:=by
 cases x with
 | tmp t =>
  cases h;simp only[resS,Sem.run_pure];rw[show (s.act B).tmps.getD t undef=(s.act B).eval (.tmp t) from rfl,St.aB];rfl
 | cell c t =>
  simp only[res1]at h;split at h
  ·rename_i b o e;split at h
   ·rename_i i l hi hb;rw[cZ]at hb;have hl:=load_ok (r:=a) (B:=B) (w:=w) (c:=l) (o:=o) (b:=B b) (hT _ _ hi) (hF.cel H b l hb);have h2:(if i.a then (match cutN l o i.n with|some q=>some (AV.g q)|none=>none) else getN l o)=some a:=by
     split at h
     ·rename_i ha;rw[if_pos ha];exact h
     ·rename_i ha;rw[if_neg (by rw[ha];decide)];exact h
    simp only[resS];rw[show (s.act B).tmps.getD c undef=(s.act B).eval (.tmp c) from rfl,St.aB];simp only[St.ev,e,AV.den,asAddr,Sem.run_bind,Sem.run_pure,Result.andThen_ok];exact hl h2
   ·cases h
  ·cases h
theorem resL_ok (hT:TTok P tt)(hF:Frm F k8){B:Nat->Nat}(H:F w (mkB B 0 s.bx)):∀ {l:List ResultVar} {r:List AV},resL tt s l=some r->(l.mapM (resS (s.act B).tmps)).run P w = .ok (AV.denL B r) w
 | [],r,h=>by cases h;simp[AV.denL]
 | x::l,r,h=>by
  rw[resL]at h;split at h
  ·rename_i a q ha hq;cases h;have h1:=res1_ok hT hF H ha;have h2:=resL_ok hT hF H hq;rw[List.mapM_cons,Sem.run_bind,h1,Result.andThen_ok,Sem.run_bind,h2,Result.andThen_ok];simp only[Sem.run_pure,AV.denL]
  ·cases h
theorem results_ok (hT:TTok P tt)(hF:Frm F k8){B:Nat->Nat}(H:F w (mkB B 0 s.bx)){fn:Func}{r:List AV}(h:resL tt s fn.results.toList=some r):(results fn (s.act B).tmps).run P w = .ok ((resV r).den B) w:=by
 have h1:=resL_ok hT hF H h;rw[results_eq,Sem.run_bind];have h2:(fn.results.mapM (resS (s.act B).tmps)).run P w = .ok (AV.denL B r).toArray w:=by
  rw[Array.mapM_eq_mapM_toList,Sem.run_map,h1];rfl
 rw[h2,Result.andThen_ok,Sem.run_pure]
 congr 1
 match r with
 | []=>simp[AV.denL,resV,AV.den]
 | [a]=>simp[AV.denL,resV]
 | a::b::l=>simp[AV.denL,resV,AV.den]
theorem aHY (hT:TTok P tt)(hF:Frm F k8){fn:Func}{R:Ending->World->Prop}{e:Ex}{r:List AV}(he:e = .ret\/e = .n)(hr:resL tt s fn.results.toList=some r)(h:∀B w,F w (mkB B 0 s.bx)->R (.returned ((resV r).den B)) w):bE P (bodyPost P fn R) F k8 (.fin e s):=fun B w H=>by
 have q:=results_ok hT hF H hr;rcases he with rfl|rfl
 ·exact⟨rfl,_,q,h B w H⟩
 ·exact⟨rfl,_,q,h B w H⟩
def undefs:Nat->List AV
 | 0=>[]
 | n+1=>.v undef::undefs n
theorem pA (B:Nat->Nat):∀n,AV.denL B (undefs n)=List.replicate n undef
 | 0=>by simp[undefs,AV.denL]
 | n+1=>by rw[undefs,AV.denL,pA B n];rfl
theorem tM (B:Nat->Nat)(a b:List AV):AV.denL B (a++b)=AV.denL B a++AV.denL B b:=by simp only[AV.denL_eq,List.map_append]
theorem enter {f:FuncId}{fn:Func}{c:Code}{args:Array Value}{R:Ending->World->Prop}(B:Nat->Nat)(as:List AV)(b0:List (List AV))(hf:P.funcs[f]? = some fn)(hb:fn.body=some c)(ha:args=(AV.denL B as).toArray)(H:F w (mkB B 0 b0))(n:Nat)(hn:fn.ntmps-as.length=n)
  (h:Ok P (bodyPost P fn R) F (.code c) ⟨as++undefs n,b0⟩ []):Calls P f args w R:=by
 refine calls_of_wp hf hb ?_;have:=h B w H;simp only[semK,St.act,tM,pA]at this;have hs:args.size=as.length:=by rw[ha,List.size_toArray,AV.denL_eq,List.length_map]
 rw[hs,hn,ha];rw[show (AV.denL B as).toArray++Array.replicate n undef=(AV.denL B as++List.replicate n undef).toArray by rw[<- Array.toList_inj];simp];exact this
theorem aJ9 {ι:Type}(FF:ι->World->Bx->Prop)(ss:ι->St)(μ:ι->Nat){c:Code}
  (h:∀i J,J=(fun a w=>∃j B,μ j < μ i/\a=(ss j).act B/\FF j w (mkB B 0 (ss j).bx))->Ok P Q (FF i) (.code c) (ss i) (.inv J::k)) (i:ι):Ok P Q (FF i) (.code (.loop c)) (ss i) k:=by
 intro B w H;show (Code.loop c).wp P (semK P Q k) ((ss i).act B) w
 let Rep (m:Nat) (a:Act) (w:World):Prop:=∃j B,μ j=m/\a=(ss j).act B/\FF j w (mkB B 0 (ss j).bx)
 have:∃ν:Act->World->Nat,∀a w,(∃m,Rep m a w)->Rep (ν a w) a w /\ ∀m,Rep m a w -> ν a w<=m:=by
  have key:∀(a:Act) (w:World),∃n,(∃m,Rep m a w)->Rep n a w /\ ∀m,Rep m a w->n<=m:=by
   intro a w;by_cases hx:∃m,Rep m a w
   ·obtain⟨m,hm⟩:=hx
    induction m using Nat.strongRecOn with
    | _ m ih =>
     by_cases hl:∃l,l<m/\Rep l a w
     ·obtain⟨l,h1,h2⟩:=hl;exact ih l h1 h2
     ·exact⟨m,fun _=>⟨hm,fun l hl2=>Nat.le_of_not_lt fun h3=>hl ⟨l,h3,hl2⟩⟩⟩
   ·exact⟨0,fun h=>absurd h hx⟩
  exact⟨fun a w=>Classical.choose (key a w),fun a w=>Classical.choose_spec (key a w)⟩
 obtain⟨ν,hν⟩:=this;refine wp_loop (fun a w=>∃m,Rep m a w) ν ⟨μ i,i,B,rfl,rfl,H⟩ fun a w hI=>?_;obtain⟨⟨j,C,h1,rfl,h3⟩,_⟩:=hν a w hI;have q:=h j _ rfl C w h3;simp only[semK]at q;refine wp_mono q fun e a' w' he=>?_;cases e with
 | normal =>
  obtain⟨j',C',g1,g2,g3⟩:=he;refine⟨⟨μ j',j',C',rfl,g2,g3⟩,?_⟩;have:=(hν a' w' ⟨μ j',j',C',rfl,g2,g3⟩).2 (μ j') ⟨j',C',rfl,g2,g3⟩;omega
 | _=>exact he
theorem uY (B:Nat->Nat):∀(l:List AV) (j:Nat) (a:AV),(getT l j).den B=a.den B->AV.denL B (setN l j a)=AV.denL B l
 | [],_,_,_=>rfl
 | x::l,0,a,h=>by simp only[setN,AV.denL,getT]at h ⊢;rw[h]
 | x::l,j+1,a,h=>by simp only[setN,AV.denL,getT]at h ⊢;rw[uY B l j a h]
theorem aLG {c:Cf}(j:Nat)(a:AV)(h:∀B,(getT s.tm j).den B=a.den B)(hk:Ok P Q F c ⟨setN s.tm j a,s.bx⟩ k):Ok P Q F c s k:=fun B w H=>by
 have e:St.act B ⟨setN s.tm j a,s.bx⟩=s.act B:=by simp only[St.act,uY B s.tm j a (h B)]
 have q:=hk B w H;rw[e]at q;exact q
theorem aI {c:Cf}(j:Nat)(x:Bool){e:BE}(he:e.den=x)(hk:Ok P Q F c ⟨setN s.tm j (.b (.l x)),s.bx⟩ k)(hj:getT s.tm j = .b e:=by cbv):bE P Q F k8 (.at c s k):=aLG j (.b (.l x)) (fun B=>by rw[hj,AV.den,he,AV.den,BE.den]) hk
theorem go (E:Env P Q tt fs)(hF:Frm F k8)(n:Nat){c:Cf}{o:Out}(hc:plCf pls c=true)(hk:plK pls k=true)(e:run tt k8 pls fs n c s k=o)(h:bE P Q F k8 o):Ok P Q F c s k:=run_ok E hF n c s k hc hk (e ▸ h)
theorem ga {k8:KB}(E:Env P Q tt fs)(hF:Frm F k8)(pls:Nat->Option Pl){c:Cf}{o:Out}(h:bE P Q F k8 o)(hc:plCf pls c=true:=by kernel_rfl)(hk:plK pls k=true:=by kernel_rfl)(e:run tt k8 pls fs 1000 c s k=o:=by cbv):Ok P Q F c s k:=go E hF 1000 hc hk e h
theorem fa {k8:KB}{fn:Func}{Rp:Ending->World->Prop}(E:Env P (bodyPost P fn Rp) tt fs)(hF:Frm F k8){e:Ex}{r:List AV}(h:∀B w,F w (mkB B 0 s.bx)->Rp (.returned ((resV r).den B)) w)(he:e = .ret\/e = .n:=by first|exact .inl rfl|exact .inr rfl)(hr:resL tt s fn.results.toList=some r:=by cbv):bE P (bodyPost P fn Rp) F k8 (.fin e s):=aHY E.tt hF he hr h
end

theorem AV.tL {B C:Nat->Nat}{l:List AV}(h:AV.wfL 0 l=true):AV.denL B l=AV.denL C l:=AV.cU (n:=0) (fun _ h=>absurd h (Nat.not_lt_zero _)) l h
section
variable {ids:List Nat} {w1 w w':World} {L:Bx}
end
section
variable {P:Program} {Q:Exit->Act->World->Prop} {k8:KB} {F:World->Bx->Prop} {s:St} {k:List KF}
theorem aK {l r:List Oper}{o:Oper}(v:AV)(hrun:∀B w,F w (mkB B 0 s.bx)->(execOp (s.act B).eval o).run P w = .ok (.value (v.den B)) w)(h:Ok P Q F (.ops l r) (s.put o.dst v) k)(hw:wantA l s o=some true:=by cbv):bE P Q F k8 (.at (.ops l (o::r)) s k):=fun B w H=>by
 refine wpList_on (want_den hw) ?_;unfold Oper.wp;rw[hrun B w H];have:=h B w (by cases o.dst<;>exact H);rw[St.bR]at this;exact this
theorem aAp (hF:Frm F k8){l:List Oper}{J j:Nat}{m:List Bool}{b0:List (List AV)}{ok:Bool}{st:List Stg}{o:Oper}(v:AV)(hrun:∀B w,F w (mkB B 0 s.bx)->(execOp (s.act B).eval o).run P w = .ok (.value (v.den B)) w)(h:Ok P Q F (.pl l J m b0 ok st) (s.put o.dst v) k)
  (hj:getN l j=some o:=by cbv) (hw:wantA l s o=some true:=by cbv) (hJ:(ok || !J.testBit j)=true:=by rfl):bE P Q F k8 (.at (.pl l J m b0 ok (.o j::st)) s k):=fun B w H S ha=>by
 refine jH ?_;have ho2:(l.drop j).take 1 = [o]:=by
  rw[cZ]at hj;obtain⟨hl,he⟩:=List.getElem?_eq_some_iff.1 hj;rw[List.drop_eq_getElem_cons hl,he];rfl
 rw[ho2];refine wpList_on (want_den hw) ?_;unfold Oper.wp;rw[hrun B w H];have:=h B w (by cases o.dst<;>exact H) S (by cases o.dst<;>exact ha);rw[St.bR]at this;show wpList P l.toArray (eY J S (semK P Q k) j (wpPlan P l J S (semK P Q k) st)) [] _ w;refine wpList_nil (eQ (fun e=>?_) this);have hok:ok=true:=by rw[e]at hJ;simpa using hJ
 rw[(ha hok).1];exact hF.b.bxs H (ha hok).2
theorem aS {B:Nat->Nat}{w:World}{t e:TypeId}{x ix:Operand}{o:Oper}{n len c b off i:Nat}{kk:IntKind}(ho:o.op = .indexAddr t x ix)(hu:P.underlying t=some (.slice e))(hn:(P.info? e).map (·.size)=some n)(hx:(s.act B).eval x = .slice (some ⟨b,off,none⟩) len c)(hi:(s.act B).eval ix = .int kk i)(hlt:i<len) :
  (execOp (s.act B).eval o).run P w = .ok (.value (.pointer (some ⟨b,off+i*n,none⟩))) w:=by
 obtain⟨dst,op,ty,pos,after,gd⟩:=o;simp only at ho;subst ho;cases hq:P.info? e with
 | none=>rw[hq]at hn;cases hn
 | some q =>
  rw[hq]at hn;have hs:q.size=n:=by simpa using hn
  simp only[execOp];refine val_run ?_;simp only[hx,hi,Instr.indexAt,asIntOf,Sem.run_bind,Sem.run_pure,Result.andThen_ok,run_underlying hu];rw[Sem.run_ite,if_pos ⟨Int.natCast_nonneg _,Int.ofNat_lt.2 hlt⟩];simp[sizeOf,typeInfo,hq,hs,Addr.add_mid]
theorem cC {B:Nat->Nat}{w:World}{t:TypeId}{x:Operand}{o:Oper}{b off:Nat}{cs:List Value}{d:TypeDesc}(ho:o.op = .load t x)(hx:(s.act B).eval x = .pointer (some ⟨b,off,none⟩))(hc:w.rangeAt b off cs)(hu:P.underlying t=some d)(hd:d.isRow=true)(hn:(P.info? t).map (·.size)=some cs.length) :
  (execOp (s.act B).eval o).run P w = .ok (.value (.agg cs.toArray)) w:=by
 obtain⟨dst,op,ty,pos,after,gd⟩:=o;simp only at ho;subst ho;simp only[execOp];refine val_run ?_;rw[hx];exact run_loadAt_mid w b off t cs d hc hu hd hn
def lk:List (Nat × AV)->Nat->Option AV
 | [],_=>none
 | (k,a)::r,n=>match Nat.beq k n with
  | true=>some a
  | false=>lk r n
def mkT (x:Nat->Value)(lv:List (Nat × AV)):Nat->Nat->List AV
 | _,0=>[]
 | k,n+1=>(match lk lv k with|some a=>a|none=>.v (x k))::mkT x lv (k+1) n
def agL (B:Nat->Nat)(tm:List AV):List (Nat × AV)->Prop
 | []=>True
 | p::r=>p.2.den B=(getT tm p.1).den B/\agL B tm r
theorem aAl {B:Nat->Nat}{tm:List AV}:∀ {lv:List (Nat × AV)},agL B tm lv -> ∀ {n:Nat} {a:AV},lk lv n=some a->a.den B=(getT tm n).den B
 | [],_,n,a,h=>by cases h
 | (k,b)::r,hg,n,a,h=>by
  rw[lk]at h;split at h
  ·rename_i e;cases h;rw[<- Nat.eq_of_beq_eq_true e];exact hg.1
  ·exact aAl hg.2 h
theorem xE {B:Nat->Nat}{tm:List AV}{lv:List (Nat × AV)}(hg:agL B tm lv):∀(l:List AV) (k:Nat),(∀i,getT l i=getT tm (k+i))->AV.denL B (mkT (fun j=>(getT tm j).den B) lv k l.length)=AV.denL B l
 | [],_,_=>rfl
 | a::l,k,h=>by
  have h0:=h 0;rw[List.length_cons,mkT,AV.denL,AV.denL,xE hg l (k+1) fun i=>by have:=h (i+1);rwa [show k+(i+1)=k+1+i by omega]at this]
  congr 1
  rw[getT,Nat.add_zero]at h0;split
  ·rename_i b hb;rw[aAl hg hb,<- h0]
  ·rw[AV.den,<- h0]
theorem lP {B:Nat->Nat}{lv:List (Nat × AV)}{n:Nat}{bx:List (List AV)}(hg:agL B s.tm lv)(hn:s.tm.length=n):St.act B ⟨mkT (fun j=>(getT s.tm j).den B) lv 0 n,bx⟩=s.act B:=by
 subst hn;simp only[St.act,xE hg s.tm 0 fun i=>by rw[Nat.zero_add]]
theorem iH {ι:Type}(FF:ι->World->Bx->Prop)(ss:ι->St)(μ:ι->Nat)(n:Nat){c:Code}
  (hs:∀B w,F w (mkB B 0 s.bx) -> ∃i lv,(ss i).tm=mkT (fun j=>(getT s.tm j).den B) lv 0 n/\agL B s.tm lv/\FF i w (mkB B 0 (ss i).bx))
  (h:∀i J,J=(fun a w=>∃j B,μ j < μ i/\a=(ss j).act B/\FF j w (mkB B 0 (ss j).bx))->Ok P Q (FF i) (.code c) (ss i) (.inv J::k)) (hn:s.tm.length=n:=by rfl):bE P Q F k8 (.at (.code (.loop c)) s k):=fun B w H=>by
 obtain⟨i,lv,h1,h2,h3⟩:=hs B w H;have q:=aJ9 FF ss μ h i B w h3;have e:(ss i).act B=s.act B:=by rw[<- lP (bx:=[]) h2 hn,<- h1];rfl
 rw[e]at q;exact q
theorem jT {ι:Type}{FF:ι->World->Bx->Prop}{ss:ι->St}{μ:ι->Nat}(n:Nat){i:ι}{J:Act->World->Prop}(hJ:J=(fun a w=>∃j B,μ j < μ i/\a=(ss j).act B/\FF j w (mkB B 0 (ss j).bx)))
  (hs:∀B w,F w (mkB B 0 s.bx) -> ∃j lv,μ j < μ i/\(ss j).tm=mkT (fun j=>(getT s.tm j).den B) lv 0 n/\agL B s.tm lv/\FF j w (mkB B 0 (ss j).bx)) (hn:s.tm.length=n:=by rfl):bE P Q F k8 (.inv J s):=fun B w H=>by
 obtain⟨j,lv,h0,h1,h2,h3⟩:=hs B w H;rw[hJ];refine⟨j,B,h0,?_,h3⟩;rw[<- lP (bx:=[]) h2 hn,<- h1];rfl
end
section
variable {ids:List Nat} {w1 w:World} {L M:Bx}
def aIw:Cf->Bool
 | .code _=>true
 | .ops _ _=>true
 | .ex _=>true
 | _=>false
end
end Go.Proofs.Own
