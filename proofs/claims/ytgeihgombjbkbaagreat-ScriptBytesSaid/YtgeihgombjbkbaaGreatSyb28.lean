/- For scbytes_law_holds. -/
import Derived.MapKept
import Derived.Test.YtgeihgombjbkbaaGreatSyb26
namespace Go.Proofs.Rn
open Go Go.RowKit Go.Proofs.Own

def setAt:List (V × V × Nat)->Nat->V->List (V × V × Nat)
 | [],_,_=>[]
 | (a,_,b)::l,0,x=>(a,x,b)::l
 | e::l,n+1,x=>e::setAt l n x
def keyK:TK->Bool
 | .int _ | .str=>true
 | _=>false
section
variable (tt:TypeId->Option TJ) (h:Hp) (ev:Operand->V)
def mapM' (mt:TypeId)(m k x:Operand):Option (V × Hp):=match tt mt,ev m with
 | some i,.m r=>match i.k,h.get r with
  | .mp kt _,some (.map es cl)=>match tt kt with
   | some ki=>match keyK ki.k && !fzHas h.fz r with
    | true=>match keyFind ki.k (ev k) es 0 with
     | some (some (j,_))=>some (.o undef,h.put r (.map (setAt es j (ev x)) cl))
     | some none=>some (.o undef,h.put r (.map (es ++ [(ev k,ev x,cl)]) (cl+1)))
     | none=>none
    | false=>none
   | none=>none
  | _,_=>none
 | _,_=>none
def evM:Op->Option (V × Hp)
 | .alloc t=>match tt t with
  | some i=>some (.p h.n 0,h.new (.cells i.z false))
  | none=>none
 | .box _ x=>match (ev x).cs with
  | some l=>some (.p h.n 0,h.new (.cells l false))
  | none=>none
 | .buildSlice t n ps=>match tt t with
  | some i=>match i.k with
   | .sl e=>match tt e with
    | some ei=>if Nat.blt 0 ei.n&&Nat.ble (n*ei.n) 100000 then (match fillV (fun j=>some (j*ei.n,ei.n)) ev (repL n ei.z) ps.toList with
     | some l=>some (.q h.n 0 ei.n n (some n),h.new (.cells l false))
     | none=>none) else none
    | none=>none
   | _=>none
  | none=>none
 | .store t x y=>match ev x with
  | .p b o=>match tt t,(ev y).cs with
   | some i,some l=>if l.length==i.n then (match storeH h b o l with
    | some h=>some (.o undef,h)
    | none=>none) else none
   | _,_=>none
  | _=>none
 | .makeMap _ none=>some (.m h.n,h.new (.map [] 0))
 | .makeSlice t l c=>match tt t,asN (ev l),asN (ev c) with
  | some i,some l,some c=>match i.k with
   | .sl e=>match tt e with
    | some ei=>if Nat.blt 0 ei.n&&Nat.ble l c&&Nat.ble (c*ei.n) 100000&&Nat.ble ei.bt 100000 then some (.q h.n 0 ei.n l (some c),h.new (.cells (repL c ei.z) false)) else none
    | none=>none
   | _=>none
  | _,_,_=>none
 | .mapUpdate t m k x | .insert t m k x=>mapM' tt h ev t m k x
 | .entry it=>match ev it with
  | .p r 0=>match h.get r with
   | some (.miter (some m) _ seen stepped)=>match h.get m,seen.getLast? with
    | some (.map es cl),some stamp=>match Nat.beq cl stepped,es.find? (fun e=>Nat.beq e.2.2 stamp) with
     | true,some e=>some (.t [e.1,e.2.1],h)
     | _,_=>none
    | _,_=>none
   | _=>none
  | _=>none
 | .range t x=>match tt t,ev x with
  | some i,.o (.map none)=>match i.k with
   | .mp _ _=>some (.p h.n 0,h.new (.miter none 0 [] 0))
   | _=>none
  | some i,.m r=>match i.k,h.get r with
   | .mp _ _,some (.map _ cl)=>some (.p h.n 0,h.new (.miter (some r) cl [] cl))
   | _,_=>none
  | _,_=>none
 | .next it str=>match ev it with
  | .p r 0=>match h.get r,str with
   | some (.miter none _ _ _),false=>some (.t [.b false],h)
   | some (.miter (some m) since seen last),false=>match h.get m with
    | some (.map es cl)=>match (!seen.isEmpty && !es.isEmpty&&es.all fun e=>Nat.ble last e.2.2) || fzHas h.fz r with
     | true=>none
     | false=>match es.filter (fun e=>!seen.contains e.2.2) with
      | []=>some (.t [.b false],h)
      | [e]=>if Nat.blt e.2.2 since then some (.t [.b true,e.1,e.2.1],h.put r (.miter (some m) since (seen ++ [e.2.2]) cl)) else none
      | _=>none
    | _=>none
   | _,_=>none
  | _=>none
 | .convert t u x=>match tt t,tt u,ev x with
  | some i,some j,.s l=>match i.k,j.k with
   | .str,.sl e=>match tt e with
    | some ei=>match ei.k,l.all (fun n=>Nat.blt n 256) with
     | .int .u8,true=>some (.q h.n 0 1 l.length none,h.new (.cells (l.map fun n=>.i .u8 (.ofNat n)) true))
     | _,_=>none
    | none=>none
   | _,_=>none
  | _,_,_=>none
 | .call c=>match c.callee,c.args.toList,c.argTypes.toList with
  | .builtin .append,[x,y],[t,tx]=>match tt t with
   | some i=>match i.k with
    | .sl e=>match tt e with
     | some ei=>match Nat.blt 0 ei.n,srcA tt h ei.n tx (ev y) with
      | true,some (k,news)=>appH h ei.n ei.bt (ev x) k news
      | _,_=>none
     | none=>none
    | _=>none
   | none=>none
  | .builtin .clear,[x],[t]=>match tt t with
   | some i=>match i.k with
    | .sl e=>match tt e with
     | some ei=>match ev x with
      | .o (.slice none _ _)=>some (.t [],h)
      | .z _ _ _ _=>some (.t [],h)
      | .q b o es n _=>match n with
       | 0=>some (.t [],h)
       | n+1=>if ei.n=es then (match storeH h b o (repL (n+1) ei.z) with
        | some h=>some (.t [],h)
        | none=>none) else none
      | _=>none
     | none=>none
    | _=>none
   | none=>none
  | .builtin .copy,[x,y],[t,tx]=>match tt t with
   | some i=>match i.k with
    | .sl e=>match tt e with
     | some ei=>match srcA tt h ei.n tx (ev y),ev x with
      | some (k,l),.q b o es n _=>if ei.n=es/\k<=n then (match storeH h b o l with
       | some h=>some (.i .i64 (.ofNat k),h)
       | none=>none) else none
      | _,_=>none
     | none=>none
    | _=>none
   | none=>none
  | _,_,_=>none
 | _=>none
end
section
variable {P:Program} {tt:TypeId->Option TJ} {E:En} {w0 w:World} {h h':Hp} {r:V} {ev:Operand->V} {ρ:Operand->Value}
theorem ba_eq {x y:ByteArray}(h:(x==y)=true):x=y:=by
 cases x;cases y;exact congrArg ByteArray.mk (eq_of_beq h)
theorem ba_refl (x:ByteArray):(x==x)=true:=by
 cases x;exact beq_self_eq_true (α:=Array UInt8) _
theorem setObj_run {b:Nat}{o ob:Obj}(h:w.heap[b]? = some ob)(hc:∀a t f,ob ≠ .cells a t f):(setObj b o).run P w = .ok () { w with heap:=w.heap.setIfInBounds b o }:=by
 cases ob<;>first|exact absurd rfl (hc _ _ _)|simp[setObj,Sem.run,h]
theorem kept_obj (w:World)(b:Nat)(o:Obj):Kept w { w with heap:=w.heap.setIfInBounds b o } (fun k=>k=b) :=
 ⟨rfl,rfl,rfl,by simp,fun k _ hs=>by simp only;rw[Array.getElem?_setIfInBounds_ne (Ne.symm hs)]⟩
theorem setAt_wf {n zn:Nat}{x:V}(hx:x.wf n zn):∀ {es:List (V × V × Nat)} {j:Nat},(∀e ∈ es,e.1.wf n zn/\e.2.1.wf n zn) -> ∀e ∈ setAt es j x,e.1.wf n zn/\e.2.1.wf n zn
 | [],_,_,e,he=>by cases he
 | (a,v,b)::l,0,hw,e,he=>by
  rw[setAt]at he;rcases List.mem_cons.1 he with rfl|he
  ·exact⟨(hw _ List.mem_cons_self).1,hx⟩
  ·exact hw e (List.mem_cons_of_mem _ he)
 | (a,v,b)::l,j+1,hw,e,he=>by
  rw[setAt]at he;rcases List.mem_cons.1 he with rfl|he
  ·exact hw _ List.mem_cons_self
  ·exact setAt_wf hx (fun e he=>hw e (List.mem_cons_of_mem _ he)) e he
theorem keyFind_at {d:TypeDesc}{k:TK}{x:V}(hk:keyK k=true):∀ {es:List (V × V × Nat)} {i j:Nat} {v:V},keyFind k x es i=some (some (j,v))->i<=j /\ ∃a b,es[j-i]? = some (a,v,b)/\Instr.sameBits 10000 (a.den E) (x.den E)=true/\a.den E=x.den E
 | [],i,j,v,h=>by cases h
 | (a,u,b)::es,i,j,v,h=>by
  have ih:=@keyFind_at d k x hk es (i+1) j v;have up:keyFind k x es (i+1)=some (some (j,v))->i<=j /\ ∃a' b',((a,u,b)::es)[j-i]? = some (a',v,b')/\Instr.sameBits 10000 (a'.den E) (x.den E)=true/\a'.den E=x.den E:=fun h=>by
   obtain⟨h1,a',b',h2,h3⟩:=ih h;refine⟨by omega,a',b',?_,h3⟩;rw[show j-i=(j-(i+1))+1 by omega];exact h2
  unfold keyFind at h;split at h
  ·split at h
   ·rename_i e;subst e;split at h
    ·rename_i e;cases h;refine⟨Nat.le_refl _,_,b,by rw[Nat.sub_self];rfl,?_,?_⟩
     ·simp only[beq_iff_eq]at e;subst e;simp[V.den,Instr.sameBits]
     ·simp only[beq_iff_eq]at e;simp only[V.den,e]
    ·exact up h
   ·cases h
  ·split at h
   ·rename_i e;cases h;refine⟨Nat.le_refl _,_,b,by rw[Nat.sub_self];rfl,?_,?_⟩
    ·simp only[V.den,ba_eq e,Instr.sameBits,ba_refl]
    ·simp only[V.den,ba_eq e]
   ·exact up h
  ·cases h
theorem setAt_den (E:En){x:V}{kv:Value}:∀ {es:List (V × V × Nat)} {j:Nat} {a v:V} {b:Nat},es[j]? = some (a,v,b)->a.den E=kv ->
  (es.map fun e=>(⟨e.1.den E,e.2.1.den E,e.2.2⟩:MapEntry)).toArray.modify j (fun e=>{ e with key:=kv,val:=x.den E })=((setAt es j x).map fun e=>(⟨e.1.den E,e.2.1.den E,e.2.2⟩:MapEntry)).toArray:=by
 intro es j a v b h1 h2;apply Array.ext';rw[Array.toList_modify];simp only
 induction es generalizing j with
 | nil=>simp at h1
 | cons e es ih =>
  cases j with
  | zero =>
   simp only[List.getElem?_cons_zero,Option.some.injEq]at h1;subst h1;simp[setAt,h2]
  | succ j =>
   simp only[List.getElem?_cons_succ]at h1;simp only[List.map_cons,List.modify_succ_cons,setAt,ih h1]
theorem check_key {kt:TypeId}{ki:TJ}(hk:TyOk P kt ki)(hkk:keyK ki.k=true)(b:Bool)(m:Nat)(v:Value):(Instr.checkKey b (m+1) kt v).run P w = .ok () w:=by
 obtain⟨dk,k1,k2⟩:=hk.und;rw[Instr.checkKey,Sem.run_bind,run_underlying k1,Result.andThen_ok];cases hk3:ki.k<;>rw[hk3]at hkk k2<;>first|(cases hkk;done)|skip
 all_goals
  cases dk<;>first|exact k2.elim|skip
  simp
theorem find_key {kt:TypeId}{ki:TJ}(hk:TyOk P kt ki){x:V}{es:List (V × V × Nat)}{q:Option (Nat × V)}(hq:keyFind ki.k x es 0=some q) :
  (Instr.findKey kt (x.den E) (es.map fun e=>(⟨e.1.den E,e.2.1.den E,e.2.2⟩:MapEntry))).run P w = .ok (q.map fun p=>(p.1,p.2.den E)) w:=by
 obtain⟨dk,k1,k2⟩:=hk.und;unfold Instr.findKey;rw[Sem.run_bind,run_underlying k1,Result.andThen_ok,keyFind_ok (E:=E) k2 hq];rfl
theorem map_ok (hT:TTok P tt)(g:Gd E w0 h w)(hw:∀x,(ev x).wf h.n h.zn)(hr:∀x,ρ x=(ev x).den E){mt:TypeId}{m k x:Operand}(hm:mapM' tt h ev mt m k x=some (r,h')) :
  ∃w',Stp w0 E h E h' w'/\r = .o undef/\(Instr.mapUpdate mt (ρ m) (ρ k) (ρ x)).run P w = .ok () w':=by
 unfold mapM' at hm;split at hm
 ·rename_i i b hi ex;split at hm
  ·rename_i kt e es cl hik hb;split at hm
   ·rename_i ki hki;split at hm
    ·rename_i hc;simp only[Bool.and_eq_true,Bool.not_eq_true']at hc;obtain⟨d,u1,u2⟩:=(hT _ _ hi).und;rw[hik]at u2;cases d<;>first|exact u2.elim|skip
     rename_i dk de;obtain⟨rfl,rfl⟩:=u2;have hent:=g.ent hb;have hwf:=g.wf.wf hb;have hfz:∀i ∈ h.fz,i.1≠b:=fun i hi e=>by
      have:fzHas h.fz b=true:=List.any_eq_true.2 ⟨i,hi,by rw[e];exact Nat.beq_refl _⟩;rw[this]at hc;cases hc.2
     have hck:=check_key (P:=P) (w:=w) (hT _ _ hki) hc.1 false 9999 (ρ k);have hg:=getMap (P:=P) hent.2;have hset:∀o,(setObj (E.B b).1 o).run P w = .ok () { w with heap:=w.heap.setIfInBounds (E.B b).1 o }:=fun o=>setObj_run hent.2 nofun;have fin:∀ {es':List (V × V × Nat)} {cl':Nat},(∀e ∈ es',e.1.wf h.n h.zn/\e.2.1.wf h.n h.zn)->Stp w0 E h E (h.put b (.map es' cl')) { w with heap:=w.heap.setIfInBounds (E.B b).1 (mapO E es' cl') }:=fun {es' cl'} hw'=>by
      refine⟨g.put hb nofun (kept_obj w _ _) hw' ⟨hent.1,?_⟩,Ext.refl _ _ _,Nat.le_refl _,Nat.le_refl _,rfl,fun i hi=>by rw[Hp.get_put_ne _ _ (hfz i hi)];exact SameE.refl _ _ _⟩;simp only;rw[Array.getElem?_setIfInBounds_self_of_lt];exact(Array.getElem?_eq_some_iff.1 hent.2).1
     split at hm
     ·rename_i j v hq;cases hm;obtain⟨_,a,bb,q1,q2,q3⟩:=keyFind_at (E:=E) (d:=.invalid) hc.1 hq;rw[Nat.sub_zero]at q1;refine⟨_,fin (setAt_wf (hw x) hwf),rfl,?_⟩;have hfk:=find_key (P:=P) (w:=w) (E:=E) (hT _ _ hki) hq;rw[<- hr]at hfk q2 q3;have hkey:(Instr.keyThatStays (a.den E) (ρ k)).run P w = .ok (ρ k) w:=by
       unfold Instr.keyThatStays;rw[if_pos q2];rfl
      unfold Instr.mapUpdate;rw[Sem.run_bind,run_underlying u1,Result.andThen_ok,hr m,ex];simp only[V.den];rw[Sem.run_bind,hg,Result.andThen_ok];dsimp only;rw[Sem.run_bind,hck,Result.andThen_ok,Sem.run_bind,hfk,Result.andThen_ok];simp only[Option.map_some];rw[Sem.run_bind,List.getElem?_toArray,List.getElem?_map,q1];simp only[Option.map_some,Option.getD_some];rw[hkey,Result.andThen_ok,hset,mapO,<- setAt_den E (x:=ev x) q1 q3,hr x]
     ·rename_i hq;cases hm;refine⟨_,fin (es':=es ++ [(ev k,ev x,cl)]) (cl':=cl+1) (fun e he=>(List.mem_append.1 he).elim (hwf e) fun he=>by
       obtain rfl:=List.mem_singleton.1 he;exact⟨hw k,hw x⟩),rfl,?_⟩
      have hfk:=find_key (P:=P) (w:=w) (E:=E) (hT _ _ hki) hq;rw[<- hr]at hfk;unfold Instr.mapUpdate;rw[Sem.run_bind,run_underlying u1,Result.andThen_ok,hr m,ex];simp only[V.den];rw[Sem.run_bind,hg,Result.andThen_ok];dsimp only;rw[Sem.run_bind,hck,Result.andThen_ok,Sem.run_bind,hfk,Result.andThen_ok];simp only[Option.map_none];rw[hset]
      congr 2
      simp[mapO,hr]
     ·cases hm
    ·cases hm
   ·cases hm
  ·cases hm
 ·cases hm
end
end Go.Proofs.Rn
