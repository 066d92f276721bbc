/- For scbytes_law_holds. -/
import Derived.Laws.BytesString
import Derived.Test.YtgeihgombjbkbaaGreatSyb16
namespace Go.Proofs.Rn
open Go Go.RowKit Go.Proofs.Own

def opK (tt:TypeId->Option TJ)(ev:Operand->V)(K:Nat->Nat->Prop):Op->Prop
 | .load t x=>∀b o i,ev x = .p b o->tt t=some i -> ∀j,(j=o\/(o<=j/\j<o+i.n))->K b j
 | .convert _ _ x=>∀b o es n c,ev x = .q b o es n c -> ∀j,o<=j->j<o+n->K b j
 | _=>True
def hiB:Op->Bool
 | .slice _ _ _ none (some _)=>false
 | _=>true
theorem mkS_size (l:List Nat):(mkS l).size=l.length:=by
 unfold mkS;show (l.map UInt8.ofNat).toArray.size=l.length;simp
theorem mkS_extract (s:List Nat)(a b:Nat)(_:a<=b)(_:b<=s.length):(mkS s).extract a b=mkS ((s.drop a).take (b-a)):=by
 apply ByteArray.ext;rw[ByteArray.data_extract];unfold mkS;simp[List.map_take,List.map_drop]
theorem mkS_get {s:List Nat}{n b:Nat}(h:s[n]? = some b)(hb:b<256):∃c:UInt8,(mkS s)[n]? = some c/\c.toNat=b:=by
 refine⟨UInt8.ofNat b,?_,by simp;omega⟩;have hl:=(List.getElem?_eq_some_iff.1 h).1;have hs:n<(mkS s).size:=by rw[mkS_size];exact hl
 rw[getElem?_pos (mkS s) n hs]
 congr 1
 have hb2:=(List.getElem?_eq_some_iff.1 h).2;rw[<- hb2];show (s.map UInt8.ofNat).toArray[n]'(by simpa using hl)=_;rw[List.getElem_toArray,List.getElem_map]
theorem foldl_push (l:List Nat):∀r:ByteArray,(l.map fun n=>((n:Nat):Int)).foldl (fun (r:ByteArray) n=>r.push (UInt8.ofNat n.toNat)) r=⟨r.data++(l.map UInt8.ofNat).toArray⟩:=by
 induction l with
 | nil=>intro r;simp
 | cons a l ih =>
  intro r;rw[List.map_cons,List.foldl_cons,ih];cases r with
  | mk d =>
   simp only[ByteArray.push,Int.toNat_natCast,List.map_cons]
   congr 1
   apply Array.ext';simp
section
variable {P:Program} {tt:TypeId->Option TJ} {look lens:Nat->Option Ent} {ev:Operand->V} {ρ:Operand->Value} {E:En} {w:World} {r:V} {n0 n zn:Nat}
theorem fld {t:TypeId}{i:TJ}(hi:TyOk P t i){fs:List (Nat × TypeId × Nat)}(hk:i.k = .st fs){j k:Nat}{ft:TypeId}{m:Nat}(h:lget fs j=some (k,ft,m)):∃fl f,P.underlying t=some (.struct fl)/\fl[j]? = some f/\f.offset=k/\f.type=ft/\(sizeOf f.type).run P w = .ok m w:=by
 rw[lget_eq]at h;obtain⟨d,h1,h2⟩:=hi.und;rw[hk]at h2;cases d<;>first|exact h2.elim|skip
 rename_i fl;have hl:=mapM_size h2;have hj:j<fl.toList.length:=by rw[<- hl];exact(List.getElem?_eq_some_iff.1 h).1
 obtain⟨b,hb1,hb2⟩:=mapM_len h2 j _ (List.getElem?_eq_getElem hj);rw[h]at hb2;cases e:P.info? fl.toList[j].type with
 | none=>rw[e]at hb1;cases hb1
 | some q =>
  rw[e]at hb1;cases hb1;cases hb2;refine⟨fl,fl.toList[j],h1,by rw[<- Array.getElem?_toList];exact List.getElem?_eq_getElem hj,rfl,rfl,?_⟩;simp only[Array.getElem_toList]at e ⊢;simp[sizeOf,typeInfo,e]
theorem denL_map (hr:∀x,ρ x=(ev x).den E)(l:List Operand):V.denL E (l.map ev)=l.map ρ:=by
 rw[denL_eq,List.map_map];exact List.map_congr_left fun x _=>(hr x).symm
theorem getMap {b:Nat}{es:Array MapEntry}{c:Nat}(h:w.heap[b]? = some (.map es c)):(getObj b).run P w = .ok (.map es c) w:=by simp[getObj,Sem.run,h]
theorem place_st (fs:List (Nat × TypeId × Nat)):(fun j=>(lget fs j).map fun f=>(f.1,f.2.2))=fun j=>((fs.map fun f=>(f.1,f.2.2)).toArray)[j]?:=by
 funext j
 rw[lget_eq,List.getElem?_toArray,List.getElem?_map]
theorem zeroV_agg {i:TJ}(h:isAgg' i.k=true):zeroV i = .g i.z:=by unfold zeroV;rw[if_pos h]
theorem lookup_ok (hT:TTok P tt)(hlm:∀ {i es c},look i=some (.map es c)->w.heap[(E.B i).1]? = some (mapO E es c))(hr:∀x,ρ x=(ev x).den E)(dst:Option Tmp)(t:TypeId)(x ix:Operand)(ok:Bool)(ty:TypeId)(pos:String)(after:Array Edge)(gd:Option (Nat × Bool))
  (h:evQ P tt look lens ev (.lookup t x ix ok)=some r):(execOp ρ ⟨dst,.lookup t x ix ok,ty,pos,after,gd⟩).run P w = .ok (.value (r.den E)) w:=by
 simp only[evQ]at h;split at h
 ·rename_i i hi;obtain⟨d,u1,u2⟩:=(hT _ _ hi).und;split at h
  ·rename_i kt e hik;split at h
   ·rename_i ei ki hei hki;obtain⟨dk,k1,k2⟩:=(hT _ _ hki).und;rw[hik]at u2;cases d<;>first|exact u2.elim|skip
    rename_i dk' de';obtain⟨rfl,rfl⟩:=u2;split at h
    ·rename_i hkk;split at h
     ·rename_i es hes;have hz:=(hT _ _ hei).zeroR (w:=w) E;have hck0:∀m b,(Instr.checkKey b (m+1) dk' ((ev ix).den E)).run P w = .ok () w:=fun m b=>by
       rw[Instr.checkKey,Sem.run_bind,run_underlying k1,Result.andThen_ok];cases hk3:ki.k<;>rw[hk3]at hkk k2<;>first|(cases hkk;done)|skip
       all_goals
        cases dk<;>first|exact k2.elim|skip
        simp
      have hck:∀b,(Instr.checkKey b 10000 dk' ((ev ix).den E)).run P w = .ok () w:=fun b=>hck0 9999 b;have hfk:∀ {q:Option (Nat × V)},keyFind ki.k (ev ix) es 0=some q->(Instr.findKey dk' ((ev ix).den E) (es.map fun e=>(⟨e.1.den E,e.2.1.den E,e.2.2⟩:MapEntry))).run P w = .ok (q.map fun p=>(p.1,p.2.den E)) w:=fun {q} hq=>by
       unfold Instr.findKey;rw[Sem.run_bind,run_underlying k1,Result.andThen_ok,keyFind_ok (E:=E) k2 hq];rfl
      have hx:((ev x).den E = .map none/\es = [])\/(∃b cl,(ev x).den E = .map (some b)/\(getObj b).run P w = .ok (.map (es.map fun e=>(⟨e.1.den E,e.2.1.den E,e.2.2⟩:MapEntry)).toArray cl) w):=by
       split at hes
       ·rename_i ex;cases hes;exact .inl ⟨by rw[ex,V.den],rfl⟩
       ·rename_i b ex;split at hes
        ·rename_i es' cl hb';cases hes;exact .inr ⟨(E.B b).1,cl,by rw[ex,V.den],getMap (hlm hb')⟩
        ·cases hes
       ·cases hes
      have hfin:∀b,(do
        Instr.checkKey b 10000 dk' ((ev ix).den E)
        let (v,ok') <- match <- Instr.findKey dk' ((ev ix).den E) (es.map fun e=>(⟨e.1.den E,e.2.1.den E,e.2.2⟩:MapEntry)) with
         | some (_,v)=>pure (v,true)
         | none=>pure (<- zeroValue de',false)
        pure (if ok then .tuple #[v,.bool ok'] else v):Sem Value).run P w = .ok (r.den E) w:=fun b=>by
       rw[Sem.run_bind,hck,Result.andThen_ok];split at h
       ·rename_i j v hq;rw[Sem.run_bind,hfk hq,Result.andThen_ok];simp only[Option.map_some];split at h
        ·cases h;simp only[V.den,V.denL];rfl
        ·cases h;rfl
       ·rename_i hq;rw[Sem.run_bind,hfk hq,Result.andThen_ok];simp only[Option.map_none,Sem.run_bind,hz,Sem.run_pure,Result.andThen_ok];split at h
        ·cases h;simp only[V.den,V.denL];rfl
        ·cases h;rfl
       ·cases h
      simp only[execOp];refine val_run ?_;rw[hr,hr];unfold Instr.lookup;rw[Sem.run_bind,run_underlying u1,Result.andThen_ok];rcases hx with ⟨e1,rfl⟩|⟨b,cl,e1,e2⟩
      ·rw[e1];have:=hfin (#[]:Array MapEntry).isEmpty;generalize (10000:Nat)=N at this ⊢;dsimp only;simp only[Sem.run_bind,Sem.run_pure,Result.andThen_ok]at this ⊢;exact this
      ·rw[e1];have:=hfin (es.map fun e=>(⟨e.1.den E,e.2.1.den E,e.2.2⟩:MapEntry)).toArray.isEmpty;generalize (10000:Nat)=N at this ⊢;simp only[Sem.run_bind,e2,Result.andThen_ok,Sem.run_pure]at this ⊢;exact this
     ·cases h
    ·cases h
   ·cases h
  ·cases h
 ·cases h
theorem unL_ok (hr:∀x,ρ x=(ev x).den E){xs:Array Operand}{vs:List Value}(h:unL (xs.toList.map ev)=some vs):xs.map ρ=vs.toArray:=by
 have key:∀(l:List Operand) (vs:List Value),unL (l.map ev)=some vs->l.map ρ=vs:=by
  intro l
  induction l with
  | nil=>intro vs h;cases h;rfl
  | cons x l ih =>
   intro vs h;rw[List.map_cons,unL]at h;split at h
   ·rename_i a r ha hl;cases h;rw[List.map_cons,ih _ hl,hr,unV_den ha]
   ·cases h
 rw[<- key _ _ h,<- List.map_toArray,Array.toArray_toList]
theorem evQ_ok (hT:TTok P tt)(hS:∀t i,tt t=some i->i.eq=true->plainEq P t=true)(K:Nat->Nat->Prop)(hlk:∀ {i c u},look i=some (.cells c u) -> ∀(j:Nat) v,K i j->c[j]? = some v->w.cell? (E.at i j)=some (v.den E))(hlm:∀ {i es c},look i=some (.map es c)->w.heap[(E.B i).1]? = some (mapO E es c))(hln:∀ {i l},lens i=some (.cells l true)->l.length<=E.C i)
  (hw:∀x,(ev x).wf n zn) (hr:∀x,ρ x=(ev x).den E) (o:Oper) (hKo:opK tt ev K o.op) (hb:hiB o.op=true) (h:evQ P tt look lens ev o.op=some r):(execOp ρ o).run P w = .ok (.value (r.den E)) w:=by
 obtain⟨dst,op,ty,pos,after,gd⟩:=o;simp only at h hb hKo;cases op
 case move x=>cases h;simp only[execOp,hr];rfl
 case assign x=>cases h;simp only[execOp,hr];rfl
 case pick c a b =>
  simp only[evQ]at h;split at h
  ·rename_i e;cases h;simp[execOp,hr,e,V.den,asBool]
  ·rename_i e;cases h;simp[execOp,hr,e,V.den,asBool]
  ·cases h
 case build t ps =>
  simp only[evQ]at h;split at h
  ·rename_i i hi;have ty:=hT _ _ hi;obtain⟨q,hq1,hq2,hq3⟩:=ty.zero E;obtain⟨d,u1,u2⟩:=ty.und;split at h
   ·rename_i fs hk;split at h
    ·rename_i l hl;cases h;rw[hk]at u2;cases d<;>first|exact u2.elim|skip
     rename_i fl;have hf:=fillV_ok hr ps.toList _ _ hl;rw[place_st]at hf;rw[zeroV_agg (by rw[hk];rfl)]at hq2 hq3;simp only[execOp];refine val_run (run_build w t _ _ ?_);unfold Program.built;rw[hq1,u1];have hm:fl.toList.mapM (fun f=>(P.info? f.type).map fun i=>(f.offset,i.size))=some (fs.map fun f=>(f.1,f.2.2)):=by
      have:=mapM_map (g:=fun x:Nat × TypeId × Nat=>(x.1,x.2.2)) u2
      simpa only[Option.map_map,Function.comp_def] using this
     simp only[hq2,hm];rw[hq3,<- hf]
     congr 1
     simp
    ·cases h
   ·rename_i nn e hk;split at h
    ·rename_i ei hei;split at h
     ·rename_i l hl;cases h;rw[hk]at u2;cases d<;>first|exact u2.elim|skip
      obtain⟨rfl,rfl⟩:=u2;obtain⟨qe,he1,he2,_⟩:=(hT _ _ hei).info;have hf:=fillV_ok hr ps.toList _ _ hl;rw[zeroV_agg (by rw[hk];rfl)]at hq2 hq3;simp only[execOp];refine val_run (run_build w t _ _ ?_);unfold Program.built;rw[hq1,u1];simp only[hq2,he1,he2];rw[hq3,<- hf]
      congr 1
      simp
     ·cases h
    ·cases h
   ·cases h
  ·cases h
 case load t x =>
  simp only[evQ]at h;split at h
  ·rename_i b o e;split at h
   ·rename_i i c u hi hb';have hl:=load_ok (r:=r) (E:=E) (w:=w) (c:=c) (o:=o) (b:=b) (hT _ _ hi) (fun j v hj hv=>by
     rw[denL_get]at hv;cases hc:c[j]? with
     | none=>rw[hc]at hv;cases hv
     | some a=>rw[hc]at hv;cases hv;exact hlk hb' j a (hKo b o i e hi j hj) hc) h
    simp only[execOp];refine val_run ?_;rw[hr,e];simp only[V.den,Instr.loadAt,Instr.sureAddr,Sem.run_bind,Sem.run_pure,Result.andThen_ok];exact hl
   ·cases h
  ·cases h
 case fieldAddr t x j =>
  simp only[evQ]at h;split at h
  ·rename_i b o e;split at h
   ·rename_i i hi;split at h
    ·rename_i fs hk;split at h
     ·rename_i k ft m hj;split at h
      ·cases h
      ·rename_i hm;cases h;obtain⟨fl,f,u1,u2,u3,u4,u5⟩:=fld (w:=w) (hT _ _ hi) hk hj;simp only[execOp];refine val_run ?_;rw[hr,e];simp only[V.den,Instr.fieldAt,Instr.sureAddr,Sem.run_bind,run_underlying u1,Sem.run_pure,Result.andThen_ok,u2,fieldPlace,u5,if_neg hm,u3,at_add]
     ·cases h
    ·cases h
   ·cases h
  ·cases h
 case field t x j =>
  simp only[evQ]at h;split at h
  ·rename_i l e;split at h
   ·rename_i i hi;split at h
    ·rename_i fs hk;split at h
     ·rename_i k ft m hj;split at h
      ·rename_i fi hfi;obtain⟨fl,f,u1,u2,u3,u4,_⟩:=fld (w:=w) (hT _ _ hi) hk hj;have hp:=part_ok (E:=E) (w:=w) (hT _ _ hfi) h;rw[<- u3,<- u4]at hp;simp only[execOp];refine val_run ?_;rw[hr,e];simp only[V.den,Instr.field,asAgg,Sem.run_bind,run_underlying u1,Sem.run_pure,Result.andThen_ok,u2];exact hp
      ·cases h
     ·cases h
    ·cases h
   ·cases h
  ·cases h
 case extract x j =>
  simp only[evQ]at h;split at h
  ·rename_i l e;simp only[execOp];refine val_run ?_;rw[hr,e];simp only[V.den,Instr.extract,List.getElem?_toArray,lget_den h,Sem.run_pure]
  ·cases h
 case nilCheck x =>
  simp only[evQ]at h;split at h
  ·rename_i e;cases h;simp only[execOp,hr,e,V.den];rfl
  ·rename_i e;cases h;simp only[execOp,hr,e,V.den];rfl
  ·cases h
 case binOp op t x y yt =>
  simp only[evQ]at h;simp only[execOp];refine val_run ?_;rw[hr,hr];exact evBin_ok hT hS h
 case unOp op t x =>
  simp only[evQ]at h;split at h
  ·rename_i a ha;split at h
   ·rename_i q hq;cases h;simp only[execOp];refine val_run ?_;rw[hr,unV_den (E:=E) ha,constV_den];exact pureRun_ok hq w
   ·cases h
  ·cases h
 case makeFunc fn a c =>
  simp only[evQ]at h;cases h;simp only[execOp];refine val_run ?_;simp only[Instr.makeFunc,Sem.run_pure,V.den,denL_map hr];rw[<- List.map_toArray,<- List.map_toArray,Array.toArray_toList,Array.toArray_toList]
 case convert t u x =>
  simp only[evQ]at h;split at h
  ·rename_i i j hi hj;obtain⟨d1,a1,a2⟩:=(hT _ _ hi).und;obtain⟨d2,b1,b2⟩:=(hT _ _ hj).und;simp only[execOp];refine val_run ?_;split at h
   ·rename_i k hk;rw[hk]at b2;cases d2<;>first|exact b2.elim|skip
    cases b2;split at h
    ·rename_i m e;cases h;rw[hr,e];simp only[V.den,convert,Sem.run_bind,run_underlying a1,run_underlying b1,Result.andThen_ok];cases d1<;>first|rfl|(simp only[Conv.intToInt,Sem.run_pure])
    ·cases h
   ·rename_i hk;rw[hk]at b2;cases d2<;>first|exact b2.elim|skip
    split at h
    ·rename_i l hik e;cases h;rw[hik]at a2;cases d1<;>first|exact a2.elim|skip
     rw[hr,e];simp only[V.den,convert,Sem.run_bind,run_underlying a1,run_underlying b1,Result.andThen_ok,Sem.run_pure]
    ·rename_i e0 c1 c2 hik e;split at h
     ·rename_i ei hei;split at h
      ·rename_i hke;cases h;rw[hik]at a2;cases d1<;>first|exact a2.elim|skip
       cases a2;obtain⟨de,g1,g2⟩:=(hT _ _ hei).und;rw[hke]at g2;cases de<;>first|exact g2.elim|skip
       cases g2;rw[hr,e];simp only[V.den];rw[run_convert_bytes_string w t u e0 none c1 c2 a1 g1 b1];rfl
      ·cases h
     ·cases h
    ·rename_i e0 b o es m c hik e;split at h
     ·rename_i ei cl uu hei hlb;split at h
      ·rename_i q hke hcut;split at h
       ·rename_i z hz;cases h;rw[hik]at a2;cases d1<;>first|exact a2.elim|skip
        cases a2;obtain⟨de,g1,g2⟩:=(hT _ _ hei).und;rw[hke]at g2;cases de<;>first|exact g2.elim|skip
        cases g2;obtain⟨k1,k2⟩:=lcut_den (E:=E) hcut;have hrun:=run_loadCells_list (P:=P) (w:=w) (E.at b o) (V.denL E q) (fun j v hv=>by
         have h3:=k2 j v hv;rw[denL_get]at h3;cases hc:cl[o+j]? with
         | none=>rw[hc]at h3;cases h3
         | some a =>
          rw[hc]at h3;cases h3;rw[at_add];exact hlk hlb _ a (hKo b o _ m c e _ (Nat.le_add_right _ _) (by have:=(List.getElem?_eq_some_iff.1 hv).1;omega)) hc)
        rw[k1]at hrun;rw[hr,e];simp only[V.den];rw[run_convert_bytes_string w t u e0 _ m _ a1 g1 b1];rw[run_bytesToString w (E.at b o) m _ (z.map fun n=>((n:Nat):Int)) (by rw[hrun,u8L_ok hz,List.map_map];rfl),foldl_push];simp[mkS]
       ·cases h
      ·cases h
     ·cases h
    ·cases h
   ·cases h
  ·cases h
 case indexAddr t x ix =>
  simp only[evQ]at h;split at h
  ·rename_i i k hi hk;obtain⟨q,hq⟩:=asN_den (E:=E) hk;obtain⟨d,u1,u2⟩:=(hT _ _ hi).und;simp only[execOp];refine val_run ?_;split at h
   ·rename_i len e b o hik ex;split at h
    ·rename_i ei hei;split at h
     ·rename_i hlt;cases h;rw[hik]at u2;cases d<;>first|exact u2.elim|skip
      rename_i dl de;obtain⟨rfl,rfl⟩:=u2;simp only[Nat.blt_eq]at hlt;have h2:(0:Int)<=(k:Int)/\(k:Int)<(dl:Int):=by omega
      have hs:=(hT _ _ hei).sizeOf (w:=w);rw[hr,hr,ex,hq];simp[V.den,Instr.indexAt,asIntOf,run_underlying u1,Instr.sureAddr,h2,hs,at_add,hlt]
     ·cases h
    ·cases h
   ·rename_i e b o es len c hik ex;split at h
    ·rename_i ei hei;split at h
     ·rename_i hlt;cases h;rw[hik]at u2;cases d<;>first|exact u2.elim|skip
      cases u2;simp only[Bool.and_eq_true,Nat.blt_eq]at hlt;obtain⟨hlt,hes⟩:=hlt;have hes:=Nat.eq_of_beq_eq_true hes;subst hes;have h2:(0:Int)<=(k:Int)/\(k:Int)<(len:Int):=by omega
      have hs:=(hT _ _ hei).sizeOf (w:=w);rw[hr,hr,ex,hq];simp[V.den,Instr.indexAt,asIntOf,run_underlying u1,h2,hs,at_add,hlt]
     ·cases h
    ·cases h
   ·cases h
  ·cases h
 case index t x ix =>
  simp only[evQ]at h;split at h
  ·rename_i i k hi hk;obtain⟨q,hq⟩:=asN_den (E:=E) hk;obtain⟨d,u1,u2⟩:=(hT _ _ hi).und;simp only[execOp];refine val_run ?_;split at h
   ·rename_i len e l hik ex;split at h
    ·rename_i ei hei;split at h
     ·rename_i hlt;rw[hik]at u2;cases d<;>first|exact u2.elim|skip
      rename_i dl de;obtain⟨rfl,rfl⟩:=u2;simp only[Nat.blt_eq]at hlt;have h2:(0:Int)<=(k:Int)/\(k:Int)<(dl:Int):=by omega
      have hs:=(hT _ _ hei).sizeOf (w:=w);have hp:=part_ok (E:=E) (w:=w) (hT _ _ hei) h;rw[hr,hr,ex,hq];simp[V.den,Instr.index,asIntOf,run_underlying u1,h2,hs,hp,hlt]
     ·cases h
    ·cases h
   ·rename_i s hik ex;split at h
    ·rename_i b hb';split at h
     ·rename_i hlt;cases h;rw[hik]at u2;cases d<;>first|exact u2.elim|skip
      simp only[Nat.blt_eq]at hlt;rw[lget_eq]at hb';obtain⟨c,c1,c2⟩:=mkS_get hb' hlt;rw[hr,hr,ex,hq];have h0:(0:Int)<=(k:Int):=by omega
      simp[V.den,Instr.index,asIntOf,run_underlying u1,c1,c2]
     ·cases h
    ·cases h
   ·cases h
  ·cases h
 case slice t x lo hi mx =>
  simp only[evQ]at h;split at h
  ·rename_i i hi';obtain⟨d,u1,u2⟩:=(hT _ _ hi').und;have hm:∀y:Option Operand,y.map ρ=(y.map ev).map (V.den E):=fun y=>by cases y<;>simp[hr]
   simp only[execOp];refine val_run ?_;rw[hm,hm,hm,hr];split at h
   ·rename_i e hik;split at h
    ·rename_i ei hei;rw[hik]at u2;cases d<;>first|exact u2.elim|skip
     cases u2;refine sliceQ_ok u1 ((hT _ _ hei).sizeOf (w:=w)) hln (fun {a b c d f} ex=>by have:=hw x;rw[ex]at this;simp only[V.wf]at this;exact this.2) h ?_;cases mx with
     | none=>exact .inl rfl
     | some _ =>
      cases hi with
      | none=>cases hb
      | some _=>exact .inr nofun
    ·cases h
   ·rename_i len e hik;split at h
    ·rename_i ei b o hei ex;split at h
     ·rename_i l hh g1 g2 g3;split at h
      ·rename_i hc;cases h;rw[hik]at u2;cases d<;>first|exact u2.elim|skip
       rename_i dl de;obtain⟨rfl,rfl⟩:=u2;simp only[Bool.and_eq_true,Nat.ble_eq]at hc;have hs:=(hT _ _ hei).sizeOf (w:=w);have q:=bounds_ok (P:=P) (E:=E) (w:=w) false (lo:=lo.map ev) (hi:=hi.map ev) (len:=dl) (cap:=dl) g2 g3 hc.1.1 hc.1.2;rw[ex];simp only[V.den,Instr.sliceAt,Option.map_none,Sem.run_bind,run_underlying u1,Result.andThen_ok,q,hs,Sem.run_pure,Instr.sureAddr,at_add];split<;>rfl
      ·cases h
     ·cases h
    ·cases h
   ·rename_i hik;split at h
    ·rename_i s l ex g2;split at h
     ·rename_i hh g3;split at h
      ·rename_i hc;cases h;rw[hik]at u2;cases d<;>first|exact u2.elim|skip
       simp only[Bool.and_eq_true,Nat.ble_eq]at hc;have q:=bounds_ok (P:=P) (E:=E) (w:=w) false (lo:=lo.map ev) (hi:=hi.map ev) (len:=s.length) (cap:=s.length) g2 g3 hc.1 hc.2;rw[ex];simp only[V.den,Instr.sliceAt,Instr.slice,Option.map_none,Sem.run_bind,run_underlying u1,Result.andThen_ok,mkS_size,Option.isSome_none,Bool.false_eq_true,if_false,Sem.run_pure];rw[q,Result.andThen_ok,mkS_extract s l hh hc.1 hc.2]
      ·cases h
     ·cases h
    ·cases h
   ·cases h
  ·cases h
 case lookup t x ix ok=>exact lookup_ok hT hlm hr dst t x ix ok ty pos after gd h
 case call c =>
  simp only[evQ]at h;split at h
  ·rename_i x t hc1 hc2 hc3;have ha:c.args = #[x]:=by rw[<- Array.toList_inj,hc2]
   have hbb:c.argTypes = #[t]:=by rw[<- Array.toList_inj,hc3]
   split at h
   ·rename_i i hi;obtain⟨d,u1,u2⟩:=(hT _ _ hi).und;have key:∀ {v:Value},(Builtin.len_ #[t] ty #[(ev x).den E]).run P w = .ok v w->(execOp ρ ⟨dst,.call c,ty,pos,after,gd⟩).run P w = .ok (.value v) w:=fun {v} hv=>by
     simp only[execOp,resolve,hc1,Sem.run_bind,Sem.run_pure,Result.andThen_ok,invoke,Go.builtin,hbb,ha];simp[hr,hv]
    split at h
    ·rename_i e hik;rw[hik]at u2;cases d<;>first|exact u2.elim|skip
     split at h
     all_goals first|(cases h;done)|skip
     all_goals
      rename_i ex;cases h;refine key ?_;rw[ex];simp[V.den,Builtin.len_,run_underlying u1,goInt]
    ·rename_i hik;rw[hik]at u2;cases d<;>first|exact u2.elim|skip
     split at h
     all_goals first|(cases h;done)|skip
     all_goals
      rename_i ex;cases h;refine key ?_;rw[ex];simp[V.den,Builtin.len_,run_underlying u1,goInt,mkS_size]
    ·rename_i k e hik;rw[hik]at u2;cases d<;>first|exact u2.elim|skip
     obtain⟨rfl,rfl⟩:=u2;cases h;refine key ?_;simp[V.den,Builtin.len_,run_underlying u1,goInt]
    ·rename_i k e hik;rw[hik]at u2;cases d<;>first|exact u2.elim|skip
     split at h
     ·rename_i ex;cases h;refine key ?_;rw[ex];simp[V.den,Builtin.len_,run_underlying u1,goInt]
     ·rename_i b ex;split at h
      ·rename_i es cl hb';cases h;refine key ?_;rw[ex];have hg:=getMap (P:=P) (hlm hb');simp[V.den,Builtin.len_,run_underlying u1,goInt,hg]
      ·cases h
     ·cases h
    ·cases h
   ·cases h
  ·rename_i hc1;split at h
   ·rename_i vs hvs;split at h
    ·rename_i q hq;cases h;have ha:(c.args.map ρ)=vs.toArray:=unL_ok hr hvs;simp only[execOp,resolve,hc1,Sem.run_bind,Sem.run_pure,Result.andThen_ok,invoke,Go.builtin,ha];rw[constV_den];have:(Builtin.min_ c.argTypes ty vs.toArray).run P w = .ok q w:=pureRun_ok hq w;rw[this];rfl
    ·cases h
   ·cases h
  ·rename_i hc1;split at h
   ·rename_i vs hvs;split at h
    ·rename_i q hq;cases h;have ha:(c.args.map ρ)=vs.toArray:=unL_ok hr hvs;simp only[execOp,resolve,hc1,Sem.run_bind,Sem.run_pure,Result.andThen_ok,invoke,Go.builtin,ha];rw[constV_den];have:(Builtin.max_ c.argTypes ty vs.toArray).run P w = .ok q w:=pureRun_ok hq w;rw[this];rfl
    ·cases h
   ·cases h
  ·cases h
 all_goals (simp only[evQ]at h;cases h;done)
theorem eqV_wf (b:Bool):(V.b b).wf n zn:=by simp only[V.wf]
theorem evBin_wf {op:BinOp}{t:TypeId}{x y:V}(h:evBin P tt op t x y=some r):r.wf n zn:=by
 unfold evBin at h;split at h
 ·split at h
  ·split at h
   ·cases h;exact eqV_wf _
   ·cases h
  ·cases h
 ·split at h
  ·split at h
   ·cases h;exact eqV_wf _
   ·cases h
  ·cases h
 ·split at h
  ·cases h;exact constV_wf _ _ _
  ·cases h
 ·split at h
  ·cases h;exact constV_wf _ _ _
  ·cases h
 ·cases h
theorem sliceQ_wf {x:V}{lo hi mx:Option V}{es:Nat}(hw:x.wf n zn)(h:sliceQ lens x lo hi mx es=some r):r.wf n zn:=by
 unfold sliceQ at h;split at h
 ·split at h
  ·cases h;simp only[V.wf]
  ·cases h
 ·split at h
  ·rename_i e;subst e;simp only[V.wf]at hw;split at h
   ·split at h
    ·split at h
     ·cases h;simp only[V.wf];exact hw
     ·cases h
    ·split at h
     ·split at h
      ·cases h;simp only[V.wf];exact hw
      ·cases h
     ·cases h
    ·split at h
     ·split at h
      ·split at h
       ·cases h;simp only[V.wf];exact hw
       ·split at h
        ·cases h;simp only[V.wf];exact hw
        ·cases h
      ·cases h
     ·cases h
    ·split at h
     ·split at h
      ·cases h;simp only[V.wf];exact hw
      ·cases h
     ·cases h
   ·cases h
  ·cases h
 ·cases h
theorem keyFind_wf {k:TK}{x:V}:∀ {es:List (V × V × Nat)} {i j:Nat} {v:V},(∀e ∈ es,e.1.wf n zn/\e.2.1.wf n zn)->keyFind k x es i=some (some (j,v))->v.wf n zn
 | [],i,j,v,_,h=>by cases h
 | (a,u,b)::es,i,j,v,hw,h=>by
  have h1:=(hw _ List.mem_cons_self).2;have ih:=@keyFind_wf k x es (i+1) j v (fun e he=>hw e (List.mem_cons_of_mem _ he));unfold keyFind at h;split at h
  ·split at h
   ·split at h
    ·cases h;exact h1
    ·exact ih h
   ·cases h
  ·split at h
   ·cases h;exact h1
   ·exact ih h
  ·cases h
theorem zeroV_wf {t:TypeId}{i:TJ}(h:TyOk P t i):(zeroV i).wf n zn:=by
 have:=h.zwf n zn;unfold zeroV;split
 ·simp only[V.wf];exact this
 ·split
  ·rename_i e;rw[e]at this;simp only[V.wfL]at this;exact this.1
  ·simp only[V.wf];exact this
theorem evQ_wf (hT:TTok P tt)(hlk:∀ {i e},look i=some e->e.wf n zn)(hw:∀x,(ev x).wf n zn){op:Op}(h:evQ P tt look lens ev op=some r):r.wf n zn:=by
 cases op
 case move x=>cases h;exact hw _
 case assign x=>cases h;exact hw _
 case pick c a b =>
  simp only[evQ]at h;split at h
  ·cases h;exact hw _
  ·cases h;exact hw _
  ·cases h
 case build t ps =>
  simp only[evQ]at h;split at h
  ·rename_i i hi;have hz:=(hT _ _ hi).zwf n zn;split at h
   ·split at h
    ·rename_i l hl;cases h;simp only[V.wf];exact fillV_wf hw _ _ _ hl hz
    ·cases h
   ·split at h
    ·split at h
     ·rename_i l hl;cases h;simp only[V.wf];exact fillV_wf hw _ _ _ hl hz
     ·cases h
    ·cases h
   ·cases h
  ·cases h
 case load t x =>
  simp only[evQ]at h;split at h
  ·split at h
   ·rename_i hb;exact loadV_wf h (hlk hb)
   ·cases h
  ·cases h
 case fieldAddr t x j =>
  simp only[evQ]at h;split at h
  ·rename_i e;have:=hw x;rw[e]at this;simp only[V.wf]at this;split at h
   ·split at h
    ·split at h
     ·split at h
      ·cases h
      ·cases h;simp only[V.wf];exact this
     ·cases h
    ·cases h
   ·cases h
  ·cases h
 case field t x j =>
  simp only[evQ]at h;split at h
  ·rename_i e;have:=hw x;rw[e]at this;simp only[V.wf]at this;split at h
   ·split at h
    ·split at h
     ·split at h
      ·exact loadV_wf h this
      ·cases h
     ·cases h
    ·cases h
   ·cases h
  ·cases h
 case extract x j =>
  simp only[evQ]at h;split at h
  ·rename_i e;have:=hw x;rw[e]at this;simp only[V.wf]at this;exact lget_wf h this
  ·cases h
 case nilCheck x =>
  simp only[evQ]at h;split at h
  ·rename_i e;have:=hw x;rw[e]at this;cases h;exact this
  ·rename_i e;have:=hw x;rw[e]at this;cases h;exact this
  ·cases h
 case binOp op t x y yt=>exact evBin_wf h
 case unOp op t x =>
  simp only[evQ]at h;split at h
  ·split at h
   ·cases h;exact constV_wf _ _ _
   ·cases h
  ·cases h
 case makeFunc fn a c =>
  simp only[evQ]at h;cases h;simp only[V.wf];refine⟨wfL_iff.2 fun v hv=>?_,wfL_iff.2 fun v hv=>?_⟩
  all_goals
   obtain⟨x,_,rfl⟩:=List.mem_map.1 hv;exact hw x
 case convert t u x =>
  simp only[evQ]at h;split at h
  ·split at h
   ·split at h
    ·cases h;simp only[V.wf]
    ·cases h
   ·split at h
    ·cases h;simp only[V.wf]
    ·split at h
     ·split at h
      ·cases h;simp only[V.wf]
      ·cases h
     ·cases h
    ·split at h
     ·split at h
      ·split at h
       ·cases h;simp only[V.wf]
       ·cases h
      ·cases h
     ·cases h
    ·cases h
   ·cases h
  ·cases h
 case indexAddr t x ix =>
  simp only[evQ]at h;split at h
  ·split at h
   ·rename_i e;have:=hw x;rw[e]at this;simp only[V.wf]at this;split at h
    ·split at h
     ·cases h;simp only[V.wf];exact this
     ·cases h
    ·cases h
   ·rename_i e;have:=hw x;rw[e]at this;simp only[V.wf]at this;split at h
    ·split at h
     ·cases h;simp only[V.wf];exact this.1
     ·cases h
    ·cases h
   ·cases h
  ·cases h
 case index t x ix =>
  simp only[evQ]at h;split at h
  ·split at h
   ·rename_i e;have:=hw x;rw[e]at this;simp only[V.wf]at this;split at h
    ·split at h
     ·exact loadV_wf h this
     ·cases h
    ·cases h
   ·split at h
    ·split at h
     ·cases h;simp only[V.wf]
     ·cases h
    ·cases h
   ·cases h
  ·cases h
 case slice t x lo hi mx =>
  simp only[evQ]at h;split at h
  ·split at h
   ·split at h
    ·exact sliceQ_wf (hw x) h
    ·cases h
   ·split at h
    ·rename_i e;have:=hw x;rw[e]at this;simp only[V.wf]at this;split at h
     ·split at h
      ·rename_i hc;cases h;simp only[Bool.and_eq_true,Nat.blt_eq]at hc;simp only[V.wf];exact⟨this,hc.2⟩
      ·cases h
     ·cases h
    ·cases h
   ·split at h
    ·split at h
     ·split at h
      ·cases h;simp only[V.wf]
      ·cases h
     ·cases h
    ·cases h
   ·cases h
  ·cases h
 case lookup t x ix ok =>
  simp only[evQ]at h;split at h
  ·split at h
   ·split at h
    ·rename_i ei ki hei hki;split at h
     ·split at h
      ·rename_i es hes;have hes':∀e ∈ es,e.1.wf n zn/\e.2.1.wf n zn:=by
        split at hes
        ·cases hes;exact nofun
        ·split at hes
         ·rename_i hb;cases hes;exact hlk hb
         ·cases hes
        ·cases hes
       split at h
       ·rename_i v hq;have hv:=keyFind_wf hes' hq;split at h
        ·cases h;simp only[V.wf,V.wfL];exact⟨hv,trivial,trivial⟩
        ·cases h;exact hv
       ·have hz:=zeroV_wf (n:=n) (zn:=zn) (hT _ _ hei);split at h
        ·cases h;simp only[V.wf,V.wfL];exact⟨hz,trivial,trivial⟩
        ·cases h;exact hz
       ·cases h
      ·cases h
     ·cases h
    ·cases h
   ·cases h
  ·cases h
 case call c =>
  simp only[evQ]at h;split at h
  ·split at h
   ·split at h
    ·split at h<;>first|(cases h;done)|(cases h;simp only[V.wf])
    ·split at h<;>first|(cases h;done)|(cases h;simp only[V.wf])
    ·cases h;simp only[V.wf]
    ·split at h
     ·cases h;simp only[V.wf]
     ·split at h
      ·cases h;simp only[V.wf]
      ·cases h
     ·cases h
    ·cases h
   ·cases h
  ·split at h
   ·split at h
    ·cases h;exact constV_wf _ _ _
    ·cases h
   ·cases h
  ·split at h
   ·split at h
    ·cases h;exact constV_wf _ _ _
    ·cases h
   ·cases h
  ·cases h
 all_goals (simp only[evQ]at h;cases h;done)
end
end Go.Proofs.Rn
