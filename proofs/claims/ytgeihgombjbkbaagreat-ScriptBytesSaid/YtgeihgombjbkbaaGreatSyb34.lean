/- For scbytes_law_holds. -/
import Derived.Great.BuildSlice
import Derived.Laws.IdiomStrings
import Derived.Test.YtgeihgombjbkbaaGreatSyb28
namespace Go.Proofs.Rn
open Go Go.RowKit Go.Proofs.Own

section
variable {P:Program} {tt:TypeId->Option TJ} {E:En} {w0 w:World} {h h':Hp} {r:V} {ev:Operand->V} {ρ:Operand->Value}
theorem val_run2 {m:Sem Value}{v:Value}{w1:World}(h:m.run P w = .ok v w1):(do pure (.value (<- m)):Sem Next).run P w = .ok (.value v) w1:=by
 rw[Sem.run_bind,h];rfl
def MP (P:Program)(w0:World)(E:En)(h h':Hp)(w:World)(ρ:Operand->Value)(o:Oper)(r:V):Prop :=
 ∃E' w',Stp w0 E h E' h' w'/\r.wf h'.n h'.zn/\((execOp ρ o).run P w = .ok (.value (r.den E')) w'\/((execOp ρ o).run P w = .ok .skip w'/\r.den E'=undef))
theorem new_val {w1:World}{arr:Array Value}{t:TypeId}{l:List V}(g:Gd E w0 h w)(hw:V.wfL h.n h.zn l)(ha:∀(j:Nat) v,(V.denL E l)[j]? = some v->arr[j]? = some v)(h1:w1=w.alloc (.cells arr t)) :
  ∃E',Stp w0 E h E' (h.new (.cells l false)) w1/\E'.B h.n=(w.heap.size,0):=by
 subst h1;exact⟨_,new_cells (c:=0) g (Kept.refl _ _) hw ha nofun,by simp only[En.new,if_true]⟩
theorem den_p {E':En}{n b:Nat}(h:E'.B n=(b,0)):(V.p n 0).den E' = .pointer (some ⟨b,0,none⟩):=by simp only[V.den,En.at,h,Nat.add_zero]
theorem evM_ok (hT:TTok P tt)(g:Gd E w0 h w)(hw:∀x,(ev x).wf h.n h.zn)(hr:∀x,ρ x=(ev x).den E)(o:Oper)(hm:evM tt h ev o.op=some (r,h')):MP P w0 E h h' w ρ o r:=by
 obtain⟨dst,op,ty,pos,after,gd⟩:=o;simp only at hm;cases op
 case alloc t =>
  simp only[evM]at hm;split at hm
  ·rename_i i hi;cases hm;have ty:=hT _ _ hi;obtain⟨q,hq1,hq2,hq3⟩:=ty.zero E;obtain⟨E',s1,s2⟩:=new_val (w1:=w.alloc (.cells ((zeroV i).den E).cells t)) (t:=t) (arr:=((zeroV i).den E).cells) (l:=i.z) g (ty.zwf _ _) (fun j v hv=>by rw[hq3,List.getElem?_toArray];exact hv) rfl;refine⟨E',_,s1,by simp only[V.wf];exact Nat.lt_succ_self _,.inl ?_⟩;rw[den_p s2];simp only[execOp];simp[Instr.alloc,zeroValue,typeInfo,hq1,hq2,newVar,newRow,newObj];rfl
  ·cases hm
 case box t x =>
  simp only[evM]at hm;split at hm
  ·rename_i l hl;cases hm;have hc:=(V.cs_den E hl).1;obtain⟨E',s1,s2⟩:=new_val (w1:=w.alloc (.cells (V.denL E l).toArray t)) (t:=t) (arr:=(V.denL E l).toArray) (l:=l) g (V.cs_wf hl (hw x)) (fun j v hv=>by rw[List.getElem?_toArray];exact hv) rfl;refine⟨E',_,s1,by simp only[V.wf];exact Nat.lt_succ_self _,.inl ?_⟩;rw[den_p s2];simp only[execOp];simp[Instr.box,newVar,newRow,newObj,hr,hc];rfl
  ·cases hm
 case buildSlice t n ps =>
  simp only[evM]at hm;split at hm
  ·rename_i i hi;split at hm
   ·rename_i e0 hik;split at hm
    ·rename_i ei hei;split at hm
     ·rename_i hc;simp only[Bool.and_eq_true,Nat.blt_eq,Nat.ble_eq]at hc;split at hm
      ·rename_i l hl;cases hm;obtain⟨d,u1,u2⟩:=(hT _ _ hi).und;rw[hik]at u2;cases d<;>first|exact u2.elim|skip
       rename_i e;cases u2;have te:=hT _ _ hei;obtain⟨q,hq1,hq2,hq3⟩:=te.zero E;obtain⟨qi,hi1,hi2,_⟩:=te.info;have hzl:=te.zlen;have hf:=fillV_ok hr ps.toList _ _ hl;have hwf:V.wfL h.n h.zn l:=fillV_wf hw _ _ _ hl (repL_wf (te.zwf _ _) n);rw[<- made_eq (E:=E) (by omega) n,hzl]at hf;obtain⟨E',s1,s2⟩:=new_val (w1:=w.alloc (.cells (V.denL E l).toArray e0)) (t:=e0) (arr:=(V.denL E l).toArray) (l:=l) g hwf (fun j v hv=>by rw[List.getElem?_toArray];exact hv) rfl;refine⟨E',_,s1,by simp only[V.wf];exact⟨Nat.lt_succ_self _,hc.1⟩,.inl ?_⟩;simp only[execOp];refine val_run2 ?_;simp only[V.den,En.at,s2,Nat.add_zero];have hpl:(ps.map fun p=>(p.1,ρ p.2)).toList=ps.toList.map fun p=>(p.1,ρ p.2):=by simp
       by_cases hn:n*ei.n=0
       ·have h24:¬(n*ei.n > 2 ^ 24):=by omega
        rw[hn]at hf;have hf2:Instr.fill (fun i=>some (i*ei.n,ei.n)) #[] (ps.map fun p=>(p.1,ρ p.2)).toList=some (V.denL E l).toArray:=by rw[hpl,<- hf];congr 1;simp[madeCells]
        have r0:Array.range 0 = #[]:=rfl;unfold Instr.buildSlice;simp[run_underlying u1,sizeOf,typeInfo,hi1,hi2,hn,r0];simp at hf2;rw[hf2];simp[newRow]
       ·exact run_buildSlice w t e0 n _ _ qi _ u1 hi1 (by rw[hq1]at hi1;cases hi1;exact hq2) (by rw[hi2];omega) (by rw[hi2];exact hn) (by
         rw[hi2,hpl,<- hf,hq3];rfl)
      ·cases hm
     ·cases hm
    ·cases hm
   ·cases hm
  ·cases hm
 case store t x y =>
  simp only[evM]at hm;split at hm
  ·rename_i b o ex;split at hm
   ·rename_i i l hi hl;split at hm
    ·rename_i hln;split at hm
     ·rename_i h2 hst;cases hm;obtain⟨hcs,hone⟩:=V.cs_den E hl;obtain⟨w',q1,q2⟩:=storeH_ok (P:=P) hst g (V.cs_wf hl (hw y)) hone;refine⟨E,w',q2,by simp only[V.wf],.inr ⟨?_,by simp only[V.den]⟩⟩;obtain⟨ti,ht1,ht2,_⟩:=(hT _ _ hi).info;have hll:=denL_len E l;simp only[beq_iff_eq]at hln;simp only[execOp];rw[hr,hr,ex];simp[V.den,Instr.storeAt,Instr.sureAddr,storeVar,sizeOf,typeInfo,ht1,ht2,hcs,hll,hln,q1]
     ·cases hm
    ·cases hm
   ·cases hm
  ·cases hm
 case makeMap t rs =>
  cases rs with
  | some _=>simp only[evM]at hm;cases hm
  | none =>
   simp only[evM]at hm;cases hm;have hs:=new_ok (w1:=w) (e:=.map [] 0) (ob:=.map #[] 0) (c:=0) g (Kept.refl _ _) (fun e he=>by cases he) ⟨by simp only[En.new,if_true];exact g.size,by simp only[En.new,if_true];show (w.heap.push (Obj.map #[] 0))[w.heap.size]? = some (mapO _ [] 0);rw[Array.getElem?_push_size];rfl⟩;refine⟨_,_,hs,by simp only[V.wf];exact Nat.lt_succ_self _,.inl ?_⟩;simp only[execOp];simp[Instr.makeMap,newObj,V.den,En.new];rfl
 case makeSlice t l c =>
  simp only[evM]at hm;split at hm
  ·rename_i i ln cp hi hl hcp;split at hm
   ·rename_i e0 hik;split at hm
    ·rename_i ei hei;split at hm
     ·rename_i hc;simp only[Bool.and_eq_true,Nat.blt_eq,Nat.ble_eq]at hc;obtain⟨⟨⟨c1,c2⟩,c3⟩,c4⟩:=hc;cases hm;obtain⟨d,u1,u2⟩:=(hT _ _ hi).und;rw[hik]at u2;cases d<;>first|exact u2.elim|skip
      rename_i e;cases u2;have te:=hT _ _ hei;obtain⟨q,hq1,hq2,hq3⟩:=te.zero E;obtain⟨qi,hi1,hi2,hi3⟩:=te.info;have hzl:=te.zlen;obtain⟨kl,hkl⟩:=asN_den (E:=E) hl;obtain⟨kc,hkc⟩:=asN_den (E:=E) hcp;have hm1:=made_eq (E:=E) (z:=ei.z) (by omega) cp;have hcp2:cp<=100000:=Nat.le_trans (Nat.le_mul_of_pos_right _ c1) c3;have hb:qi.bytes*cp<=10000000000:=by rw[hi3];exact Nat.le_trans (Nat.mul_le_mul c4 hcp2) (by decide)
      obtain⟨E',s1,s2⟩:=new_val (w1:=w.alloc (.cells (V.denL E (repL cp ei.z)).toArray e0)) (t:=e0) (arr:=(V.denL E (repL cp ei.z)).toArray) (l:=repL cp ei.z) g (repL_wf (te.zwf _ _) cp) (fun j v hv=>by rw[List.getElem?_toArray];exact hv) rfl;refine⟨E',_,s1,by simp only[V.wf];exact⟨Nat.lt_succ_self _,c1⟩,.inl ?_⟩;simp only[execOp];refine val_run2 ?_;rw[hr,hr,hkl,hkc];have:=run_makeSlice (P:=P) w t e0 qi _ u1 hi1 (by rw[hq1]at hi1;cases hi1;exact hq2) kl kc (ln:Int) (cp:Int) (by omega) (by omega) (by rw[Int.toNat_natCast,hi2];omega) (by
       have:((qi.bytes*cp:Nat):Int)<=10000000000:=by omega
       rw[Int.natCast_mul]at this;omega) (by omega)
      rw[this,Int.toNat_natCast,Int.toNat_natCast,hq3,hi2,<- hzl,hm1];simp only[V.den,En.at,s2,Nat.add_zero]
     ·cases hm
    ·cases hm
   ·cases hm
  ·cases hm
 case range t x =>
  simp only[evM]at hm;split at hm
  ·rename_i i hi ex;split at hm
   ·rename_i k e hik;cases hm;obtain⟨d,u1,u2⟩:=(hT _ _ hi).und;rw[hik]at u2;cases d<;>first|exact u2.elim|skip
    have hs:=new_ok (w1:=w) (e:=.miter none 0 [] 0) (ob:=.mapIter none 0 #[] 0) (c:=0) g (Kept.refl _ _) nofun ⟨by simp only[En.new,if_true];exact g.size,by simp only[En.new,if_true],by
     simp only[En.new,if_true];show (w.heap.push _)[w.heap.size]? = _;rw[Array.getElem?_push_size];rfl⟩
    refine⟨_,_,hs,by simp only[V.wf];exact Nat.lt_succ_self _,.inl ?_⟩;simp only[execOp];rw[hr,ex];simp[Instr.range,run_underlying u1,newObj,V.den,En.at,En.new];rfl
   ·cases hm
  ·rename_i i m hi ex;split at hm
   ·rename_i k e es cl hik hb;cases hm;obtain⟨d,u1,u2⟩:=(hT _ _ hi).und;rw[hik]at u2;cases d<;>first|exact u2.elim|skip
    have he:=g.ent hb;have hlt:=g.wf.lt hb;have hs:=new_ok (w1:=w) (e:=.miter (some m) cl [] cl) (ob:=.mapIter (some (E.B m).1) cl #[] cl) (c:=0) g (Kept.refl _ _) (fun i hi=>by
     cases hi;omega) ⟨by simp only[En.new,if_true];exact g.size,by simp only[En.new,if_true],by
     simp only[En.new,if_true,Option.map_some,if_neg (show m≠h.n by omega)];show (w.heap.push _)[w.heap.size]? = _;rw[Array.getElem?_push_size]⟩
    refine⟨_,_,hs,by simp only[V.wf];exact Nat.lt_succ_self _,.inl ?_⟩;simp only[execOp];rw[hr,ex];have hg:=getMap (P:=P) he.2;simp only[V.den,Instr.range];simp[run_underlying u1,hg,newObj,En.at,En.new];rfl
   ·cases hm
  ·cases hm
 case entry it =>
  simp only[evM]at hm;split at hm
  ·rename_i r0 ex;split at hm
   ·rename_i m since seen stepped hb;split at hm
    ·rename_i es cl stamp hmm hl;split at hm
     ·rename_i e h1 h2;cases hm;have e1:=g.ent hb;have e2:=g.ent hmm;have ew:=g.wf.wf hmm e (List.mem_of_find?_eq_some h2);have hst:=Nat.eq_of_beq_eq_true h1;refine⟨E,w,Stp.refl g,by simp only[V.wf,V.wfL];exact⟨ew.1,ew.2,trivial⟩,.inl ?_⟩;simp only[execOp];refine val_run2 ?_;rw[hr,ex];have hf:(es.map fun e=>(⟨e.1.den E,e.2.1.den E,e.2.2⟩:MapEntry)).toArray.find? (fun e=>e.born==stamp)=some ⟨e.1.den E,e.2.1.den E,e.2.2⟩:=by
       rw[List.find?_toArray,List.find?_map,show ((fun e:MapEntry=>e.born==stamp) ∘ fun e:V × V × Nat=>(⟨e.1.den E,e.2.1.den E,e.2.2⟩:MapEntry))=fun e=>Nat.beq e.2.2 stamp from funext fun e=>by rw[Bool.eq_iff_iff];simp[Nat.beq_eq],h2];rfl
      have hh1:=e1.2.2;have hh2:=e2.2;simp only[Option.map_some]at hh1;simp only[mapO]at hh2;simp only[V.den,V.denL,En.at,e1.2.1,Nat.add_zero,Instr.entry,getObj,Sem.run_bind,Sem.run,hh1,hh2,Result.andThen,List.back?_toArray,hl,hst,bne_self_eq_false,Bool.false_eq_true,if_false,hf];rfl
     ·cases hm
    ·cases hm
   ·cases hm
  ·cases hm
 case next it str =>
  simp only[evM]at hm;split at hm
  ·rename_i r0 ex;have over:∀ {x},x=(V.t [.b false],h)->some x=some (r,h')->(Instr.next ((V.p r0 0).den E) str ty).run P w = .ok (.tuple #[.bool false]) w->MP P w0 E h h' w ρ ⟨dst,.next it str,ty,pos,after,gd⟩ r:=fun {x} hx hm q=>by
    subst hx;cases hm;refine⟨E,w,Stp.refl g,by simp only[V.wf,V.wfL,and_self],.inl ?_⟩;simp only[execOp];refine val_run2 ?_;rw[hr,ex,q];simp only[V.den,V.denL]
   split at hm
   ·rename_i a1 a2 a3 hb;have e1:=g.ent hb;have hh1:=e1.2.2;simp only[Option.map_none]at hh1;refine over rfl hm ?_;simp only[V.den,En.at,e1.2.1,Nat.add_zero,Instr.next,getObj,Sem.run_bind,Sem.run,hh1,Result.andThen];rfl
   ·rename_i m since seen last hb;split at hm
    ·rename_i es cl hmm;split at hm
     ·cases hm
     ·rename_i hc;simp only[Bool.or_eq_false_iff]at hc;have e1:=g.ent hb;have e2:=g.ent hmm;have hh1:=e1.2.2;have hh2:=e2.2;simp only[Option.map_some]at hh1;simp only[mapO]at hh2;have ht:(!seen.toArray.isEmpty && !(es.map fun e=>(⟨e.1.den E,e.2.1.den E,e.2.2⟩:MapEntry)).toArray.isEmpty&&(es.map fun e=>(⟨e.1.den E,e.2.1.den E,e.2.2⟩:MapEntry)).toArray.all (fun e=>decide (e.born ≥ last)))=false:=by
       rw[<- hc.1];have h3:((fun e:MapEntry=>decide (e.born ≥ last)) ∘ fun e:V × V × Nat=>(⟨e.1.den E,e.2.1.den E,e.2.2⟩:MapEntry))=fun e=>Nat.ble last e.2.2:=funext fun e=>by
        rw[Bool.eq_iff_iff];simp[Nat.ble_eq]
       rw[List.isEmpty_toArray,List.isEmpty_toArray,List.all_toArray,List.all_map,h3,List.isEmpty_map]
      have hfl:(es.map fun e=>(⟨e.1.den E,e.2.1.den E,e.2.2⟩:MapEntry)).toArray.filter (fun e=>!seen.toArray.contains e.born)=((es.filter fun e=>!seen.contains e.2.2).map fun e=>(⟨e.1.den E,e.2.1.den E,e.2.2⟩:MapEntry)).toArray:=by
       rw[List.filter_toArray,List.filter_map];simp[Function.comp_def]
      split at hm
      ·rename_i hfe;rw[hfe]at hfl;refine over rfl hm ?_;simp only[V.den,En.at,e1.2.1,Nat.add_zero,Instr.next,getObj,Sem.run_bind,Sem.run,hh1,hh2,Result.andThen,ht,Bool.false_eq_true,if_false,hfl];simp[choose,Sem.run,Question.forced]
      ·rename_i e hfe;rw[hfe]at hfl;split at hm
       ·rename_i hbs;cases hm;simp only[Nat.blt_eq]at hbs;have hem:e ∈ es:=(List.mem_filter.1 (by rw[hfe];exact List.mem_cons_self:e ∈ es.filter fun e=>!seen.contains e.2.2)).1;have ew:=g.wf.wf hmm e hem;have hfz:∀i ∈ h.fz,i.1≠r0:=fun i hi q=>by
         have:fzHas h.fz r0=true:=List.any_eq_true.2 ⟨i,hi,by rw[q];exact Nat.beq_refl _⟩;rw[this]at hc;cases hc.2
        have hwe:Ent.wf h.n h.zn (.miter (some m) since (seen ++ [e.2.2]) cl):=fun i hi=>(show Ent.wf h.n h.zn (.miter (some m) since seen last) from g.wf.wf hb) i hi;have hst:Stp w0 E h E (h.put r0 (.miter (some m) since (seen ++ [e.2.2]) cl)) { w with heap:=w.heap.setIfInBounds (E.B r0).1 (.mapIter (some (E.B m).1) since (seen ++ [e.2.2]).toArray cl) }:=by
         refine⟨g.put hb nofun (kept_obj w _ _) hwe ⟨e1.1,e1.2.1,?_⟩,Ext.refl _ _ _,Nat.le_refl _,Nat.le_refl _,rfl,fun i hi=>by rw[Hp.get_put_ne _ _ (hfz i hi)];exact SameE.refl _ _ _⟩;simp only;rw[Array.getElem?_setIfInBounds_self_of_lt]
         ·rfl
         ·exact(Array.getElem?_eq_some_iff.1 hh1).1
        refine⟨E,_,hst,by simp only[V.wf,V.wfL];exact⟨trivial,ew.1,ew.2,trivial⟩,.inl ?_⟩;simp only[execOp];refine val_run2 ?_;rw[hr,ex];have hset:=setObj_run (P:=P) (o:=.mapIter (some (E.B m).1) since (seen ++ [e.2.2]).toArray cl) hh1 nofun;have g1:(getObj (E.B r0).1).run P w = .ok (.mapIter (some (E.B m).1) since seen.toArray last) w:=by simp[getObj,Sem.run,hh1]
        have g2:(getObj (E.B m).1).run P w = .ok (.map (es.map fun e=>(⟨e.1.den E,e.2.1.den E,e.2.2⟩:MapEntry)).toArray cl) w:=by simp[getObj,Sem.run,hh2]
        have hch:∀n,n<=1->(choose (.mapNext n)).run P w = .ok 0 w:=fun n hn=>by simp[choose,Sem.run,Question.forced,hn]
        have hset2:(setObj (E.B r0).1 (.mapIter (some (E.B m).1) since (seen.toArray.push e.2.2) cl)).run P w = .ok () { w with heap:=w.heap.setIfInBounds (E.B r0).1 (.mapIter (some (E.B m).1) since (seen ++ [e.2.2]).toArray cl) }:=by
         rw[<- hset];simp
        simp only[V.den,V.denL,En.at,e1.2.1,Nat.add_zero,Instr.next,Sem.run_bind,g1,g2,Result.andThen_ok,ht,Bool.false_eq_true,if_false,hfl];simp[hbs,Question.forced,hset,show ¬since<=e.2.2 by omega]
       ·cases hm
      ·cases hm
    ·cases hm
   ·cases hm
  ·cases hm
 case convert t u x =>
  simp only[evM]at hm;split at hm
  ·rename_i i j l hi hj ex;split at hm
   ·rename_i e hik hjk;split at hm
    ·rename_i ei hei;split at hm
     ·rename_i hek hall;cases hm;obtain⟨d1,a1,a2⟩:=(hT _ _ hi).und;obtain⟨d2,b1,b2⟩:=(hT _ _ hj).und;obtain⟨d3,c1,c2⟩:=(hT _ _ hei).und;rw[hik]at a2;rw[hjk]at b2;rw[hek]at c2;cases d1<;>first|exact a2.elim|skip
      cases d2<;>first|exact b2.elim|skip
      cases d3<;>first|exact c2.elim|skip
      cases b2;cases c2;have hrun:=run_bytes_of_string (P:=P) w t u e (mkS l) a1 b1 c1;rw[mkS_size]at hrun;have hge:=grownCap_ge w l.length 0 e;generalize grownCap w l.length 0 e=gc at hrun hge;have hb:=byteCells_mkS (E:=E) l hall;have hlb:(byteCells (mkS l)).length=l.length:=by rw[byteCells_length,mkS_size]
      have hrow:∀(j:Nat),(bytesRow (mkS l) gc)[j]? = if j<l.length then (byteCells (mkS l))[j]? else if j<gc then some (.int .u8 0) else none:=fun j=>by
       have h1:((mkS l).data.map fun b=>Value.int .u8 b.toNat).size=l.length:=by rw[Array.size_map];exact mkS_size l
       unfold bytesRow;rw[Array.getElem?_append,h1,mkS_size];by_cases hj:j<l.length
       ·rw[if_pos hj,if_pos hj];unfold byteCells;rw[<- Array.toList_map,Array.getElem?_toList]
       ·rw[if_neg hj,if_neg hj,Array.getElem?_replicate];by_cases hj2:j<gc
        ·rw[if_pos hj2,if_pos (by omega)]
        ·rw[if_neg hj2,if_neg (by omega)]
      have hsz:(bytesRow (mkS l) gc).size=gc:=by
       have h1:((mkS l).data.map fun b=>Value.int .u8 b.toNat).size=l.length:=by rw[Array.size_map];exact mkS_size l
       unfold bytesRow;rw[Array.size_append,h1,Array.size_replicate,mkS_size];omega
      have hcell:∀j,(w.drew.alloc (.cells (bytesRow (mkS l) gc) e ((bytesRow (mkS l) gc).size,(bytesRow (mkS l) gc).size+1))).cell? ⟨w.heap.size,j,none⟩=(bytesRow (mkS l) gc)[j]?:=fun j=>by
       simp[World.cell?,World.alloc,World.drew,-World.alloc_eq,-World.drew_eq]
      have hfro:∀j,j<gc->(w.drew.alloc (.cells (bytesRow (mkS l) gc) e ((bytesRow (mkS l) gc).size,(bytesRow (mkS l) gc).size+1))).frozen? ⟨w.heap.size,j,none⟩=false:=fun j hj=>by
       rw[hsz];simp[World.frozen?,World.alloc,World.drew,-World.alloc_eq,-World.drew_eq];omega
      have hwf:V.wfL (h.n+1) h.zn (l.map fun n=>V.i .u8 (.ofNat n)):=wfL_iff.2 fun v hv=>by
       obtain⟨n,_,rfl⟩:=List.mem_map.1 hv;simp only[V.wf]
      have hst:=new_ok (w1:=w.drew) (e:=.cells (l.map fun n=>V.i .u8 (.ofNat n)) true) (ob:=.cells (bytesRow (mkS l) gc) e ((bytesRow (mkS l) gc).size,(bytesRow (mkS l) gc).size+1)) (c:=gc) g (Kept.drew w _) hwf ⟨by
       simp only[En.new,if_true];exact g.size,by
       simp only[En.new,if_true];simp,fun j v hv=>by
       rw[En.new_at,Nat.zero_add];have hj:j<l.length:=by simpa using (List.getElem?_eq_some_iff.1 hv).1
       refine⟨?_,hfro j (by omega)⟩;rw[show w.drew.heap.size=w.heap.size from rfl,hcell,hrow,if_pos hj,hb,denL_get];have:(List.map (fun n=>V.i .u8 (.ofNat n)) l)[j]? = some v:=hv;rw[this];obtain⟨n,_,rfl⟩:=List.mem_map.1 (List.mem_of_getElem? hv);simp only[V.den,Option.map_some],fun _=>⟨by
       simp only[En.new,if_true,List.length_map];exact hge,fun j hj=>by
       simp only[En.new,if_true]at hj;rw[En.new_at,Nat.zero_add];refine⟨?_,hfro j hj⟩;rw[show w.drew.heap.size=w.heap.size from rfl,hcell,hrow];by_cases hjl:j<l.length
       ·rw[if_pos hjl,List.getElem?_eq_getElem (by omega)];rfl
       ·rw[if_neg hjl,if_pos hj];rfl⟩,nofun⟩
      refine⟨_,_,hst,by simp only[V.wf];exact⟨Nat.lt_succ_self _,Nat.one_pos⟩,.inl ?_⟩;simp only[execOp];refine val_run2 ?_;rw[hr,ex];simp only[V.den,En.new_at,Nat.add_zero];simp only[En.new,if_true,Nat.sub_zero,Nat.div_one];exact hrun
     ·cases hm
    ·cases hm
   ·cases hm
  ·cases hm
 case mapUpdate t m k x =>
  simp only[evM]at hm;obtain⟨w',q1,rfl,q3⟩:=map_ok hT g hw hr hm;refine⟨E,w',q1,by simp only[V.wf],.inr ⟨?_,by simp only[V.den]⟩⟩;simp only[execOp];rw[Sem.run_bind,q3];rfl
 case insert t m k x =>
  simp only[evM]at hm;obtain⟨w',q1,rfl,q3⟩:=map_ok hT g hw hr hm;refine⟨E,w',q1,by simp only[V.wf],.inr ⟨?_,by simp only[V.den]⟩⟩;simp only[execOp];rw[Sem.run_bind,q3];rfl
 case call c =>
  simp only[evM]at hm;split at hm
  ·rename_i x y t tx hc1 hc2 hc3;have ha:c.args = #[x,y]:=by rw[<- Array.toList_inj,hc2]
   have hbb:c.argTypes = #[t,tx]:=by rw[<- Array.toList_inj,hc3]
   split at hm
   ·rename_i i hi;split at hm
    ·rename_i e hik;split at hm
     ·rename_i ei hei;split at hm
      ·rename_i k news h0 hs;simp only[Nat.blt_eq]at h0;obtain⟨d,u1,u2⟩:=(hT _ _ hi).und;rw[hik]at u2;cases d<;>first|exact u2.elim|skip
       cases u2;obtain⟨E',w',q1,q2,q3⟩:=appH_ok (P:=P) (ty:=ty) hT g u1 (hT _ _ hei) h0 (hw x) (srcA_ok (P:=P) hT g hs) (srcA_wf g hs) hm;refine⟨E',w',q1,q2,.inl ?_⟩;simp only[execOp,resolve,hc1,Sem.run_bind,Sem.run_pure,Result.andThen_ok,invoke,Go.builtin,hbb,ha];simp[hr,q3]
      ·cases hm
     ·cases hm
    ·cases hm
   ·cases hm
  ·rename_i x t hc1 hc2 hc3;have ha:c.args = #[x]:=by rw[<- Array.toList_inj,hc2]
   have hbb:c.argTypes = #[t]:=by rw[<- Array.toList_inj,hc3]
   split at hm
   ·rename_i i hi;split at hm
    ·rename_i e hik;split at hm
     ·rename_i ei hei;obtain⟨d,u1,u2⟩:=(hT _ _ hi).und;rw[hik]at u2;cases d<;>first|exact u2.elim|skip
      rename_i e0;cases u2;have fin:∀ {w':World},(Builtin.clear_ #[t] ty #[ρ x]).run P w = .ok (.tuple #[]) w'->(execOp ρ ⟨dst,.call c,ty,pos,after,gd⟩).run P w = .ok (.value (.tuple #[])) w':=fun {w'} q=>by
       simp only[execOp,resolve,hc1,Sem.run_bind,Sem.run_pure,Result.andThen_ok,invoke,Go.builtin,hbb,ha];simp[q]
      have none1:(∃a c,ρ x = .slice a 0 c)\/(∃n c,ρ x = .slice none n c)->(Builtin.clear_ #[t] ty #[ρ x]).run P w = .ok (.tuple #[]) w:=fun q=>by
       rcases q with ⟨a,c,q⟩|⟨n,c,q⟩
       ·rw[q];cases a<;>simp[Builtin.clear_,run_underlying u1]
       ·rw[q];simp[Builtin.clear_,run_underlying u1]
      have den0:(V.t []).den E = .tuple #[]:=by simp only[V.den,V.denL]
      split at hm
      ·rename_i ex;cases hm;exact⟨E,w,Stp.refl g,by simp only[V.wf,V.wfL],.inl (by rw[den0];exact fin (none1 (.inr ⟨_,_,by rw[hr,ex];simp only[V.den];rfl⟩)))⟩
      ·rename_i ex;cases hm;exact⟨E,w,Stp.refl g,by simp only[V.wf,V.wfL],.inl (by rw[den0];exact fin (none1 (.inl ⟨_,_,by rw[hr,ex];simp only[V.den];rfl⟩)))⟩
      ·rename_i b o es n cc ex;split at hm
       ·cases hm;exact⟨E,w,Stp.refl g,by simp only[V.wf,V.wfL],.inl (by rw[den0];exact fin (none1 (.inl ⟨_,_,by rw[hr,ex];simp only[V.den];rfl⟩)))⟩
       ·rename_i n;split at hm
        ·rename_i hes;split at hm
         ·rename_i h2 hst;cases hm;have te:=hT _ _ hei;obtain⟨q,hq1,hq2,hq3⟩:=te.zero E;obtain⟨qi,hi1,hi2,_⟩:=te.info;have hwx:=hw x;rw[ex]at hwx;simp only[V.wf]at hwx;have hzl:=te.zlen;have hz0:0<ei.z.length:=by omega
          have hm1:=made_eq (E:=E) hz0 (n+1);obtain⟨w',q1,q2⟩:=storeH_ok (P:=P) hst g (repL_wf (te.zwf _ _) (n+1)) (fun v hv=>by
           have:∀k,v ∈ V.denL E (repL k ei.z)->v ∈ V.denL E ei.z:=fun k=>by
            induction k with
            | zero=>intro h;simp[repL,V.denL]at h
            | succ k ih =>
             intro h;rw[repL,denL_eq,List.map_append,<- denL_eq,<- denL_eq]at h;exact(List.mem_append.1 h).elim id ih
           exact te.one E v (this _ hv))
          refine⟨E,w',q2,by simp only[V.wf,V.wfL],.inl (by
           rw[den0];refine fin ?_;rw[hr,ex];simp only[V.den];have hzc:Builtin.zeroCells (V.denL E ei.z).toArray (n+1)=(V.denL E (repL (n+1) ei.z)).toArray:=by
            rw[<- hm1];unfold Builtin.zeroCells madeCells;simp[denL_len,hzl]
           simp[Builtin.clear_,run_underlying u1,zeroValue,typeInfo,hq1,hq2,hq3,hzc,q1])⟩
         ·cases hm
        ·cases hm
      ·cases hm
     ·cases hm
    ·cases hm
   ·cases hm
  ·rename_i x y t tx hc1 hc2 hc3;have ha:c.args = #[x,y]:=by rw[<- Array.toList_inj,hc2]
   have hbb:c.argTypes = #[t,tx]:=by rw[<- Array.toList_inj,hc3]
   split at hm
   ·rename_i i hi;split at hm
    ·rename_i e hik;split at hm
     ·rename_i ei hei;split at hm
      ·rename_i k l b o es n cc hs ex;split at hm
       ·rename_i hkn;split at hm
        ·rename_i h2 hst;cases hm;obtain⟨d,u1,u2⟩:=(hT _ _ hi).und;rw[hik]at u2;cases d<;>first|exact u2.elim|skip
         cases u2;have sr:=srcA_ok (P:=P) hT g hs;obtain⟨qi,hi1,hi2,_⟩:=(hT _ _ hei).info;obtain⟨w',q1,q2⟩:=storeH_ok (P:=P) hst g (srcA_wf g hs) sr.one;refine⟨E,w',q2,by simp only[V.wf],.inl ?_⟩;have hmin:Nat.min k n=k:=Nat.min_eq_left hkn.2;have hc:(Builtin.copy_ #[t,tx] ty #[ρ x,ρ y]).run P w = .ok (goInt k) w':=by
          rw[hr x,hr y,ex];simp only[V.den];have hl:=sr.len w;have hcs:=sr.cells;rw[<- hi2]at hcs;simp[Builtin.copy_,run_underlying u1,hl,hmin,sizeOf,typeInfo,hi1,hcs,q1]
         simp only[execOp,resolve,hc1,Sem.run_bind,Sem.run_pure,Result.andThen_ok,invoke,Go.builtin,hbb,ha];simp[hc,V.den];rfl
        ·cases hm
       ·cases hm
      ·cases hm
     ·cases hm
    ·cases hm
   ·cases hm
  ·cases hm
 all_goals (simp only[evM]at hm;cases hm;done)
end
end Go.Proofs.Rn
