/- For scbytes_law_holds. -/
import Derived.Maps.RangeWalk
import Derived.Maps.RangeRun
import Derived.Test.YtgeihgombjbkbaaGreatProg
import Derived.Test.YtgeihgombjbkbaaGreatSyb37
set_option maxHeartbeats 16000000
set_option maxRecDepth 100000
namespace Go.Proofs.YtgeihgombjbkbaaGreat
open Go.Lib (hid)
open Go Go.RowKit Go.Maps Go.Proofs.Own
open Go.ChangeMaps (setBlock)

theorem lS (w:World)(o:Obj){r:Nat}(h:r<w.heap.size):(w.alloc o).heap[r]? = w.heap[r]?:=by
 first|exact heap_alloc_old w o h|exact heap_alloc_old w o r h
def aKz (v:Value)(n:Nat):Prop:=∃a c k,v = .agg #[.slice a n c,.int .i64 k]
def told (len:Nat->Nat)(es:List MapEntry)(seen:Array Nat):Nat:=(es.map fun e=>if seen.contains e.born then len e.born else 0).sum
theorem vG (len:Nat->Nat):∀es,told len es #[]=0
 | []=>rfl
 | e::l=>by
  have:=vG len l;unfold told at this ⊢
  simpa using this
theorem qU {len:Nat->Nat}{b:Nat}{seen:Array Nat}:∀ {es:List MapEntry},(∀e ∈ es,e.born≠b)->told len es (seen.push b)=told len es seen
 | [],_=>rfl
 | e::l,h=>by
  have ih:=qU (len:=len) (seen:=seen) fun x hx=>h x (List.mem_cons_of_mem _ hx);have h1:=h e List.mem_cons_self;unfold told at ih ⊢;simp only[List.map_cons,List.sum_cons,ih]
  congr 1
  simp[h1]
theorem qT {len:Nat->Nat}{seen:Array Nat}{e:MapEntry}:∀ {es:List MapEntry},(es.map (·.born)).Nodup->e ∈ es->seen.contains e.born=false->told len es (seen.push e.born)=told len es seen+len e.born
 | [],_,h,_=>by cases h
 | x::l,hn,hm,hs=>by
  rw[List.map_cons,List.nodup_cons]at hn;rcases List.mem_cons.1 hm with rfl|hm
  ·have ih:=qU (len:=len) (b:=e.born) (seen:=seen) (es:=l) fun y hy q=>hn.1 (q ▸ List.mem_map_of_mem hy);unfold told at ih ⊢;simp only[List.map_cons,List.sum_cons,ih,hs];simp;omega
  ·have ih:=qT (len:=len) (seen:=seen) hn.2 hm hs;have hne:x.born≠e.born:=fun q=>hn.1 (q ▸ List.mem_map_of_mem hm);unfold told at ih ⊢;simp only[List.map_cons,List.sum_cons,ih];simp[hne];omega
theorem xO (len:Nat->Nat)(seen:Array Nat):∀es:List MapEntry,told len es seen<=(es.map fun e=>len e.born).sum
 | []=>Nat.le_refl _
 | e::l=>by
  have:=xO len seen l;unfold told at this ⊢;simp only[List.map_cons,List.sum_cons];split<;>omega
theorem qS {len:Nat->Nat}{seen:Array Nat}:∀ {es:List MapEntry},(∀e ∈ es,seen.contains e.born=true)->told len es seen=(es.map fun e=>len e.born).sum
 | [],_=>rfl
 | e::l,h=>by
  have:=qS (len:=len) (seen:=seen) fun x hx=>h x (List.mem_cons_of_mem _ hx);unfold told at this ⊢;simp only[List.map_cons,List.sum_cons,this,h e List.mem_cons_self,if_true]
theorem aJ7 {es:Array MapEntry}{seen:Array Nat}{e:MapEntry}(he:e ∈ es.toList)(hs:seen.contains e.born=false):(leftOf es (seen.push e.born)).size<(leftOf es seen).size:=by
 have e1:es.toList.filter (fun x=>!(seen.push e.born).contains x.born)=(es.toList.filter fun x=>!seen.contains x.born).filter fun x=>x.born != e.born:=by
  rw[List.filter_filter]
  congr 1
  funext x
  rw[Bool.eq_iff_iff];simp[and_comm]
 have e2:∀s:Array Nat,(leftOf es s).size=(es.toList.filter fun x=>!s.contains x.born).length:=fun s=>by
  rw[<- Array.toList_filter,Array.length_toList];rfl
 rw[e2,e2,e1];exact List.length_filter_lt_length_iff_exists.2 ⟨e,List.mem_filter.2 ⟨he,by rw[hs];rfl⟩,by simp⟩
def aMf (w w1:World):Prop:=w1=w\/w1=w.drew
section
variable {P:Program} {ops:Array Oper} {rest:List Oper} {o:Oper} {a:Act} {Q:Exit->Act->World->Prop} {w:World}
theorem wF (hg:o.guard=none)(m:Operand)(t k e:TypeId)(hop:o.op = .range t m)(ht:P.underlying t=some (.map k e)){b:Nat}{es:Array MapEntry}{cl:Nat}(hm:a.eval m = .map (some b))(hb:w.heap[b]? = some (.map es cl))
  (hK:wpList P ops Q rest (a.put o.dst (.pointer (some ⟨w.heap.size,0,none⟩))) (w.alloc (.mapIter (some b) cl #[] cl))):wpList P ops Q (o::rest) a w:=by
 refine wpList_plain hg fun K' hK'=>?_;unfold Oper.wp;simp[execOp,hop,hm,run_range_map w t k e b es cl ht hb,Result.andThen];exact hK' _ _ hK
theorem yN (hg:o.guard=none)(it:Operand)(hop:o.op = .next it false){r bm since:Nat}{seen:Array Nat}{es:Array MapEntry}{clock:Nat}(hit:a.eval it = .pointer (some ⟨r,0,none⟩))
  (hr:w.heap[r]? = some (.mapIter (some bm) since seen since)) (hb:w.heap[bm]? = some (.map es clock)) (hold:∀x ∈ es.toList,x.born<since)
  (hDone:(leftOf es seen).size=0->wpList P ops Q rest (a.put o.dst (.tuple #[.bool false])) w)
  (hMore:∀e ∈ (leftOf es seen).toList,∀w1:World,aMf w w1->wpList P ops Q rest (a.put o.dst (.tuple #[.bool true,e.key,e.val])) (setBlock w1 r (.mapIter (some bm) since (seen.push e.born) clock))):wpList P ops Q (o::rest) a w:=by
 refine wpList_plain hg fun K' hK'=>?_;unfold Oper.wp;rcases run_next_at (P:=P) w o.type r bm since since seen es clock hr hb hold (Nat.le_refl _) with ⟨h0,hrun⟩|⟨e,he,w1,h1,hrun⟩
 ·simp[execOp,hop,hit,hrun,Result.andThen];exact hK' _ _ (hDone h0)
 ·simp[execOp,hop,hit,hrun,Result.andThen];exact hK' _ _ (hMore e he w1 h1)
end
theorem yF (b m:Nat)(w:World)(c0:w.cell? ⟨b,0,none⟩=some (.map (some m))):Calls Tryz.prog 211 #[.pointer (some ⟨b,0,none⟩)] w fun e w'=>e = .returned (.bool false)/\w=w':=by
 have hm:=fun w=>run_eql_map_nil (P:=Tryz.prog) w 340 9 470 (some m) Tryz.underlying340;go_enter Tryz.func211,Tryz.ntmps211;go_wp2_with fail;go_ret;exact⟨rfl,rfl⟩
def total (len:Nat->Nat)(es:Array MapEntry):Nat:=(es.toList.map fun e=>len e.born).sum
theorem aIP {a b:Int}(h:a=b):Ending.returned (.int .i64 a) = .returned (.int .i64 b):=by rw[h]
theorem free_any (b m:Nat)(room:Int)(es:Array MapEntry)(cl:Nat)(len:Nat->Nat)(w:World)(c0:w.cell? ⟨b,0,none⟩=some (.map (some m)))(c1:w.cell? ⟨b,1,none⟩=some (.int .i64 room))(hm:w.heap[m]? = some (.map es cl))
  (hborn:∀x ∈ es.toList,x.born<cl) (hnd:(es.toList.map (·.born)).Nodup) (hv:∀e ∈ es.toList,aKz e.val (len e.born)) (hr:-1099511627776<=room/\room<=1099511627776) (ht:total len es<=1099511627776) :
  Calls Tryz.prog 683 #[.pointer (some ⟨b,0,none⟩)] w fun e w'=>e = .returned (.int .i64 (max (room-total len es) 0))/\Below w.heap.size w w':=by
 have hml:m<w.heap.size:=(Array.getElem?_eq_some_iff.1 hm).1;have HM:=hid hm;have HB:=hid hborn;have HN:=hid hnd;have HV:=hid hv;have HR:=hid hr;have HT:=hid ht;have C0:=hid c0;clear hm hborn hnd hv hr ht;go_enter Tryz.func683,Tryz.ntmps683;go_wp2_with fail;refine(yF b m _ C0.out).mono ?_;rintro e w1 ⟨rfl,rfl⟩
 go_wp2_with (refine wF rfl _ 340 _ _ rfl Tryz.underlying340 rfl HM.out ?_)
 go_frame
 obtain⟨W1,hW1⟩:∃W1:World,W1=w.alloc (.mapIter (some m) cl #[] cl):=⟨_,rfl⟩;rw[<- hW1];have I1:Hid (W1.heap[w.heap.size]? = some (.mapIter (some m) cl #[] cl)):=hid (by rw[hW1];exact heap_alloc_new w _);have B1:Hid (Below w.heap.size w W1):=hid (by rw[hW1];exact(Below.refl _ _).alloc (Nat.le_refl _) _);have S1:W1.heap.size=w.heap.size+1:=by rw[hW1];simp
 clear hW1
 go_loopw [3] (fun x wr=>∃seen:Array Nat,x = .int .i64 (room-told len es.toList seen)/\wr.heap[w.heap.size]? = some (.mapIter (some m) cl seen cl)/\Below w.heap.size w wr) (fun _ wr=>match wr.heap[w.heap.size]? with|some (.mapIter _ _ seen _)=>(leftOf es seen).size|_=>0)
 case atStart=>exact⟨#[],by rw[vG];simp,I1.out,B1.out⟩
 case round =>
  obtain⟨seen,rfl,hit,hbl⟩:=hrel;have HI:=hid hit;have BB:=hid hbl;have hsz:=hbl.size;have HMR:Hid (wr.heap[m]? = some (.map es cl)):=hid ((hbl.block m hml).trans HM.out);clear hit hbl
  go_wp2_with (refine yN rfl _ rfl rfl HI.out HMR.out HB.out ?_ ?_)
  ·intro h0;have hall:∀e ∈ es.toList,seen.contains e.born=true:=fun e he=>by
    cases q:seen.contains e.born with
    | true=>rfl
    | false =>
     have:e ∈ (leftOf es seen).toList:=by
      unfold leftOf;simp only[Array.toList_filter,List.mem_filter];exact⟨he,by rw[q];rfl⟩
     rw[show leftOf es seen = #[] from by simpa using h0]at this;simp at this
   have HF:Hid (told len es.toList seen=total len es):=hid (qS hall);rw[HF.out];clear hall;go_wp2_with fail
   all_goals
    go_ret;exact⟨aIP (by omega),BB.out⟩
  ·intro e he w1 h1;have hel:e ∈ es.toList/\seen.contains e.born=false:=by
    replace he:e ∈ (leftOf es seen).toList:=by simpa using he
    unfold leftOf at he;simp only[Array.toList_filter,List.mem_filter]at he;exact⟨he.1,by simpa using he.2⟩
   obtain⟨a,c,k,hval⟩:=HV.out e hel.1;have hw1:w1.heap=wr.heap/\w1.os=wr.os/\w1.tape=wr.tape/\w1.output=wr.output:=by rcases h1 with rfl|rfl<;>exact⟨rfl,rfl,rfl,rfl⟩
   obtain⟨W2,hW2⟩:∃W2:World,W2=setBlock w1 w.heap.size (.mapIter (some m) cl (seen.push e.born) cl):=⟨_,rfl⟩;rw[<- hW2];have hrl:w.heap.size<w1.heap.size:=by rw[hw1.1];exact(Array.getElem?_eq_some_iff.1 HI.out).1
   have hs2:W2.heap.size=wr.heap.size:=by rw[hW2];simp[setBlock,hw1.1]
   have hr2:W2.heap[w.heap.size]? = some (.mapIter (some m) cl (seen.push e.born) cl):=by
    rw[hW2];show (w1.heap.setIfInBounds _ _)[_]? = _;rw[Array.getElem?_setIfInBounds_self_of_lt hrl]
   have hne:∀j,j≠w.heap.size->W2.heap[j]? = wr.heap[j]?:=fun j hj=>by
    rw[hW2,<- hw1.1];show (w1.heap.setIfInBounds _ _)[_]? = _;rw[Array.getElem?_setIfInBounds_ne (Ne.symm hj)]
   have hm2:W2.heap[m]? = some (.map es cl):=(hne m (by omega)).trans HMR.out;have hen:=run_entry_at (P:=Tryz.prog) W2 w.heap.size m cl seen es cl e hr2 hm2 hel.1 HN.out;have hb2:Below w.heap.size w W2:=by
    have b:=BB.out;refine⟨?_,?_,?_,by rw[hs2];exact b.size,fun j hj=>(hne j (by omega)).trans (b.block j hj)⟩
    ·rw[hW2];exact(show w1.os=w.os from hw1.2.1.trans b.os)
    ·rw[hW2];exact(show w1.tape=w.tape from hw1.2.2.1.trans b.tape)
    ·rw[hW2];exact(show w1.output=w.output from hw1.2.2.2.trans b.output)
   have HB2:=hid hb2;have HI2:=hid hr2;have HST:Hid (told len es.toList (seen.push e.born)=told len es.toList seen+len e.born):=hid (qT HN.out hel.1 hel.2);have hle:=xO len (seen.push e.born) es.toList;have HW64:Hid (wrap64 (room-told len es.toList seen-len e.born)=room-told len es.toList seen-len e.born):=hid (by
    have h1:=HT.out;have h2:=HR.out;have h3:=HST.out;unfold total at h1;simp only[wrap64];omega)
   have HMS:Hid ((leftOf es (seen.push e.born)).size<(leftOf es seen).size):=hid (aJ7 hel.1 hel.2);have hsl:w.heap.size<W2.heap.size:=by rw[hs2,<- hw1.1];exact hrl
   have hsz2:=hb2.size;rw[hval]at hen ⊢;clear hb2 hr2 hm2 hne hle hW2 hrl hw1 hval hel he h1;go_wp2_with fail
   go_roundw
   case rel =>
    refine⟨seen.push e.born,?_,?_,HB2.out.alloc hsz2 _⟩
    ·rw[HW64.out,HST.out]
     congr 1
     omega
    ·exact(lS W2 _ hsl).trans HI2.out
   case measure =>
    rw[(lS W2 _ hsl).trans HI2.out,HI.out];exact HMS.out
open Go.Proofs.Rn
def lenS:V->Option Nat
 | .q _ _ _ n _=>some n
 | .z _ _ _ _=>some 0
 | .o (.slice _ n _)=>some n
 | _=>none
def lenG:V->Option Nat
 | .g [x,.i .i64 _]=>lenS x
 | _=>none
theorem aJ8 {v:V}{n:Nat}(h:lenG v=some n)(E:En):aKz (v.den E) n:=by
 unfold lenG at h;split at h
 ·rename_i x k;unfold lenS at h;split at h<;>first|(cases h;done)|skip
  all_goals
   cases h;simp only[V.den,V.denL];exact⟨_,_,_,rfl⟩
 ·cases h
def filesM (cl:Nat):List (V × V × Nat)->Option Nat
 | []=>some 0
 | (_,v,b)::l=>match Nat.blt b cl&&l.all (fun e=>!Nat.beq e.2.2 b),lenG v,filesM cl l with
  | true,some n,some m=>some (n+m)
  | _,_,_=>none
def lenB:List (V × V × Nat)->Nat->Nat
 | [],_=>0
 | (_,v,b)::l,x=>if b=x then (lenG v).getD 0 else lenB l x
theorem pX {cl:Nat}:∀ {es:List (V × V × Nat)} {n:Nat},filesM cl es=some n->(∀e ∈ es,e.2.2<cl)/\(es.map fun e=>e.2.2).Nodup/\(∀e ∈ es,lenG e.2.1=some (lenB es e.2.2))/\(es.map fun e=>lenB es e.2.2).sum=n
 | [],n,h=>by
  simp only[filesM,Option.some.injEq]at h;subst h;exact⟨nofun,.nil,nofun,rfl⟩
 | (k,v,b)::l,n,h=>by
  unfold filesM at h;split at h
  ·rename_i a m hb ha hm;cases h;obtain⟨h1,h2,h3,h4⟩:=pX hm;simp only[Bool.and_eq_true,Nat.blt_eq,List.all_eq_true,Bool.not_eq_true']at hb;have hne:∀e ∈ l,b≠e.2.2:=fun e he q=>by
    have:=hb.2 e he;rw[q]at this;simp at this
   have hl:∀e ∈ l,lenB ((k,v,b)::l) e.2.2=lenB l e.2.2:=fun e he=>by rw[lenB,if_neg (hne e he)]
   refine⟨fun e he=>?_,?_,fun e he=>?_,?_⟩
   ·rcases List.mem_cons.1 he with rfl|he
    ·exact hb.1
    ·exact h1 e he
   ·exact List.nodup_cons.2 ⟨fun q=>by
     obtain⟨e,he,q⟩:=List.mem_map.1 q;exact hne e he q.symm,h2⟩
   ·rcases List.mem_cons.1 he with rfl|he
    ·simp only[lenB,if_true,ha,Option.getD_some]
    ·rw[hl e he];exact h3 e he
   ·simp only[List.map_cons,List.sum_cons];rw[List.map_congr_left hl,h4];simp only[lenB,if_true,ha,Option.getD_some]
  ·cases h
def hkFree (al:List V)(h:Hp):Option (V × Hp):=match al with
 | [.p d 0]=>match h.get d with
  | some (.cells (.m r :: .i .i64 room::_) false)=>match h.get r with
   | some (.map es cl)=>match filesM cl es with
    | some n=>match Nat.ble n 1099511627776&&(decide (-1099511627776<=room)&&decide (room<=1099511627776)) with
     | true=>some (.i .i64 (max (room-n) 0),h)
     | false=>none
    | none=>none
   | _=>none
  | _=>none
 | _=>none
theorem yH {w0 w:World}{E:En}{h h':Hp}{al:List V}{r:V}(hh:hkFree al h=some (r,h'))(g:Gd E w0 h w) :
  Calls Tryz.prog 683 (V.denL E al).toArray w fun e w'=>∃E',e = .returned (r.den E')/\Stp w0 E h E' h' w'/\r.wf h'.n h'.zn:=by
 unfold hkFree at hh;split at hh
 ·rename_i d;split at hh
  ·rename_i i room cs hd;split at hh
   ·rename_i es cl hi;split at hh
    ·rename_i n hn;split at hh
     ·rename_i hc;cases hh;simp only[Bool.and_eq_true,Nat.ble_eq,decide_eq_true_eq]at hc;obtain⟨f1,f2,f3,f4⟩:=pX hn;have ed:=g.ent hd;have ei:=g.ent hi;have hb0:=ed.2.2.2.2 rfl;have c0:=(ed.2.2.1 0 _ rfl).1;have c1:=(ed.2.2.1 1 _ rfl).1;have hat:∀j,E.at d j=⟨(E.B d).1,j,none⟩:=fun j=>by simp only[En.at,hb0,Nat.zero_add]
      rw[hat]at c0 c1;simp only[V.den]at c0 c1;have hm:w.heap[(E.B i).1]? = some (.map (es.map fun e=>(⟨e.1.den E,e.2.1.den E,e.2.2⟩:MapEntry)).toArray cl):=ei.2;have htot:total (lenB es) (es.map fun e=>(⟨e.1.den E,e.2.1.den E,e.2.2⟩:MapEntry)).toArray=n:=by
       unfold total;simp only[List.map_map];exact f4
      have key:=free_any (E.B d).1 (E.B i).1 room _ cl (lenB es) w c0 c1 hm (fun x hx=>by
       obtain⟨e,he,rfl⟩:=List.mem_map.1 hx;exact f1 e he) (by simpa [Function.comp_def] using f2) (fun x hx=>by
       obtain⟨e,he,rfl⟩:=List.mem_map.1 hx;exact aJ8 (f3 e he) E) hc.2 (by rw[htot];exact hc.1)
      rw[htot]at key;have ha:(V.denL E [V.p d 0]).toArray = #[.pointer (some ⟨(E.B d).1,0,none⟩)]:=by simp only[V.denL,V.den,hat]
      rw[ha];refine key.mono ?_;rintro e w' ⟨rfl,hb⟩;exact⟨E,by simp only[V.den],⟨g.step (Kept.aQ hb (S:=fun _=>False) fun k h1 h2=>by omega),Ext.refl _ _ _,Nat.le_refl _,Nat.le_refl _,rfl,fun _ _=>SameE.refl _ _ _⟩,by simp only[V.wf]⟩
     ·cases hh
    ·cases hh
   ·cases hh
  ·cases hh
 ·cases hh
