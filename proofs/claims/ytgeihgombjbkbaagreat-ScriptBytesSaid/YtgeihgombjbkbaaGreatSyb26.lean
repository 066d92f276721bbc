/- For scbytes_law_holds. -/
import Derived.Laws.AppendOwn
import Derived.Test.YtgeihgombjbkbaaGreatSyb24
namespace Go.Proofs.Rn
open Go Go.RowKit Go.Proofs.Own

def srcA (tt:TypeId->Option TJ)(h:Hp)(es:Nat)(tx:TypeId)(v:V):Option (Nat × List V):=match tt tx with
 | some i=>match i.k,v with
  | .sl _,.o (.slice none 0 _)=>some (0,[])
  | .sl _,.z _ _ _ _=>some (0,[])
  | .sl _,.q i o es' n _=>if es'=es then (match h.get i with
   | some (.cells c _)=>match lcut c o (n*es) with
    | some l=>if oneVL l then some (n,l) else none
    | none=>none
   | _=>none) else none
  | .str,.s l=>match es with
   | 1=>if l.all (fun n=>Nat.blt n 256) then some (l.length,l.map fun n=>.i .u8 (.ofNat n)) else none
   | _=>none
  | _,_=>none
 | none=>none
def appH (h:Hp)(es bt:Nat)(s:V)(k:Nat)(news:List V):Option (V × Hp):=match Nat.ble bt 100000,s with
 | true,.o (.slice none 0 0)=>match k with
  | 0=>some (.o (.slice none 0 0),h)
  | _=>if Nat.ble k 1000000 then some (.q h.n 0 es k none,h.new (.cells news true)) else none
 | true,.q i o es' n c=>if es'=es&&Nat.ble (n+k) 1000000 then (match h.get i with
  | some (.cells l u)=>match c with
   | some cc=>match Nat.ble (n+k) cc with
    | true=>match k with
     | 0=>some (.q i o es n (some cc),h)
     | _=>match storeH h i (o+n*es) news with
      | some h=>some (.q i o es (n+k) (some cc),h)
      | none=>none
    | false=>match lcut l o (n*es) with
     | some old=>some (.q h.n 0 es (n+k) none,h.new (.cells (old++news) true))
     | none=>none
   | none=>match u,Nat.ble (o+(n+k)*es) l.length with
    | true,true=>match k with
     | 0=>some (.q i o es n none,h)
     | _=>match storeH h i (o+n*es) news with
      | some h=>some (.q i o es (n+k) none,h)
      | none=>none
    | true,false=>match lcut l o (n*es) with
     | some old=>if fzHas h.fz i then none else some (.q h.n 0 es (n+k) none,(h.put i .dead).new (.cells (old++news) true))
     | none=>none
    | _,_=>none
  | _=>none) else none
 | _,_=>none
section
variable {P:Program} {tt:TypeId->Option TJ} {E:En} {w0 w:World} {h h':Hp} {r:V}
theorem byteCells_mkS (l:List Nat)(hl:l.all (fun n=>Nat.blt n 256)=true):byteCells (mkS l)=V.denL E (l.map fun n=>.i .u8 (.ofNat n)):=by
 unfold byteCells mkS;rw[denL_eq,List.map_map];simp only[List.map_map];refine List.map_congr_left fun n hn=>?_;have:=List.all_eq_true.1 hl n hn;simp only[Nat.blt_eq]at this;simp only[Function.comp_apply,V.den]
 congr 1
 simp;omega
theorem cell_den {i:Nat}{c:List V}{u:Bool}{l:List V}{o k:Nat}(he:EntOk E w0.heap.size i w (.cells c u))(hc:lcut c o k=some l):(V.denL E l).length=k /\ ∀(j:Nat) v,(V.denL E l)[j]? = some v->w.cell? ((E.at i o).add j)=some v:=by
 obtain⟨h1,h2⟩:=lcut_den (E:=E) hc;refine⟨h1,fun j v hv=>?_⟩;have h3:=h2 j v hv;rw[denL_get]at h3;cases e:c[o+j]? with
 | none=>rw[e]at h3;cases h3
 | some a =>
  rw[e]at h3;cases h3;rw[at_add];exact(he.2.2.1 _ a e).1
theorem srcA_ok (hT:TTok P tt)(g:Gd E w0 h w){es k:Nat}{tx:TypeId}{v:V}{l:List V}(hs:srcA tt h es tx v=some (k,l)):Src P es tx (v.den E) k (V.denL E l) w:=by
 unfold srcA at hs;split at hs
 ·rename_i i hi;obtain⟨d,u1,u2⟩:=(hT _ _ hi).und;split at hs
  ·rename_i e c hk;cases hs;rw[hk]at u2;cases d<;>first|exact u2.elim|skip
   simp only[V.den,V.denL];exact Src.ofNil w u1 _
  ·rename_i e j1 j2 j3 j4 hk;cases hs;rw[hk]at u2;cases d<;>first|exact u2.elim|skip
   simp only[V.den,V.denL];exact Src.ofSlice w u1 _ _ _ _ (by simp) (fun j v hv=>by simp at hv) (fun _ hv=>by simp at hv)
  ·rename_i e b o es' n c hk;split at hs
   ·rename_i e;subst e;split at hs
    ·rename_i cl uu hb;split at hs
     ·rename_i q hq;split at hs
      ·rename_i ho;cases hs;rw[hk]at u2;cases d<;>first|exact u2.elim|skip
       obtain⟨h1,h2⟩:=cell_den (g.ent hb) hq;simp only[V.den];exact Src.ofSlice w u1 _ _ _ _ h1 h2 (oneVL_den E ho)
      ·cases hs
     ·cases hs
    ·cases hs
   ·cases hs
  ·rename_i s hk;split at hs
   ·split at hs
    ·rename_i ha;cases hs;rw[hk]at u2;cases d<;>first|exact u2.elim|skip
     have:=Src.ofString (P:=P) w u1 (mkS s);rw[mkS_size,byteCells_mkS (E:=E) s ha]at this
     simpa only[V.den] using this
    ·cases hs
   ·cases hs
  ·cases hs
 ·cases hs
theorem srcA_wf (g:Gd E w0 h w){es k:Nat}{tx:TypeId}{v:V}{l:List V}(hs:srcA tt h es tx v=some (k,l)):V.wfL h.n h.zn l:=by
 unfold srcA at hs;split at hs
 ·split at hs
  ·cases hs;trivial
  ·cases hs;trivial
  ·split at hs
   ·split at hs
    ·rename_i hb;split at hs
     ·rename_i q hq;split at hs
      ·cases hs;exact lcut_wf hq (g.wf.wf hb)
      ·cases hs
     ·cases hs
    ·cases hs
   ·cases hs
  ·split at hs
   ·split at hs
    ·cases hs;refine wfL_iff.2 fun v hv=>?_;obtain⟨n,_,rfl⟩:=List.mem_map.1 hv;simp only[V.wf]
    ·cases hs
   ·cases hs
  ·cases hs
 ·cases hs
theorem grow_in (g:Gd E w0 h w){i o n k es:Nat}{l old news:List V}(hb:h.get i=some (.cells l true))(hq:lcut l o (n*es)=some old)(hn:news.length=k*es)(hw:V.wfL h.n h.zn news)(hc:o+(n+k)*es<=E.C i)(hz:¬fzHas h.fz i=true) :
  Stp w0 E h (E.new h.n ((E.B i).1,(E.B i).2+o) (E.C i-o)) ((h.put i .dead).new (.cells (old++news) true)) (w.setCells (E.B i).1 ((E.B i).2+(o+n*es)) (V.denL E news)):=by
 have he:=g.ent hb;obtain⟨q1,q2,q3⟩:=lcut_some _ _ _ _ hq;have hk:=Kept.setCells (E.B i).1 (V.denL E news) ((E.B i).2+(o+n*es)) w;have g1:=(g.kill i hb).stepS hk (fun k hk=>hk ▸ he.1) (fun {j f} hj fd e=>by
  by_cases q:j=i
  ·subst q;rw[Hp.get_put]at hj;exact fd (Option.some.inj hj).symm
  ·rw[Hp.get_put_ne _ _ q]at hj;exact q (g.inj hj hb fd nofun e))
 have hin:i<h.n:=g.wf.lt hb;have hx:=E.new_ext h.n h.zn ((E.B i).1,(E.B i).2+o) (E.C i-o);have hroom:=(he.2.2.2.1 rfl).2;have hwo:V.wfL h.n h.zn old:=lcut_wf hq (g.wf.wf hb);have hw2:V.wfL h.n h.zn (old++news):=wfL_iff.2 fun v hv=>(List.mem_append.1 hv).elim (wfL_iff.1 hwo v) (wfL_iff.1 hw v);have hlen:(n+k)*es=n*es+k*es:=Nat.add_mul _ _ _;have hent:EntOk (E.new h.n ((E.B i).1,(E.B i).2+o) (E.C i-o)) w0.heap.size h.n (w.setCells (E.B i).1 ((E.B i).2+(o+n*es)) (V.denL E news)) (.cells (old++news) true):=by
  refine⟨by simp only[En.new,if_true];exact he.1,by simp only[En.new,if_true];exact Nat.lt_of_lt_of_le he.2.1 hk.size,fun j v hv=>?_,fun _=>⟨?_,fun j hj=>?_⟩,nofun⟩
  ·rw[En.new_at,World.frozen?_setCells,V.den_ext hx v (wfL_iff.1 hw2 v (List.mem_of_getElem? hv))];by_cases hj:j<n*es
   ·rw[List.getElem?_append_left (by omega),q3 j hj]at hv;have:=he.2.2.1 _ v hv;simp only[En.at]at this;rw[World.cell?_setCells_out _ _ _ _ _ (fun _ _=>by simp only;omega),Nat.add_assoc];exact this
   ·rw[List.getElem?_append_right (by omega),q1]at hv;have hjl:=(List.getElem?_eq_some_iff.1 hv).1;refine⟨?_,?_⟩
    ·have:=World.cell?_setCells_in (E.B i).1 (V.denL E news) ((E.B i).2+(o+n*es)) w (fun m hm=>by
      rw[denL_len]at hm;have:=(hroom (o+n*es+m) (by omega)).1
      simpa only[En.at,Nat.add_assoc] using this) (j-n*es) (by rw[denL_len];omega)
     rw[show (E.B i).2+(o+n*es)+(j-n*es)=(E.B i).2+o+j by omega]at this;rw[this,<- List.getElem?_eq_getElem,denL_get,hv];rfl
    ·have:=(hroom (o+j) (by omega)).2
     simpa only[En.at,Nat.add_assoc] using this
  ·simp only[En.new,if_true,List.length_append];omega
  ·simp only[En.new,if_true]at hj;rw[En.new_at,World.frozen?_setCells];have:=hroom (o+j) (by omega);simp only[En.at]at this;rw[Nat.add_assoc];exact⟨World.isSome_setCells _ _ _ _ _ this.1,this.2⟩
 refine⟨g1.new (b:=((E.B i).1,(E.B i).2+o)) (c:=E.C i-o) (Kept.refl _ _) (V.wfL_mono (Nat.le_succ _) (Nat.le_refl _) _ hw2) hent (fun {j f} hj fd e=>?_),hx,Nat.le_succ _,Nat.le_refl _,rfl,fun j hj=>?_⟩
 ·by_cases q:j=i
  ·subst q;rw[Hp.get_put]at hj;exact fd (Option.some.inj hj).symm
  ·rw[Hp.get_put_ne _ _ q]at hj;exact q (g.inj hj hb fd nofun e)
 ·have hjn:=g.wf.fzl j hj;rw[Hp.get_new_ne (h.put i .dead) _ (show j.1≠(h.put i .dead).n from Nat.ne_of_lt hjn),Hp.get_put_ne]
  ·exact SameE.refl _ _ _
  ·intro e;exact hz (List.any_eq_true.2 ⟨j,hj,by rw[e];exact Nat.beq_refl _⟩)
theorem grow_new (g:Gd E w0 h w){t tx e ty:TypeId}{i:TJ}(ht:P.underlying t=some (.slice e))(hi:TyOk P e i)(h0:0<i.n)(hbt:i.bt<=100000){xv:Value}{n k cap:Nat}{base:Option Addr}{old news:List V}(hwo:V.wfL h.n h.zn old)(hol:old.length=n*i.n)
  (hold:(Builtin.firstCells i.n n (.slice base n cap)).run P w.drew = .ok (V.denL E old).toArray w.drew) (hs:Src P i.n tx xv k (V.denL E news) w) (hnw:V.wfL h.n h.zn news) (hg:cap<n+k) (hk:n+k<=1000000) :
  ∃E' w',Stp w0 E h E' (h.new (.cells (old++news) true)) w'/\(Builtin.append_ #[t,tx] ty #[.slice base n cap,xv]).run P w = .ok ((V.q h.n 0 i.n (n+k) none).den E') w':=by
 obtain⟨qi,hq1,hq2,hq3⟩:=hi.info;obtain⟨qz,hz1,hz2,hz3⟩:=hi.zero E;rw[hq1]at hz1;cases hz1;have hnl:news.length=k*i.n:=by have:=hs.newsLen;rwa [denL_len]at this
 have hzc:((zeroV i).den E).cells.size=i.n:=by rw[hz3,List.size_toArray,denL_len,hi.zlen]
 have hge:=grownCap_ge w (n+k) cap e;have hbk:(n+k)*i.bt<=140737488355328:=Nat.le_trans (Nat.mul_le_mul hk hbt) (by decide);rw[<- hq2]at hs hold;have hrun:=run_append_grow_src w t tx ty e qi _ ht hq1 hz2 base n cap (V.denL E old) hold xv k (V.denL E news) hs hg (by omega) (growslice_fits hg (by rw[hq3];exact hbk));generalize hcap:grownCap w (n+k) cap e=gc at hrun hge;have hsz:(Builtin.zeroCells ((zeroV i).den E).cells (gc-(n+k))).size=(gc-(n+k))*i.n:=by rw[size_zeroCells,hzc]
 have hmul:(n+k)*i.n+(gc-(n+k))*i.n=gc*i.n:=by rw[<- Nat.add_mul];congr 1;omega
 have hadd:(n+k)*i.n=n*i.n+k*i.n:=Nat.add_mul _ _ _;have hw2:V.wfL h.n h.zn (old++news):=wfL_iff.2 fun v hv=>(List.mem_append.1 hv).elim (wfL_iff.1 hwo v) (wfL_iff.1 hnw v);have hstp:=new_cells (u:=true) (c:=gc*i.n) (arr:=((V.denL E old++V.denL E news).toArray++Builtin.zeroCells ((zeroV i).den E).cells (gc-(n+k)))) (t:=e) g (Kept.drew w _) hw2
  (fun j v hv=>by
   rw[denL_eq,List.map_append,<- denL_eq,<- denL_eq]at hv;rw[Array.getElem?_append_left (by rw[List.size_toArray];exact(List.getElem?_eq_some_iff.1 hv).1),List.getElem?_toArray];exact hv)
  (fun _=>⟨by rw[List.length_append];omega,by rw[Array.size_append,hsz,List.size_toArray,List.length_append,denL_len,denL_len];omega⟩)
 refine⟨_,_,hstp,?_⟩;rw[hrun]
 congr 1
 simp only[V.den,En.new_at,Nat.add_zero,World.drew];simp only[En.new,if_true,Nat.sub_zero,Nat.mul_div_cancel _ h0]
theorem appH_ok (_hT:TTok P tt)(g:Gd E w0 h w){t tx e ty:TypeId}{i:TJ}(ht:P.underlying t=some (.slice e))(hi:TyOk P e i)(h0:0<i.n){s:V}{xv:Value}{k:Nat}{news:List V}(hsw:s.wf h.n h.zn)(hs:Src P i.n tx xv k (V.denL E news) w)(hnw:V.wfL h.n h.zn news)
  (ha:appH h i.n i.bt s k news=some (r,h')):∃E' w',Stp w0 E h E' h' w'/\r.wf h'.n h'.zn/\(Builtin.append_ #[t,tx] ty #[s.den E,xv]).run P w = .ok (r.den E') w':=by
 obtain⟨qi,hq1,hq2,hq3⟩:=hi.info;have hnl:news.length=k*i.n:=by have:=hs.newsLen;rwa [denL_len]at this
 have hone:=hs.one;unfold appH at ha;split at ha
 ·rename_i hbt;simp only[Nat.ble_eq]at hbt;split at ha
  ·cases ha;refine⟨E,w,Stp.refl g,by simp only[V.wf],?_⟩;rw[<- hq2]at hs;have hc:=hs.cells;rcases hs.kind with ⟨e',hk⟩|hk<;>simp[V.den,Builtin.append_,run_underlying ht,run_underlying hk,sizeOf,typeInfo,hq1,hs.len,hc]
  ·rename_i k0;split at ha
   ·rename_i hkb;cases ha;simp only[Nat.ble_eq]at hkb;have hk0:0<k:=Nat.pos_of_ne_zero k0;obtain⟨E',w',q1,q2⟩:=grow_new (ty:=ty) (n:=0) (cap:=0) (base:=none) (old:=[]) g ht hi h0 hbt trivial (by simp) (by rw[V.denL];exact run_firstCells_none w.drew i.n 0 0 0) hs hnw (by omega) (by omega);refine⟨E',w',by simpa using q1,by simp only[V.wf];exact⟨Nat.lt_succ_self _,h0⟩,?_⟩;rw[Nat.zero_add]at q2
    simpa only[V.den] using q2
   ·cases ha
 ·rename_i b o es' n c hbt;simp only[Nat.ble_eq]at hbt;simp only[V.wf]at hsw;split at ha
  ·rename_i hcnd;simp only[Bool.and_eq_true,decide_eq_true_eq,Nat.ble_eq]at hcnd;obtain⟨hes,hkb⟩:=hcnd;subst hes;split at ha
   ·rename_i l u hb;have he:=g.ent hb;have room:∀ {cp:Nat} {h2:Hp},n+k<=cp->storeH h b (o+n*i.n) news=some h2 -> ∃w',Stp w0 E h E h2 w'/\(Builtin.append_ #[t,tx] ty #[.slice (some (E.at b o)) n cp,xv]).run P w = .ok (.slice (some (E.at b o)) (n+k) cp) w':=fun {cp h2} hle hst=>by
     obtain⟨w',hr,hstp⟩:=storeH_ok (P:=P) hst g hnw hone;have hst2:=hst;unfold storeH at hst2;rw[hb]at hst2;simp only at hst2;split at hst2
     ·cases hst2
     ·rename_i hc;simp only[Bool.or_eq_true,Bool.not_eq_true',not_or,Bool.not_eq_true,Bool.not_eq_false,Nat.ble_eq]at hc;have hr2:=run_store (P:=P) g hb hc.2 hone;have hww:w'=w.setCells (E.B b).1 ((E.B b).2+(o+n*i.n)) (V.denL E news):=by rw[hr]at hr2;cases hr2;rfl
      subst hww;refine⟨_,hstp,?_⟩;have hs':=hs;rw[<- hq2]at hs';have:=run_append_room_src w t tx ty e qi ht hq1 (E.B b).1 ((E.B b).2+o) n cp xv k (V.denL E news) hs' hle (fun j hj=>by
       rw[denL_len]at hj;have:=(cells_at he (show o+n*i.n+j<l.length by omega)).1
       simpa only[En.at,Nat.add_assoc,hq2] using this) (fun j hj=>by
       rw[denL_len]at hj;have:=(cells_at he (show o+n*i.n+j<l.length by omega)).2
       simpa only[En.at,Nat.add_assoc,hq2] using this)
      rw[hq2]at this
      simpa only[En.at,Nat.add_assoc] using this
    have none0:∀ {cp:Nat},k=0->n+k<=cp->(Builtin.append_ #[t,tx] ty #[.slice (some (E.at b o)) n cp,xv]).run P w = .ok (.slice (some (E.at b o)) n cp) w:=fun {cp} hk hle=>by
     subst hk;have hnil:news = []:=List.eq_nil_of_length_eq_zero (by simpa using hnl);subst hnil;have hs':=hs;rw[<- hq2]at hs';have:=run_append_room_src w t tx ty e qi ht hq1 (E.B b).1 ((E.B b).2+o) n cp xv 0 (V.denL E []) hs' hle (fun j hj=>by rw[denL_len]at hj;cases hj) (fun j hj=>by rw[denL_len]at hj;cases hj)
     simpa only[En.at,Nat.add_zero,V.denL,World.setCells] using this
    have olds:∀ {q:List V} {cp:Nat},lcut l o (n*i.n)=some q->(Builtin.firstCells i.n n (.slice (some (E.at b o)) n cp)).run P w.drew = .ok (V.denL E q).toArray w.drew:=fun {q cp} hq=>by
     obtain⟨k1,k2⟩:=cell_den he hq;exact run_firstCells_some w.drew i.n n (E.at b o) n cp (V.denL E q) k1 (by simpa using k2)
    have wfq:∀ {m N c},b<N->0<i.n->(V.q b o i.n m c).wf N h.zn:=fun h1 h2=>by simp only[V.wf];exact⟨h1,h2⟩
    split at ha
    ·rename_i cc;split at ha
     ·rename_i hle;simp only[Nat.ble_eq]at hle;split at ha
      ·cases ha;exact⟨E,w,Stp.refl g,wfq hsw.1 h0,by simpa only[V.den] using none0 rfl hle⟩
      ·split at ha
       ·rename_i h2 hst;cases ha;obtain⟨w',q1,q2⟩:=room hle hst;refine⟨E,w',q1,?_,by simpa only[V.den] using q2⟩;simp only[V.wf];exact⟨Nat.lt_of_lt_of_le hsw.1 q1.n,h0⟩
       ·cases ha
     ·rename_i hle;split at ha
      ·rename_i q hq;cases ha;have hq0:=lcut_some _ _ _ _ hq;have hgt:cc<n+k:=by
        by_cases c:n+k<=cc
        ·rw[Nat.ble_eq_true_of_le c]at hle;cases hle
        ·omega
       obtain⟨E',w',q1,q2⟩:=grow_new (ty:=ty) (cap:=cc) g ht hi h0 hbt (lcut_wf hq (g.wf.wf hb)) hq0.1 (olds hq) hs hnw hgt hkb;exact⟨E',w',q1,by simp only[V.wf];exact⟨Nat.lt_succ_self _,h0⟩,by simpa only[V.den] using q2⟩
      ·cases ha
    ·split at ha
     ·rename_i hle;simp only[Nat.ble_eq]at hle;have hcp:n+k<=(E.C b-o) / i.n:=(Nat.le_div_iff_mul_le h0).2 (by have:=(he.2.2.2.1 rfl).1;omega);split at ha
      ·cases ha;exact⟨E,w,Stp.refl g,wfq hsw.1 h0,by simpa only[V.den] using none0 rfl hcp⟩
      ·split at ha
       ·rename_i h2 hst;cases ha;obtain⟨w',q1,q2⟩:=room hcp hst;refine⟨E,w',q1,?_,by simpa only[V.den] using q2⟩;simp only[V.wf];exact⟨Nat.lt_of_lt_of_le hsw.1 q1.n,h0⟩
       ·cases ha
     ·split at ha
      ·rename_i q hq;split at ha
       ·cases ha
       ·rename_i hz;cases ha;have hq0:=lcut_some _ _ _ _ hq;have hwr:(V.q h.n 0 i.n (n+k) none).wf (h.n+1) h.zn:=by simp only[V.wf];exact⟨Nat.lt_succ_self _,h0⟩
        by_cases hle:n+k<=(E.C b-o) / i.n
        ·have hle2:=(Nat.le_div_iff_mul_le h0).1 hle;have hroom:=he.2.2.2.1 rfl;have hpos:0<k\/k=0:=by omega
         have hC:o+(n+k)*i.n<=E.C b:=by
          have:o<=E.C b:=by omega
          omega
         have hst:=grow_in g hb hq hnl hnw hC hz;refine⟨_,_,hst,hwr,?_⟩;have hs':=hs;rw[<- hq2]at hs';have hadd:(n+k)*i.n=n*i.n+k*i.n:=Nat.add_mul _ _ _;have:=run_append_room_src w t tx ty e qi ht hq1 (E.B b).1 ((E.B b).2+o) n ((E.C b-o) / i.n) xv k (V.denL E news) hs' hle (fun j hj=>by
          rw[denL_len]at hj;have:=(hroom.2 (o+n*i.n+j) (by omega)).1
          simpa only[En.at,Nat.add_assoc,hq2] using this) (fun j hj=>by
          rw[denL_len]at hj;have:=(hroom.2 (o+n*i.n+j) (by omega)).2
          simpa only[En.at,Nat.add_assoc,hq2] using this)
         rw[hq2]at this;simp only[V.den,En.new_at,Nat.add_zero];simp only[En.new,if_true,Nat.sub_zero]
         simpa only[En.at,Nat.add_assoc] using this
        ·obtain⟨E',w',q1,q2⟩:=grow_new (ty:=ty) (cap:=(E.C b-o) / i.n) g ht hi h0 hbt (lcut_wf hq (g.wf.wf hb)) hq0.1 (olds hq) hs hnw (by omega) hkb;refine⟨E',w',?_,hwr,by simpa only[V.den] using q2⟩;have hbn:b<h.n:=g.wf.lt hb;have hbg:(h.new (.cells (q++news) true)).get b=some (.cells l true):=by rw[Hp.get_new_ne _ _ (Nat.ne_of_lt hbn)];exact hb
         have gk:=q1.gd.kill b hbg;have hsame:∀j,((h.new (.cells (q++news) true)).put b .dead).get j=((h.put b .dead).new (.cells (q++news) true)).get j:=fun j=>by
          by_cases e1:j=b
          ·subst e1;rw[Hp.get_put,Hp.get_new_ne (h.put j .dead) _ (Nat.ne_of_lt hbn),Hp.get_put]
          ·rw[Hp.get_put_ne _ _ e1];by_cases e2:j=h.n
           ·subst e2;rw[Hp.get_new];exact(Hp.get_new (h.put b .dead) _).symm
           ·rw[Hp.get_new_ne _ _ e2,Hp.get_new_ne (h.put b .dead) _ e2,Hp.get_put_ne _ _ e1]
         refine⟨⟨gk.bel,⟨fun {j f} hj=>gk.wf.lt ((hsame j).trans hj),fun {j f} hj=>gk.wf.wf ((hsame j).trans hj),gk.wf.fzl⟩,fun {j f} hj=>gk.ent ((hsame j).trans hj),fun {j1 j2 f1 f2} hj1 hj2=>gk.inj ((hsame j1).trans hj1) ((hsame j2).trans hj2)⟩,q1.ext,q1.n,q1.zn,q1.fz,fun j hj=>?_⟩;rw[<- hsame,Hp.get_put_ne]
         ·exact q1.fr j hj
         ·intro e;exact hz (List.any_eq_true.2 ⟨j,hj,by rw[e];exact Nat.beq_refl _⟩)
      ·cases ha
     ·cases ha
   ·cases ha
  ·cases ha
 ·cases ha
end
end Go.Proofs.Rn
