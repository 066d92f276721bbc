/- For scbytes_law_holds. -/
import Derived.Laws.MakeOwn
import Derived.Test.YtgeihgombjbkbaaGreatSyb14
import Derived.Test.YtgeihgombjbkbaaGreatSyb18
namespace Go.Proofs.Rn
open Go Go.RowKit Go.Proofs.Own

def SameE (lo hi:Nat):Option Ent->Option Ent->Prop
 | some (.cells l _),some (.cells l' _)=>∀j,lo<=j->j<hi->l'[j]? = l[j]?
 | a,b=>b=a
theorem SameE.refl (lo hi:Nat)(a:Option Ent):SameE lo hi a a:=by
 cases a with
 | none=>rfl
 | some e=>cases e<;>first|rfl|exact fun _ _ _=>rfl
structure Stp (w0:World)(E:En)(h:Hp)(E':En)(h':Hp)(w':World):Prop where
 gd:Gd E' w0 h' w'
 ext:Ext h.n h.zn E E'
 n:h.n<=h'.n
 zn:h.zn<=h'.zn
 fz:h'.fz=h.fz
 fr:∀i ∈ h.fz,SameE i.2.1 i.2.2 (h.get i.1) (h'.get i.1)
def storeH (h:Hp)(b o:Nat)(l:List V):Option Hp:=match h.get b with
 | some (.cells c u)=>if fzHit h.fz b o (o+l.length) || !(Nat.ble (o+l.length) c.length) then none else some (h.put b (.cells (lput c o l) u))
 | _=>none
section
variable {P:Program} {E:En} {w0 w:World} {h h':Hp} {l:List V} {b o:Nat}
theorem Stp.refl (g:Gd E w0 h w):Stp w0 E h E h w:=⟨g,Ext.refl _ _ _,Nat.le_refl _,Nat.le_refl _,rfl,fun _ _=>SameE.refl _ _ _⟩
theorem Hp.get_put (h:Hp)(i:Nat)(e:Ent):(h.put i e).get i=some e:=Tr.get_put _ _ _
theorem Hp.get_put_ne (h:Hp){i j:Nat}(e:Ent)(q:j≠i):(h.put i e).get j=h.get j:=Tr.get_put_ne _ _ q
theorem Hp.get_new (h:Hp)(e:Ent):(h.new e).get h.n=some e:=Tr.get_put _ _ _
theorem Hp.get_new_ne (h:Hp){j:Nat}(e:Ent)(q:j≠h.n):(h.new e).get j=h.get j:=Tr.get_put_ne _ _ q
theorem cells_at {c:List V}{u:Bool}{i:Nat}(he:EntOk E w0.heap.size i w (.cells c u)){j:Nat}(hj:j<c.length):(w.cell? (E.at i j)).isSome=true/\w.frozen? (E.at i j)=false:=by
 obtain⟨h1,h2⟩:=he.2.2.1 j _ (List.getElem?_eq_getElem hj);exact⟨by rw[h1];rfl,h2⟩
theorem run_store {c:List V}{u:Bool}(g:Gd E w0 h w)(hb:h.get b=some (.cells c u))(hl:o+l.length<=c.length)(h1:∀v ∈ V.denL E l,v.oneCell'=true) :
  (storeCells (E.at b o) (V.denL E l) 0).run P w = .ok () (w.setCells (E.B b).1 ((E.B b).2+o) (V.denL E l)):=by
 have he:=g.ent hb;have hll:=denL_len E l;have:=run_storeCells_cells (P:=P) (E.B b).1 ((E.B b).2+o) (V.denL E l) 0 w (fun j hj=>by
  have:=(cells_at he (show o+j<c.length by omega)).1
  simpa only[En.at,Nat.add_zero,Nat.add_assoc] using this) (fun j hj=>by
  have:=(cells_at he (show o+j<c.length by omega)).2
  simpa only[En.at,Nat.add_zero,Nat.add_assoc] using this) h1
 simpa only[En.at,Nat.add_zero] using this
theorem set_ok {c:List V}{u:Bool}(g:Gd E w0 h w)(hb:h.get b=some (.cells c u))(hl:o+l.length<=c.length)(hw:V.wfL h.n h.zn l) :
  Gd E w0 (h.put b (.cells (lput c o l) u)) (w.setCells (E.B b).1 ((E.B b).2+o) (V.denL E l)):=by
 have he:=g.ent hb;have hll:=denL_len E l;have hk:=Kept.setCells (E.B b).1 (V.denL E l) ((E.B b).2+o) w;refine g.put hb nofun hk (lput_wf hl (g.wf.wf hb) hw) ⟨he.1,Nat.lt_of_lt_of_le he.2.1 hk.size,fun j v hv=>?_,fun hu=>⟨by rw[lput_length hl];exact(he.2.2.2.1 hu).1,fun j hj=>?_⟩,he.2.2.2.2⟩
 ·rw[World.frozen?_setCells];rw[lput_get hl]at hv;split at hv
  ·rename_i hj;have hjc:j<c.length:=by omega
   refine⟨?_,(cells_at he hjc).2⟩;have:=World.cell?_setCells_in (E.B b).1 (V.denL E l) ((E.B b).2+o) w (fun i hi=>by
    have:=(cells_at he (show o+i<c.length by omega)).1
    simpa only[En.at,Nat.add_assoc] using this) (j-o) (by omega)
   rw[show (E.B b).2+o+(j-o)=(E.B b).2+j by omega]at this;simp only[En.at];rw[this,<- List.getElem?_eq_getElem,denL_get,hv];rfl
  ·rename_i hj;have:=he.2.2.1 j v hv;refine⟨?_,this.2⟩;rw[World.cell?_setCells_out _ _ _ _ _ (fun _ _=>by simp only[En.at];omega)];exact this.1
 ·rw[World.frozen?_setCells];exact⟨World.isSome_setCells _ _ _ _ _ ((he.2.2.2.1 hu).2 j hj).1,((he.2.2.2.1 hu).2 j hj).2⟩
theorem storeH_ok (hs:storeH h b o l=some h')(g:Gd E w0 h w)(hw:V.wfL h.n h.zn l)(h1:∀v ∈ V.denL E l,v.oneCell'=true) :
  ∃w',(storeCells (E.at b o) (V.denL E l) 0).run P w = .ok () w'/\Stp w0 E h E h' w':=by
 unfold storeH at hs;split at hs
 ·rename_i c u hb;split at hs
  ·cases hs
  ·rename_i hc;cases hs;simp only[Bool.or_eq_true,Bool.not_eq_true',not_or,Bool.not_eq_true,Bool.not_eq_false,Nat.ble_eq]at hc;refine⟨_,run_store g hb hc.2 h1,set_ok g hb hc.2 hw,Ext.refl _ _ _,Nat.le_refl _,Nat.le_refl _,rfl,fun i hi=>?_⟩;by_cases e:i.1=b
   ·rw[e,hb,Hp.get_put];intro j h1 h2;have hno:¬(o<=j/\j<o+l.length):=fun q=>by
     have:fzHit h.fz b o (o+l.length)=true:=List.any_eq_true.2 ⟨i,hi,by
      simp only[Bool.and_eq_true,Nat.blt_eq];exact⟨by rw[e];exact Nat.beq_refl b,by omega,by omega⟩⟩
     rw[this]at hc;cases hc.1
    rw[lput_get hc.2,if_neg hno]
   ·rw[Hp.get_put_ne _ _ e];exact SameE.refl _ _ _
 ·cases hs
theorem new_ok {w1:World}{e:Ent}{ob:Obj}{c:Nat}(g:Gd E w0 h w)(hk:Kept w w1 (fun _=>False))(hw:e.wf (h.n+1) h.zn)(he:EntOk (E.new h.n (w1.heap.size,0) c) w0.heap.size h.n (w1.alloc ob) e) :
  Stp w0 E h (E.new h.n (w1.heap.size,0) c) (h.new e) (w1.alloc ob):=by
 have k2:Kept w (w1.alloc ob) (fun _=>False):=hk.trans (Kept.alloc w1 ob _);refine⟨g.new k2 hw he fun {j f} hj fd=>?_,E.new_ext _ _ _ _,Nat.le_succ _,Nat.le_refl _,rfl,fun i hi=>by rw[Hp.get_new_ne _ _ (show i.1≠h.n by have:=g.wf.fzl i hi;omega)];exact SameE.refl _ _ _⟩;have:=(EntOk.lt (g.ent hj) fd).2;have:=hk.size;simp only;omega
theorem En.new_at (E:En)(n:Nat)(b o:Nat)(c j:Nat):(E.new n (b,o) c).at n j=⟨b,o+j,none⟩:=by simp only[En.at,En.new,if_true]
theorem frozen_alloc (w:World)(arr:Array Value)(t:TypeId)(j:Nat):(w.alloc (.cells arr t)).frozen? ⟨w.heap.size,j,none⟩=false:=by
 unfold World.frozen? World.alloc;simp
theorem new_cells {w1:World}{arr:Array Value}{t:TypeId}{u:Bool}{c:Nat}(g:Gd E w0 h w)(hk:Kept w w1 (fun _=>False))(hw:V.wfL h.n h.zn l)(ha:∀(j:Nat) v,(V.denL E l)[j]? = some v->arr[j]? = some v)
  (hu:u=true->l.length<=c/\arr.size=c):Stp w0 E h (E.new h.n (w1.heap.size,0) c) (h.new (.cells l u)) (w1.alloc (.cells arr t)):=by
 have x:=E.new_ext h.n h.zn (w1.heap.size,0) c;refine new_ok g hk (V.wfL_mono (Nat.le_succ _) (Nat.le_refl _) l hw) ⟨?_,?_,fun j v hv=>?_,fun q=>⟨?_,fun j hj=>?_⟩,fun _=>by simp only[En.new,if_true]⟩
 ·simp only[En.new,if_true];exact Nat.le_trans g.size hk.size
 ·simp only[En.new,if_true];simp
 ·rw[En.new_at,Nat.zero_add];refine⟨?_,frozen_alloc _ _ _ _⟩;rw[World.cell?_alloc_new,V.den_ext x v (wfL_iff.1 hw v (List.mem_of_getElem? hv))];exact ha j _ (by rw[denL_get,hv];rfl)
 ·simp only[En.new,if_true];exact(hu q).1
 ·rw[En.new_at,Nat.zero_add];refine⟨?_,frozen_alloc _ _ _ _⟩;simp only[En.new,if_true]at hj;rw[World.cell?_alloc_new,Array.getElem?_eq_getElem (by have:=(hu q).2;omega)];rfl
theorem made_get {z:List V}{k:Nat}(hz:0<z.length):∀(j:Nat) v,(V.denL E (repL k z))[j]? = some v->(madeCells (V.denL E z).toArray (k*z.length))[j]? = some v:=by
 have hlen:∀k,(repL k z).length=k*z.length:=fun k=>by
  induction k with
  | zero=>simp[repL]
  | succ k ih=>rw[repL,List.length_append,ih,Nat.succ_mul,Nat.add_comm]
 have key:∀k (j:Nat),j<k*z.length->(repL k z)[j]? = z[j % z.length]?:=fun k=>by
  induction k with
  | zero=>intro j hj;simp at hj
  | succ k ih =>
   intro j hj;rw[repL];by_cases q:j<z.length
   ·rw[List.getElem?_append_left q,Nat.mod_eq_of_lt q]
   ·rw[List.getElem?_append_right (by omega),ih (j-z.length) (by rw[Nat.succ_mul]at hj;omega),<- Nat.mod_eq_sub_mod (by omega)]
 intro j v hv;have hj:j<k*z.length:=by
  have:=(List.getElem?_eq_some_iff.1 hv).1;rw[denL_len,hlen]at this;exact this
 rw[denL_get,key k j hj]at hv;have hm:j % z.length<z.length:=Nat.mod_lt _ hz;rw[List.getElem?_eq_getElem hm]at hv;unfold madeCells;rw[Array.getElem?_map,Array.getElem?_range,if_pos hj];simp only[Option.map_some,List.size_toArray,denL_len];rw[<- Option.some.inj hv]
 congr 1
 rw[getElem!_pos _ _ (by simpa [denL_len] using hm)];simp[denL_eq]
theorem repL_len {z:List V}:∀k,(repL k z).length=k*z.length
 | 0=>by simp[repL]
 | k+1=>by rw[repL,List.length_append,repL_len k,Nat.succ_mul,Nat.add_comm]
theorem repL_wf {n zn:Nat}{z:List V}(hz:V.wfL n zn z):∀k,V.wfL n zn (repL k z)
 | 0=>trivial
 | k+1=>by
  rw[repL];exact wfL_iff.2 fun v hv=>(List.mem_append.1 hv).elim (wfL_iff.1 hz v) (wfL_iff.1 (repL_wf hz k) v)
theorem made_eq {z:List V}(hz:0<z.length)(k:Nat):madeCells (V.denL E z).toArray (k*z.length)=(V.denL E (repL k z)).toArray:=by
 apply Array.ext_getElem?;intro j;by_cases hj:j<k*z.length
 ·have h1:(V.denL E (repL k z))[j]? = some ((V.denL E (repL k z))[j]'(by rw[denL_len,repL_len];exact hj)):=List.getElem?_eq_getElem _;rw[made_get (E:=E) hz j _ h1,List.getElem?_toArray,h1]
 ·rw[Array.getElem?_eq_none (by rw[size_madeCells];omega),List.getElem?_toArray,List.getElem?_eq_none (by rw[denL_len,repL_len];omega)]
end
end Go.Proofs.Rn
