/- For scbytes_law_holds. -/
import Derived.Lib.SlKeysI
import Derived.Test.YtgeihgombjbkbaaGreatSyb7
import Derived.Test.YtgeihgombjbkbaaGreatSyb48
import Derived.Test.YtgeihgombjbkbaaGreatSyb41
import Derived.Test.YtgeihgombjbkbaaGreatSyb44
namespace Go.Proofs.YtgeihgombjbkbaaGreat
open Go Go.RowKit Go.Proofs.Own Go.Proofs.Rn

def insI (x:Int):List Int->List Int
 | []=>[x]
 | y::l=>match decide (x<y) with
  | true=>x::y::l
  | false=>y::insI x l
def pO:List Int->List Int
 | []=>[]
 | x::l=>insI x (pO l)
def uM:List Int->Bool
 | []=>true
 | x::l=>l.all (fun y=>decide (x<y))&&uM l
theorem qA (x:Int):∀l,(insI x l).Perm (x::l)
 | []=>.refl _
 | y::l=>by
  rw[insI];split
  ·exact .refl _
  ·exact((qA x l).cons y).trans (.swap x y l)
theorem kL:∀l,(pO l).Perm l
 | []=>.refl _
 | x::l=>(qA x _).trans ((kL l).cons x)
theorem oQ:∀ {l:List Int},uM l=true->l.Pairwise fun a b=>a<b
 | [],_=>.nil
 | x::l,h=>by
  simp only[uM,Bool.and_eq_true,List.all_eq_true,decide_eq_true_eq]at h;exact .cons h.1 (oQ h.2)
def keysI (cl:Nat):List (V × V × Nat)->Option (List Int)
 | []=>some []
 | (.i .i64 x,_,b)::l=>match Nat.blt b cl&&(Lit.int .i64 x).wf&&l.all (fun e=>!Nat.beq e.2.2 b),keysI cl l with
  | true,some r=>some (x::r)
  | _,_=>none
 | _=>none
theorem tU {cl:Nat}:∀ {es:List (V × V × Nat)} {ks:List Int},keysI cl es=some ks->es.length=ks.length/\(∀e ∈ es,e.2.2<cl)/\(es.map fun e=>e.2.2).Nodup/\(es.map fun e=>e.1)=ks.map (V.i .i64) /\ ∀k ∈ ks,(Lit.int .i64 k).wf=true
 | [],ks,h=>by
  simp only[keysI,Option.some.injEq]at h;subst h;exact⟨rfl,nofun,.nil,rfl,nofun⟩
 | (a,v,b)::l,ks,h=>by
  unfold keysI at h;split at h
  ·rename_i e;cases e
  ·rename_i x y c l' e;cases e;split at h
   ·rename_i r hb hr;cases h;obtain⟨h1,h2,h3,h4,h5⟩:=tU hr;simp only[Bool.and_eq_true,Nat.blt_eq,List.all_eq_true,Bool.not_eq_true']at hb;obtain⟨⟨b1,b2⟩,b4⟩:=hb;refine⟨by simp[h1],fun e he=>?_,?_,by simp[h4],fun k hk=>?_⟩
    ·rcases List.mem_cons.1 he with rfl|he
     ·exact b1
     ·exact h2 e he
    ·refine List.nodup_cons.2 ⟨fun q=>?_,h3⟩;obtain⟨e,he,q⟩:=List.mem_map.1 q;have:=b4 e he;rw[q]at this;simp at this
    ·rcases List.mem_cons.1 hk with rfl|hk
     ·exact b2
     ·exact h5 k hk
   ·cases h
  ·cases h
def hkSortedI (al:List V)(h:Hp):Option (V × Hp):=match al with
 | [.f (.func 666) [] [.p c 0]]=>match h.get c with
  | some (.cells [.m i] false)=>match h.get i with
   | some (.map es cl)=>match keysI cl es with
    | some []=>some (.o (.slice none 0 0),h)
    | some ks=>match uM (pO ks),Nat.ble ks.length 100000 with
     | true,true=>some (.q h.n 0 1 ks.length none,h.new (.cells ((pO ks).map fun x=>V.i .i64 x) true))
     | _,_=>none
    | none=>none
   | _=>none
  | _=>none
 | _=>none
section
variable {w0 w:World} {E:En} {h h':Hp} {al:List V} {r:V}
theorem hkSortedI_ok (hh:hkSortedI al h=some (r,h'))(g:Gd E w0 h w):Calls Tryz.prog 595 (V.denL E al).toArray w (HkP w0 E h h' r):=by
 have hT:(Tryz.prog.underlying 3)=some (.int .i64):=Tryz.underlying3;have main:∀ {c i:Nat} {es:List (V × V × Nat)} {cl:Nat} {ks:List Int},h.get c=some (.cells [.m i] false)->h.get i=some (.map es cl)->keysI cl es=some ks->uM (pO ks)=true->ks.length<=100000 ->
   Calls Tryz.prog 595 #[.func (.func 666) #[] #[.pointer (some (E.at c 0))]] w fun e w'=>∃(v:Value),e = .returned v/\w'.ownsRow w.heap.size 3 1 v ks.length ((pO ks).map fun l=>.int .i64 l)/\(v = .slice none 0 0 ↔ ks = [])/\Below w.heap.size w w':=by
  intro c i es cl ks hc hi hk hrise hlen;obtain⟨k1,k2,k3,k4,k5⟩:=tU hk;have ec:=g.ent hc;have ei:=g.ent hi;have hb0:=ec.2.2.2.2 rfl;have hcell:=(ec.2.2.1 0 _ rfl).1;simp only[V.den]at hcell;have hat:E.at c 0=⟨(E.B c).1,0,none⟩:=by simp only[En.at,hb0]
  rw[hat]at hcell ⊢;have hm:w.heap[(E.B i).1]? = some (.map (es.map (fZ E)).toArray cl):=ei.2;have hrd:∀e ∈ es,∃k ∈ ks,e.1 = .i .i64 k:=fun e he=>by
   have:e.1 ∈ es.map fun e=>e.1:=List.mem_map_of_mem he;rw[k4]at this;obtain⟨k,hk,q⟩:=List.mem_map.1 this;exact⟨k,hk,q.symm⟩
  have hkey:∀k ∈ ks,keyOf Tryz.prog 3 (.int .i64 k)=some (Lit.int .i64 k):=fun k hk=>Maps.keyOf_int_mk hT (k5 k hk);have hrd2:∀e ∈ es,∃k ∈ ks,e.1 = .i .i64 k/\WideElems.rd Tryz.prog 3 RU (fZ E e)=some (.int .i64 k,.lit (.bool false)):=fun e he=>by
   obtain⟨k,hk,q⟩:=hrd e he;refine⟨k,hk,q,?_⟩;unfold WideElems.rd fZ RU;rw[q];simp only[V.den,hkey k hk,Option.bind_some,Option.map_some]
  have hnd:ks.Nodup:=(kL ks).nodup_iff.1 ((oQ hrise).imp fun {a b} q e=>by omega);have hkn:((es.map (fZ E)).map (·.key)).Nodup:=by
   have:(es.map (fZ E)).map (·.key)=(es.map fun e=>e.1).map (V.den E):=by simp[fZ,Function.comp_def]
   rw[this,k4,List.map_map];refine List.pairwise_map.2 (hnd.imp fun {a b} q e=>q ?_)
   simpa [V.den] using e
  have hfit:WideElems.Fit Tryz.prog 3 RU (es.map (fZ E)).toArray cl:=⟨by simp[k1];unfold maxLen;omega,⟨fun x hx=>by
   obtain⟨e,he,rfl⟩:=List.mem_map.1 (show x ∈ es.map (fZ E) from hx);exact k2 e he,by
   simpa [fZ,Function.comp_def] using k3,by simpa using hkn⟩,fun x hx=>by
   obtain⟨e,he,rfl⟩:=List.mem_map.1 (show x ∈ es.map (fZ E) from hx);obtain⟨k,_,_,q⟩:=hrd2 e he;exact⟨_,q⟩⟩
  have hown:w.ownsMap Tryz.prog 3 RU (E.B i).1 es.length (.map (((es.map (fZ E)).toArray.toList.map (WideElems.rg Tryz.prog 3 RU)).foldr DataW.insert [])):=⟨_,cl,hm,hfit,by simp,rfl⟩;have hrg:(es.map (fZ E)).toArray.toList.map (WideElems.rg Tryz.prog 3 RU)=ks.map fun k=>(Lit.int .i64 k,(DataW.lit (.bool false):DataW Unit)):=by
   have h1:(es.map (fZ E)).map (WideElems.rg Tryz.prog 3 RU)=(es.map fun e=>e.1).map fun a=>match a with | .i _ k=>(Lit.int .i64 k,(DataW.lit (.bool false):DataW Unit))|_=>(.bool false,.nil):=by
    rw[List.map_map,List.map_map];refine List.map_congr_left fun e he=>?_;obtain⟨k,_,q1,q2⟩:=hrd2 e he;simp only[Function.comp_apply,WideElems.rg,q2,q1,Option.getD_some]
   simp only;rw[h1,k4,List.map_map];rfl
  rw[hrg]at hown;have hp:=mK (ks.map fun k=>(Lit.int .i64 k,(DataW.lit (.bool false):DataW Unit)));have hkeys:(intKeys (.map ((ks.map fun k=>(Lit.int .i64 k,(DataW.lit (.bool false):DataW Unit))).foldr DataW.insert []))).Perm ks:=by
   have:=hp.map fun p=>_root_.Go.intOf p.1;rw[List.map_map]at this;have e:(ks.map ((fun p:Lit × DataW Unit=>_root_.Go.intOf p.1) ∘ fun k=>(Lit.int .i64 k,(DataW.lit (.bool false):DataW Unit))))=ks:=by
    conv=>rhs;rw[<- List.map_id ks]
    exact List.map_congr_left fun _ _=>rfl
   rw[e]at this;exact this
  have hsz:Maps.size (DataW.map ((ks.map fun k=>(Lit.int .i64 k,(DataW.lit (.bool false):DataW Unit))).foldr DataW.insert []))=ks.length:=by
   show List.length _=_;rw[hp.length_eq,List.length_map]
  have hseq:=AnyZI.keys_gives (ρ:=Tryz.keys596_ren) { Tryz.keys596 with } Fence.wide 2 trivial rfl (by omega) (E.B c).1 (E.B i).1 es.length _ w ec.2.1 hcell hown;have run:=(Go.callsIn_wide (n:=5)).1 (AnyZI.sorted_in Tryz.sorted595 Fence.wide 5 trivial trivial trivial trivial rfl (by omega) (Tryz.sorts595 _) (enters_of Tryz.func665 (by kernel_rfl) rfl) 666 #[.pointer (some ⟨(E.B c).1,0,none⟩)] trivial (enters_of Tryz.func666 (by kernel_rfl) rfl) _ _ (by rw[hsz];unfold maxLen;omega) (by rw[hsz];omega) w hseq);refine run.mono ?_;rintro e w' ⟨v,ss,rfl,hperm,hrow,hnil,hbel⟩;have hp2:ss.Perm ks:=hperm.trans hkeys;have hl:ss.length=ks.length:=hp2.length_eq;have hsorted:ss.mergeSort leI=pO ks:=by
   rw[mergeSort_of_perm_i (hp2.trans (kL ks).symm),List.mergeSort_of_pairwise];refine(oQ hrise).imp fun {a b} q=>?_;simp only[leI,decide_eq_true_eq];omega
  refine⟨v,rfl,?_,?_,hbel⟩
  ·rw[hl]at hrow;have:(ss.mergeSort fun x y=>decide (x<=y))=pO ks:=hsorted;rw[this]at hrow;exact hrow
  ·rw[hnil];exact⟨fun q=>by subst q;exact List.length_eq_zero_iff.1 hl.symm,fun q=>by subst q;exact List.length_eq_zero_iff.1 hl⟩
 unfold hkSortedI at hh;split at hh
 ·rename_i c;split at hh
  ·rename_i i hc;split at hh
   ·rename_i es cl hi;have hargs:∀x:Array Value,(V.denL E [V.f (.func 666) [] [.p c 0]]).toArray = #[.func (.func 666) #[] #[.pointer (some (E.at c 0))]]:=fun _=>by simp only[V.denL,V.den]
    rw[hargs #[]];split at hh
    ·rename_i hk;cases hh;refine(main hc hi hk rfl (Nat.zero_le _)).mono ?_;rintro e w' ⟨v,rfl,_,hn,hb⟩;have hk2:=Kept.aQ hb (S:=fun _=>False) fun k h1 h2=>by omega
     exact⟨E,by simp only[V.den];rw[hn.2 rfl],⟨g.step hk2,Ext.refl _ _ _,Nat.le_refl _,Nat.le_refl _,rfl,fun _ _=>SameE.refl _ _ _⟩,by simp only[V.wf]⟩
    ·rename_i ks hne hk;split at hh
     ·rename_i hrise hlen;cases hh;simp only[Nat.ble_eq]at hlen;refine(main hc hi hk hrise hlen).mono ?_;rintro e w' ⟨v,rfl,hrow,hn,hb⟩;have hk2:=Kept.aQ hb (S:=fun _=>False) fun k h1 h2=>by omega
      have hne2:ks ≠ []:=hne;rcases hrow.2 with ⟨q,_⟩|⟨gb,cap,cur,rfl,hbase,hgb,r1,r2,r3,r4⟩
      ·exact absurd (hn.1 q) hne2
      ·have hlen2:(pO ks).length=ks.length:=(kL ks).length_eq;have hgl:gb<w'.heap.size:=(Array.getElem?_eq_some_iff.1 hgb).1;have hcell:∀j,w'.cell? ⟨gb,j,none⟩=cur[j]?:=fun j=>by simp[World.cell?,hgb]
       have hfro:∀j,w'.frozen? ⟨gb,j,none⟩=false:=fun j=>by simp[World.frozen?,hgb]
       have hgs:=g.size;have hwf:Ent.wf (h.n+1) h.zn (.cells ((pO ks).map fun x=>V.i .i64 x) true):=wfL_iff.2 fun v hv=>by
        obtain⟨k,_,rfl⟩:=List.mem_map.1 hv;simp only[V.wf]
       have g2:=g.new (b:=(gb,0)) (c:=cap) hk2 hwf ⟨by simp only[En.new,if_true];omega,by simp only[En.new,if_true];exact hgl,fun j v hv=>by
        rw[En.new_at,Nat.zero_add];refine⟨?_,hfro j⟩;rw[hcell];have hj:j<ks.length:=by
         have:=(List.getElem?_eq_some_iff.1 hv).1
         simpa [hlen2] using this
        rw[List.getElem?_map]at hv;obtain⟨k,hk1,rfl⟩:=Option.map_eq_some_iff.1 hv;have h4:(cur.toList.take (ks.length*1))[j]? = some (.int .i64 k):=by
         rw[r4,List.getElem?_map,hk1];rfl
        rw[List.getElem?_take_of_lt (by omega),Array.getElem?_toList]at h4;rw[h4];simp only[V.den],fun _=>⟨by
        simp only[En.new,if_true,List.length_map];omega,fun j hj=>by
        rw[En.new_at,Nat.zero_add];simp only[En.new,if_true]at hj;refine⟨?_,hfro j⟩;rw[hcell,Array.getElem?_eq_getElem (by omega)];rfl⟩,nofun⟩ (fun {j f} hj fd=>by
        have:=(EntOk.lt (g.ent hj) fd).2;simp only;omega)
       refine⟨_,?_,⟨g2,E.new_ext _ _ _ _,Nat.le_succ _,Nat.le_refl _,rfl,fun i hi=>by rw[Hp.get_new_ne _ _ (show i.1≠h.n by have:=g.wf.fzl i hi;omega)];exact SameE.refl _ _ _⟩,by simp only[V.wf];exact⟨Nat.lt_succ_self _,Nat.one_pos⟩⟩;simp only[V.den,En.new_at,Nat.add_zero];simp only[En.new,if_true,Nat.sub_zero,Nat.div_one]
     ·cases hh
    ·cases hh
   ·cases hh
  ·cases hh
 ·cases hh
end

def hkS (f:FuncId)(al:List V)(h:Hp):Option (V × Hp):=match Nat.beq f 767 with
 | true=>hkLoad al h
 | false=>match Nat.beq f 768 with
  | true=>hkCas al h
  | false=>match Nat.beq f 370 with
   | true=>hkSorted al h
   | false=>match Nat.beq f 595 with
    | true=>hkSortedI al h
    | false=>none
theorem oD (w0:World)(Q:Exit->Act->World->Prop)(hQ:PanOk Q):Env Tryz.prog tyT.get fnT.get hkS w0 Q where
 tyk:=aI5.1
 pe:=aI5.2
 mix:=by kernel_rfl
 pan:=hQ
 fnk:=fn_ok (l:=Tryz.prog.funcs.toList) (by simp) aJ4 (by kernel_rfl) aLI
 hok:=by
  intro f al h r h' hh E w g hw;unfold hkS at hh;split at hh
  ·rename_i e;obtain rfl:=Nat.eq_of_beq_eq_true e;exact⟨yI hh g,_,Tryz.func767,by kernel_rfl,by kernel_rfl⟩
  ·split at hh
   ·rename_i e;obtain rfl:=Nat.eq_of_beq_eq_true e;exact⟨aH3 hh g,_,Tryz.func768,by kernel_rfl,by kernel_rfl⟩
   ·split at hh
    ·rename_i e;obtain rfl:=Nat.eq_of_beq_eq_true e;exact⟨hkSorted_ok hh g,_,Tryz.func370,by kernel_rfl,by kernel_rfl⟩
    ·split at hh
     ·rename_i e;obtain rfl:=Nat.eq_of_beq_eq_true e;exact⟨hkSortedI_ok hh g,_,Tryz.func595,by kernel_rfl,by kernel_rfl⟩
     ·cases hh
def E0:En:=⟨fun _=>(0,0),fun _=>0,fun _=>(⟨0,0,none⟩,0)⟩
def hkF (f:FuncId)(al:List V)(h:Hp):Option (V × Hp):=match Nat.beq f 683 with
 | true=>hkFree al h
 | false=>match hkClone f al h with
  | some r=>some r
  | none=>hkS f al h
theorem eP (w0:World)(Q:Exit->Act->World->Prop)(hQ:PanOk Q):Env Tryz.prog tyT.get fnT.get hkF w0 Q where
 tyk:=(oD w0 Q hQ).tyk
 pe:=(oD w0 Q hQ).pe
 mix:=(oD w0 Q hQ).mix
 pan:=hQ
 fnk:=(oD w0 Q hQ).fnk
 hok:=by
  intro f al h r h' hh E w g hw;unfold hkF at hh;split at hh
  ·rename_i e;obtain rfl:=Nat.eq_of_beq_eq_true e;exact⟨yH hh g,_,Tryz.func683,by kernel_rfl,by kernel_rfl⟩
  ·split at hh
   ·rename_i r' e;cases hh;exact vS e g
   ·exact(oD w0 Q hQ).hok f al h r h' hh E w g hw
