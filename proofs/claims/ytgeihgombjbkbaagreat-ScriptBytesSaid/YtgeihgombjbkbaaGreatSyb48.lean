/- For scbytes_law_holds. -/
import Derived.Sort.KeysCollected
import Derived.Laws.LoneSync
import Derived.Test.YtgeihgombjbkbaaGreatSyb6
import Derived.Test.YtgeihgombjbkbaaGreatSyb37
import Derived.Shelf.SlMaps.Clone
set_option maxHeartbeats 16000000
set_option maxRecDepth 100000
namespace Go.Proofs.YtgeihgombjbkbaaGreat
open Go Go.RowKit Go.Proofs.Own Go.Proofs.Rn

def HkP (w0:World)(E:En)(h h':Hp)(r:V)(e:Ending)(w':World):Prop:=∃E',e = .returned (r.den E')/\Stp w0 E h E' h' w'/\r.wf h'.n h'.zn
def hkLoad (al:List V)(h:Hp):Option (V × Hp):=match al with
 | [.p d o]=>match h.get d with
  | some (.cells c _)=>match lget c o with
   | some (.i .u64 x)=>some (.i .u64 x,h)
   | _=>none
  | _=>none
 | _=>none
def hkCas (al:List V)(h:Hp):Option (V × Hp):=match al with
 | [.p d o,.i .u64 x,.i .u64 y]=>match h.get d with
  | some (.cells c _)=>match lget c o with
   | some (.i .u64 z)=>match z==x,storeH h d o [.i .u64 y] with
    | true,some h=>some (.b true,h)
    | _,_=>none
   | _=>none
  | _=>none
 | _=>none
def ltL:List Nat->List Nat->Bool
 | [],[]=>false
 | [],_::_=>true
 | _::_,[]=>false
 | a::l,b::m=>match Nat.blt a b with
  | true=>true
  | false=>match Nat.beq a b with
   | true=>ltL l m
   | false=>false
def insL (x:List Nat):List (List Nat)->List (List Nat)
 | []=>[x]
 | y::l=>match ltL x y with
  | true=>x::y::l
  | false=>y::insL x l
def oX:List (List Nat)->List (List Nat)
 | []=>[]
 | x::l=>insL x (oX l)
def uN:List (List Nat)->Bool
 | []=>true
 | x::l=>l.all (ltL x)&&uN l
def keysM (cl:Nat):List (V × V × Nat)->Option (List (List Nat))
 | []=>some []
 | (.s x,_,b)::l=>match Nat.blt b cl&&(Nat.ble x.length 100000&&x.all (fun n=>Nat.blt n 256))&&l.all (fun e=>!Nat.beq e.2.2 b),keysM cl l with
  | true,some r=>some (x::r)
  | _,_=>none
 | _=>none
def hkSorted (al:List V)(h:Hp):Option (V × Hp):=match al with
 | [.f (.func 458) [] [.p c 0]]=>match h.get c with
  | some (.cells [.m i] false)=>match h.get i with
   | some (.map es cl)=>match keysM cl es with
    | some []=>some (.o (.slice none 0 0),h)
    | some ks=>match uN (oX ks),Nat.ble ks.length 100000 with
     | true,true=>some (.q h.n 0 1 ks.length none,h.new (.cells ((oX ks).map .s) true))
     | _,_=>none
    | none=>none
   | _=>none
  | _=>none
 | _=>none
theorem aMi (b o:Nat)(c:Int)(w:World)(c0:w.cell? ⟨b,o,none⟩=some (.int .u64 c)):Calls Tryz.prog 767 #[.pointer (some ⟨b,o,none⟩)] w fun e w'=>e = .returned (.int .u64 c)/\w=w':=by
 have hl:=run_call_load (P:=Tryz.prog) Tryz.func784 (by kernel_rfl) (by kernel_rfl) (by kernel_rfl) .u64 (by kernel_rfl) c0;go_enter Tryz.func767,Tryz.ntmps767;go_wp2_with fail;go_ret;exact⟨rfl,rfl⟩
theorem aOJ (b o:Nat)(c d:Int)(w:World)(c0:w.cell? ⟨b,o,none⟩=some (.int .u64 c))(f0:w.frozen? ⟨b,o,none⟩=false):Calls Tryz.prog 768 #[.pointer (some ⟨b,o,none⟩),.int .u64 c,.int .u64 d] w fun e w'=>e = .returned (.bool true)/\w'=w.setCell ⟨b,o,none⟩ (.int .u64 d):=by
 have hl:=run_call_cas_hit (P:=Tryz.prog) Tryz.func785 (by kernel_rfl) (by kernel_rfl) (by kernel_rfl) .u64 (by kernel_rfl) (y:=d) c0 f0;go_enter Tryz.func768,Tryz.ntmps768;go_wp2_with fail;go_ret;exact⟨rfl,rfl⟩
section
variable {w0 w:World} {E:En} {h h':Hp} {al:List V} {r:V}
theorem yI (hh:hkLoad al h=some (r,h'))(g:Gd E w0 h w):Calls Tryz.prog 767 (V.denL E al).toArray w (HkP w0 E h h' r):=by
 unfold hkLoad at hh;split at hh
 ·rename_i d o;split at hh
  ·rename_i c u hd;split at hh
   ·rename_i x hx;cases hh;rw[lget_eq]at hx;have:=((g.ent hd).2.2.1 o _ hx).1;simp only[V.den]at this;simp only[V.denL,V.den];refine(aMi _ _ _ w this).mono ?_;rintro e w' ⟨rfl,rfl⟩;exact⟨E,by simp only[V.den],Stp.refl g,by simp only[V.wf]⟩
   ·cases hh
  ·cases hh
 ·cases hh
theorem aH3 (hh:hkCas al h=some (r,h'))(g:Gd E w0 h w):Calls Tryz.prog 768 (V.denL E al).toArray w (HkP w0 E h h' r):=by
 unfold hkCas at hh;split at hh
 ·rename_i d o x y;split at hh
  ·rename_i c u hd;split at hh
   ·rename_i z hz;split at hh
    ·rename_i h2 e hs;cases hh;simp only[beq_iff_eq]at e;subst e;rw[lget_eq]at hz;have hc:=(g.ent hd).2.2.1 o _ hz;simp only[V.den]at hc;simp only[V.denL,V.den];have hone:∀v ∈ V.denL E [V.i .u64 y],v.oneCell'=true:=fun v hv=>by
      simp only[V.denL,V.den,List.mem_singleton]at hv;subst hv;rfl
     have hlen:o + [V.i .u64 y].length<=c.length:=(List.getElem?_eq_some_iff.1 hz).1;obtain⟨w1,q1,q2⟩:=storeH_ok (P:=Tryz.prog) hs g (by simp only[V.wfL,V.wf,and_self]) hone;have q3:=Rn.run_store (P:=Tryz.prog) g hd hlen hone;rw[q1]at q3;injection q3 with _ q4
     refine(aOJ _ _ _ _ w hc.1 hc.2).mono ?_;rintro e w' ⟨rfl,rfl⟩;refine⟨E,by simp only[V.den],?_,by simp only[V.wf]⟩;rw[q4]at q2
     simpa only[V.denL,V.den,World.setCells,En.at] using q2
    ·cases hh
   ·cases hh
  ·cases hh
 ·cases hh
def u8s (l:List Nat):List UInt8:=l.map UInt8.ofNat
theorem aOG {a b:Nat}(ha:a<256)(hb:b<256):UInt8.ofNat a<UInt8.ofNat b ↔ a<b:=by
 rw[UInt8.lt_iff_toNat_lt,UInt8.toNat_ofNat_of_lt' ha,UInt8.toNat_ofNat_of_lt' hb]
theorem aIc:∀ {a b:List Nat},(∀n ∈ a,n<256)->(∀n ∈ b,n<256)->ltL a b=true->u8s a<u8s b
 | [],[],_,_,h=>by cases h
 | [],y::s,_,_,_=>List.nil_lt_cons _ _
 | _::_,[],_,_,h=>by cases h
 | x::r,y::s,ha,hb,h=>by
  rw[ltL]at h;have hx:=ha x List.mem_cons_self;have hy:=hb y List.mem_cons_self;split at h
  ·rename_i e;simp only[Nat.blt_eq]at e;exact List.cons_lt_cons_iff.2 (.inl ((aOG hx hy).2 e))
  ·split at h
   ·rename_i e;obtain rfl:=Nat.eq_of_beq_eq_true e;exact List.cons_lt_cons_iff.2 (.inr ⟨rfl,aIc (fun n hn=>ha n (List.mem_cons_of_mem _ hn)) (fun n hn=>hb n (List.mem_cons_of_mem _ hn)) h⟩)
   ·cases h
theorem qB (x:List Nat):∀l,(insL x l).Perm (x::l)
 | []=>.refl _
 | y::l=>by
  rw[insL];split
  ·exact .refl _
  ·exact((qB x l).cons y).trans (.swap x y l)
theorem iR:∀l,(oX l).Perm l
 | []=>.refl _
 | x::l=>(qB x _).trans ((iR l).cons x)
theorem oR:∀ {l:List (List Nat)},uN l=true->l.Pairwise fun a b=>ltL a b=true
 | [],_=>.nil
 | x::l,h=>by
  simp only[uN,Bool.and_eq_true,List.all_eq_true]at h;exact .cons h.1 (oR h.2)
def fZ (E:En)(e:V × V × Nat):MapEntry:=⟨e.1.den E,e.2.1.den E,e.2.2⟩
def RU (_:Value):Option (DataW Unit × List MemPlace):=some (.lit (.bool false),[])
theorem tR {H:Type}(x:Lit × DataW H):∀l,(DataW.insert x l).Perm (x::l)
 | []=>.refl _
 | y::l=>by
  rw[DataW.insert];split
  ·exact .refl _
  ·exact((tR x l).cons y).trans (.swap x y l)
theorem mK {H:Type}:∀l:List (Lit × DataW H),(l.foldr DataW.insert []).Perm l
 | []=>.refl _
 | x::l=>(tR x _).trans ((mK l).cons x)
theorem tV {cl:Nat}:∀ {es:List (V × V × Nat)} {ks:List (List Nat)},keysM cl es=some ks->es.length=ks.length/\(∀e ∈ es,e.2.2<cl)/\(es.map fun e=>e.2.2).Nodup/\(es.map fun e=>e.1)=ks.map V.s /\ ∀k ∈ ks,k.length<=100000 /\ ∀n ∈ k,n<256
 | [],ks,h=>by
  simp only[keysM,Option.some.injEq]at h;subst h;exact⟨rfl,nofun,.nil,rfl,nofun⟩
 | (a,v,b)::l,ks,h=>by
  unfold keysM at h;split at h
  ·rename_i e;cases e
  ·rename_i x y c l' e;cases e;split at h
   ·rename_i r hb hr;cases h;obtain⟨h1,h2,h3,h4,h5⟩:=tV hr;simp only[Bool.and_eq_true,Nat.blt_eq,Nat.ble_eq,List.all_eq_true,Bool.not_eq_true']at hb;obtain⟨⟨b1,b2,b3⟩,b4⟩:=hb;refine⟨by simp[h1],fun e he=>?_,?_,by simp[h4],fun k hk=>?_⟩
    ·rcases List.mem_cons.1 he with rfl|he
     ·exact b1
     ·exact h2 e he
    ·refine List.nodup_cons.2 ⟨fun q=>?_,h3⟩;obtain⟨e,he,q⟩:=List.mem_map.1 q;have:=b4 e he;rw[q]at this;simp at this
    ·rcases List.mem_cons.1 hk with rfl|hk
     ·exact⟨b2,b3⟩
     ·exact h5 k hk
   ·cases h
  ·cases h
theorem aLQ (l:List Nat):mkS l=⟨(u8s l).toArray⟩:=rfl
theorem hkSorted_ok (hh:hkSorted al h=some (r,h'))(g:Gd E w0 h w):Calls Tryz.prog 370 (V.denL E al).toArray w (HkP w0 E h h' r):=by
 have hT:(Tryz.prog.underlying 9)=some .string:=Tryz.underlying9;have main:∀ {c i:Nat} {es:List (V × V × Nat)} {cl:Nat} {ks:List (List Nat)},h.get c=some (.cells [.m i] false)->h.get i=some (.map es cl)->keysM cl es=some ks->uN (oX ks)=true->ks.length<=100000 ->
   Calls Tryz.prog 370 #[.func (.func 458) #[] #[.pointer (some (E.at c 0))]] w fun e w'=>∃(v:Value),e = .returned v/\w'.ownsRow w.heap.size 9 1 v ks.length ((oX ks).map fun l=>.string (mkS l))/\(v = .slice none 0 0 ↔ ks = [])/\Below w.heap.size w w':=by
  intro c i es cl ks hc hi hk hrise hlen;obtain⟨k1,k2,k3,k4,k5⟩:=tV hk;have ec:=g.ent hc;have ei:=g.ent hi;have hb0:=ec.2.2.2.2 rfl;have hcell:=(ec.2.2.1 0 _ rfl).1;simp only[V.den]at hcell;have hat:E.at c 0=⟨(E.B c).1,0,none⟩:=by simp only[En.at,hb0]
  rw[hat]at hcell ⊢;have hm:w.heap[(E.B i).1]? = some (.map (es.map (fZ E)).toArray cl):=ei.2;have hrd:∀e ∈ es,∃k ∈ ks,e.1 = .s k:=fun e he=>by
   have:e.1 ∈ es.map fun e=>e.1:=List.mem_map_of_mem he;rw[k4]at this;obtain⟨k,hk,q⟩:=List.mem_map.1 this;exact⟨k,hk,q.symm⟩
  have hkey:∀k ∈ ks,keyOf Tryz.prog 9 (.string (mkS k))=some (Lit.string (u8s k)):=fun k hk=>by
   have:=WideMaps.keyOf_string_mk (P:=Tryz.prog) hT (s:=mkS k) (by rw[mkS_size];have:=(k5 k hk).1;unfold maxLen;omega);exact this
  have hrd2:∀e ∈ es,∃k ∈ ks,e.1 = .s k/\WideElems.rd Tryz.prog 9 RU (fZ E e)=some (.string (u8s k),.lit (.bool false)):=fun e he=>by
   obtain⟨k,hk,q⟩:=hrd e he;refine⟨k,hk,q,?_⟩;unfold WideElems.rd fZ RU;rw[q];simp only[V.den,hkey k hk,Option.bind_some,Option.map_some]
  have hnd:ks.Nodup:=(iR ks).nodup_iff.1 ((oR hrise).imp (fun {a b} q e=>by
   subst e;have hirr:∀l:List Nat,ltL l l=false:=fun l=>by
    induction l with
    | nil=>rfl
    | cons x l ih =>
     rw[ltL];have:Nat.blt x x=false:=by
      cases e:Nat.blt x x with
      | false=>rfl
      | true=>simp[Nat.blt_eq]at e
     rw[this];simp[ih]
   rw[hirr]at q;cases q))
  have hu8:∀ {a b:List Nat},a ∈ ks->b ∈ ks->u8s a=u8s b->a=b:=fun {a b} ha hb e=>by
   have back:∀ {l:List Nat},l ∈ ks->(u8s l).map (·.toNat)=l:=fun {l} hl=>by
    unfold u8s;rw[List.map_map]
    conv=>rhs;rw[<- List.map_id l]
    exact List.map_congr_left fun n hn=>UInt8.toNat_ofNat_of_lt' ((k5 l hl).2 n hn)
   rw[<- back ha,<- back hb,e]
  have hkn:((es.map (fZ E)).map (·.key)).Nodup:=by
   have:(es.map (fZ E)).map (·.key)=(es.map fun e=>e.1).map (V.den E):=by simp[fZ,Function.comp_def]
   rw[this,k4,List.map_map];refine List.pairwise_map.2 (hnd.imp_of_mem fun {a b} ha hb q e=>q ?_);simp only[Function.comp_apply,V.den,Value.string.injEq,aLQ,ByteArray.mk.injEq]at e;exact hu8 ha hb (by simpa using e)
  have hfit:WideElems.Fit Tryz.prog 9 RU (es.map (fZ E)).toArray cl:=⟨by simp[k1];unfold maxLen;omega,⟨fun x hx=>by
   obtain⟨e,he,rfl⟩:=List.mem_map.1 (show x ∈ es.map (fZ E) from hx);exact k2 e he,by
   simpa [fZ,Function.comp_def] using k3,by simpa using hkn⟩,fun x hx=>by
   obtain⟨e,he,rfl⟩:=List.mem_map.1 (show x ∈ es.map (fZ E) from hx);obtain⟨k,_,_,q⟩:=hrd2 e he;exact⟨_,q⟩⟩
  have hown:w.ownsMap Tryz.prog 9 RU (E.B i).1 es.length (.map (((es.map (fZ E)).toArray.toList.map (WideElems.rg Tryz.prog 9 RU)).foldr DataW.insert [])):=⟨_,cl,hm,hfit,by simp,rfl⟩;have hrg:(es.map (fZ E)).toArray.toList.map (WideElems.rg Tryz.prog 9 RU)=ks.map fun k=>(Lit.string (u8s k),(DataW.lit (.bool false):DataW Unit)):=by
   have h1:(es.map (fZ E)).map (WideElems.rg Tryz.prog 9 RU)=(es.map fun e=>e.1).map fun a=>match a with | .s k=>(Lit.string (u8s k),(DataW.lit (.bool false):DataW Unit))|_=>(.bool false,.nil):=by
    rw[List.map_map,List.map_map];refine List.map_congr_left fun e he=>?_;obtain⟨k,_,q1,q2⟩:=hrd2 e he;simp only[Function.comp_apply,WideElems.rg,q2,q1,Option.getD_some]
   simp only;rw[h1,k4,List.map_map];rfl
  rw[hrg]at hown;have hp:=mK (ks.map fun k=>(Lit.string (u8s k),(DataW.lit (.bool false):DataW Unit)));have hkeys:(strKeys (.map ((ks.map fun k=>(Lit.string (u8s k),(DataW.lit (.bool false):DataW Unit))).foldr DataW.insert []))).Perm (ks.map u8s):=by
   have:=hp.map fun p=>strOf p.1;rw[List.map_map]at this;exact this
  have hsz:Maps.size (DataW.map ((ks.map fun k=>(Lit.string (u8s k),(DataW.lit (.bool false):DataW Unit))).foldr DataW.insert []))=ks.length:=by
   show List.length _=_;rw[hp.length_eq,List.length_map]
  have hseq:=AnyZ.keys_gives (ρ:=Tryz.keys371_ren) { Tryz.keys371 with } Fence.wide 2 trivial rfl (by omega) (E.B c).1 (E.B i).1 es.length _ w ec.2.1 hcell hown;have run:=(Go.callsIn_wide (n:=5)).1 (AnyZ.sorted_in Tryz.sorted370 Fence.wide 5 trivial trivial trivial trivial rfl (by omega) (Tryz.sorts370 _) (enters_of Tryz.func457 (by kernel_rfl) rfl) 458 #[.pointer (some ⟨(E.B c).1,0,none⟩)] trivial (enters_of Tryz.func458 (by kernel_rfl) rfl) _ _ (by rw[hsz];unfold maxLen;omega) (by rw[hsz];omega) w hseq);refine run.mono ?_;rintro e w' ⟨v,ss,rfl,hperm,hrow,hnil,hbel⟩;have hp2:ss.Perm (ks.map u8s):=hperm.trans hkeys;have hl:ss.length=ks.length:=by rw[hp2.length_eq,List.length_map]
  have hsorted:ss.mergeSort leB=(oX ks).map u8s:=by
   rw[mergeSort_of_perm (hp2.trans ((iR ks).symm.map u8s)),List.mergeSort_of_pairwise];rw[List.pairwise_map];refine(oR hrise).imp_of_mem fun {a b} ha hb q=>?_;have m:∀ {x},x ∈ oX ks ↔ x ∈ ks:=(iR ks).mem_iff;simp only[leB,decide_eq_true_eq];exact List.le_of_lt (aIc (k5 a (m.1 ha)).2 (k5 b (m.1 hb)).2 q)
  refine⟨v,rfl,?_,?_,hbel⟩
  ·rw[hl]at hrow;have:(ss.mergeSort fun x y=>decide (x<=y))=(oX ks).map u8s:=hsorted;rw[this,List.map_map]at hrow;exact hrow
  ·rw[hnil];exact⟨fun q=>by subst q;exact List.length_eq_zero_iff.1 hl.symm,fun q=>by subst q;exact List.length_eq_zero_iff.1 hl⟩
 unfold hkSorted at hh;split at hh
 ·rename_i c;split at hh
  ·rename_i i hc;split at hh
   ·rename_i es cl hi;have hargs:∀x:Array Value,(V.denL E [V.f (.func 458) [] [.p c 0]]).toArray = #[.func (.func 458) #[] #[.pointer (some (E.at c 0))]]:=fun _=>by simp only[V.denL,V.den]
    rw[hargs #[]];split at hh
    ·rename_i hk;cases hh;refine(main hc hi hk rfl (Nat.zero_le _)).mono ?_;rintro e w' ⟨v,rfl,_,hn,hb⟩;have hk2:=Kept.aQ hb (S:=fun _=>False) fun k h1 h2=>by omega
     exact⟨E,by simp only[V.den];rw[hn.2 rfl],⟨g.step hk2,Ext.refl _ _ _,Nat.le_refl _,Nat.le_refl _,rfl,fun _ _=>SameE.refl _ _ _⟩,by simp only[V.wf]⟩
    ·rename_i ks hne hk;split at hh
     ·rename_i hrise hlen;cases hh;simp only[Nat.ble_eq]at hlen;refine(main hc hi hk hrise hlen).mono ?_;rintro e w' ⟨v,rfl,hrow,hn,hb⟩;have hk2:=Kept.aQ hb (S:=fun _=>False) fun k h1 h2=>by omega
      have hne2:ks ≠ []:=hne;rcases hrow.2 with ⟨q,_⟩|⟨gb,cap,cur,rfl,hbase,hgb,r1,r2,r3,r4⟩
      ·exact absurd (hn.1 q) hne2
      ·have hlen2:(oX ks).length=ks.length:=(iR ks).length_eq;have hgl:gb<w'.heap.size:=(Array.getElem?_eq_some_iff.1 hgb).1;have hcell:∀j,w'.cell? ⟨gb,j,none⟩=cur[j]?:=fun j=>by simp[World.cell?,hgb]
       have hfro:∀j,w'.frozen? ⟨gb,j,none⟩=false:=fun j=>by simp[World.frozen?,hgb]
       have hgs:=g.size;have hwf:Ent.wf (h.n+1) h.zn (.cells ((oX ks).map .s) true):=wfL_iff.2 fun v hv=>by
        obtain⟨k,_,rfl⟩:=List.mem_map.1 hv;simp only[V.wf]
       have g2:=g.new (b:=(gb,0)) (c:=cap) hk2 hwf ⟨by simp only[En.new,if_true];omega,by simp only[En.new,if_true];exact hgl,fun j v hv=>by
        rw[En.new_at,Nat.zero_add];refine⟨?_,hfro j⟩;rw[hcell];have hj:j<ks.length:=by
         have:=(List.getElem?_eq_some_iff.1 hv).1
         simpa [hlen2] using this
        rw[List.getElem?_map]at hv;obtain⟨k,hk1,rfl⟩:=Option.map_eq_some_iff.1 hv;have h4:(cur.toList.take (ks.length*1))[j]? = some (.string (mkS k)):=by
         rw[r4,List.getElem?_map,hk1];rfl
        rw[List.getElem?_take_of_lt (by omega),Array.getElem?_toList]at h4;rw[h4];simp only[V.den],fun _=>⟨by
        simp only[En.new,if_true,List.length_map];omega,fun j hj=>by
        rw[En.new_at,Nat.zero_add];simp only[En.new,if_true]at hj;refine⟨?_,hfro j⟩;rw[hcell,Array.getElem?_eq_getElem (by omega)];rfl⟩,nofun⟩ (fun {j f} hj fd=>by
        have:=(EntOk.lt (g.ent hj) fd).2;simp only;omega)
       refine⟨_,?_,⟨g2,E.new_ext _ _ _ _,Nat.le_succ _,Nat.le_refl _,rfl,fun i hi=>by rw[Hp.get_new_ne _ _ (show i.1≠h.n by have:=g.wf.fzl i hi;omega)];exact SameE.refl _ _ _⟩,by simp only[V.wf];exact⟨Nat.lt_succ_self _,Nat.one_pos⟩⟩;simp only[V.den,En.new_at,Nat.add_zero];simp only[En.new,if_true,Nat.sub_zero,Nat.div_one]
     ·cases hh
    ·cases hh
   ·cases hh
  ·cases hh
 ·cases hh
end

theorem aKa (b:Nat)(es:Array MapEntry)(clock:Nat)(w:World)(hb:w.heap[b]? = some (.map es clock)) :
  Calls Tryz.prog 305 #[.map (some b)] w fun e w'=>e = .returned (.map (some w.heap.size))/\w'=w.alloc (.map es clock):=by
 have hq:=fun w=>run_eql_map_nil_sl (P:=Tryz.prog) w 389 _ _ (some b) Tryz.underlying389;go_enter Tryz.func305,Tryz.ntmps305
 go_wp2
 rw[run_callFunc_extern Tryz.func307 (by kernel_rfl) (by kernel_rfl) (by kernel_rfl) (e:=Extern.MapsClone.clone) (by kernel_rfl),run_maps_clone_sl w 389 hb];simp only[Result.andThen];rw[Oper.upon_value]
 go_wp2
 rw[run_typeAssert_map_sl _ 389 20 _ _ _ Tryz.underlying389];simp only[Result.andThen];rw[Oper.upon_value]
 go_wp2
 go_ret;exact⟨rfl,rfl⟩
theorem aKb (b:Nat)(es:Array MapEntry)(clock:Nat)(w:World)(hb:w.heap[b]? = some (.map es clock)) :
  Calls Tryz.prog 306 #[.map (some b)] w fun e w'=>e = .returned (.map (some w.heap.size))/\w'=w.alloc (.map es clock):=by
 have hq:=fun w=>run_eql_map_nil_sl (P:=Tryz.prog) w 390 _ _ (some b) Tryz.underlying390;go_enter Tryz.func306,Tryz.ntmps306
 go_wp2
 rw[run_callFunc_extern Tryz.func307 (by kernel_rfl) (by kernel_rfl) (by kernel_rfl) (e:=Extern.MapsClone.clone) (by kernel_rfl),run_maps_clone_sl w 390 hb];simp only[Result.andThen];rw[Oper.upon_value]
 go_wp2
 rw[run_typeAssert_map_sl _ 390 20 _ _ _ Tryz.underlying390];simp only[Result.andThen];rw[Oper.upon_value]
 go_wp2
 go_ret;exact⟨rfl,rfl⟩
theorem aKc (b:Nat)(es:Array MapEntry)(clock:Nat)(w:World)(hb:w.heap[b]? = some (.map es clock)) :
  Calls Tryz.prog 231 #[.map (some b)] w fun e w'=>e = .returned (.map (some w.heap.size))/\w'=w.alloc (.map es clock):=by
 have hq:=fun w=>run_eql_map_nil_sl (P:=Tryz.prog) w 196 _ _ (some b) Tryz.underlying196;go_enter Tryz.func231,Tryz.ntmps231
 go_wp2
 rw[run_callFunc_extern Tryz.func307 (by kernel_rfl) (by kernel_rfl) (by kernel_rfl) (e:=Extern.MapsClone.clone) (by kernel_rfl),run_maps_clone_sl w 196 hb];simp only[Result.andThen];rw[Oper.upon_value]
 go_wp2
 rw[run_typeAssert_map_sl _ 196 20 _ _ _ Tryz.underlying196];simp only[Result.andThen];rw[Oper.upon_value]
 go_wp2
 go_ret;exact⟨rfl,rfl⟩
def hkClone (f:FuncId)(al:List V)(h:Hp):Option (V × Hp):=match Nat.beq f 305 with
 | true=>hkCl al h
 | false=>match Nat.beq f 306 with
  | true=>hkCl al h
  | false=>match Nat.beq f 231 with
   | true=>hkCl al h
   | false=>none
theorem vS {w0 w:World}{E:En}{f:FuncId}{h h':Hp}{al:List V}{r:V}(hh:hkClone f al h=some (r,h'))(g:Gd E w0 h w) :
  Calls Tryz.prog f (V.denL E al).toArray w (HkP w0 E h h' r) ∧ ∃ fn, Tryz.prog.funcs[f]? = some fn ∧ fn.body.isSome = true ∧ (fn.name == "runtime.NumGoroutine") = false := by
 unfold hkClone at hh;split at hh
 ·rename_i e;obtain rfl:=Nat.eq_of_beq_eq_true e;exact⟨hkCl_ok aKa hh g,_,Tryz.func305,by kernel_rfl,by kernel_rfl⟩
 ·split at hh
  ·rename_i e;obtain rfl:=Nat.eq_of_beq_eq_true e;exact⟨hkCl_ok aKb hh g,_,Tryz.func306,by kernel_rfl,by kernel_rfl⟩
  ·split at hh
   ·rename_i e;obtain rfl:=Nat.eq_of_beq_eq_true e;exact⟨hkCl_ok aKc hh g,_,Tryz.func231,by kernel_rfl,by kernel_rfl⟩
   ·cases hh
